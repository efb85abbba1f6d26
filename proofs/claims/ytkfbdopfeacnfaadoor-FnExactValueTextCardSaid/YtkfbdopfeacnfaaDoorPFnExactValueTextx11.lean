-- Printed by wip/tools/patch_print.py (a changed copy of the kit's printing program).
import Derived.Test.YtkfbdopfeacnfaaDoorPFnExactValueTextx0
import Derived.Test.YtkfbdopfeacnfaaDoorPFnExactValueTextx2
import Derived.Test.YtkfbdopfeacnfaaDoorPFnExactValueTextx8
import Derived.Test.YtkfbdopfeacnfaaDoorPFnExactValueTextx9
import Derived.Test.YtkfbdopfeacnfaaDoorPFnExactValueTextx10
namespace Go.Proofs.YtkfbdopfeacnfaaDoor.PFnExactValueText
open Go.RowKit Go.Proofs.YtkfbdopfeacnfaaDoorW.PrintWords Go.Proofs.YtkfbdopfeacnfaaDoorW.PrintLast Go.Proofs.YtkfbdopfeacnfaaDoorW.PrintMore
attribute [local go_sem] max2_int min2_int max_two min_two max_three min_three max_four min_four   -- for this text's walks alone
set_option linter.unusedVariables false
set_option linter.unusedSimpArgs false

noncomputable section
/-! ### impl_stringText: function 77 -/
def st_s : List UInt8 := [8, 9, 10, 12, 13, 34, 92]
def st_e : List UInt8 := [98, 116, 110, 102, 114, 34, 92]
def st_q (b : UInt8) : List UInt8 := if 0 ≤ Lib.indexByte st_s b then [92, st_e.getD (Lib.indexByte st_s b).toNat 0] else if b.toNat < 32 then [92, 117, 48, 48] ++ hx_two b else [b]
def st_of (l : List UInt8) : List UInt8 := l.flatMap st_q
theorem st_q_len (b : UInt8) : (st_q b).length ≤ 6 := by
  unfold st_q
  split
  · simp
  · split
    · simp [hx_two]
    · simp
theorem st_len : ∀ l : List UInt8, (st_of l).length ≤ 6 * l.length
  | [] => by simp [st_of]
  | b :: l => by
    have h1 := st_len l
    have h2 := st_q_len b
    simp only [st_of, List.flatMap_cons, List.length_append, List.length_cons] at h1 ⊢
    omega
theorem st_take (l : List UInt8) (k : Nat) (h : k < l.length) : st_of (l.take (k + 1)) = st_of (l.take k) ++ st_q (l.getD k 0) := by
  have e : l.take (k + 1) = l.take k ++ [l.getD k 0] := by rw [List.take_add_one, List.getD_eq_getElem?_getD, List.getElem?_eq_getElem h]; rfl
  rw [e]
  simp only [st_of, List.flatMap_append, List.flatMap_cons, List.flatMap_nil, List.append_nil]
theorem st_index (b : UInt8) : Lib.indexByte st_s b < 7 := by
  have h : ∀ n, n < 256 → Lib.indexByte st_s (UInt8.ofNat n) < 7 := by decide +kernel
  have := h b.toNat (UInt8.toNat_lt b)
  rwa [UInt8.ofNat_toNat] at this
theorem st_at (X : Nat) (xl : X < 7) (h : X < (⟨#[98, 116, 110, 102, 114, 34, 92]⟩ : ByteArray).size) : (((⟨#[98, 116, 110, 102, 114, 34, 92]⟩ : ByteArray)[X]'h).toNat : Int) = ((st_e.getD X 0).toNat : Int) := by
  rw [List.getD_eq_getElem?_getD, List.getElem?_eq_getElem (show X < st_e.length from xl)]
  rfl
theorem st_below {T e : TypeId} {B b : Nat} {bs : List Value} {w w' : World} (h : Lib.IsBuilder T e B b bs w) (hb : Below w.heap.size w w') : Lib.IsBuilder T e B b bs w' := by
  have one : ∀ p, Lib.BuilderAt T e B b p bs w → Lib.BuilderAt T e B b p bs w' := fun p h => by
    have hl := h.lt
    obtain ⟨h1, v, h2, h3, h4⟩ := h
    exact ⟨h1, v, (hb.block _ hl).trans h2, h3.kept (grown_of_below hb none) (by cases v.ownBlock <;> simp), h4⟩
  exact h.elim (fun x => .inl (one _ x)) (fun x => .inr (one _ x))
def impl_stringText.f (a0 : ByteArray) : Option ByteArray := if a0.size ≤ 1000000000000 then some ⟨([34] ++ st_of a0.data.toList ++ [34]).toArray⟩ else none
set_option maxHeartbeats 8000000 in
set_option maxRecDepth 100000 in
theorem impl_stringText.calls (a0 : ByteArray) (r : ByteArray) (w : World) (h : impl_stringText.f a0 = some r) :
    Calls Tryd.prog 77 #[.string a0] w fun e w' => e = .returned (.string r) ∧ Below w.heap.size w w' := by
  unfold impl_stringText.f at h
  by_cases hl : a0.size ≤ 1000000000000
  rotate_left
  · rw [if_neg hl] at h; cases h
  rw [if_pos hl] at h
  obtain rfl := Option.some.inj h
  have HS := Aside0.mk hl
  have HI := Aside0.mk (Go.Proofs.YtkfbdopfeacnfaaDoor.Bld.fresh w)
  have HB := Aside0.mk (below_alloc (Below.refl w.heap.size w) (.cells #[.pointer none, .slice none 0 0] 127))
  clear hl h
  go_enter Tryd.func77, Tryd.ntmps77
  go_wp2_with (go_at_call 108; (with_reducible refine (Go.Proofs.YtkfbdopfeacnfaaDoor.Bld.writeByte w.heap.size w.heap.size _ _ _ HI.out (by rw [Lib.byteCells_length]; simp) (below_size HB.out)).mono ?_); rintro e w2 ⟨rfl, hI, hb⟩; have n0_ := Aside0.mk (HB.out.trans hb); have n1_ := Aside0.mk hI; clear HB HI hI hb; have HB := n0_; have HI := n1_; clear n0_ n1_)
  go_loopw [10] (fun i wr => ∃ k : Nat, k ≤ a0.size ∧ i = .int .i64 k ∧ Aside0 (Lib.IsBuilder 127 5 w.heap.size w.heap.size (Lib.byteCells ([34] ++ st_of (a0.data.toList.take k))) wr) ∧ Aside0 (Below w.heap.size w wr)) (fun i _ => a0.size - (intOf i).toNat)
  case atStart => exact ⟨0, by omega, rfl, ⟨by rw [show Lib.byteCells ([34] ++ st_of (a0.data.toList.take 0)) = Lib.byteCells [] ++ [.int .u8 34] from rfl]; exact HI.out⟩, HB⟩
  case round =>
    clear HI HB
    obtain ⟨k, hk, rfl, HI, HB⟩ := hrel
    by_cases q : k < a0.size
    · have hS := HS.out
      have dl : a0.data.toList.length = a0.size := data_length a0
      have q0 : decide (k < a0.size) = true := decide_eq_true q
      obtain ⟨U, hU⟩ : ∃ U : UInt8, U = a0.data.toList.getD k 0 := ⟨_, rfl⟩
      have TK := st_take a0.data.toList k (by omega)
      rw [← hU] at TK
      have hlen := st_len (a0.data.toList.take k)
      rw [List.length_take, dl] at hlen
      obtain ⟨acc, hacc⟩ : ∃ acc, [34] ++ st_of (a0.data.toList.take k) = acc := ⟨_, rfl⟩
      rw [hacc] at HI
      replace TK : [34] ++ st_of (a0.data.toList.take (k + 1)) = acc ++ st_q U := by rw [TK, ← hacc, List.append_assoc]
      replace hlen : acc.length ≤ 6 * k + 1 := by rw [← hacc, List.length_append, List.length_singleton]; omega
      clear hacc
      have HL := Aside0.mk (show acc.length + 10 ≤ 7000000000010 by omega)
      have HT := Aside0.mk TK
      clear TK hlen
      obtain ⟨V, hV⟩ : ∃ V : Nat, V = U.toNat := ⟨_, rfl⟩
      have vl : V < 256 := by rw [hV]; exact UInt8.toNat_lt U
      have HX := Aside0.mk (show a0.extract k (k + 1) = ⟨[U].toArray⟩ from by
        apply ByteArray.ext
        apply Array.ext'
        rw [ByteArray.data_extract, Array.toList_extract, hU, List.extract_eq_take_drop, show k + 1 - k = 1 by omega, List.take_one, List.head?_drop, List.getD_eq_getElem?_getD, List.getElem?_eq_getElem (by omega)]
        rfl)
      have hx : ∀ h : k < a0.size, ((a0[k]'h).toNat : Int) = (V : Int) := fun h => by
        rw [hV, hU, List.getD_eq_getElem?_getD, List.getElem?_eq_getElem (by omega)]
        rfl
      obtain ⟨I, hI⟩ : ∃ I : Int, Lib.indexByte st_s U = I := ⟨_, rfl⟩
      have HIX := Aside0.mk (show strings_IndexByte.f ⟨#[8, 9, 10, 12, 13, 34, 92]⟩ (V : Int) = some I from by
        unfold strings_IndexByte.f
        rw [← hI, hV]
        simp [st_s])
      have hI7 : I < 7 := by rw [← hI]; exact st_index U
      have two : st_q U = if 0 ≤ I then [92, st_e.getD I.toNat 0] else if V < 32 then [92, 117, 48, 48] ++ hx_two U else [U] := by unfold st_q; rw [hI, hV]
      have ki : IntKind.i64.wrap ((k : Int) + 1) = ((k + 1 : Nat) : Int) := by rw [IntKind.wrap_i64]; omega
      by_cases c1 : 0 ≤ I
      · rw [if_pos c1] at two
        obtain ⟨J, rfl⟩ : ∃ J : Nat, I = (J : Int) := ⟨I.toNat, by omega⟩
        obtain ⟨C, hC⟩ : ∃ C : Nat, C = (st_e.getD J 0).toNat := ⟨_, rfl⟩
        have hc : ∀ h : J < (⟨#[98, 116, 110, 102, 114, 34, 92]⟩ : ByteArray).size, (((⟨#[98, 116, 110, 102, 114, 34, 92]⟩ : ByteArray)[J]'h).toNat : Int) = (C : Int) := fun h => by rw [hC]; exact st_at J (by omega) h
        have TW := Aside0.mk (show Lib.byteCells (acc ++ st_q U) = (Lib.byteCells acc ++ [.int .u8 92]) ++ [.int .u8 (C : Int)] from by
          rw [two, Lib.byteCells_append, hC, List.append_assoc]
          rfl)
        have x0 := eq_true (show (0 : Int) ≤ (J : Int) by omega)
        have x1 := eq_true (show (J : Int) < 7 by omega)
        have x2 := eq_true (show J < 7 by omega)
        clear two hC hI hV hU HX ki hI7 c1
        go_wp2_with (first | (go_at_call 109; refine (strings_IndexByte.calls _ _ _ _ HIX.out).mono ?_; rintro e w' ⟨rfl, ⟨nd, rfl⟩⟩; have n0_ := Aside0.mk (show Lib.IsBuilder 127 5 w.heap.size w.heap.size (Lib.byteCells acc) (wr.drewN nd) from HI.out); have n1_ := Aside0.mk (show Below w.heap.size w (wr.drewN nd) from by apply pw_below_drewN; exact HB.out); clear HI HB; have HI := n0_; have HB := n1_; clear n0_ n1_) | (go_at_call 108; (with_reducible refine (Go.Proofs.YtkfbdopfeacnfaaDoor.Bld.writeByte w.heap.size w.heap.size _ _ _ HI.out (by have := HL.out; simp only [Lib.byteCells_length, List.length_append, List.length_cons, List.length_nil]; omega) (below_size HB.out)).mono ?_); rintro e w2 ⟨rfl, hI, hb⟩; have n0_ := Aside0.mk (HB.out.trans hb); have n1_ := Aside0.mk hI; clear HB HI hI hb; have HB := n0_; have HI := n1_; clear n0_ n1_))
        go_roundw
        case rel => exact ⟨k + 1, by omega, by go_num, ⟨by rw [HT.out, TW.out]; exact HI.out⟩, HB⟩
        case measure => simp [intOf]; omega
      · rw [if_neg c1] at two
        have x0 := eq_false c1
        by_cases c2 : V < 32
        · rw [if_pos c2] at two
          have HH := Aside0.mk (show impl_hexOf.f ⟨[U].toArray⟩ = some ⟨(hx_two U).toArray⟩ from by
            unfold impl_hexOf.f
            rw [if_pos (by show 1 ≤ 1000000000000; omega)]
            simp [hx_of])
          have TW := Aside0.mk (show Lib.byteCells (acc ++ st_q U) = Lib.byteCells acc ++ Lib.strCells ((⟨#[92, 117, 48, 48]⟩ : ByteArray) ++ ⟨(hx_two U).toArray⟩) from by
            rw [two, Lib.byteCells_append]
            rfl)
          have HZ := Aside0.mk (show ((⟨#[92, 117, 48, 48]⟩ : ByteArray) ++ ⟨(hx_two U).toArray⟩).size = 6 from by rw [ByteArray.size_append]; rfl)
          have x1 := eq_true (show (V : Int) < 32 by omega)
          obtain ⟨m, hm⟩ : ∃ m : Nat, m = k + 1 := ⟨_, rfl⟩
          have m1 : IntKind.i64.wrap ((k : Int) + 1) = (m : Int) := by rw [ki, hm]
          have m2 : wrap64 ((k : Int) + 1) = (m : Int) := by unfold wrap64; omega
          have m3 : (k : Int) + 1 = (m : Int) := by omega
          have s1 := eq_true (show (k : Int) ≤ (m : Int) by omega)
          have s2 := eq_true (show (m : Int) ≤ (a0.size : Int) by omega)
          have s3 := eq_true (show k ≤ m by omega)
          have s4 := eq_true (show m ≤ a0.size by omega)
          have s5 := eq_true (show (0 : Int) ≤ (m : Int) by omega)
          rw [← hm] at HX
          have HM := Aside0.mk hm
          clear ki hm
          clear two hV hU hI hI7 c1 c2
          go_wp2_with (first | (go_at_call 109; refine (strings_IndexByte.calls _ _ _ _ HIX.out).mono ?_; rintro e w' ⟨rfl, ⟨nd, rfl⟩⟩; have n0_ := Aside0.mk (show Lib.IsBuilder 127 5 w.heap.size w.heap.size (Lib.byteCells acc) (wr.drewN nd) from HI.out); have n1_ := Aside0.mk (show Below w.heap.size w (wr.drewN nd) from by apply pw_below_drewN; exact HB.out); clear HI HB; have HI := n0_; have HB := n1_; clear n0_ n1_) | (go_at_call 111; try rw [HX.out]; (with_reducible refine (impl_hexOf.calls _ _ _ HH.out).mono ?_); rintro e w2 ⟨rfl, hb⟩; have n0_ := Aside0.mk (below_step HB.out hb); have n1_ := Aside0.mk (st_below HI.out hb); clear HB HI hb; have HB := n0_; have HI := n1_; clear n0_ n1_) | (go_at_call 110; (with_reducible refine (Go.Proofs.YtkfbdopfeacnfaaDoor.Bld.writeString w.heap.size w.heap.size _ _ _ HI.out ?hl ?hs).mono ?_); (case hl => have := HL.out; have := HZ.out; rw [Lib.byteCells_length]; omega); (case hs => exact below_size HB.out); rintro e w3 ⟨rfl, hI, hb⟩; have n0_ := Aside0.mk (HB.out.trans hb); have n1_ := Aside0.mk hI; clear HB HI hI hb; have HB := n0_; have HI := n1_; clear n0_ n1_))
          go_roundw
          case rel => exact ⟨m, by have := HM.out; omega, by go_num, ⟨by rw [HM.out, HT.out, TW.out]; exact HI.out⟩, HB⟩
          case measure => have := HM.out; simp [intOf]; omega
        · rw [if_neg c2] at two
          have x1 := eq_false (show ¬ (V : Int) < 32 by omega)
          have TW := Aside0.mk (show Lib.byteCells (acc ++ st_q U) = Lib.byteCells acc ++ [.int .u8 (V : Int)] from by
            rw [two, Lib.byteCells_append, hV]
            rfl)
          clear two hV hU hI hI7 c1 c2
          go_wp2_with (first | (go_at_call 109; refine (strings_IndexByte.calls _ _ _ _ HIX.out).mono ?_; rintro e w' ⟨rfl, ⟨nd, rfl⟩⟩; have n0_ := Aside0.mk (show Lib.IsBuilder 127 5 w.heap.size w.heap.size (Lib.byteCells acc) (wr.drewN nd) from HI.out); have n1_ := Aside0.mk (show Below w.heap.size w (wr.drewN nd) from by apply pw_below_drewN; exact HB.out); clear HI HB; have HI := n0_; have HB := n1_; clear n0_ n1_) | (go_at_call 108; (with_reducible refine (Go.Proofs.YtkfbdopfeacnfaaDoor.Bld.writeByte w.heap.size w.heap.size _ _ _ HI.out (by have := HL.out; simp only [Lib.byteCells_length, List.length_append, List.length_cons, List.length_nil]; omega) (below_size HB.out)).mono ?_); rintro e w2 ⟨rfl, hI, hb⟩; have n0_ := Aside0.mk (HB.out.trans hb); have n1_ := Aside0.mk hI; clear HB HI hI hb; have HB := n0_; have HI := n1_; clear n0_ n1_))
          go_roundw
          case rel => exact ⟨k + 1, by omega, by go_num, ⟨by rw [HT.out, TW.out]; exact HI.out⟩, HB⟩
          case measure => simp [intOf]; omega
    · have q0 : decide (k < a0.size) = false := decide_eq_false q
      have hk' : k = a0.size := by omega
      obtain ⟨acc, hacc⟩ : ∃ acc, [34] ++ st_of (a0.data.toList.take k) = acc := ⟨_, rfl⟩
      rw [hacc] at HI
      have HL := Aside0.mk (show acc.length + 10 ≤ 7000000000010 by
        have := st_len (a0.data.toList.take k)
        rw [List.length_take, data_length a0] at this
        have := HS.out
        rw [← hacc, List.length_append, List.length_singleton]
        omega)
      have HA := Aside0.mk hacc
      clear hacc
      go_wp2_with (first | (go_at_call 108; (with_reducible refine (Go.Proofs.YtkfbdopfeacnfaaDoor.Bld.writeByte w.heap.size w.heap.size _ _ _ HI.out (by have := HL.out; simp only [Lib.byteCells_length, List.length_append, List.length_cons, List.length_nil]; omega) (below_size HB.out)).mono ?_); rintro e w2 ⟨rfl, hI, hb⟩; have n0_ := Aside0.mk (HB.out.trans hb); have n1_ := Aside0.mk hI; clear HB HI hI hb; have HB := n0_; have HI := n1_; clear n0_ n1_) | (go_at_call 112; refine (Go.Proofs.YtkfbdopfeacnfaaDoor.Bld.string w.heap.size w.heap.size (acc ++ [34]) _ (by rw [Lib.byteCells_append]; exact HI.out) (below_size HB.out)).mono ?_; rintro e w2 ⟨rfl, hb⟩; have n0_ := Aside0.mk (HB.out.trans hb); clear HB hb; have HB := n0_; clear n0_))
      go_ret
      exact ⟨by rw [← HA.out, List.take_of_length_le (by rw [data_length]; omega)]; rfl, HB.out⟩


/-! ### strings_Join: function 78 -/
def strings_Join.f (l0 : List ByteArray) (a1 : ByteArray) : Option ByteArray := if l0.length ≤ 1000000 ∧ (Lib.join (l0.map (·.data.toList)) a1.data.toList).length ≤ 140737488355328 then some ⟨(Lib.join (l0.map (·.data.toList)) a1.data.toList).toArray⟩ else none
/-- At a row of the call's own. -/
theorem strings_Join.run (a1 : ByteArray) (l0 : List ByteArray) (r : ByteArray) (h : strings_Join.f l0 a1 = some r) (A : Option Addr) (c : Nat) (w : World) (base : Nat) (ok : Nat → Prop) (ho : Kd.R Kd.string 9 w base ok (.slice A l0.length c) l0) :
    Calls Tryd.prog 78 #[.slice A l0.length c, .string a1] w fun e w' => e = .returned (.string r) ∧ Below w.heap.size w w' := by
  unfold strings_Join.f at h
  by_cases hl : l0.length ≤ 1000000 ∧ (Lib.join (l0.map (·.data.toList)) a1.data.toList).length ≤ 140737488355328
  rotate_left
  · rw [if_neg hl] at h; cases h
  rw [if_pos hl] at h
  obtain rfl := Option.some.inj h
  cases l0 with
  | nil => exact (Tryd.strings_Join_none A c a1 w).mono fun e w' ⟨he, hw⟩ => ⟨he, hw ▸ Below.refl _ _⟩
  | cons x0 xs =>
    obtain ⟨g, cap, hv, _, hg⟩ := (Kd.own_of_R ho).form (by simp)
    injection hv with h1 h2 h3
    subst h1
    obtain ⟨_, hc, hC⟩ := Kd.R_reads' ho
    refine Tryd.strings_Join g 0 c (x0 :: xs) a1 w (fun j x hx => ?_) hg (by omega) hc hl.2
    have hj := (List.getElem?_eq_some_iff.1 hx).1
    obtain ⟨ad, e, h⟩ := Kd.at_string hC (j : Int) (by omega) (by omega)
    injection e with e
    subst e
    rw [Int.toNat_natCast] at h
    have e2 : (⟨g, 0, none⟩ : Addr).add j = ⟨g, 0 + j, none⟩ := by simp [Addr.add]; exact fun h => h.symm
    rw [← e2, h]
    simp [rdOf, List.getD_eq_getElem?_getD, hx]

/-! ### strconv_Itoa: function 76 -/
def strconv_Itoa.f (a0 : Int) : Option ByteArray := if -9223372036854775808 ≤ a0 ∧ a0 ≤ 9223372036854775807 then some ⟨(Lib.itoa a0).toArray⟩ else none
theorem strconv_Itoa.calls (a0 : Int) (r : ByteArray) (w : World) (tb : Go.Proofs.YtkfbdopfeacnfaaDoor.TabsV.Tabs0 w) (h : strconv_Itoa.f a0 = some r) :
    Calls Tryd.prog 76 #[.int .i64 a0] w fun e w' => e = .returned (.string r) ∧ Below w.heap.size w w' := by
  unfold strconv_Itoa.f at h
  by_cases hl : -9223372036854775808 ≤ a0 ∧ a0 ≤ 9223372036854775807
  rotate_left
  · rw [if_neg hl] at h; cases h
  rw [if_pos hl] at h
  obtain rfl := Option.some.inj h
  refine (Tryd.strconv_Itoa a0 hl.1 hl.2 w tb.pow10).mono ?_
  rintro e w' ⟨he, k, os, rfl⟩
  exact ⟨he, Lib.below_grow _ _ (Nat.le_refl _) k os⟩

/-! ### impl_valueText: function 47 -/
theorem impl_valueText.info : (Tryd.prog.info? 9).map (fun i => (i.zero, i.size, i.bytes)) = some (some (.string ⟨#[]⟩), 1, 16) := by kernel_rfl
/-- A part's text, behind its key. -/
def impl_valueText.part (kind : Int) (key t : ByteArray) : Option ByteArray := if kind = 7 then (impl_stringText.f key).bind fun q => if q.size + (1 + t.size) ≤ 9223372036854775807 then some (q ++ ⟨#[58]⟩ ++ t) else none else some t
def impl_valueText.wrap (kind : Int) (j : ByteArray) : Option ByteArray := if 2 + j.size ≤ 9223372036854775807 then (if kind = 6 then some (⟨#[91]⟩ ++ j ++ ⟨#[93]⟩) else some (⟨#[123]⟩ ++ j ++ ⟨#[125]⟩)) else none
mutual
def impl_valueText.f : Nat → List S61 → Option ByteArray
  | 0, _ => none
  | k + 1, l => if 0 < (l.length : Int) then (if (rd_T61 l 0).f1 = 1 then some ⟨#[110, 117, 108, 108]⟩ else if (rd_T61 l 0).f1 = 2 then some ⟨#[102, 97, 108, 115, 101]⟩ else if (rd_T61 l 0).f1 = 3 then some ⟨#[116, 114, 117, 101]⟩
      else if (rd_T61 l 0).f1 = 4 then strconv_Itoa.f (rd_T61 l 0).f2 else if (rd_T61 l 0).f1 = 5 then impl_stringText.f (rd_T61 l 0).f3
      else (impl_partsOf.f k l).bind fun ps => if ps.length < 1000000 then impl_valueText.l k (rd_T61 l 0).f1 ps [] 0 else none) else none
def impl_valueText.l : Nat → Int → List (List S61) → List ByteArray → Int → Option ByteArray
  | 0, _, _, _, _ => none
  | k + 1, kind, ps, acc, i => if i < (ps.length : Int) then (if 0 < ((rd_L5 ps i).length : Int) ∧ acc.length < 1000000 then (impl_valueText.f k (rd_L5 ps i)).bind fun t => (impl_valueText.part kind (rd_T61 (rd_L5 ps i) 0).f0 t).bind fun u => impl_valueText.l k kind ps (acc ++ [u]) (i + 1) else none)
    else (strings_Join.f acc ⟨#[44]⟩).bind fun j => impl_valueText.wrap kind j
end
theorem impl_valueText.mono_l : ∀ k, (∀ l, LeO (impl_valueText.f k l) (impl_valueText.f (k + 1) l)) ∧ (∀ kind ps acc i, LeO (impl_valueText.l k kind ps acc i) (impl_valueText.l (k + 1) kind ps acc i))
  | 0 => ⟨fun _ r h => by simp [impl_valueText.f] at h, fun _ _ _ _ r h => by simp [impl_valueText.l] at h⟩
  | k + 1 => by
    obtain ⟨ih0, ih1⟩ := impl_valueText.mono_l k
    refine ⟨?_, ?_⟩
    · intro l
      rw [impl_valueText.f, impl_valueText.f]
      exact LeO.ite (LeO.ite (LeO.refl _) (LeO.ite (LeO.refl _) (LeO.ite (LeO.refl _) (LeO.ite (LeO.refl _) (LeO.ite (LeO.refl _) (LeO.bind (impl_partsOf.mono _ _) fun ps => LeO.ite (ih1 _ _ _ _) (LeO.refl _))))))) (LeO.refl _)
    · intro kind ps acc i
      rw [impl_valueText.l, impl_valueText.l]
      exact LeO.ite (LeO.ite (LeO.bind (ih0 _) fun t => LeO.bind (LeO.refl _) fun u => ih1 _ _ _ _) (LeO.refl _)) (LeO.refl _)
theorem impl_valueText.mono : ∀ l k, LeO (impl_valueText.f k l) (impl_valueText.f (k + 1) l) := fun l k => (impl_valueText.mono_l k).1 l
set_option maxHeartbeats 16000000 in
set_option maxRecDepth 100000 in
theorem impl_valueText.calls : ∀ (k : Nat) (A0 : Option Addr) (c0 : Nat) (l : List S61) (r : ByteArray) (w : World) (tb : Go.Proofs.YtkfbdopfeacnfaaDoor.TabsV.Tabs0 w) (hr0 : Kd.C k61 w A0 l.length l) (hc0 : l.length ≤ c0) (h : impl_valueText.f k l = some r),
    Calls Tryd.prog 47 #[.slice A0 l.length c0] w fun e w' => e = .returned (.string r) ∧ Below w.heap.size w w' := by
  intro k
  induction k using Nat.strongRecOn with
  | _ k IH =>
  intro A0 c0 l r w tb hr0 hc0 h
  have hu61 := Tryd.underlying61
  have TB := Aside0.mk tb
  have HR0 := Aside0.mk hr0
  have HC0 := Aside0.mk hc0
  have HB := Aside0.mk (Below.refl w.heap.size w)
  have HIH := Aside0.mk IH
  clear tb hr0 hc0 IH
  cases k with
  | zero => rw [impl_valueText.f] at h; cases h
  | succ K =>
  rw [impl_valueText.f] at h
  by_cases c3 : 0 < (l.length : Int)
  rotate_left
  · rw [if_neg c3] at h; cases h
  rw [if_pos c3] at h
  obtain ⟨ad, e0, hx0, hx1, hx2, hx3, hx4⟩ := at_T61 HR0.out 0 (Int.le_refl _) (by omega)
  cases e0
  have q0 : ((0 : Int) < (l.length : Int)) = True := eq_true c3
  have q1 : (0 < l.length) = True := eq_true (by omega)
  simp only [Int.toNat_zero, Nat.zero_mul, add0_ad] at hx0 hx1 hx2 hx3 hx4
  obtain ⟨x, hx⟩ : ∃ x, x = rd_T61 l 0 := ⟨_, rfl⟩
  rw [← hx] at h hx0 hx1 hx2 hx3 hx4
  clear hx c3
  have HH := Aside0.mk h
  clear h
  go_enter Tryd.func47, Tryd.ntmps47
  go_upto_region 2 with (first | ((with_reducible refine gate_dst (N := 3) rfl ?_); refine box_event ?hg (N := 3) ?hd (cs := #[.string ⟨#[]⟩, .int .i64 0, .int .i64 0, .string ⟨#[]⟩, .int .i64 0]) (t := 61) ?hr ?_; (case hd => rfl); (case hg => rfl); (case hr => first | (go_simp; done) | (go_simp; rfl)); intro gb hg w2 hbox hb; have m0_ := Aside0.mk (below_step HB.out hb); have BK := Aside0.mk hbox; have GE := Aside0.mk (show w.heap.size ≤ gb from by rw [hg]; exact below_size HB.out); clear HB hb hg hbox; have HB := m0_; clear m0_; have hz0 : w2.cell? ⟨gb, 0, none⟩ = some (.string ⟨#[]⟩) := (blk_cell BK.out 0).trans rfl; have hf0 := blk_frozen BK.out 0; have hz1 : w2.cell? ⟨gb, 1, none⟩ = some (.int .i64 0) := (blk_cell BK.out 1).trans rfl; have hf1 := blk_frozen BK.out 1; have hz2 : w2.cell? ⟨gb, 2, none⟩ = some (.int .i64 0) := (blk_cell BK.out 2).trans rfl; have hf2 := blk_frozen BK.out 2; have hz3 : w2.cell? ⟨gb, 3, none⟩ = some (.string ⟨#[]⟩) := (blk_cell BK.out 3).trans rfl; have hf3 := blk_frozen BK.out 3; have hz4 : w2.cell? ⟨gb, 4, none⟩ = some (.int .i64 0) := (blk_cell BK.out 4).trans rfl; have hf4 := blk_frozen BK.out 4; replace hx0 := (HB.out.cell (World.block_lt_of_cell? _ _ hx0)).trans hx0; replace hx1 := (HB.out.cell (World.block_lt_of_cell? _ _ hx1)).trans hx1; replace hx2 := (HB.out.cell (World.block_lt_of_cell? _ _ hx2)).trans hx2; replace hx3 := (HB.out.cell (World.block_lt_of_cell? _ _ hx3)).trans hx3; replace hx4 := (HB.out.cell (World.block_lt_of_cell? _ _ hx4)).trans hx4))
  go_cut [12] (fun v12 wc => v12 = .int .i64 x.f1 ∧ Aside0 (wc.heap[gb]? = some (.cells #[.string x.f0, .int .i64 x.f1, .int .i64 x.f2, .string x.f3, .int .i64 x.f4] 61 (0, 0))) ∧ Aside0 (Below w.heap.size w wc))
  case first =>
    go_wp2
    go_meet
    case rel => exact ⟨rfl, ⟨by (with_reducible repeat (first | refine blk_drewN ?_ _ | refine blk_drew ?_ | refine blk_alloc ?_ _)); refine blk_put (cs := #[.string x.f0, .int .i64 x.f1, .int .i64 x.f2, .string x.f3, .int .i64 0]) ?_ 4 _ rfl; (with_reducible repeat (first | refine blk_drewN ?_ _ | refine blk_drew ?_ | refine blk_alloc ?_ _)); refine blk_put (cs := #[.string x.f0, .int .i64 x.f1, .int .i64 x.f2, .string ⟨#[]⟩, .int .i64 0]) ?_ 3 _ rfl; (with_reducible repeat (first | refine blk_drewN ?_ _ | refine blk_drew ?_ | refine blk_alloc ?_ _)); refine blk_put (cs := #[.string x.f0, .int .i64 x.f1, .int .i64 0, .string ⟨#[]⟩, .int .i64 0]) ?_ 2 _ rfl; (with_reducible repeat (first | refine blk_drewN ?_ _ | refine blk_drew ?_ | refine blk_alloc ?_ _)); refine blk_put (cs := #[.string x.f0, .int .i64 0, .int .i64 0, .string ⟨#[]⟩, .int .i64 0]) ?_ 1 _ rfl; (with_reducible repeat (first | refine blk_drewN ?_ _ | refine blk_drew ?_ | refine blk_alloc ?_ _)); refine blk_put (cs := #[.string ⟨#[]⟩, .int .i64 0, .int .i64 0, .string ⟨#[]⟩, .int .i64 0]) ?_ 0 _ rfl; (with_reducible repeat (first | refine blk_drewN ?_ _ | refine blk_drew ?_ | refine blk_alloc ?_ _)); exact BK.out⟩, ⟨by repeat (first | (with_reducible first | exact HB.out | apply below_alloc | apply pw_below_drewN | apply below_drew1 | refine below_set ?_ GE.out) | exact HB.out)⟩⟩
  case rest =>
  clear BK HB hx0 hx1 hx2 hx3 hx4 hz0 hz1 hz2 hz3 hz4 hf0 hf1 hf2 hf3 hf4
  obtain ⟨rfl, BK, HB⟩ := hcut
  have h := HH.out
  clear HH
  have hb1 : wc.cell? ⟨gb, 1, none⟩ = some (.int .i64 x.f1) := (blk_cell BK.out 1).trans rfl
  have hb2 : wc.cell? ⟨gb, 2, none⟩ = some (.int .i64 x.f2) := (blk_cell BK.out 2).trans rfl
  have hb3 : wc.cell? ⟨gb, 3, none⟩ = some (.string x.f3) := (blk_cell BK.out 3).trans rfl
  have hb4 : wc.cell? ⟨gb, 4, none⟩ = some (.int .i64 x.f4) := (blk_cell BK.out 4).trans rfl
  obtain ⟨kind, hkind⟩ : ∃ kind, kind = x.f1 := ⟨_, rfl⟩
  rw [← hkind] at h hb1 ⊢
  have HKD := Aside0.mk hkind
  clear hkind
  by_cases c1 : kind = 1
  · rw [if_pos c1] at h
    injection h with h
    subst h
    subst c1
    have hg : wc.cell? ⟨0, 1, none⟩ = some (.string ⟨#[110, 117, 108, 108]⟩) := ((TB.out.lit).of_below HB.out).at rfl
    go_wp2
    go_ret
    exact ⟨rfl, HB.out⟩
  rw [if_neg c1] at h
  have d1 : (kind == 1) = false := beq_eq_false_iff_ne.mpr c1
  clear c1
  by_cases c2 : kind = 2
  · rw [if_pos c2] at h
    injection h with h
    subst h
    subst c2
    have hg : wc.cell? ⟨0, 2, none⟩ = some (.string ⟨#[102, 97, 108, 115, 101]⟩) := ((TB.out.lit).of_below HB.out).at rfl
    go_wp2
    go_ret
    exact ⟨rfl, HB.out⟩
  rw [if_neg c2] at h
  have d2 : (kind == 2) = false := beq_eq_false_iff_ne.mpr c2
  clear c2
  by_cases c3 : kind = 3
  · rw [if_pos c3] at h
    injection h with h
    subst h
    subst c3
    have hg : wc.cell? ⟨0, 3, none⟩ = some (.string ⟨#[116, 114, 117, 101]⟩) := ((TB.out.lit).of_below HB.out).at rfl
    go_wp2
    go_ret
    exact ⟨rfl, HB.out⟩
  rw [if_neg c3] at h
  have d3 : (kind == 3) = false := beq_eq_false_iff_ne.mpr c3
  clear c3
  by_cases c4 : kind = 4
  · rw [if_pos c4] at h
    have HV := Aside0.mk h
    subst c4
    clear h
    go_wp2_with (first | (go_at_call 76; refine (strconv_Itoa.calls x.f2 r _ (Go.Proofs.YtkfbdopfeacnfaaDoor.TabsV.Tabs0.of_below TB.out HB.out) HV.out).mono ?_; rintro e w3 ⟨rfl, hb⟩; have m0_ := Aside0.mk (below_step HB.out hb); have m1_ := Aside0.mk (blk_below BK.out hb); (try clear hb1); (try clear hb2); (try clear hb3); (try clear hb4); (try clear hcl); (try clear hy0); clear hb HB BK; have HB := m0_; have BK := m1_; clear m0_ m1_))
    go_ret
    exact ⟨rfl, HB.out⟩
  rw [if_neg c4] at h
  have d4 : (kind == 4) = false := beq_eq_false_iff_ne.mpr c4
  clear c4
  by_cases c5 : kind = 5
  · rw [if_pos c5] at h
    have HV := Aside0.mk h
    subst c5
    clear h
    go_wp2_with (first | (go_at_call 77; refine (impl_stringText.calls x.f3 r _ HV.out).mono ?_; rintro e w3 ⟨rfl, hb⟩; have m0_ := Aside0.mk (below_step HB.out hb); have m1_ := Aside0.mk (blk_below BK.out hb); (try clear hb1); (try clear hb2); (try clear hb3); (try clear hb4); (try clear hcl); (try clear hy0); clear hb HB BK; have HB := m0_; have BK := m1_; clear m0_ m1_))
    go_ret
    exact ⟨rfl, HB.out⟩
  rw [if_neg c5] at h
  have d5 : (kind == 5) = false := beq_eq_false_iff_ne.mpr c5
  clear c5
  obtain ⟨ps, hps, h⟩ := Option.bind_eq_some_iff.mp h
  have HPS := Aside0.mk hps
  clear hps
  by_cases c4 : ps.length < 1000000
  rotate_left
  · rw [if_neg c4] at h; cases h
  rw [if_pos c4] at h
  have HLEN := Aside0.mk c4
  have HL := Aside0.mk h
  clear h c4
  go_wp2_with (first | (go_at_call 44; refine (impl_partsOf.calls K (fun k_ => k_ < w.heap.size) _ _ l ps _ (Kd.V_mk HC0.out (Kd.F_below (Kd.C_F impl_isPart.heap HR0.out) HB.out)) HPS.out).mono ?_; rintro e w3 ⟨v281, rfl, ho0, hb⟩; have m0_ := Aside0.mk (below_step HB.out hb); have m1_ := Aside0.mk (blk_below BK.out hb); have HN := Aside0.mk (Kd.N_lower (Kd.N_mono (ok' := fun k_ => True) ho0 (fun k_ hk_ => trivial)) (below_size HB.out)); (try clear hb1); (try clear hb2); (try clear hb3); (try clear hb4); (try clear hcl); (try clear hy0); clear ho0; clear hb HB BK; have HB := m0_; have BK := m1_; clear m0_ m1_; obtain ⟨A2, c2, e2⟩ := Kd.N_slice HN.out; subst e2))
  clear d1 d2 d3 d4 d5
  have HO0 := Aside0.mk (show Kd.R Kd.string 9 w3 w.heap.size (fun _ => True) (.slice none 0 0) [] from Kd.R_nil _ _ _ _ _)
  go_loopg [4, 34] K (fun kq v4 v34 w' => ∃ (acc : List ByteArray) (i : Int), v34 = .int .i64 i ∧ Aside0 (impl_valueText.l kq kind ps acc i = some r ∧ kq ≤ K ∧ 0 ≤ i) ∧ Aside0 (Kd.R Kd.string 9 w' w.heap.size (fun _ => True) v4 acc) ∧ Aside0 (Kd.N (Kd.slice 61 k61) 22 w' w.heap.size (fun k_ => True ∧ some k_ ≠ v4.ownBlock) (.slice A2 ps.length c2) ps) ∧ Aside0 (w'.heap[gb]? = some (.cells #[.string x.f0, .int .i64 x.f1, .int .i64 x.f2, .string x.f3, .int .i64 x.f4] 61 (0, 0))) ∧ Aside0 (Below w.heap.size w w'))
  case atStart => exact ⟨[], 0, rfl, ⟨HL.out, Nat.le_refl _, Int.le_refl _⟩, HO0, ⟨Kd.N_mono HN.out (fun k_ _ => ⟨trivial, by simp [Value.ownBlock]⟩)⟩, BK, HB⟩
  case round =>
    clear HL HB HN BK HO0
    obtain ⟨acc, i, rfl, HL, HO, HN, BK, HB⟩ := hrel
    obtain ⟨Aa, ca, rfl⟩ := Kd.R_slice HO.out
    have hb1 : wr.cell? ⟨gb, 1, none⟩ = some (.int .i64 kind) := (blk_cell BK.out 1).trans (by rw [HKD.out]; rfl)
    cases gk with
    | zero => have := HL.out.1; rw [impl_valueText.l] at this; cases this
    | succ m =>
      have h := HL.out.1
      rw [impl_valueText.l] at h
      by_cases c5 : i < (ps.length : Int)
      rotate_left
      · rw [if_neg c5] at h
        have c5b0 : decide (i < (ps.length : Int)) = false := decide_eq_false c5
        clear c5
        obtain ⟨j, hj, h⟩ := Option.bind_eq_some_iff.mp h
        have HJ := Aside0.mk hj
        clear hj
        unfold impl_valueText.wrap at h
        by_cases cs : 2 + j.size ≤ 9223372036854775807
        rotate_left
        · rw [if_neg cs] at h; cases h
        rw [if_pos cs] at h
        have z1 : (9223372036854775807 < 1 + j.size) = False := eq_false (by omega)
        have z2 : (9223372036854775807 < 1 + j.size + 1) = False := eq_false (by omega)
        have z3 : (9223372036854775807 < j.size + 1) = False := eq_false (by omega)
        clear cs
        by_cases c7 : kind = 6
        all_goals
          first | rw [if_pos c7] at h | rw [if_neg c7] at h
          try have c7b : (kind == 6) = true := beq_iff_eq.mpr c7
          try have c7b : (kind == 6) = false := beq_eq_false_iff_ne.mpr c7
          injection h with h
          subst h
          clear c7
          go_wp2_with (first | (go_at_call 78; refine (strings_Join.run ⟨#[44]⟩ acc j HJ.out Aa ca _ w.heap.size _ HO.out).mono ?_; rintro e w4 ⟨rfl, hb⟩; have m0_ := Aside0.mk (below_step HB.out hb); have m1_ := Aside0.mk (blk_below BK.out hb); (try clear hb1); (try clear hb2); (try clear hb3); (try clear hb4); (try clear hcl); (try clear hy0); clear hb HB BK; have HB := m0_; have BK := m1_; clear m0_ m1_; have hb1 : w4.cell? ⟨gb, 1, none⟩ = some (.int .i64 kind) := (blk_cell BK.out 1).trans (by rw [HKD.out]; rfl)))
          go_ret
          exact ⟨by first | rfl | (simp; done), HB.out⟩
      rw [if_pos c5] at h
      have c5b0 : decide (i < (ps.length : Int)) = true := decide_eq_true c5
      have hi0 : (0 ≤ i) = True := eq_true HL.out.2.2
      have hi1 : (i < (ps.length : Int)) = True := eq_true c5
      have hi2 : wrap64 (i + 1) = i + 1 := by unfold wrap64; have := HL.out.2.2; have := HLEN.out; omega
      have hi3 : IntKind.i64.wrap (i + 1) = i + 1 := by rw [IntKind.wrap_i64]; have := HL.out.2.2; have := HLEN.out; omega
      obtain ⟨ad3, A3, c3, e3, hcl, hQC, hQ⟩ := at_L5 (Kd.N_reads' HN.out).2.2 i HL.out.2.2 c5
      cases e3
      obtain ⟨q, hq⟩ : ∃ q, q = rd_L5 ps i := ⟨_, rfl⟩
      rw [← hq] at h hcl hQC hQ
      by_cases c6 : 0 < (q.length : Int) ∧ acc.length < 1000000
      rotate_left
      · rw [if_neg c6] at h; cases h
      rw [if_pos c6] at h
      obtain ⟨p, hp⟩ : ∃ p, p = rd_T61 q 0 := ⟨_, rfl⟩
      rw [← hp] at h
      have q2 : ((0 : Int) < (q.length : Int)) = True := eq_true c6.1
      have q3 : (0 < q.length) = True := eq_true (by omega)
      have HAL := Aside0.mk c6.2
      have HQ0 := Aside0.mk c6.1
      have HP := Aside0.mk hQ
      have HQC := Aside0.mk hQC
      have HP_ := Aside0.mk hp
      clear c5 c6 hQ hQC hp hq
      obtain ⟨t, ht, h⟩ := Option.bind_eq_some_iff.mp h
      have HT := Aside0.mk ht
      obtain ⟨u, hu, h⟩ := Option.bind_eq_some_iff.mp h
      have HC := Aside0.mk (HIH.out m (by have := HL.out.2.1; omega))
      have HL2 := Aside0.mk (show impl_valueText.l m kind ps (acc ++ [u]) (i + 1) = some r ∧ m ≤ K ∧ 0 ≤ i + 1 from ⟨h, by have := HL.out.2.1; omega, by have := HL.out.2.2; omega⟩)
      clear h ht
      unfold impl_valueText.part at hu
      by_cases c7 : kind = 7
      · rw [if_pos c7] at hu
        have c7b : (kind == 7) = true := beq_iff_eq.mpr c7
        clear c7
        obtain ⟨y, hy, hu⟩ := Option.bind_eq_some_iff.mp hu
        have HY := Aside0.mk hy
        clear hy
        by_cases cs : y.size + (1 + t.size) ≤ 9223372036854775807
        rotate_left
        · rw [if_neg cs] at hu; cases hu
        rw [if_pos cs] at hu
        injection hu with hu
        have z1 : (9223372036854775807 < y.size + 1) = False := eq_false (by omega)
        have z2 : (9223372036854775807 < y.size + 1 + t.size) = False := eq_false (by omega)
        subst hu
        clear cs
        go_wp2_with (first | (go_at_call 47; refine (HC.out A3 c3 q t _ (Go.Proofs.YtkfbdopfeacnfaaDoor.TabsV.Tabs0.of_below TB.out HB.out) HP.out HQC.out HT.out).mono ?_; rintro e w4 ⟨rfl, hb⟩; have m0_ := Aside0.mk (below_step HB.out hb); have m1_ := Aside0.mk (blk_below BK.out hb); have m2_ := Aside0.mk (Kd.N_below HN.out hb); have m3_ := Aside0.mk (Kd.C_below HP.out hb); have m4_ := Aside0.mk (Kd.R_below HO.out hb); (try clear hb1); (try clear hb2); (try clear hb3); (try clear hb4); (try clear hcl); (try clear hy0); clear hb HB BK HN HP HO; have HB := m0_; have BK := m1_; have HN := m2_; have HP := m3_; have HO := m4_; clear m0_ m1_ m2_ m3_ m4_; have hb1 : w4.cell? ⟨gb, 1, none⟩ = some (.int .i64 kind) := (blk_cell BK.out 1).trans (by rw [HKD.out]; rfl); obtain ⟨ad5, e5, hy0, _⟩ := at_T61 HP.out 0 (Int.le_refl _) HQ0.out; (try cases e5); simp only [Int.toNat_zero, Nat.zero_mul, add0_ad] at hy0; rw [← HP_.out] at hy0) | (go_at_call 77; refine (impl_stringText.calls p.f0 y _ HY.out).mono ?_; rintro e w5 ⟨rfl, hb⟩; have m0_ := Aside0.mk (below_step HB.out hb); have m1_ := Aside0.mk (blk_below BK.out hb); have m2_ := Aside0.mk (Kd.N_below HN.out hb); have m3_ := Aside0.mk (Kd.C_below HP.out hb); have m4_ := Aside0.mk (Kd.R_below HO.out hb); (try clear hb1); (try clear hb2); (try clear hb3); (try clear hb4); (try clear hcl); (try clear hy0); clear hb HB BK HN HP HO; have HB := m0_; have BK := m1_; have HN := m2_; have HP := m3_; have HO := m4_; clear m0_ m1_ m2_ m3_ m4_; have hb1 : w5.cell? ⟨gb, 1, none⟩ = some (.int .i64 kind) := (blk_cell BK.out 1).trans (by rw [HKD.out]; rfl)) | ((with_reducible refine gate_builtin (b := .append) (xs := #[.tmp 51, .tmp 53]) rfl ?_); at_builtin; refine Kd.R_append Kd.string (w0 := w) w.heap.size rfl (.tmp 51) (.tmp 53) 90 9 (.string ⟨#[]⟩) 16 rfl Tryd.underlying90 impl_valueText.info rfl (by decide) (by omega) (.slice Aa acc.length ca) acc ((y ++ (⟨#[58]⟩ : ByteArray) ++ t : ByteArray)) [.string ((y ++ (⟨#[58]⟩ : ByteArray) ++ t : ByteArray))] (fun _ => True) (fun _ => False) rfl rfl ?aP (fun _ hk => hk.elim) (fun _ _ => trivial) ?aO ?aB ?aS ?aL ?_; (case aP => exact rfl); (case aO => exact (by (with_reducible repeat (first | apply Kd.R_alloc | apply Kd.R_drewN | apply Kd.R_drew)); exact HO.out)); (case aB => repeat (first | (with_reducible first | exact HB.out | apply below_alloc | apply pw_below_drewN | apply below_drew1 | refine below_set ?_ GE.out) | exact HB.out)); (case aS => exact (below_size (by repeat (first | (with_reducible first | exact HB.out | apply below_alloc | apply pw_below_drewN | apply below_drew1 | refine below_set ?_ GE.out) | exact HB.out)))); (case aL => have := HAL.out; omega); intro v6 w6 ho hb hg hat; have m0_ := Aside0.mk hb; have m1_ := Aside0.mk ho; have m2_ := Aside0.mk (blk_grown (by (with_reducible repeat (first | refine blk_drewN ?_ _ | refine blk_drew ?_ | refine blk_alloc ?_ _)); exact BK.out) hg (Kd.R_ne HO.out BK.out (by decide))); have m3_ := Aside0.mk (Kd.N_after (ok := fun _ => True) (by (with_reducible repeat (first | apply Kd.N_alloc | apply Kd.N_drewN | apply Kd.N_drew)); exact HN.out) hg hat); (try clear hb1); clear ho hb hg hat HB HO BK HN; have HB := m0_; have HO := m1_; have BK := m2_; have HN := m3_; clear m0_ m1_ m2_ m3_))
        go_roundg m
        case measure => have := HL2.out.2.1; omega
        case rel => exact ⟨_, i + 1, by first | rfl | (rw [hi2]; done) | (rw [hi3]; done), HL2, HO, HN, BK, HB⟩
      · rw [if_neg c7] at hu
        have c7b : (kind == 7) = false := beq_eq_false_iff_ne.mpr c7
        injection hu with hu
        subst hu
        clear c7
        go_wp2_with (first | (go_at_call 47; refine (HC.out A3 c3 q t _ (Go.Proofs.YtkfbdopfeacnfaaDoor.TabsV.Tabs0.of_below TB.out HB.out) HP.out HQC.out HT.out).mono ?_; rintro e w4 ⟨rfl, hb⟩; have m0_ := Aside0.mk (below_step HB.out hb); have m1_ := Aside0.mk (blk_below BK.out hb); have m2_ := Aside0.mk (Kd.N_below HN.out hb); have m3_ := Aside0.mk (Kd.C_below HP.out hb); have m4_ := Aside0.mk (Kd.R_below HO.out hb); (try clear hb1); (try clear hb2); (try clear hb3); (try clear hb4); (try clear hcl); (try clear hy0); clear hb HB BK HN HP HO; have HB := m0_; have BK := m1_; have HN := m2_; have HP := m3_; have HO := m4_; clear m0_ m1_ m2_ m3_ m4_; have hb1 : w4.cell? ⟨gb, 1, none⟩ = some (.int .i64 kind) := (blk_cell BK.out 1).trans (by rw [HKD.out]; rfl); obtain ⟨ad5, e5, hy0, _⟩ := at_T61 HP.out 0 (Int.le_refl _) HQ0.out; (try cases e5); simp only [Int.toNat_zero, Nat.zero_mul, add0_ad] at hy0; rw [← HP_.out] at hy0) | ((with_reducible refine gate_builtin (b := .append) (xs := #[.tmp 51, .tmp 53]) rfl ?_); at_builtin; refine Kd.R_append Kd.string (w0 := w) w.heap.size rfl (.tmp 51) (.tmp 53) 90 9 (.string ⟨#[]⟩) 16 rfl Tryd.underlying90 impl_valueText.info rfl (by decide) (by omega) (.slice Aa acc.length ca) acc (t) [.string (t)] (fun _ => True) (fun _ => False) rfl rfl ?aP (fun _ hk => hk.elim) (fun _ _ => trivial) ?aO ?aB ?aS ?aL ?_; (case aP => exact rfl); (case aO => exact (by (with_reducible repeat (first | apply Kd.R_alloc | apply Kd.R_drewN | apply Kd.R_drew)); exact HO.out)); (case aB => repeat (first | (with_reducible first | exact HB.out | apply below_alloc | apply pw_below_drewN | apply below_drew1 | refine below_set ?_ GE.out) | exact HB.out)); (case aS => exact (below_size (by repeat (first | (with_reducible first | exact HB.out | apply below_alloc | apply pw_below_drewN | apply below_drew1 | refine below_set ?_ GE.out) | exact HB.out)))); (case aL => have := HAL.out; omega); intro v6 w6 ho hb hg hat; have m0_ := Aside0.mk hb; have m1_ := Aside0.mk ho; have m2_ := Aside0.mk (blk_grown (by (with_reducible repeat (first | refine blk_drewN ?_ _ | refine blk_drew ?_ | refine blk_alloc ?_ _)); exact BK.out) hg (Kd.R_ne HO.out BK.out (by decide))); have m3_ := Aside0.mk (Kd.N_after (ok := fun _ => True) (by (with_reducible repeat (first | apply Kd.N_alloc | apply Kd.N_drewN | apply Kd.N_drew)); exact HN.out) hg hat); (try clear hb1); clear ho hb hg hat HB HO BK HN; have HB := m0_; have HO := m1_; have BK := m2_; have HN := m3_; clear m0_ m1_ m2_ m3_))
        go_roundg m
        case measure => have := HL2.out.2.1; omega
        case rel => exact ⟨_, i + 1, by first | rfl | (rw [hi2]; done) | (rw [hi3]; done), HL2, HO, HN, BK, HB⟩

/-! ### impl_ValueText: function 24 -/
def impl_ValueText.f (k : Nat) (l0 : List (S61)) : Option (ByteArray × Bool) := (impl_isValue.f k l0).bind fun t288 => (if t288 = true then ((impl_valueText.f k l0).bind fun t289 => (if (t289.size : Int) > 600 then (some ((⟨#[]⟩ : ByteArray), false)) else (some (t289, true)))) else (some ((⟨#[]⟩ : ByteArray), false)))
theorem impl_ValueText.mono : ∀ a0 k, LeO (impl_ValueText.f k a0) (impl_ValueText.f (k + 1) a0) := by
  intro a0 k
  unfold impl_ValueText.f
  repeat' first
      | (with_reducible exact impl_isValue.mono _ _)
      | (with_reducible exact impl_valueText.mono _ _)
      | (with_reducible exact LeO.refl _)
      | (with_reducible exact LeO.none _)
      | (with_reducible refine LeO.ite ?_ ?_)
      | (with_reducible refine LeO.bind ?_ (fun _ => ?_))
      | exact impl_isValue.mono _ _
      | exact impl_valueText.mono _ _
      | exact LeO.none _
      | refine LeO.ite ?_ ?_
      | refine LeO.bind ?_ (fun _ => ?_)
set_option maxHeartbeats 8000000 in
set_option maxRecDepth 100000 in
theorem impl_ValueText.calls (k : Nat) (A0 : Option Addr) (c0 : Nat) (l0 : List (S61)) (r1 : ByteArray) (r2 : Bool) (w : World) (tb : Go.Proofs.YtkfbdopfeacnfaaDoor.TabsV.Tabs0 w) (hr0 : Kd.C k61 w A0 l0.length l0) (hc0 : l0.length ≤ c0) (h : impl_ValueText.f k l0 = some (r1, r2)) :
    Calls Tryd.prog 24 #[.slice A0 l0.length c0] w fun e w' => e = .returned (.tuple #[.string r1, .bool r2]) ∧ Below w.heap.size w w' := by
  have TB := Aside0.mk tb
  clear tb
  have HR0 := Aside0.mk hr0
  have HC0 := Aside0.mk hc0
  clear hr0 hc0
  have HB := Aside0.mk (Below.refl w.heap.size w)
  have H : ((impl_isValue.f k l0).bind fun t288 => (if t288 = true then ((impl_valueText.f k l0).bind fun t289 => (if (t289.size : Int) > 600 then (some ((⟨#[]⟩ : ByteArray), false)) else (some (t289, true)))) else (some ((⟨#[]⟩ : ByteArray), false)))) = some (r1, r2) := h
  clear h
  replace H := Option.bind_eq_some_iff.mp H
  obtain ⟨t288, A20, H⟩ := H
  replace H : (if t288 = true then ((impl_valueText.f k l0).bind fun t289 => (if (t289.size : Int) > 600 then (some ((⟨#[]⟩ : ByteArray), false)) else (some (t289, true)))) else (some ((⟨#[]⟩ : ByteArray), false))) = some (r1, r2) := H
  have A2 := Aside0.mk A20
  clear A20
  by_cases c3 : t288 = true
  · subst c3
    have H1 : ((impl_valueText.f k l0).bind fun t289 => (if (t289.size : Int) > 600 then (some ((⟨#[]⟩ : ByteArray), false)) else (some (t289, true)))) = some (r1, r2) := by rw [if_pos rfl] at H; exact H
    clear H
    have H := H1
    clear H1
    replace H := Option.bind_eq_some_iff.mp H
    obtain ⟨t289, A40, H⟩ := H
    replace H : (if (t289.size : Int) > 600 then (some ((⟨#[]⟩ : ByteArray), false)) else (some (t289, true))) = some (r1, r2) := H
    have A4 := Aside0.mk A40
    clear A40
    by_cases c5 : (t289.size : Int) > 600
    · rw [if_pos c5] at H
      have c5b0 : decide (600 < (t289.size : Int)) = true := decide_eq_true c5
      have c5b1 : decide (600 < t289.size) = true := decide_eq_true (by omega)
      clear c5
      simp only [Option.some.injEq, Prod.mk.injEq] at H
      obtain ⟨rfl, rfl⟩ := H
      go_enter Tryd.func24, Tryd.ntmps24
      go_wp2_with (first | ((with_reducible refine gate_callee (f := 41) rfl ?_); refine goesL_ (some 6) rfl rfl Tryd.func41 (by kernel_rfl) rfl #[.slice A0 l0.length c0] rfl (by (try simp only [List.map_toArray, List.map_cons, List.map_nil]); first | done | rfl | (simp only [List.length_drop, List.length_take]; rfl)) ?_; (with_reducible refine (impl_isValue.calls k _ _ l0 true _ ?side1 ?side2 ?side3 A2.out).mono ?_); (case side1 => exact Go.Proofs.YtkfbdopfeacnfaaDoor.TabsV.Tabs0.of_below TB.out (by repeat (first | (with_reducible first | exact HB.out | apply below_alloc | apply pw_below_drewN | apply below_drew1) | exact HB.out))); (case side2 => repeat (first | exact HR0.out | (with_reducible refine Kd.C_alloc ?_ _) | (with_reducible refine Kd.C_drewN ?_ _) | (with_reducible refine Kd.C_drew ?_))); (case side3 => exact HC0.out); rintro e w6 ⟨rfl, hb⟩; refine ⟨_, rfl, ?_⟩; have n0_ := Aside0.mk (below_step (by repeat (first | (with_reducible first | exact HB.out | apply below_alloc | apply pw_below_drewN | apply below_drew1) | exact HB.out)) hb); clear HB; have HB := n0_; clear n0_; (try clear hb); (try clear hb2); (try clear hk); (try clear hi)) | ((with_reducible refine gate_callee (f := 47) rfl ?_); refine goesL_ (some 9) rfl rfl Tryd.func47 (by kernel_rfl) rfl #[.slice A0 l0.length c0] rfl (by (try simp only [List.map_toArray, List.map_cons, List.map_nil]); first | done | rfl | (simp only [List.length_drop, List.length_take]; rfl)) ?_; (with_reducible refine (impl_valueText.calls k _ _ l0 t289 _ ?side1 ?side2 ?side3 A4.out).mono ?_); (case side1 => exact Go.Proofs.YtkfbdopfeacnfaaDoor.TabsV.Tabs0.of_below TB.out (by repeat (first | (with_reducible first | exact HB.out | apply below_alloc | apply pw_below_drewN | apply below_drew1) | exact HB.out))); (case side2 => repeat (first | exact (Kd.C_below HR0.out HB.out) | (with_reducible refine Kd.C_alloc ?_ _) | (with_reducible refine Kd.C_drewN ?_ _) | (with_reducible refine Kd.C_drew ?_))); (case side3 => exact HC0.out); rintro e w7 ⟨rfl, hb⟩; refine ⟨_, rfl, ?_⟩; have n0_ := Aside0.mk (below_step (by repeat (first | (with_reducible first | exact HB.out | apply below_alloc | apply pw_below_drewN | apply below_drew1) | exact HB.out)) hb); clear HB; have HB := n0_; clear n0_; (try clear hb); (try clear hb2); (try clear hk); (try clear hi)))
      go_ret2
      exact ⟨by first | rfl | (simp [errW_none, errW_some] <;> rfl) | (simp [*, errW_none, errW_some] <;> rfl), by repeat (first | (with_reducible first | exact HB.out | apply below_alloc | apply pw_below_drewN | apply below_drew1) | exact HB.out)⟩
    · rw [if_neg c5] at H
      have c5b0 : decide (600 < (t289.size : Int)) = false := decide_eq_false c5
      have c5b1 : decide (600 < t289.size) = false := decide_eq_false (by omega)
      clear c5
      simp only [Option.some.injEq, Prod.mk.injEq] at H
      obtain ⟨rfl, rfl⟩ := H
      go_enter Tryd.func24, Tryd.ntmps24
      go_wp2_with (first | ((with_reducible refine gate_callee (f := 41) rfl ?_); refine goesL_ (some 6) rfl rfl Tryd.func41 (by kernel_rfl) rfl #[.slice A0 l0.length c0] rfl (by (try simp only [List.map_toArray, List.map_cons, List.map_nil]); first | done | rfl | (simp only [List.length_drop, List.length_take]; rfl)) ?_; (with_reducible refine (impl_isValue.calls k _ _ l0 true _ ?side1 ?side2 ?side3 A2.out).mono ?_); (case side1 => exact Go.Proofs.YtkfbdopfeacnfaaDoor.TabsV.Tabs0.of_below TB.out (by repeat (first | (with_reducible first | exact HB.out | apply below_alloc | apply pw_below_drewN | apply below_drew1) | exact HB.out))); (case side2 => repeat (first | exact HR0.out | (with_reducible refine Kd.C_alloc ?_ _) | (with_reducible refine Kd.C_drewN ?_ _) | (with_reducible refine Kd.C_drew ?_))); (case side3 => exact HC0.out); rintro e w8 ⟨rfl, hb⟩; refine ⟨_, rfl, ?_⟩; have n0_ := Aside0.mk (below_step (by repeat (first | (with_reducible first | exact HB.out | apply below_alloc | apply pw_below_drewN | apply below_drew1) | exact HB.out)) hb); clear HB; have HB := n0_; clear n0_; (try clear hb); (try clear hb2); (try clear hk); (try clear hi)) | ((with_reducible refine gate_callee (f := 47) rfl ?_); refine goesL_ (some 9) rfl rfl Tryd.func47 (by kernel_rfl) rfl #[.slice A0 l0.length c0] rfl (by (try simp only [List.map_toArray, List.map_cons, List.map_nil]); first | done | rfl | (simp only [List.length_drop, List.length_take]; rfl)) ?_; (with_reducible refine (impl_valueText.calls k _ _ l0 t289 _ ?side1 ?side2 ?side3 A4.out).mono ?_); (case side1 => exact Go.Proofs.YtkfbdopfeacnfaaDoor.TabsV.Tabs0.of_below TB.out (by repeat (first | (with_reducible first | exact HB.out | apply below_alloc | apply pw_below_drewN | apply below_drew1) | exact HB.out))); (case side2 => repeat (first | exact (Kd.C_below HR0.out HB.out) | (with_reducible refine Kd.C_alloc ?_ _) | (with_reducible refine Kd.C_drewN ?_ _) | (with_reducible refine Kd.C_drew ?_))); (case side3 => exact HC0.out); rintro e w9 ⟨rfl, hb⟩; refine ⟨_, rfl, ?_⟩; have n0_ := Aside0.mk (below_step (by repeat (first | (with_reducible first | exact HB.out | apply below_alloc | apply pw_below_drewN | apply below_drew1) | exact HB.out)) hb); clear HB; have HB := n0_; clear n0_; (try clear hb); (try clear hb2); (try clear hk); (try clear hi)))
      go_ret2
      exact ⟨by first | rfl | (simp [errW_none, errW_some] <;> rfl) | (simp [*, errW_none, errW_some] <;> rfl), by repeat (first | (with_reducible first | exact HB.out | apply below_alloc | apply pw_below_drewN | apply below_drew1) | exact HB.out)⟩
  · replace c3 := Bool.eq_false_iff.mpr c3
    subst c3
    have H1 : (some ((⟨#[]⟩ : ByteArray), false)) = some (r1, r2) := by rw [if_neg (show ¬ (false = true) by decide)] at H; exact H
    clear H
    have H := H1
    clear H1
    simp only [Option.some.injEq, Prod.mk.injEq] at H
    obtain ⟨rfl, rfl⟩ := H
    go_enter Tryd.func24, Tryd.ntmps24
    go_wp2_with (first | ((with_reducible refine gate_callee (f := 41) rfl ?_); refine goesL_ (some 6) rfl rfl Tryd.func41 (by kernel_rfl) rfl #[.slice A0 l0.length c0] rfl (by (try simp only [List.map_toArray, List.map_cons, List.map_nil]); first | done | rfl | (simp only [List.length_drop, List.length_take]; rfl)) ?_; (with_reducible refine (impl_isValue.calls k _ _ l0 false _ ?side1 ?side2 ?side3 A2.out).mono ?_); (case side1 => exact Go.Proofs.YtkfbdopfeacnfaaDoor.TabsV.Tabs0.of_below TB.out (by repeat (first | (with_reducible first | exact HB.out | apply below_alloc | apply pw_below_drewN | apply below_drew1) | exact HB.out))); (case side2 => repeat (first | exact HR0.out | (with_reducible refine Kd.C_alloc ?_ _) | (with_reducible refine Kd.C_drewN ?_ _) | (with_reducible refine Kd.C_drew ?_))); (case side3 => exact HC0.out); rintro e w10 ⟨rfl, hb⟩; refine ⟨_, rfl, ?_⟩; have n0_ := Aside0.mk (below_step (by repeat (first | (with_reducible first | exact HB.out | apply below_alloc | apply pw_below_drewN | apply below_drew1) | exact HB.out)) hb); clear HB; have HB := n0_; clear n0_; (try clear hb); (try clear hb2); (try clear hk); (try clear hi)))
    go_ret2
    exact ⟨by first | rfl | (simp [errW_none, errW_some] <;> rfl) | (simp [*, errW_none, errW_some] <;> rfl), by repeat (first | (with_reducible first | exact HB.out | apply below_alloc | apply pw_below_drewN | apply below_drew1) | exact HB.out)⟩

/-! ### laws_FnExactValueText: function 7 -/
def laws_FnExactValueText.j0 : Nat → List (S64) → List (S61) → Bool → Option (Bool)
  | 0, _, _, _ => none
  | k + 1, x0, x6, x34 => if x34 = true then (some false) else ((laws_toNodeS.f k x0).bind fun t301 => ((laws_eqNodeS.f k x6 t301).bind fun t304 => (if t304 = true then (some true) else (some false))))
def laws_FnExactValueText.f (k : Nat) (l0 : List (S64)) : Option (Bool) := (laws_szNodeS.f k l0 1048576).bind fun t290 => (if t290 < 0 then (some true) else ((laws_toNodeS.f k l0).bind fun t291 => ((spec_ValueText.f k t291).bind fun bt294 => ((laws_toNodeS.f k l0).bind fun t296 => ((impl_ValueText.f k t296).bind fun bt299 => (if bt299.1.toList = bt294.1.toList then (laws_FnExactValueText.j0 k l0 t296 (bt299.2 != bt294.2)) else (laws_FnExactValueText.j0 k l0 t296 true)))))))
theorem laws_FnExactValueText.mono_l : ∀ k, (∀ y0 y1 y2, LeO (laws_FnExactValueText.j0 k y0 y1 y2) (laws_FnExactValueText.j0 (k + 1) y0 y1 y2))
  | 0 => fun _ _ _ r h => by simp [laws_FnExactValueText.j0] at h
  | k + 1 => by
    have ih0 := laws_FnExactValueText.mono_l k
    · intro y0 y1 y2
      unfold laws_FnExactValueText.j0
      repeat' first
      | (with_reducible exact ih0 _ _ _)
      | (with_reducible exact impl_ValueText.mono _ _)
      | (with_reducible exact laws_eqNodeS.mono _ _ _)
      | (with_reducible exact laws_szNodeS.mono _ _ _)
      | (with_reducible exact laws_toNodeS.mono _ _)
      | (with_reducible exact spec_ValueText.mono _ _)
      | (with_reducible exact LeO.refl _)
      | (with_reducible exact LeO.none _)
      | (with_reducible refine LeO.ite ?_ ?_)
      | (with_reducible refine LeO.bind ?_ (fun _ => ?_))
      | exact ih0 _ _ _
      | exact impl_ValueText.mono _ _
      | exact laws_eqNodeS.mono _ _ _
      | exact laws_szNodeS.mono _ _ _
      | exact laws_toNodeS.mono _ _
      | exact spec_ValueText.mono _ _
      | exact LeO.none _
      | refine LeO.ite ?_ ?_
      | refine LeO.bind ?_ (fun _ => ?_)
theorem laws_FnExactValueText.mono : ∀ a0 k, LeO (laws_FnExactValueText.f k a0) (laws_FnExactValueText.f (k + 1) a0) := by
  intro a0 k
  have ih0 := laws_FnExactValueText.mono_l k
  unfold laws_FnExactValueText.f
  repeat' first
      | (with_reducible exact ih0 _ _ _)
      | (with_reducible exact impl_ValueText.mono _ _)
      | (with_reducible exact laws_eqNodeS.mono _ _ _)
      | (with_reducible exact laws_szNodeS.mono _ _ _)
      | (with_reducible exact laws_toNodeS.mono _ _)
      | (with_reducible exact spec_ValueText.mono _ _)
      | (with_reducible exact LeO.refl _)
      | (with_reducible exact LeO.none _)
      | (with_reducible refine LeO.ite ?_ ?_)
      | (with_reducible refine LeO.bind ?_ (fun _ => ?_))
      | exact ih0 _ _ _
      | exact impl_ValueText.mono _ _
      | exact laws_eqNodeS.mono _ _ _
      | exact laws_szNodeS.mono _ _ _
      | exact laws_toNodeS.mono _ _
      | exact spec_ValueText.mono _ _
      | exact LeO.none _
      | refine LeO.ite ?_ ?_
      | refine LeO.bind ?_ (fun _ => ?_)
set_option maxHeartbeats 8000000 in
set_option maxRecDepth 100000 in
theorem laws_FnExactValueText.calls (k : Nat) (A0 : Option Addr) (c0 : Nat) (l0 : List (S64)) (r : Bool) (w : World) (tb : Go.Proofs.YtkfbdopfeacnfaaDoor.TabsV.Tabs0 w) (hr_ : r = true) (hr0 : Kd.C k64 w A0 l0.length l0) (hc0 : l0.length ≤ c0) (h : laws_FnExactValueText.f k l0 = some r) :
    Calls Tryd.prog 7 #[.slice A0 l0.length c0] w fun e w' => e = .returned (.bool r) ∧ Below w.heap.size w w' := by
  have HR_ := Aside0.mk hr_
  clear hr_
  have TB := Aside0.mk tb
  clear tb
  have HR0 := Aside0.mk hr0
  have HC0 := Aside0.mk hc0
  clear hr0 hc0
  have HB := Aside0.mk (Below.refl w.heap.size w)
  have H : ((laws_szNodeS.f k l0 1048576).bind fun t290 => (if t290 < 0 then (some true) else ((laws_toNodeS.f k l0).bind fun t291 => ((spec_ValueText.f k t291).bind fun bt294 => ((laws_toNodeS.f k l0).bind fun t296 => ((impl_ValueText.f k t296).bind fun bt299 => (if bt299.1.toList = bt294.1.toList then (laws_FnExactValueText.j0 k l0 t296 (bt299.2 != bt294.2)) else (laws_FnExactValueText.j0 k l0 t296 true)))))))) = some r := h
  clear h
  replace H := Option.bind_eq_some_iff.mp H
  obtain ⟨t290, A20, H⟩ := H
  replace H : (if t290 < 0 then (some true) else ((laws_toNodeS.f k l0).bind fun t291 => ((spec_ValueText.f k t291).bind fun bt294 => ((laws_toNodeS.f k l0).bind fun t296 => ((impl_ValueText.f k t296).bind fun bt299 => (if bt299.1.toList = bt294.1.toList then (laws_FnExactValueText.j0 k l0 t296 (bt299.2 != bt294.2)) else (laws_FnExactValueText.j0 k l0 t296 true))))))) = some r := H
  have A2 := Aside0.mk A20
  clear A20
  by_cases c3 : t290 < 0
  · rw [if_pos c3] at H
    have c3b0 : decide (t290 < 0) = true := decide_eq_true c3
    clear c3
    as_aux_lemma =>
      obtain rfl := Option.some.inj H
      go_enter Tryd.func7, Tryd.ntmps7
      go_wp2_with (first | ((with_reducible refine gate_callee (f := 15) rfl ?_); refine goesL_ (some 11) rfl rfl Tryd.func15 (by kernel_rfl) rfl #[.slice A0 l0.length c0, .int .i64 1048576] rfl (by (try simp only [List.map_toArray, List.map_cons, List.map_nil]); first | done | rfl | (simp only [List.length_drop, List.length_take]; rfl)) ?_; (with_reducible refine (laws_szNodeS.calls k _ _ l0 1048576 t290 _ ?side1 ?side2 A2.out).mono ?_); (case side1 => repeat (first | exact HR0.out | (with_reducible refine Kd.C_alloc ?_ _) | (with_reducible refine Kd.C_drewN ?_ _) | (with_reducible refine Kd.C_drew ?_))); (case side2 => exact HC0.out); rintro e w4 ⟨rfl, hb⟩; refine ⟨_, rfl, ?_⟩; have n0_ := Aside0.mk (below_step (by repeat (first | (with_reducible first | exact HB.out | apply below_alloc | apply pw_below_drewN | apply below_drew1) | exact HB.out)) hb); clear HB; have HB := n0_; clear n0_; (try clear hb); (try clear hb2); (try clear hk); (try clear hi)))
      go_ret
      exact ⟨by first | rfl | (simp [errW_none, errW_some] <;> rfl) | (simp [*, errW_none, errW_some] <;> rfl), by repeat (first | (with_reducible first | exact HB.out | apply below_alloc | apply pw_below_drewN | apply below_drew1) | exact HB.out)⟩
  · rw [if_neg c3] at H
    have c3b0 : decide (t290 < 0) = false := decide_eq_false c3
    clear c3
    replace H := Option.bind_eq_some_iff.mp H
    obtain ⟨t291, A50, H⟩ := H
    replace H : ((spec_ValueText.f k t291).bind fun bt294 => ((laws_toNodeS.f k l0).bind fun t296 => ((impl_ValueText.f k t296).bind fun bt299 => (if bt299.1.toList = bt294.1.toList then (laws_FnExactValueText.j0 k l0 t296 (bt299.2 != bt294.2)) else (laws_FnExactValueText.j0 k l0 t296 true))))) = some r := H
    have A5 := Aside0.mk A50
    clear A50
    replace H := Option.bind_eq_some_iff.mp H
    obtain ⟨⟨t294, t295⟩, A60, H⟩ := H
    replace H : ((laws_toNodeS.f k l0).bind fun t296 => ((impl_ValueText.f k t296).bind fun bt299 => (if bt299.1.toList = t294.toList then (laws_FnExactValueText.j0 k l0 t296 (bt299.2 != t295)) else (laws_FnExactValueText.j0 k l0 t296 true)))) = some r := H
    have A6 := Aside0.mk A60
    clear A60
    replace H := Option.bind_eq_some_iff.mp H
    obtain ⟨t296, A70, H⟩ := H
    replace H : ((impl_ValueText.f k t296).bind fun bt299 => (if bt299.1.toList = t294.toList then (laws_FnExactValueText.j0 k l0 t296 (bt299.2 != t295)) else (laws_FnExactValueText.j0 k l0 t296 true))) = some r := H
    have A7 := Aside0.mk A70
    clear A70
    replace H := Option.bind_eq_some_iff.mp H
    obtain ⟨⟨t299, t300⟩, A80, H⟩ := H
    replace H : (if t299.toList = t294.toList then (laws_FnExactValueText.j0 k l0 t296 (t300 != t295)) else (laws_FnExactValueText.j0 k l0 t296 true)) = some r := H
    have A8 := Aside0.mk A80
    clear A80
    have HC9 := Aside0.mk H
    clear H
    go_enter Tryd.func7, Tryd.ntmps7
    go_upto_region 8 with (first | ((with_reducible refine gate_callee (f := 15) rfl ?_); refine goesL_ (some 11) rfl rfl Tryd.func15 (by kernel_rfl) rfl #[.slice A0 l0.length c0, .int .i64 1048576] rfl (by (try simp only [List.map_toArray, List.map_cons, List.map_nil]); first | done | rfl | (simp only [List.length_drop, List.length_take]; rfl)) ?_; (with_reducible refine (laws_szNodeS.calls k _ _ l0 1048576 t290 _ ?side1 ?side2 A2.out).mono ?_); (case side1 => repeat (first | exact HR0.out | (with_reducible refine Kd.C_alloc ?_ _) | (with_reducible refine Kd.C_drewN ?_ _) | (with_reducible refine Kd.C_drew ?_))); (case side2 => exact HC0.out); rintro e w10 ⟨rfl, hb⟩; refine ⟨_, rfl, ?_⟩; have n0_ := Aside0.mk (below_step (by repeat (first | (with_reducible first | exact HB.out | apply below_alloc | apply pw_below_drewN | apply below_drew1) | exact HB.out)) hb); clear HB; have HB := n0_; clear n0_; (try clear hb); (try clear hb2); (try clear hk); (try clear hi)) | ((with_reducible refine gate_callee (f := 17) rfl ?_); refine goesL_ (some 16) rfl rfl Tryd.func17 (by kernel_rfl) rfl #[.slice A0 l0.length c0] rfl (by (try simp only [List.map_toArray, List.map_cons, List.map_nil]); first | done | rfl | (simp only [List.length_drop, List.length_take]; rfl)) ?_; (with_reducible refine (laws_toNodeS.calls k _ _ l0 t291 _ ?side1 ?side2 A5.out).mono ?_); (case side1 => repeat (first | exact (Kd.C_below HR0.out HB.out) | (with_reducible refine Kd.C_alloc ?_ _) | (with_reducible refine Kd.C_drewN ?_ _) | (with_reducible refine Kd.C_drew ?_))); (case side2 => exact HC0.out); rintro e w11 ⟨v292, rfl, ho0, hb⟩; refine ⟨_, rfl, ?_⟩; have n0_ := Aside0.mk (Kd.R_lower ho0 (below_size (by repeat (first | (with_reducible first | exact HB.out | apply below_alloc | apply pw_below_drewN | apply below_drew1) | exact HB.out)))); have n1_ := Aside0.mk (below_step (by repeat (first | (with_reducible first | exact HB.out | apply below_alloc | apply pw_below_drewN | apply below_drew1) | exact HB.out)) hb); clear HB; have HO293 := n0_; have HB := n1_; clear n0_ n1_; (try clear hb); (try clear hb2); (try clear hk); (try clear hi); (try clear ho0); obtain ⟨Ao12, co12, eo12⟩ := Kd.R_slice HO293.out; subst eo12) | ((with_reducible refine gate_callee (f := 23) rfl ?_); refine goesL_ (some 17) rfl rfl Tryd.func23 (by kernel_rfl) rfl #[.slice Ao12 t291.length co12] rfl (by (try simp only [List.map_toArray, List.map_cons, List.map_nil]); first | done | rfl | (simp only [List.length_drop, List.length_take]; rfl)) ?_; (with_reducible refine (spec_ValueText.calls k _ _ t291 t294 t295 _ ?side1 ?side2 A6.out).mono ?_); (case side1 => repeat (first | exact (Kd.R_reads' HO293.out).2.2 | (with_reducible refine Kd.C_alloc ?_ _) | (with_reducible refine Kd.C_drewN ?_ _) | (with_reducible refine Kd.C_drew ?_))); (case side2 => exact (Kd.R_reads' HO293.out).2.1); rintro e w13 ⟨rfl, hb⟩; refine ⟨_, rfl, ?_⟩; have n0_ := Aside0.mk (Kd.R_below (by (with_reducible repeat (first | apply Kd.R_alloc | apply Kd.R_drewN | apply Kd.R_drew)); exact HO293.out) hb); have n1_ := Aside0.mk (below_step (by repeat (first | (with_reducible first | exact HB.out | apply below_alloc | apply pw_below_drewN | apply below_drew1) | exact HB.out)) hb); clear HO293; clear HB; have HO293 := n0_; have HB := n1_; clear n0_ n1_; (try clear hb); (try clear hb2); (try clear hk); (try clear hi)) | ((with_reducible refine gate_callee (f := 17) rfl ?_); refine goesL_ (some 21) rfl rfl Tryd.func17 (by kernel_rfl) rfl #[.slice A0 l0.length c0] rfl (by (try simp only [List.map_toArray, List.map_cons, List.map_nil]); first | done | rfl | (simp only [List.length_drop, List.length_take]; rfl)) ?_; (with_reducible refine (laws_toNodeS.calls k _ _ l0 t296 _ ?side1 ?side2 A7.out).mono ?_); (case side1 => repeat (first | exact (Kd.C_below HR0.out HB.out) | (with_reducible refine Kd.C_alloc ?_ _) | (with_reducible refine Kd.C_drewN ?_ _) | (with_reducible refine Kd.C_drew ?_))); (case side2 => exact HC0.out); rintro e w14 ⟨v297, rfl, ho0, hb⟩; refine ⟨_, rfl, ?_⟩; have n0_ := Aside0.mk (Kd.R_elder' (by (with_reducible repeat (first | apply Kd.R_alloc | apply Kd.R_drewN | apply Kd.R_drew)); exact HO293.out) (Kd.R_base ho0) hb); have n1_ := Aside0.mk (Kd.R_lower (Kd.R_new' ho0 (Kd.R_lt (by (with_reducible repeat (first | apply Kd.R_alloc | apply Kd.R_drewN | apply Kd.R_drew)); exact HO293.out))) (below_size (by repeat (first | (with_reducible first | exact HB.out | apply below_alloc | apply pw_below_drewN | apply below_drew1) | exact HB.out)))); have n2_ := Aside0.mk (below_step (by repeat (first | (with_reducible first | exact HB.out | apply below_alloc | apply pw_below_drewN | apply below_drew1) | exact HB.out)) hb); clear HO293; clear HB; have HO293 := n0_; have HO298 := n1_; have HB := n2_; clear n0_ n1_ n2_; (try clear hb); (try clear hb2); (try clear hk); (try clear hi); (try clear ho0); obtain ⟨Ao15, co15, eo15⟩ := Kd.R_slice HO298.out; subst eo15) | ((with_reducible refine gate_callee (f := 24) rfl ?_); refine goesL_ (some 24) rfl rfl Tryd.func24 (by kernel_rfl) rfl #[.slice Ao15 t296.length co15] rfl (by (try simp only [List.map_toArray, List.map_cons, List.map_nil]); first | done | rfl | (simp only [List.length_drop, List.length_take]; rfl)) ?_; (with_reducible refine (impl_ValueText.calls k _ _ t296 t299 t300 _ ?side1 ?side2 ?side3 A8.out).mono ?_); (case side1 => exact Go.Proofs.YtkfbdopfeacnfaaDoor.TabsV.Tabs0.of_below TB.out (by repeat (first | (with_reducible first | exact HB.out | apply below_alloc | apply pw_below_drewN | apply below_drew1) | exact HB.out))); (case side2 => repeat (first | exact (Kd.R_reads' HO298.out).2.2 | (with_reducible refine Kd.C_alloc ?_ _) | (with_reducible refine Kd.C_drewN ?_ _) | (with_reducible refine Kd.C_drew ?_))); (case side3 => exact (Kd.R_reads' HO298.out).2.1); rintro e w16 ⟨rfl, hb⟩; refine ⟨_, rfl, ?_⟩; have n0_ := Aside0.mk (Kd.R_below (by (with_reducible repeat (first | apply Kd.R_alloc | apply Kd.R_drewN | apply Kd.R_drew)); exact HO293.out) hb); have n1_ := Aside0.mk (Kd.R_below (by (with_reducible repeat (first | apply Kd.R_alloc | apply Kd.R_drewN | apply Kd.R_drew)); exact HO298.out) hb); have n2_ := Aside0.mk (below_step (by repeat (first | (with_reducible first | exact HB.out | apply below_alloc | apply pw_below_drewN | apply below_drew1) | exact HB.out)) hb); clear HO293; clear HO298; clear HB; have HO293 := n0_; have HO298 := n1_; have HB := n2_; clear n0_ n1_ n2_; (try clear hb); (try clear hb2); (try clear hk); (try clear hi)))
    (try simp only [Act.put, List.setIfInBounds_toArray, List.set_cons_zero, List.set_cons_succ])
    go_cut [34] (fun v34 wc => ∃ (kq : Nat) (x34_8 : Bool), v34 = .bool x34_8 ∧ Aside0 (laws_FnExactValueText.j0 kq l0 t296 x34_8 = some r) ∧ Aside0 (kq ≤ k) ∧ Aside0 (Kd.R k61 61 wc w.heap.size (fun _ => True) (.slice Ao15 t296.length co15) t296) ∧ Aside0 (Below w.heap.size w wc))
    case first =>
      have H := HC9.out
      clear HC9
      by_cases c17 : t299.toList = t294.toList
      · rw [if_pos c17] at H
        have c17b0 : (t299.toList == t294.toList) = true := beq_iff_eq.mpr c17
        have c17b1 : (t299.toList != t294.toList) = false := bne_eq_false_iff_eq.mpr c17
        clear c17
        (first | rw [c17b0] | (simp only [i64_w, i32_w]; rw [c17b0]) | skip)
        as_aux_lemma =>
          have H' := Aside0.mk H
          clear H
          go_wp2
          go_meet
          case rel => exact ⟨_, ((t300 != t295)), (by first | rfl | (simp; done) | (simp [*]; done) | (simp; apply Bool.eq_iff_iff.mpr; simp only [bne_iff_ne, ne_eq, beq_iff_eq]; omega)), H', ⟨by first | omega | exact Nat.le_refl _⟩, ⟨by (with_reducible repeat (first | apply Kd.R_alloc | apply Kd.R_drewN | apply Kd.R_drew)); exact Kd.R_mono HO298.out (fun _ hk => trivial)⟩, ⟨by repeat (first | (with_reducible first | exact HB.out | apply below_alloc | apply pw_below_drewN | apply below_drew1) | exact HB.out)⟩⟩
      · rw [if_neg c17] at H
        have c17b0 : (t299.toList == t294.toList) = false := beq_eq_false_iff_ne.mpr c17
        have c17b1 : (t299.toList != t294.toList) = true := bne_iff_ne.mpr c17
        (first | rw [c17b0] | (simp only [i64_w, i32_w]; rw [c17b0]) | skip)
        exfalso
        cases k with
        | zero => exact absurd H (by simp [laws_FnExactValueText.j0])
        | succ kz_ => rw [laws_FnExactValueText.j0, if_pos rfl] at H; exact absurd ((Option.some.inj H).trans HR_.out) (by decide)
    case rest =>
      clear HC9
      try clear c1
      try clear c2
      try clear p2
      try clear c3
      try clear c3b0
      try clear c7
      try clear c15
      try clear c17
      try clear c17b0
      try clear c17b1
      obtain ⟨kq, x34_8, rfl, HA, HJ8, HO_6, HB⟩ := hcut
      cases kq with
      | zero => exact absurd HA.out (by simp [laws_FnExactValueText.j0])
      | succ kj8 =>
        have H := HA.out
        clear HA
        simp only [laws_FnExactValueText.j0] at H
        by_cases c18 : x34_8 = true
        · subst c18
          have H1 : (some false) = some r := by rw [if_pos rfl] at H; exact H
          clear H
          have H := H1
          clear H1
          exact absurd ((Option.some.inj H).trans HR_.out) (by decide)
        · replace c18 := Bool.eq_false_iff.mpr c18
          subst c18
          have H1 : ((laws_toNodeS.f kj8 l0).bind fun t301 => ((laws_eqNodeS.f kj8 t296 t301).bind fun t304 => (if t304 = true then (some true) else (some false)))) = some r := by rw [if_neg (show ¬ (false = true) by decide)] at H; exact H
          clear H
          have H := H1
          clear H1
          replace H := Option.bind_eq_some_iff.mp H
          obtain ⟨t301, A190, H⟩ := H
          replace H : ((laws_eqNodeS.f kj8 t296 t301).bind fun t304 => (if t304 = true then (some true) else (some false))) = some r := H
          have A19 := Aside0.mk A190
          clear A190
          replace H := Option.bind_eq_some_iff.mp H
          obtain ⟨t304, A200, H⟩ := H
          replace H : (if t304 = true then (some true) else (some false)) = some r := H
          have A20 := Aside0.mk A200
          clear A200
          by_cases c21 : t304 = true
          · subst c21
            have H1 : (some true) = some r := by rw [if_pos rfl] at H; exact H
            clear H
            have H := H1
            clear H1
            as_aux_lemma =>
              obtain rfl := Option.some.inj H
              go_wp2_with (first | ((with_reducible refine gate_callee (f := 17) rfl ?_); refine goesL_ (some 37) rfl rfl Tryd.func17 (by kernel_rfl) rfl #[.slice A0 l0.length c0] rfl (by (try simp only [List.map_toArray, List.map_cons, List.map_nil]); first | done | rfl | (simp only [List.length_drop, List.length_take]; rfl)) ?_; (with_reducible refine (laws_toNodeS.calls kj8 _ _ l0 t301 _ ?side1 ?side2 A19.out).mono ?_); (case side1 => repeat (first | exact (Kd.C_below HR0.out HB.out) | (with_reducible refine Kd.C_alloc ?_ _) | (with_reducible refine Kd.C_drewN ?_ _) | (with_reducible refine Kd.C_drew ?_))); (case side2 => exact HC0.out); rintro e w22 ⟨v302, rfl, ho0, hb⟩; refine ⟨_, rfl, ?_⟩; have n0_ := Aside0.mk (Kd.R_elder' (by (with_reducible repeat (first | apply Kd.R_alloc | apply Kd.R_drewN | apply Kd.R_drew)); exact HO_6.out) (Kd.R_base ho0) hb); have n1_ := Aside0.mk (Kd.R_lower (Kd.R_new' ho0 (Kd.R_lt (by (with_reducible repeat (first | apply Kd.R_alloc | apply Kd.R_drewN | apply Kd.R_drew)); exact HO_6.out))) (below_size (by repeat (first | (with_reducible first | exact HB.out | apply below_alloc | apply pw_below_drewN | apply below_drew1) | exact HB.out)))); have n2_ := Aside0.mk (below_step (by repeat (first | (with_reducible first | exact HB.out | apply below_alloc | apply pw_below_drewN | apply below_drew1) | exact HB.out)) hb); clear HO_6; clear HB; have HO_6 := n0_; have HO303 := n1_; have HB := n2_; clear n0_ n1_ n2_; (try clear hb); (try clear hb2); (try clear hk); (try clear hi); (try clear ho0); obtain ⟨Ao23, co23, eo23⟩ := Kd.R_slice HO303.out; subst eo23) | ((with_reducible refine gate_callee (f := 12) rfl ?_); refine goesL_ (some 38) rfl rfl Tryd.func12 (by kernel_rfl) rfl #[.slice Ao15 t296.length co15, .slice Ao23 t301.length co23] rfl (by (try simp only [List.map_toArray, List.map_cons, List.map_nil]); first | done | rfl | (simp only [List.length_drop, List.length_take]; rfl)) ?_; (with_reducible refine (laws_eqNodeS.calls kj8 _ _ t296 _ _ t301 true _ ?side1 ?side2 ?side3 ?side4 A20.out).mono ?_); (case side1 => repeat (first | exact (Kd.R_reads' HO_6.out).2.2 | (with_reducible refine Kd.C_alloc ?_ _) | (with_reducible refine Kd.C_drewN ?_ _) | (with_reducible refine Kd.C_drew ?_))); (case side2 => exact (Kd.R_reads' HO_6.out).2.1); (case side3 => repeat (first | exact (Kd.R_reads' HO303.out).2.2 | (with_reducible refine Kd.C_alloc ?_ _) | (with_reducible refine Kd.C_drewN ?_ _) | (with_reducible refine Kd.C_drew ?_))); (case side4 => exact (Kd.R_reads' HO303.out).2.1); rintro e w24 ⟨rfl, hb⟩; refine ⟨_, rfl, ?_⟩; have n0_ := Aside0.mk (Kd.R_below (by (with_reducible repeat (first | apply Kd.R_alloc | apply Kd.R_drewN | apply Kd.R_drew)); exact HO_6.out) hb); have n1_ := Aside0.mk (Kd.R_below (by (with_reducible repeat (first | apply Kd.R_alloc | apply Kd.R_drewN | apply Kd.R_drew)); exact HO303.out) hb); have n2_ := Aside0.mk (below_step (by repeat (first | (with_reducible first | exact HB.out | apply below_alloc | apply pw_below_drewN | apply below_drew1) | exact HB.out)) hb); clear HO_6; clear HO303; clear HB; have HO_6 := n0_; have HO303 := n1_; have HB := n2_; clear n0_ n1_ n2_; (try clear hb); (try clear hb2); (try clear hk); (try clear hi)))
              go_ret
              exact ⟨by first | rfl | (simp [errW_none, errW_some] <;> rfl) | (simp [*, errW_none, errW_some] <;> rfl), by repeat (first | (with_reducible first | exact HB.out | apply below_alloc | apply pw_below_drewN | apply below_drew1) | exact HB.out)⟩
          · replace c21 := Bool.eq_false_iff.mpr c21
            subst c21
            have H1 : (some false) = some r := by rw [if_neg (show ¬ (false = true) by decide)] at H; exact H
            clear H
            have H := H1
            clear H1
            exact absurd ((Option.some.inj H).trans HR_.out) (by decide)

end
end Go.Proofs.YtkfbdopfeacnfaaDoor.PFnExactValueText
