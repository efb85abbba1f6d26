-- Printed for this claim by a changed copy of the kit's printing program (wip/tools/patch_print.py); Lean checks it.
import Derived.Test.YtgoedenbekedbaaDoorPFnArmorx0
import Derived.Test.YtgoedenbekedbaaDoorPFnArmorx1
namespace Go.Proofs.YtgoedenbekedbaaDoor.PFnArmor
open Go.RowKit Go.Proofs.YtgoedenbekedbaaDoorW.PrintWords Go.Proofs.YtgoedenbekedbaaDoorW.PrintLast Go.Proofs.YtgoedenbekedbaaDoorW.PrintMore
attribute [local go_sem] max2_int min2_int max_two min_two max_three min_three max_four min_four   -- for this text's walks alone
set_option linter.unusedVariables false
set_option linter.unusedSimpArgs false

noncomputable section
/-! ### impl_signsOf: function 114 -/
def sg_alpha : List UInt8 := [65, 66, 67, 68, 69, 70, 71, 72, 73, 74, 75, 76, 77, 78, 79, 80, 81, 82, 83, 84, 85, 86, 87, 88, 89, 90, 97, 98, 99, 100, 101, 102, 103, 104, 105, 106, 107, 108, 109, 110, 111, 112, 113, 114, 115, 116, 117, 118, 119, 120, 121, 122, 48, 49, 50, 51, 52, 53, 54, 55, 56, 57, 43, 47]
def sg_b (g : List UInt8) (i : Nat) : Nat := (g.getD i 0).toNat
/-- The number of a group's first k bytes, the lacking ones zero. -/
def sg_num (g : List UInt8) : Nat → Nat
  | 0 => 0
  | k + 1 => sg_num g k * 256 + sg_b g k
def sg_one (g : List UInt8) (i : Nat) : UInt8 := if g.length < i then 61 else sg_alpha.getD (sg_num g 3 / 2 ^ (18 - 6 * i) % 64) 0
def sg_quad (g : List UInt8) : List UInt8 := [sg_one g 0, sg_one g 1, sg_one g 2, sg_one g 3]
def sg_all : Nat → List UInt8 → List UInt8
  | 0, _ => []
  | f + 1, l => if l = [] then [] else sg_quad (l.take 3) ++ sg_all f (l.drop 3)
theorem sg_b_lt (g : List UInt8) (i : Nat) : sg_b g i < 256 := UInt8.toNat_lt _
theorem sg_num_lt (g : List UInt8) : ∀ k, sg_num g k < 256 ^ k
  | 0 => by simp [sg_num]
  | k + 1 => by have := sg_num_lt g k; have := sg_b_lt g k; rw [sg_num, Nat.pow_succ]; omega
theorem sg_and63 (x : Int) (h0 : 0 ≤ x) (h1 : x < 9223372036854775808) : Go.bits .and .i64 x 63 = x % 64 := by
  have h := bits_mask .i64 63 (by decide) (fun n h₀ h₁ => by rw [IntKind.wrap_i64]; omega) 6 (by decide) x h0 (by omega)
  simpa using h
theorem sg_or (v b : Int) (h0 : 0 ≤ v) (h1 : v < 4611686018427387904) (hv : v % 256 = 0) (h2 : 0 ≤ b) (h3 : b < 256) : Go.bits .or .i64 v b = v + b :=
  bits_join .i64 63 (by decide) (fun n h₀ h₁ => by rw [IntKind.wrap_i64]; omega) 8 _ _ h0 hv (by omega) h2 (by omega) (by omega)
theorem sg_all_nil (f : Nat) : sg_all f [] = [] := by cases f <;> simp [sg_all]
theorem sg_all_more : ∀ (f : Nat) (l : List UInt8), l.length ≤ f → sg_all (f + 1) l = sg_all f l
  | 0, l, h => by have : l = [] := List.eq_nil_of_length_eq_zero (by omega); subst this; simp [sg_all]
  | f + 1, l, h => by
    rw [show sg_all (f + 1 + 1) l = if l = [] then [] else sg_quad (l.take 3) ++ sg_all (f + 1) (l.drop 3) from rfl, show sg_all (f + 1) l = if l = [] then [] else sg_quad (l.take 3) ++ sg_all f (l.drop 3) from rfl]
    by_cases e : l = []
    · rw [if_pos e, if_pos e]
    · have : 0 < l.length := List.length_pos_iff.2 e
      rw [if_neg e, if_neg e, sg_all_more f (l.drop 3) (by rw [List.length_drop]; omega)]
def sg_of (l : List UInt8) : List UInt8 := sg_all l.length l
theorem sg_all_of (l : List UInt8) : ∀ d, sg_all (l.length + d) l = sg_of l
  | 0 => rfl
  | d + 1 => by rw [← Nat.add_assoc, sg_all_more _ _ (by omega)]; exact sg_all_of l d
theorem sg_of_cons (l : List UInt8) (h : l ≠ []) : sg_of l = sg_quad (l.take 3) ++ sg_of (l.drop 3) := by
  have h0 : 0 < l.length := List.length_pos_iff.2 h
  obtain ⟨n, hn⟩ : ∃ n, l.length = n + 1 := ⟨l.length - 1, by omega⟩
  have hd : (l.drop 3).length + (n - (l.drop 3).length) = n := by rw [List.length_drop]; omega
  rw [sg_of, hn, sg_all, if_neg h, ← sg_all_of (l.drop 3) (n - (l.drop 3).length), hd]
theorem sg_quad_len (g : List UInt8) : (sg_quad g).length = 4 := rfl
theorem sg_of_len : ∀ (n : Nat) (l : List UInt8), l.length ≤ n → (sg_of l).length ≤ 4 * l.length + 0
  | 0, l, h => by have : l = [] := List.eq_nil_of_length_eq_zero (by omega); subst this; simp [sg_of, sg_all]
  | n + 1, l, h => by
    by_cases e : l = []
    · subst e; simp [sg_of, sg_all]
    · have h0 : 0 < l.length := List.length_pos_iff.2 e
      have := sg_of_len n (l.drop 3) (by rw [List.length_drop]; omega)
      rw [sg_of_cons l e, List.length_append, sg_quad_len]
      rw [List.length_drop] at this
      omega
def impl_signsOf.f (a0 : ByteArray) : Option ByteArray := if a0.size ≤ 1000000000000 then some ⟨(sg_of a0.data.toList).toArray⟩ else none
theorem sg_bt (t : ByteArray) (k : Nat) : ((t.data.toList.getD k 0).toNat : Int) = bt t k := by
  unfold bt
  by_cases h : k < t.size
  · have h' : (k : Int).toNat < t.size := by simpa using h
    rw [dif_pos h', List.getD_eq_getElem?_getD, List.getElem?_eq_getElem (by rw [data_length]; exact h)]
    simp; rfl
  · have h' : ¬ (k : Int).toNat < t.size := by simpa using h
    rw [dif_neg h', List.getD_eq_getElem?_getD, List.getElem?_eq_none (by rw [data_length]; omega)]
    rfl
theorem sg_cell (c : UInt8) : [Value.int .u8 (c.toNat : Int)] = Lib.byteCells [c] := rfl
theorem sg_alpha_at (X : Nat) (xl : X < 64) (h : X < (⟨#[65, 66, 67, 68, 69, 70, 71, 72, 73, 74, 75, 76, 77, 78, 79, 80, 81, 82, 83, 84, 85, 86, 87, 88, 89, 90, 97, 98, 99, 100, 101, 102, 103, 104, 105, 106, 107, 108, 109, 110, 111, 112, 113, 114, 115, 116, 117, 118, 119, 120, 121, 122, 48, 49, 50, 51, 52, 53, 54, 55, 56, 57, 43, 47]⟩ : ByteArray).size) : (((⟨#[65, 66, 67, 68, 69, 70, 71, 72, 73, 74, 75, 76, 77, 78, 79, 80, 81, 82, 83, 84, 85, 86, 87, 88, 89, 90, 97, 98, 99, 100, 101, 102, 103, 104, 105, 106, 107, 108, 109, 110, 111, 112, 113, 114, 115, 116, 117, 118, 119, 120, 121, 122, 48, 49, 50, 51, 52, 53, 54, 55, 56, 57, 43, 47]⟩ : ByteArray)[X]'h).toNat : Int) = ((sg_alpha.getD X 0).toNat : Int) := by
  rw [List.getD_eq_getElem?_getD, List.getElem?_eq_getElem (show X < sg_alpha.length from xl)]
  rfl
set_option maxHeartbeats 8000000 in
set_option maxRecDepth 100000 in
theorem impl_signsOf.calls (a0 : ByteArray) (r : ByteArray) (w : World) (h : impl_signsOf.f a0 = some r) :
    Calls Tryd.prog 114 #[.string a0] w fun e w' => e = .returned (.string r) ∧ Below w.heap.size w w' := by
  unfold impl_signsOf.f at h
  by_cases hl : a0.size ≤ 1000000000000
  rotate_left
  · rw [if_neg hl] at h; cases h
  rw [if_pos hl] at h
  obtain rfl := Option.some.inj h
  have HS := Aside0.mk hl
  have HF := Aside0.mk (Go.Proofs.YtgoedenbekedbaaDoor.Bld.fresh w)
  have HB := Aside0.mk (Below.refl w.heap.size w)
  clear hl h
  go_enter Tryd.func114, Tryd.ntmps114
  go_wp2
  go_loopw [0] (fun v wr => ∃ (t : ByteArray) (acc : List UInt8), v = .string t ∧ Aside0 (t.size ≤ a0.size) ∧ Aside0 (acc.length ≤ 4 * (a0.size - t.size)) ∧ Aside0 (Lib.IsBuilder 122 5 w.heap.size w.heap.size (Lib.byteCells acc) wr) ∧ Aside0 (Below w.heap.size w wr) ∧ Aside0 (acc ++ sg_of t.data.toList = sg_of a0.data.toList)) (fun v _ => match v with | .string t => t.size | _ => 0)
  case atStart => exact ⟨a0, [], rfl, ⟨Nat.le_refl _⟩, ⟨by simp⟩, HF, ⟨below_alloc HB.out _⟩, ⟨rfl⟩⟩
  case round =>
    clear HF HB
    obtain ⟨t, acc, rfl, HT, HA, HI, HB, HE⟩ := hrel
    by_cases c3 : t.toList = ([] : List UInt8)
    · have c3b0 : (t.toList == ([] : List UInt8)) = true := beq_iff_eq.mpr c3
      have c3b1 : (t.toList != ([] : List UInt8)) = false := bne_eq_false_iff_eq.mpr c3
      have C3 := Aside0.mk c3
      clear c3
      go_wp2_with (go_at_call 148; (with_reducible refine (Go.Proofs.YtgoedenbekedbaaDoor.Bld.string w.heap.size w.heap.size acc _ HI.out (below_size HB.out)).mono ?_); rintro e w2 ⟨rfl, hb⟩; have n0_ := Aside0.mk (HB.out.trans hb); clear HB hb; have HB := n0_; clear n0_)
      go_ret
      have e := HE.out
      have c3 := C3.out
      rw [ByteArray.toList_eq] at c3
      rw [c3, show sg_of [] = [] from rfl, List.append_nil] at e
      exact ⟨by rw [e]; rfl, HB.out⟩
    · have c3b0 : (t.toList == ([] : List UInt8)) = false := beq_eq_false_iff_ne.mpr c3
      have c3b1 : (t.toList != ([] : List UInt8)) = true := bne_iff_ne.mpr c3
      have hz : 0 < t.size := by
        rcases Nat.eq_zero_or_pos t.size with h0 | h0
        · exact absurd (by rw [ByteArray.toList_eq]; exact List.eq_nil_of_length_eq_zero (by rw [data_length]; exact h0)) c3
        · exact h0
      have hT := HT.out
      have hS := HS.out
      obtain ⟨J, hJ⟩ : ∃ J : Nat, J = min 3 t.size := ⟨_, rfl⟩
      have j1 : 1 ≤ J := by omega
      have j3 : J ≤ 3 := by omega
      have jt : J ≤ t.size := by omega
      have hJ_ : (if (t.size : Int) < 3 then (t.size : Int) else 3) = (J : Int) := by split <;> omega
      obtain ⟨G, hG⟩ : ∃ G, t.extract 0 J = G := ⟨_, rfl⟩
      have gs : G.size = J := by rw [← hG]; simp [ByteArray.size_extract]; omega
      have gd : G.data.toList = t.data.toList.take 3 := by
        rw [← hG]
        simp only [ByteArray.data_extract, Array.toList_extract, List.extract_eq_take_drop, List.drop_zero, Nat.sub_zero]
        rw [hJ]
        rcases Nat.le_total 3 t.size with q | q
        · rw [Nat.min_eq_left q]
        · rw [Nat.min_eq_right q, List.take_of_length_le (by rw [data_length]; omega), List.take_of_length_le (by rw [data_length]; omega)]
      have GS := Aside0.mk gs
      have GD := Aside0.mk gd
      have J_ := Aside0.mk hJ
      clear hJ gs gd
      go_wp2
      go_loop [5, 20] (fun n i => ∃ k : Nat, k ≤ 3 ∧ i = .int .i64 k ∧ n = .int .i64 (sg_num G.data.toList k)) (fun _ i => 3 - (intOf i).toNat)
      case atStart => exact ⟨0, by omega, rfl, rfl⟩
      case round =>
        obtain ⟨k, hk, rfl, rfl⟩ := hrel
        have nl := sg_num_lt G.data.toList k
        have GSo := GS.out
        by_cases e3 : k = 3
        · subst e3
          have HI0 := HI
          have HB0 := HB
          clear HI HB
          have nl3 := sg_num_lt G.data.toList 3
          obtain ⟨N, hN⟩ : ∃ N, sg_num G.data.toList 3 = N := ⟨_, rfl⟩
          have HN := Aside0.mk hN
          rw [hN] at nl3
          simp only [hN]
          clear hN
          have m0 : (0 : Int) ≤ (N : Int) := by omega
          have m1 : (N : Int) ≤ 16777215 := by omega
          go_wp2
          go_loopw [36] (fun i wr2 => ∃ k : Nat, k ≤ 4 ∧ i = .int .i64 k ∧ Aside0 (Lib.IsBuilder 122 5 w.heap.size w.heap.size (Lib.byteCells (acc ++ (sg_quad G.data.toList).take k)) wr2) ∧ Aside0 (Below w.heap.size w wr2)) (fun i _ => 4 - (intOf i).toNat)
          case atStart => exact ⟨0, by omega, rfl, by simpa using HI0, HB0⟩
          case round =>
            clear HI0 HB0
            obtain ⟨k2, hk2, rfl, HI, HB⟩ := hrel
            by_cases e4 : k2 = 4
            · subst e4
              have es : (t.extract J t.size).size = t.size - J := by simp [ByteArray.size_extract]
              have ed : (t.extract J t.size).data.toList = t.data.toList.drop 3 := by
                simp only [ByteArray.data_extract, Array.toList_extract, List.extract_eq_take_drop]
                rw [List.take_of_length_le (by rw [List.length_drop, data_length]; omega)]
                have jj := J_.out
                rcases Nat.le_total 3 t.size with q | q
                · rw [jj, Nat.min_eq_left q]
                · rw [jj, Nat.min_eq_right q, (List.drop_eq_nil_iff (l := t.data.toList) (i := t.size)).2 (by rw [data_length]; omega), (List.drop_eq_nil_iff (l := t.data.toList) (i := 3)).2 (by rw [data_length]; omega)]
              have ES := Aside0.mk es
              have ED := Aside0.mk ed
              clear es ed
              go_wp2
              go_roundw
              case rel =>
                refine ⟨t.extract J t.size, acc ++ sg_quad G.data.toList, rfl, ⟨by have := ES.out; omega⟩, ⟨?_⟩, HI, HB, ⟨?_⟩⟩
                · have := HA.out; have := ES.out; rw [List.length_append, sg_quad_len]; omega
                · have e := HE.out
                  have hne : t.data.toList ≠ [] := fun e0 => by have h9 := congrArg List.length e0; rw [data_length, List.length_nil] at h9; omega
                  rw [sg_of_cons _ hne, ← GD.out, ← ED.out, ← List.append_assoc] at e
                  exact e
              case measure => have := ES.out; simp only [Array.getD_eq_getD_getElem?]; simp; omega
            · have GSo := GS.out
              obtain rfl | rfl | rfl | rfl : k2 = 0 ∨ k2 = 1 ∨ k2 = 2 ∨ k2 = 3 := by omega
              · by_cases q : G.size < 0
                · exact absurd q (by have := GS.out; omega)
                · skip
                  have q1 : decide (G.size < 0) = false := decide_eq_false q
                  have q2 : decide ((0 : Int) > (G.size : Int)) = false := decide_eq_false (by omega)
                  obtain ⟨X, hX⟩ : ∃ X : Nat, X = N / 2 ^ (18 - 6 * 0) % 64 := ⟨_, rfl⟩
                  have xl : X < 64 := by rw [hX]; exact Nat.mod_lt _ (by decide)
                  have hN : Go.bits .and .i64 ((N : Int) / 262144) 63 = (X : Int) := by rw [sg_and63 _ (by omega) (by omega), hX]; omega
                  obtain ⟨C, hC⟩ : ∃ C : Nat, C = (sg_alpha.getD X 0).toNat := ⟨_, rfl⟩
                  have one : (sg_one G.data.toList 0).toNat = C := by unfold sg_one; rw [if_neg (by rw [data_length]; exact q), HN.out, hC, hX]
                  have ONE := Aside0.mk one
                  have hx : ∀ h : X < (⟨#[65, 66, 67, 68, 69, 70, 71, 72, 73, 74, 75, 76, 77, 78, 79, 80, 81, 82, 83, 84, 85, 86, 87, 88, 89, 90, 97, 98, 99, 100, 101, 102, 103, 104, 105, 106, 107, 108, 109, 110, 111, 112, 113, 114, 115, 116, 117, 118, 119, 120, 121, 122, 48, 49, 50, 51, 52, 53, 54, 55, 56, 57, 43, 47]⟩ : ByteArray).size, (((⟨#[65, 66, 67, 68, 69, 70, 71, 72, 73, 74, 75, 76, 77, 78, 79, 80, 81, 82, 83, 84, 85, 86, 87, 88, 89, 90, 97, 98, 99, 100, 101, 102, 103, 104, 105, 106, 107, 108, 109, 110, 111, 112, 113, 114, 115, 116, 117, 118, 119, 120, 121, 122, 48, 49, 50, 51, 52, 53, 54, 55, 56, 57, 43, 47]⟩ : ByteArray)[X]'h).toNat : Int) = (C : Int) := fun h => by rw [hC]; exact sg_alpha_at X xl h
                  have x0 := eq_true (show (0 : Int) ≤ (X : Int) by omega)
                  have x1 := eq_true (show (X : Int) < 64 by omega)
                  have x2 := eq_true xl
                  clear one hC
                  clear hX
                  go_wp2_with (go_at_call 147; (with_reducible refine (Go.Proofs.YtgoedenbekedbaaDoor.Bld.writeByte w.heap.size w.heap.size _ (C : Int) _ HI.out (by rw [Lib.byteCells_length]; have := HA.out; have := HS.out; simp [sg_quad]; omega) (below_size HB.out)).mono ?_); rintro e w2 ⟨rfl, hI, hb⟩; have n0_ := Aside0.mk (HB.out.trans hb); have n1_ := Aside0.mk hI; clear HB HI hI hb; have HB := n0_; have HI := n1_; clear n0_ n1_)
                  go_roundw
                  case rel => exact ⟨1, by omega, by go_num, by have h := HI.out; rw [show [Value.int .u8 (C : Int)] = Lib.byteCells [sg_one G.data.toList 0] by rw [← ONE.out]; rfl, ← Lib.byteCells_append, List.append_assoc] at h; exact ⟨h⟩, HB⟩
                  case measure => simp [intOf]
              · by_cases q : G.size < 1
                · exact absurd q (by have := GS.out; omega)
                · skip
                  have q1 : decide (G.size < 1) = false := decide_eq_false q
                  have q2 : decide ((1 : Int) > (G.size : Int)) = false := decide_eq_false (by omega)
                  obtain ⟨X, hX⟩ : ∃ X : Nat, X = N / 2 ^ (18 - 6 * 1) % 64 := ⟨_, rfl⟩
                  have xl : X < 64 := by rw [hX]; exact Nat.mod_lt _ (by decide)
                  have hN : Go.bits .and .i64 ((N : Int) / 4096) 63 = (X : Int) := by rw [sg_and63 _ (by omega) (by omega), hX]; omega
                  obtain ⟨C, hC⟩ : ∃ C : Nat, C = (sg_alpha.getD X 0).toNat := ⟨_, rfl⟩
                  have one : (sg_one G.data.toList 1).toNat = C := by unfold sg_one; rw [if_neg (by rw [data_length]; exact q), HN.out, hC, hX]
                  have ONE := Aside0.mk one
                  have hx : ∀ h : X < (⟨#[65, 66, 67, 68, 69, 70, 71, 72, 73, 74, 75, 76, 77, 78, 79, 80, 81, 82, 83, 84, 85, 86, 87, 88, 89, 90, 97, 98, 99, 100, 101, 102, 103, 104, 105, 106, 107, 108, 109, 110, 111, 112, 113, 114, 115, 116, 117, 118, 119, 120, 121, 122, 48, 49, 50, 51, 52, 53, 54, 55, 56, 57, 43, 47]⟩ : ByteArray).size, (((⟨#[65, 66, 67, 68, 69, 70, 71, 72, 73, 74, 75, 76, 77, 78, 79, 80, 81, 82, 83, 84, 85, 86, 87, 88, 89, 90, 97, 98, 99, 100, 101, 102, 103, 104, 105, 106, 107, 108, 109, 110, 111, 112, 113, 114, 115, 116, 117, 118, 119, 120, 121, 122, 48, 49, 50, 51, 52, 53, 54, 55, 56, 57, 43, 47]⟩ : ByteArray)[X]'h).toNat : Int) = (C : Int) := fun h => by rw [hC]; exact sg_alpha_at X xl h
                  have x0 := eq_true (show (0 : Int) ≤ (X : Int) by omega)
                  have x1 := eq_true (show (X : Int) < 64 by omega)
                  have x2 := eq_true xl
                  clear one hC
                  clear hX
                  go_wp2_with (go_at_call 147; (with_reducible refine (Go.Proofs.YtgoedenbekedbaaDoor.Bld.writeByte w.heap.size w.heap.size _ (C : Int) _ HI.out (by rw [Lib.byteCells_length]; have := HA.out; have := HS.out; simp [sg_quad]; omega) (below_size HB.out)).mono ?_); rintro e w2 ⟨rfl, hI, hb⟩; have n0_ := Aside0.mk (HB.out.trans hb); have n1_ := Aside0.mk hI; clear HB HI hI hb; have HB := n0_; have HI := n1_; clear n0_ n1_)
                  go_roundw
                  case rel => exact ⟨2, by omega, by go_num, by have h := HI.out; rw [show [Value.int .u8 (C : Int)] = Lib.byteCells [sg_one G.data.toList 1] by rw [← ONE.out]; rfl, ← Lib.byteCells_append, List.append_assoc] at h; exact ⟨h⟩, HB⟩
                  case measure => simp [intOf]
              · by_cases q : G.size < 2
                · skip
                  have q1 : decide (G.size < 2) = true := decide_eq_true q
                  have q2 : decide ((2 : Int) > (G.size : Int)) = true := decide_eq_true (by omega)
                  have one : sg_one G.data.toList 2 = 61 := by unfold sg_one; rw [if_pos (by rw [data_length]; exact q)]
                  have ONE := Aside0.mk one
                  clear one
                  go_wp2_with (go_at_call 147; (with_reducible refine (Go.Proofs.YtgoedenbekedbaaDoor.Bld.writeByte w.heap.size w.heap.size _ 61 _ HI.out (by rw [Lib.byteCells_length]; have := HA.out; have := HS.out; simp [sg_quad]; omega) (below_size HB.out)).mono ?_); rintro e w2 ⟨rfl, hI, hb⟩; have n0_ := Aside0.mk (HB.out.trans hb); have n1_ := Aside0.mk hI; clear HB HI hI hb; have HB := n0_; have HI := n1_; clear n0_ n1_)
                  go_roundw
                  case rel => exact ⟨3, by omega, by go_num, by have h := HI.out; rw [show [Value.int .u8 61] = Lib.byteCells [sg_one G.data.toList 2] by rw [ONE.out]; rfl, ← Lib.byteCells_append, List.append_assoc] at h; exact ⟨h⟩, HB⟩
                  case measure => simp [intOf]
                · skip
                  have q1 : decide (G.size < 2) = false := decide_eq_false q
                  have q2 : decide ((2 : Int) > (G.size : Int)) = false := decide_eq_false (by omega)
                  obtain ⟨X, hX⟩ : ∃ X : Nat, X = N / 2 ^ (18 - 6 * 2) % 64 := ⟨_, rfl⟩
                  have xl : X < 64 := by rw [hX]; exact Nat.mod_lt _ (by decide)
                  have hN : Go.bits .and .i64 ((N : Int) / 64) 63 = (X : Int) := by rw [sg_and63 _ (by omega) (by omega), hX]; omega
                  obtain ⟨C, hC⟩ : ∃ C : Nat, C = (sg_alpha.getD X 0).toNat := ⟨_, rfl⟩
                  have one : (sg_one G.data.toList 2).toNat = C := by unfold sg_one; rw [if_neg (by rw [data_length]; exact q), HN.out, hC, hX]
                  have ONE := Aside0.mk one
                  have hx : ∀ h : X < (⟨#[65, 66, 67, 68, 69, 70, 71, 72, 73, 74, 75, 76, 77, 78, 79, 80, 81, 82, 83, 84, 85, 86, 87, 88, 89, 90, 97, 98, 99, 100, 101, 102, 103, 104, 105, 106, 107, 108, 109, 110, 111, 112, 113, 114, 115, 116, 117, 118, 119, 120, 121, 122, 48, 49, 50, 51, 52, 53, 54, 55, 56, 57, 43, 47]⟩ : ByteArray).size, (((⟨#[65, 66, 67, 68, 69, 70, 71, 72, 73, 74, 75, 76, 77, 78, 79, 80, 81, 82, 83, 84, 85, 86, 87, 88, 89, 90, 97, 98, 99, 100, 101, 102, 103, 104, 105, 106, 107, 108, 109, 110, 111, 112, 113, 114, 115, 116, 117, 118, 119, 120, 121, 122, 48, 49, 50, 51, 52, 53, 54, 55, 56, 57, 43, 47]⟩ : ByteArray)[X]'h).toNat : Int) = (C : Int) := fun h => by rw [hC]; exact sg_alpha_at X xl h
                  have x0 := eq_true (show (0 : Int) ≤ (X : Int) by omega)
                  have x1 := eq_true (show (X : Int) < 64 by omega)
                  have x2 := eq_true xl
                  clear one hC
                  clear hX
                  go_wp2_with (go_at_call 147; (with_reducible refine (Go.Proofs.YtgoedenbekedbaaDoor.Bld.writeByte w.heap.size w.heap.size _ (C : Int) _ HI.out (by rw [Lib.byteCells_length]; have := HA.out; have := HS.out; simp [sg_quad]; omega) (below_size HB.out)).mono ?_); rintro e w2 ⟨rfl, hI, hb⟩; have n0_ := Aside0.mk (HB.out.trans hb); have n1_ := Aside0.mk hI; clear HB HI hI hb; have HB := n0_; have HI := n1_; clear n0_ n1_)
                  go_roundw
                  case rel => exact ⟨3, by omega, by go_num, by have h := HI.out; rw [show [Value.int .u8 (C : Int)] = Lib.byteCells [sg_one G.data.toList 2] by rw [← ONE.out]; rfl, ← Lib.byteCells_append, List.append_assoc] at h; exact ⟨h⟩, HB⟩
                  case measure => simp [intOf]
              · by_cases q : G.size < 3
                · skip
                  have q1 : decide (G.size < 3) = true := decide_eq_true q
                  have q2 : decide ((3 : Int) > (G.size : Int)) = true := decide_eq_true (by omega)
                  have one : sg_one G.data.toList 3 = 61 := by unfold sg_one; rw [if_pos (by rw [data_length]; exact q)]
                  have ONE := Aside0.mk one
                  clear one
                  go_wp2_with (go_at_call 147; (with_reducible refine (Go.Proofs.YtgoedenbekedbaaDoor.Bld.writeByte w.heap.size w.heap.size _ 61 _ HI.out (by rw [Lib.byteCells_length]; have := HA.out; have := HS.out; simp [sg_quad]; omega) (below_size HB.out)).mono ?_); rintro e w2 ⟨rfl, hI, hb⟩; have n0_ := Aside0.mk (HB.out.trans hb); have n1_ := Aside0.mk hI; clear HB HI hI hb; have HB := n0_; have HI := n1_; clear n0_ n1_)
                  go_roundw
                  case rel => exact ⟨4, by omega, by go_num, by have h := HI.out; rw [show [Value.int .u8 61] = Lib.byteCells [sg_one G.data.toList 3] by rw [ONE.out]; rfl, ← Lib.byteCells_append, List.append_assoc] at h; exact ⟨h⟩, HB⟩
                  case measure => simp [intOf]
                · skip
                  have q1 : decide (G.size < 3) = false := decide_eq_false q
                  have q2 : decide ((3 : Int) > (G.size : Int)) = false := decide_eq_false (by omega)
                  obtain ⟨X, hX⟩ : ∃ X : Nat, X = N / 2 ^ (18 - 6 * 3) % 64 := ⟨_, rfl⟩
                  have xl : X < 64 := by rw [hX]; exact Nat.mod_lt _ (by decide)
                  have hN : Go.bits .and .i64 ((N : Int)) 63 = (X : Int) := by rw [sg_and63 _ (by omega) (by omega), hX]; omega
                  obtain ⟨C, hC⟩ : ∃ C : Nat, C = (sg_alpha.getD X 0).toNat := ⟨_, rfl⟩
                  have one : (sg_one G.data.toList 3).toNat = C := by unfold sg_one; rw [if_neg (by rw [data_length]; exact q), HN.out, hC, hX]
                  have ONE := Aside0.mk one
                  have hx : ∀ h : X < (⟨#[65, 66, 67, 68, 69, 70, 71, 72, 73, 74, 75, 76, 77, 78, 79, 80, 81, 82, 83, 84, 85, 86, 87, 88, 89, 90, 97, 98, 99, 100, 101, 102, 103, 104, 105, 106, 107, 108, 109, 110, 111, 112, 113, 114, 115, 116, 117, 118, 119, 120, 121, 122, 48, 49, 50, 51, 52, 53, 54, 55, 56, 57, 43, 47]⟩ : ByteArray).size, (((⟨#[65, 66, 67, 68, 69, 70, 71, 72, 73, 74, 75, 76, 77, 78, 79, 80, 81, 82, 83, 84, 85, 86, 87, 88, 89, 90, 97, 98, 99, 100, 101, 102, 103, 104, 105, 106, 107, 108, 109, 110, 111, 112, 113, 114, 115, 116, 117, 118, 119, 120, 121, 122, 48, 49, 50, 51, 52, 53, 54, 55, 56, 57, 43, 47]⟩ : ByteArray)[X]'h).toNat : Int) = (C : Int) := fun h => by rw [hC]; exact sg_alpha_at X xl h
                  have x0 := eq_true (show (0 : Int) ≤ (X : Int) by omega)
                  have x1 := eq_true (show (X : Int) < 64 by omega)
                  have x2 := eq_true xl
                  clear one hC
                  clear hX
                  go_wp2_with (go_at_call 147; (with_reducible refine (Go.Proofs.YtgoedenbekedbaaDoor.Bld.writeByte w.heap.size w.heap.size _ (C : Int) _ HI.out (by rw [Lib.byteCells_length]; have := HA.out; have := HS.out; simp [sg_quad]; omega) (below_size HB.out)).mono ?_); rintro e w2 ⟨rfl, hI, hb⟩; have n0_ := Aside0.mk (HB.out.trans hb); have n1_ := Aside0.mk hI; clear HB HI hI hb; have HB := n0_; have HI := n1_; clear n0_ n1_)
                  go_roundw
                  case rel => exact ⟨4, by omega, by go_num, by have h := HI.out; rw [show [Value.int .u8 (C : Int)] = Lib.byteCells [sg_one G.data.toList 3] by rw [← ONE.out]; rfl, ← Lib.byteCells_append, List.append_assoc] at h; exact ⟨h⟩, HB⟩
                  case measure => simp [intOf]
        · have k3 : k < 3 := by omega
          have n0 : (0 : Int) ≤ (sg_num G.data.toList k : Int) := by omega
          have n1 : (sg_num G.data.toList k : Int) ≤ 65535 := by
            have : 256 ^ k ≤ 256 ^ 2 := Nat.pow_le_pow_right (by omega) (by omega)
            omega
          have b0 := bt_range G k
          have bG := sg_bt G k
          by_cases q : k < G.size
          · have hx : ∀ h : k < G.size, ((G[k]'h).toNat : Int) = bt G k := fun h => bt_at G k (by simpa using h)
            have q1 : decide (k < G.size) = true := decide_eq_true q
            have NX := Aside0.mk (show Go.bits .or .i64 ((sg_num G.data.toList k : Int) * 256) (bt G k) = ((sg_num G.data.toList (k + 1) : Nat) : Int) by
              rw [sg_or _ _ (by omega) (by omega) (by omega) b0.1 (by omega), sg_num]
              unfold sg_b; rw [← bG]; omega)
            go_wp2
            go_round
            case rel => exact ⟨k + 1, by omega, by go_num, by rw [NX.out]⟩
            case measure => simp [intOf]; omega
          · have q1 : decide (k < G.size) = false := decide_eq_false q
            have NX := Aside0.mk (show ((sg_num G.data.toList k : Nat) : Int) * 256 = ((sg_num G.data.toList (k + 1) : Nat) : Int) by
              have e : sg_b G.data.toList k = 0 := by
                unfold sg_b
                rw [List.getD_eq_getElem?_getD, List.getElem?_eq_none (by rw [data_length]; omega)]; rfl
              rw [sg_num, e]; omega)
            go_wp2
            go_round
            case rel => exact ⟨k + 1, by omega, by go_num, by rw [NX.out]⟩
            case measure => simp [intOf]; omega

/-! ### impl_linesOf: function 129 -/
def impl_linesOf.l0 : Nat → ByteArray → Int → List ByteArray → Option (List ByteArray)
  | 0, _, _, _ => none
  | k + 1, x0, x1, x5 => if x0.toList = ([] : List UInt8) then (some x5) else (if 0 ≤ (mn x1 (x0.size : Int)) then (if (mn x1 (x0.size : Int)) ≤ (x0.size : Int) then (if x5.length < 8796093022208 then (impl_linesOf.l0 k (x0.extract ((mn x1 (x0.size : Int)) : Int).toNat x0.size) x1 (x5 ++ [x0.extract 0 ((mn x1 (x0.size : Int)) : Int).toNat])) else (none)) else (none)) else (none))
def impl_linesOf.f (k : Nat) (a0 : ByteArray) (a1 : Int) : Option (List ByteArray) := impl_linesOf.l0 k a0 a1 ([] : List ByteArray)
theorem impl_linesOf.mono_l : ∀ k, (∀ y0 y1 y2, LeO (impl_linesOf.l0 k y0 y1 y2) (impl_linesOf.l0 (k + 1) y0 y1 y2))
  | 0 => fun _ _ _ r h => by simp [impl_linesOf.l0] at h
  | k + 1 => by
    have ih0 := impl_linesOf.mono_l k
    · intro y0 y1 y2
      unfold impl_linesOf.l0
      repeat' first
      | (with_reducible exact ih0 _ _ _)
      | (with_reducible exact LeO.refl _)
      | (with_reducible exact LeO.none _)
      | (with_reducible refine LeO.ite ?_ ?_)
      | (with_reducible refine LeO.bind ?_ (fun _ => ?_))
      | exact ih0 _ _ _
      | exact LeO.none _
      | refine LeO.ite ?_ ?_
      | refine LeO.bind ?_ (fun _ => ?_)
theorem impl_linesOf.mono : ∀ a0 a1 k, LeO (impl_linesOf.f k a0 a1) (impl_linesOf.f (k + 1) a0 a1) := by
  intro a0 a1 k
  have ih0 := impl_linesOf.mono_l k
  unfold impl_linesOf.f
  repeat' first
      | (with_reducible exact ih0 _ _ _)
      | (with_reducible exact LeO.refl _)
      | (with_reducible exact LeO.none _)
      | (with_reducible refine LeO.ite ?_ ?_)
      | (with_reducible refine LeO.bind ?_ (fun _ => ?_))
      | exact ih0 _ _ _
      | exact LeO.none _
      | refine LeO.ite ?_ ?_
      | refine LeO.bind ?_ (fun _ => ?_)
set_option maxHeartbeats 8000000 in
set_option maxRecDepth 100000 in
theorem impl_linesOf.calls (k : Nat) (a0 : ByteArray) (a1 : Int) (r : List ByteArray) (w : World) (h : impl_linesOf.f k a0 a1 = some r) :
    Calls Tryd.prog 129 #[.string a0, .int .i64 a1] w fun e w' => ∃ v0_ : Value, e = .returned (v0_) ∧ Kd.R Kd.string 9 w' w.heap.size (fun _ => True) v0_ r ∧ Below w.heap.size w w' := by
  have HB := Aside0.mk (Below.refl w.heap.size w)
  have H : (impl_linesOf.l0 k a0 a1 ([] : List ByteArray)) = some r := h
  clear h
  have H' := Aside0.mk H
  clear H
  go_enter Tryd.func129, Tryd.ntmps129
  go_wp2
  go_loopg [0, 5] k (fun kq v0 v5 w' => ∃ (x0_1 : ByteArray) (x5_1 : List ByteArray), v0 = .string x0_1 ∧ Aside0 (impl_linesOf.l0 kq x0_1 a1 x5_1 = some r) ∧ Aside0 (kq ≤ k) ∧ Aside0 (Kd.R Kd.string 9 w' w.heap.size (fun _ => True) v5 x5_1) ∧ Aside0 (Below w.heap.size w w'))
  case atStart => exact ⟨(a0), (([] : List ByteArray)), (by first | rfl | (simp; done) | (simp [*]; done)), H', ⟨Nat.le_refl _⟩, ⟨by first | exact Kd.R_nil _ _ _ _ _ | exact Kd.N_nil _ _ _ _ _ | exact Kd.V_nil _ _ _ _ _ | exact Kd.Q_nil _ _ _ _ _ | exact Kd.S_nil _ _ _ _ _⟩, ⟨by repeat (first | (with_reducible first | exact HB.out | apply below_alloc | apply pw_below_drewN | apply below_drew1) | exact HB.out)⟩⟩
  case round =>
    clear H'
    try clear c1
    try clear p2
    obtain ⟨x0_1, x5_1, rfl, HA, HK1, HO_5, HB⟩ := hrel
    cases gk with
    | zero => exact absurd HA.out (by simp [impl_linesOf.l0])
    | succ k1 =>
      have H := HA.out
      clear HA
      simp only [impl_linesOf.l0] at H
      by_cases c3 : x0_1.toList = ([] : List UInt8)
      · rw [if_pos c3] at H
        have c3b0 : (x0_1.toList == ([] : List UInt8)) = true := beq_iff_eq.mpr c3
        have c3b1 : (x0_1.toList != ([] : List UInt8)) = false := bne_eq_false_iff_eq.mpr c3
        clear c3
        obtain rfl := Option.some.inj H
        go_wp2
        go_ret
        exact ⟨_, by first | rfl | (simp [errW_none, errW_some] <;> rfl) | (simp [*, errW_none, errW_some] <;> rfl), by (with_reducible repeat (first | apply Kd.R_alloc | apply Kd.R_drewN | apply Kd.R_drew)); exact HO_5.out, by repeat (first | (with_reducible first | exact HB.out | apply below_alloc | apply pw_below_drewN | apply below_drew1) | exact HB.out)⟩
      · rw [if_neg c3] at H
        have c3b0 : (x0_1.toList == ([] : List UInt8)) = false := beq_eq_false_iff_ne.mpr c3
        have c3b1 : (x0_1.toList != ([] : List UInt8)) = true := bne_iff_ne.mpr c3
        obtain ⟨ji4, hji4⟩ : ∃ j_ : Int, (mn a1 (x0_1.size : Int)) = j_ := ⟨_, rfl⟩
        replace H : (if 0 ≤ (ji4) then (if (ji4) ≤ (x0_1.size : Int) then (if x5_1.length < 8796093022208 then (impl_linesOf.l0 k1 (x0_1.extract ((ji4) : Int).toNat x0_1.size) a1 (x5_1 ++ [x0_1.extract 0 ((ji4) : Int).toNat])) else (none)) else (none)) else (none)) = some r := by first | (rw [hji4] at H; exact H) | (simp only [hji4] at H ⊢; exact H)
        have hji4_ : (if (x0_1.size : Int) < a1 then (x0_1.size : Int) else a1) = ji4 := hji4
        by_cases c5 : 0 ≤ (ji4)
        · rw [if_pos c5] at H
          have c5b0 := eq_true c5
          have c5b1 : decide (0 ≤ (ji4)) = true := decide_eq_true c5
          clear c5
          by_cases c6 : (ji4) ≤ (x0_1.size : Int)
          · rw [if_pos c6] at H
            have c6b0 := eq_true c6
            have c6b1 : decide ((ji4) ≤ (x0_1.size : Int)) = true := decide_eq_true c6
            clear c6
            by_cases c7 : x5_1.length < 8796093022208
            · rw [if_pos c7] at H
              have LMc7 := Aside0.mk c7
              clear c7
              obtain ⟨y155, hy155⟩ : ∃ y_ : List ByteArray, y_ = (x5_1 ++ [x0_1.extract 0 ((ji4) : Int).toNat]) := ⟨_, rfl⟩
              replace H : (impl_linesOf.l0 k1 (x0_1.extract ((ji4) : Int).toNat x0_1.size) a1 y155) = some r := by first | (rw [hy155]; with_reducible exact H) | (have H2_ := (Option.bind_some _ _).symm.trans H; rw [hy155]; with_reducible exact H2_) | (have H2_ := (Option.bind_some _ _).symm.trans H; with_reducible exact H2_) | with_reducible exact H | (rw [hy155]; exact H) | exact H
              have Ny155 := Aside0.mk hy155
              clear hy155
              have c8b0 := eq_true (of_decide_eq_true (by first | (with_reducible assumption) | assumption) : 0 ≤ (ji4))
              have c9b0 := eq_true (of_decide_eq_true (by first | (with_reducible assumption) | assumption) : (ji4) ≤ (x0_1.size : Int))
              have H' := Aside0.mk H
              clear H
              go_wp2_with (first | ((with_reducible refine gate_builtin (b := .append) (xs := #[.tmp 14, .tmp 21]) rfl ?_); at_builtin; refine Kd.R_append Kd.string (w0 := w) w.heap.size rfl (.tmp 14) (.tmp 21) 75 9 (.string ⟨#[]⟩) 16 rfl Tryd.underlying75 info9 rfl (by decide) (by omega) u5 x5_1 (x0_1.extract 0 ((ji4) : Int).toNat) [.string (x0_1.extract 0 ((ji4) : Int).toNat)] (fun _ => True) (fun _ => False) rfl rfl ?aP (fun _ hk => hk.elim) ?aF ?aO ?aB ?aS ?aL ?_; (case aP => exact rfl); (case aB => exact (by repeat (first | (with_reducible first | exact HB.out | apply below_alloc | apply pw_below_drewN | apply below_drew1) | exact HB.out))); (case aF => exact (fun _ _ => trivial)); (case aO => exact (by (with_reducible repeat (first | apply Kd.R_alloc | apply Kd.R_drewN | apply Kd.R_drew)); exact HO_5.out)); (case aS => exact (below_size (by repeat (first | (with_reducible first | exact HB.out | apply below_alloc | apply pw_below_drewN | apply below_drew1) | exact HB.out)))); (case aL => have := LMc7.out; omega); intro v156 w10 ho hb hg hat; rw [← Ny155.out] at ho; have n0_ := Aside0.mk (hb); have n1_ := Aside0.mk (ho); clear HB; clear HO_5; have HB := n0_; have HO157 := n1_; clear n0_ n1_; clear ho hb hg hat))
              go_roundg k1
              case measure => have := HK1.out; omega
              case rel => exact ⟨(x0_1.extract ((ji4) : Int).toNat x0_1.size), (y155), (by first | rfl | (simp; done) | (simp only [← hji4] <;> (first | rfl | simp)) | (simp [*]; done)), H', ⟨by have := HK1.out; omega⟩, ⟨by (with_reducible repeat (first | apply Kd.R_alloc | apply Kd.R_drewN | apply Kd.R_drew)); exact HO157.out⟩, ⟨by repeat (first | (with_reducible first | exact HB.out | apply below_alloc | apply pw_below_drewN | apply below_drew1) | exact HB.out)⟩⟩
            · rw [if_neg c7] at H
              exact absurd H (by simp)
          · rw [if_neg c6] at H
            exact absurd H (by simp)
        · rw [if_neg c5] at H
          exact absurd H (by simp)

/-! ### impl_armorOf: function 123 -/
def impl_armorOf.l0 : Nat → ByteArray → ByteArray → List ByteArray → Int → Int → Option (ByteArray)
  | 0, _, _, _, _, _ => none
  | k + 1, x0, x5, x13, x14, x15 => if x15 < x14 then (if 0 ≤ x15 then (if x15 < (x13.length : Int) then (if (rdOf ByteArray.empty x13 x15).size + 1 ≤ 9223372036854775807 then (if x5.size + ((rdOf ByteArray.empty x13 x15) ++ (⟨#[10]⟩ : ByteArray)).size ≤ 9223372036854775807 then (impl_armorOf.l0 k x0 (x5 ++ ((rdOf ByteArray.empty x13 x15) ++ (⟨#[10]⟩ : ByteArray))) x13 x14 (wrap64 (x15 + 1))) else (none)) else (none)) else (none)) else (none)) else (if x5.size + 9 ≤ 9223372036854775807 then (if (x5 ++ (⟨#[45, 45, 45, 45, 45, 69, 78, 68, 32]⟩ : ByteArray)).size + x0.size ≤ 9223372036854775807 then (if ((x5 ++ (⟨#[45, 45, 45, 45, 45, 69, 78, 68, 32]⟩ : ByteArray)) ++ x0).size + 6 ≤ 9223372036854775807 then (some (((x5 ++ (⟨#[45, 45, 45, 45, 45, 69, 78, 68, 32]⟩ : ByteArray)) ++ x0) ++ (⟨#[45, 45, 45, 45, 45, 10]⟩ : ByteArray))) else (none)) else (none)) else (none))
def impl_armorOf.f (k : Nat) (a0 : ByteArray) (a1 : ByteArray) : Option (ByteArray) := if 11 + a0.size ≤ 9223372036854775807 then (if ((⟨#[45, 45, 45, 45, 45, 66, 69, 71, 73, 78, 32]⟩ : ByteArray) ++ a0).size + 6 ≤ 9223372036854775807 then ((impl_signsOf.f a1).bind fun t158 => ((impl_linesOf.f k t158 64).bind fun t159 => (impl_armorOf.l0 k a0 (((⟨#[45, 45, 45, 45, 45, 66, 69, 71, 73, 78, 32]⟩ : ByteArray) ++ a0) ++ (⟨#[45, 45, 45, 45, 45, 10]⟩ : ByteArray)) t159 (t159.length : Int) 0))) else (none)) else (none)
theorem impl_armorOf.mono_l : ∀ k, (∀ y0 y1 y2 y3 y4, LeO (impl_armorOf.l0 k y0 y1 y2 y3 y4) (impl_armorOf.l0 (k + 1) y0 y1 y2 y3 y4))
  | 0 => fun _ _ _ _ _ r h => by simp [impl_armorOf.l0] at h
  | k + 1 => by
    have ih0 := impl_armorOf.mono_l k
    · intro y0 y1 y2 y3 y4
      unfold impl_armorOf.l0
      repeat' first
      | (with_reducible exact ih0 _ _ _ _ _)
      | (with_reducible exact impl_linesOf.mono _ _ _)
      | (with_reducible exact LeO.refl _)
      | (with_reducible exact LeO.none _)
      | (with_reducible refine LeO.ite ?_ ?_)
      | (with_reducible refine LeO.bind ?_ (fun _ => ?_))
      | exact ih0 _ _ _ _ _
      | exact impl_linesOf.mono _ _ _
      | exact LeO.none _
      | refine LeO.ite ?_ ?_
      | refine LeO.bind ?_ (fun _ => ?_)
theorem impl_armorOf.mono : ∀ a0 a1 k, LeO (impl_armorOf.f k a0 a1) (impl_armorOf.f (k + 1) a0 a1) := by
  intro a0 a1 k
  have ih0 := impl_armorOf.mono_l k
  unfold impl_armorOf.f
  repeat' first
      | (with_reducible exact ih0 _ _ _ _ _)
      | (with_reducible exact impl_linesOf.mono _ _ _)
      | (with_reducible exact LeO.refl _)
      | (with_reducible exact LeO.none _)
      | (with_reducible refine LeO.ite ?_ ?_)
      | (with_reducible refine LeO.bind ?_ (fun _ => ?_))
      | exact ih0 _ _ _ _ _
      | exact impl_linesOf.mono _ _ _
      | exact LeO.none _
      | refine LeO.ite ?_ ?_
      | refine LeO.bind ?_ (fun _ => ?_)
set_option maxHeartbeats 8000000 in
set_option maxRecDepth 100000 in
theorem impl_armorOf.calls (k : Nat) (a0 : ByteArray) (a1 : ByteArray) (r : ByteArray) (w : World) (h : impl_armorOf.f k a0 a1 = some r) :
    Calls Tryd.prog 123 #[.string a0, .string a1] w fun e w' => e = .returned (.string r) ∧ Below w.heap.size w w' := by
  have HB := Aside0.mk (Below.refl w.heap.size w)
  have H : (if 11 + a0.size ≤ 9223372036854775807 then (if ((⟨#[45, 45, 45, 45, 45, 66, 69, 71, 73, 78, 32]⟩ : ByteArray) ++ a0).size + 6 ≤ 9223372036854775807 then ((impl_signsOf.f a1).bind fun t158 => ((impl_linesOf.f k t158 64).bind fun t159 => (impl_armorOf.l0 k a0 (((⟨#[45, 45, 45, 45, 45, 66, 69, 71, 73, 78, 32]⟩ : ByteArray) ++ a0) ++ (⟨#[45, 45, 45, 45, 45, 10]⟩ : ByteArray)) t159 (t159.length : Int) 0))) else (none)) else (none)) = some r := h
  clear h
  by_cases c3 : 11 + a0.size ≤ 9223372036854775807
  · rw [if_pos c3] at H
    have c3b0 := eq_true c3
    have c3b1 : decide (11 + a0.size ≤ 9223372036854775807) = true := decide_eq_true c3
    try have c3b2 : (9223372036854775807 < 11 + a0.size) = False := eq_false (Nat.not_lt.2 c3)
    by_cases c4 : ((⟨#[45, 45, 45, 45, 45, 66, 69, 71, 73, 78, 32]⟩ : ByteArray) ++ a0).size + 6 ≤ 9223372036854775807
    · rw [if_pos c4] at H
      have c4b0 := eq_true c4
      have c4b1 : decide (((⟨#[45, 45, 45, 45, 45, 66, 69, 71, 73, 78, 32]⟩ : ByteArray) ++ a0).size + 6 ≤ 9223372036854775807) = true := decide_eq_true c4
      try have c4b3 : (9223372036854775807 < 11 + a0.size + 6) = False := eq_false (Nat.not_lt.2 (by have h_ := c4; simp only [ByteArray.size_append] at h_; exact h_))
      try have c4b2 : (9223372036854775807 < ((⟨#[45, 45, 45, 45, 45, 66, 69, 71, 73, 78, 32]⟩ : ByteArray) ++ a0).size + 6) = False := eq_false (Nat.not_lt.2 c4)
      replace H := Option.bind_eq_some_iff.mp H
      obtain ⟨t158, A50, H⟩ := H
      replace H : ((impl_linesOf.f k t158 64).bind fun t159 => (impl_armorOf.l0 k a0 (((⟨#[45, 45, 45, 45, 45, 66, 69, 71, 73, 78, 32]⟩ : ByteArray) ++ a0) ++ (⟨#[45, 45, 45, 45, 45, 10]⟩ : ByteArray)) t159 (t159.length : Int) 0)) = some r := H
      have A5 := Aside0.mk A50
      clear A50
      replace H := Option.bind_eq_some_iff.mp H
      obtain ⟨t159, A60, H⟩ := H
      replace H : (impl_armorOf.l0 k a0 (((⟨#[45, 45, 45, 45, 45, 66, 69, 71, 73, 78, 32]⟩ : ByteArray) ++ a0) ++ (⟨#[45, 45, 45, 45, 45, 10]⟩ : ByteArray)) t159 (t159.length : Int) 0) = some r := H
      have A6 := Aside0.mk A60
      clear A60
      have H' := Aside0.mk H
      clear H
      go_enter Tryd.func123, Tryd.ntmps123
      go_wp2_with (first | ((with_reducible refine gate_callee (f := 114) rfl ?_); refine goesL_ (some 12) rfl rfl Tryd.func114 (by kernel_rfl) rfl #[.string a1] rfl (by (try simp only [List.map_toArray, List.map_cons, List.map_nil]); first | done | rfl | (simp only [List.length_drop, List.length_take]; rfl)) ?_; (with_reducible refine (impl_signsOf.calls a1 t158 _ A5.out).mono ?_); rintro e w7 ⟨rfl, hb⟩; refine ⟨_, rfl, ?_⟩; have n0_ := Aside0.mk (below_step (by repeat (first | (with_reducible first | exact HB.out | apply below_alloc | apply pw_below_drewN | apply below_drew1) | exact HB.out)) hb); clear HB; have HB := n0_; clear n0_; (try clear hb); (try clear hb2); (try clear hk); (try clear hi)) | ((with_reducible refine gate_callee (f := 129) rfl ?_); refine goesL_ (some 13) rfl rfl Tryd.func129 (by kernel_rfl) rfl #[.string t158, .int .i64 64] rfl (by (try simp only [List.map_toArray, List.map_cons, List.map_nil]); first | done | rfl | (simp only [List.length_drop, List.length_take]; rfl)) ?_; (with_reducible refine (impl_linesOf.calls k t158 64 t159 _ A6.out).mono ?_); rintro e w8 ⟨v160, rfl, ho0, hb⟩; refine ⟨_, rfl, ?_⟩; have n0_ := Aside0.mk (Kd.R_lower ho0 (below_size (by repeat (first | (with_reducible first | exact HB.out | apply below_alloc | apply pw_below_drewN | apply below_drew1) | exact HB.out)))); have n1_ := Aside0.mk (below_step (by repeat (first | (with_reducible first | exact HB.out | apply below_alloc | apply pw_below_drewN | apply below_drew1) | exact HB.out)) hb); clear HB; have HO161 := n0_; have HB := n1_; clear n0_ n1_; (try clear hb); (try clear hb2); (try clear hk); (try clear hi); (try clear ho0); obtain ⟨Ao9, co9, eo9⟩ := Kd.R_slice HO161.out; subst eo9))
      go_loopg [5, 15] k (fun kq v5 v15 w' => ∃ (x5_1 : ByteArray) (x15_1 : Int), v5 = .string x5_1 ∧ v15 = .int .i64 x15_1 ∧ Aside0 (impl_armorOf.l0 kq a0 x5_1 t159 (t159.length : Int) x15_1 = some r) ∧ Aside0 (kq ≤ k) ∧ Aside0 (Kd.R Kd.string 9 w' w.heap.size (fun _ => True) (.slice Ao9 t159.length co9) t159) ∧ Aside0 (Below w.heap.size w w'))
      case atStart => exact ⟨(((⟨#[45, 45, 45, 45, 45, 66, 69, 71, 73, 78, 32]⟩ : ByteArray) ++ a0) ++ (⟨#[45, 45, 45, 45, 45, 10]⟩ : ByteArray)), (0), (by first | rfl | (simp; done) | (simp [*]; done)), (by first | rfl | (simp; done) | (simp [*]; done)), H', ⟨Nat.le_refl _⟩, ⟨by (with_reducible repeat (first | apply Kd.R_alloc | apply Kd.R_drewN | apply Kd.R_drew)); exact HO161.out⟩, ⟨by repeat (first | (with_reducible first | exact HB.out | apply below_alloc | apply pw_below_drewN | apply below_drew1) | exact HB.out)⟩⟩
      case round =>
        clear H'
        try clear c1
        try clear p2
        try clear c3
        try clear c3b0
        try clear c3b1
        try clear c3b2
        try clear c4
        try clear c4b0
        try clear c4b1
        try clear c4b2
        obtain ⟨x5_1, x15_1, rfl, rfl, HA, HK1, HO_13, HB⟩ := hrel
        cases gk with
        | zero => exact absurd HA.out (by simp [impl_armorOf.l0])
        | succ k1 =>
          have H := HA.out
          clear HA
          simp only [impl_armorOf.l0] at H
          by_cases c10 : x15_1 < (t159.length : Int)
          · rw [if_pos c10] at H
            have c10b0 : decide (x15_1 < (t159.length : Int)) = true := decide_eq_true c10
            clear c10
            by_cases c11 : 0 ≤ x15_1
            · rw [if_pos c11] at H
              have c11b0 : decide (0 ≤ x15_1) = true := decide_eq_true c11
              clear c11
              by_cases c12 : x15_1 < (t159.length : Int)
              · rw [if_pos c12] at H
                have c12b0 : decide (x15_1 < (t159.length : Int)) = true := decide_eq_true c12
                clear c12
                by_cases c13 : (rdOf ByteArray.empty t159 x15_1).size + 1 ≤ 9223372036854775807
                · rw [if_pos c13] at H
                  have c13b0 := eq_true c13
                  have c13b1 : decide ((rdOf ByteArray.empty t159 x15_1).size + 1 ≤ 9223372036854775807) = true := decide_eq_true c13
                  try have c13b2 : (9223372036854775807 < (rdOf ByteArray.empty t159 x15_1).size + 1) = False := eq_false (Nat.not_lt.2 c13)
                  by_cases c14 : x5_1.size + ((rdOf ByteArray.empty t159 x15_1) ++ (⟨#[10]⟩ : ByteArray)).size ≤ 9223372036854775807
                  · rw [if_pos c14] at H
                    have c14b0 := eq_true c14
                    have c14b1 : decide (x5_1.size + ((rdOf ByteArray.empty t159 x15_1) ++ (⟨#[10]⟩ : ByteArray)).size ≤ 9223372036854775807) = true := decide_eq_true c14
                    try have c14b3 : (9223372036854775807 < x5_1.size + (rdOf ByteArray.empty t159 x15_1).size + 1) = False := eq_false (Nat.not_lt.2 (by have h_ := c14; simp only [ByteArray.size_append] at h_; exact h_))
                    try have c14b2 : (9223372036854775807 < x5_1.size + ((rdOf ByteArray.empty t159 x15_1) ++ (⟨#[10]⟩ : ByteArray)).size) = False := eq_false (Nat.not_lt.2 c14)
                    have H' := Aside0.mk H
                    clear H
                    have p162 : 0 ≤ (x15_1 : Int) := of_decide_eq_true (by first | (with_reducible assumption) | assumption)
                    have q162 : x15_1 < (t159.length : Int) := of_decide_eq_true (by first | (with_reducible assumption) | assumption)
                    obtain ⟨ad162, e162, hx162_0⟩ := Kd.at_string (Kd.R_reads' HO_13.out).2.2 x15_1 p162 q162
                    cases e162
                    replace p162 := eq_true p162
                    replace q162 := eq_true q162
                    go_wp2
                    go_roundg k1
                    case measure => have := HK1.out; omega
                    case rel => exact ⟨(x5_1 ++ ((rdOf ByteArray.empty t159 x15_1) ++ (⟨#[10]⟩ : ByteArray))), (wrap64 (x15_1 + 1)), (by first | rfl | (simp; done) | (simp [*]; done)), (by first | rfl | (simp; done) | (simp [*]; done)), H', ⟨by have := HK1.out; omega⟩, ⟨by (with_reducible repeat (first | apply Kd.R_alloc | apply Kd.R_drewN | apply Kd.R_drew)); exact HO_13.out⟩, ⟨by repeat (first | (with_reducible first | exact HB.out | apply below_alloc | apply pw_below_drewN | apply below_drew1) | exact HB.out)⟩⟩
                  · rw [if_neg c14] at H
                    exact absurd H (by simp)
                · rw [if_neg c13] at H
                  exact absurd H (by simp)
              · rw [if_neg c12] at H
                exact absurd H (by simp)
            · rw [if_neg c11] at H
              exact absurd H (by simp)
          · rw [if_neg c10] at H
            have c10b0 : decide (x15_1 < (t159.length : Int)) = false := decide_eq_false c10
            clear c10
            by_cases c15 : x5_1.size + 9 ≤ 9223372036854775807
            · rw [if_pos c15] at H
              have c15b0 := eq_true c15
              have c15b1 : decide (x5_1.size + 9 ≤ 9223372036854775807) = true := decide_eq_true c15
              try have c15b2 : (9223372036854775807 < x5_1.size + 9) = False := eq_false (Nat.not_lt.2 c15)
              by_cases c16 : (x5_1 ++ (⟨#[45, 45, 45, 45, 45, 69, 78, 68, 32]⟩ : ByteArray)).size + a0.size ≤ 9223372036854775807
              · rw [if_pos c16] at H
                have c16b0 := eq_true c16
                have c16b1 : decide ((x5_1 ++ (⟨#[45, 45, 45, 45, 45, 69, 78, 68, 32]⟩ : ByteArray)).size + a0.size ≤ 9223372036854775807) = true := decide_eq_true c16
                try have c16b3 : (9223372036854775807 < x5_1.size + 9 + a0.size) = False := eq_false (Nat.not_lt.2 (by have h_ := c16; simp only [ByteArray.size_append] at h_; exact h_))
                try have c16b2 : (9223372036854775807 < (x5_1 ++ (⟨#[45, 45, 45, 45, 45, 69, 78, 68, 32]⟩ : ByteArray)).size + a0.size) = False := eq_false (Nat.not_lt.2 c16)
                by_cases c17 : ((x5_1 ++ (⟨#[45, 45, 45, 45, 45, 69, 78, 68, 32]⟩ : ByteArray)) ++ a0).size + 6 ≤ 9223372036854775807
                · rw [if_pos c17] at H
                  have c17b0 := eq_true c17
                  have c17b1 : decide (((x5_1 ++ (⟨#[45, 45, 45, 45, 45, 69, 78, 68, 32]⟩ : ByteArray)) ++ a0).size + 6 ≤ 9223372036854775807) = true := decide_eq_true c17
                  try have c17b3 : (9223372036854775807 < x5_1.size + 9 + a0.size + 6) = False := eq_false (Nat.not_lt.2 (by have h_ := c17; simp only [ByteArray.size_append] at h_; exact h_))
                  try have c17b2 : (9223372036854775807 < ((x5_1 ++ (⟨#[45, 45, 45, 45, 45, 69, 78, 68, 32]⟩ : ByteArray)) ++ a0).size + 6) = False := eq_false (Nat.not_lt.2 c17)
                  obtain rfl := Option.some.inj H
                  go_wp2
                  go_ret
                  exact ⟨by first | rfl | (simp [errW_none, errW_some] <;> rfl) | (simp [*, errW_none, errW_some] <;> rfl), by repeat (first | (with_reducible first | exact HB.out | apply below_alloc | apply pw_below_drewN | apply below_drew1) | exact HB.out)⟩
                · rw [if_neg c17] at H
                  exact absurd H (by simp)
              · rw [if_neg c16] at H
                exact absurd H (by simp)
            · rw [if_neg c15] at H
              exact absurd H (by simp)
    · rw [if_neg c4] at H
      exact absurd H (by simp)
  · rw [if_neg c3] at H
    exact absurd H (by simp)

/-! ### impl_ArmorOf: function 69 -/
def impl_ArmorOf.f (k : Nat) (a0 : ByteArray) (a1 : ByteArray) : Option (ByteArray × Bool) := (impl_isArmorName.f k a0).bind fun t163 => (if t163 = true then (if (a1.size : Int) > 600 then (some ((⟨#[]⟩ : ByteArray), false)) else ((impl_armorOf.f k a0 a1).bind fun t164 => (some (t164, true)))) else (some ((⟨#[]⟩ : ByteArray), false)))
theorem impl_ArmorOf.mono : ∀ a0 a1 k, LeO (impl_ArmorOf.f k a0 a1) (impl_ArmorOf.f (k + 1) a0 a1) := by
  intro a0 a1 k
  unfold impl_ArmorOf.f
  repeat' first
      | (with_reducible exact impl_armorOf.mono _ _ _)
      | (with_reducible exact impl_isArmorName.mono _ _)
      | (with_reducible exact LeO.refl _)
      | (with_reducible exact LeO.none _)
      | (with_reducible refine LeO.ite ?_ ?_)
      | (with_reducible refine LeO.bind ?_ (fun _ => ?_))
      | exact impl_armorOf.mono _ _ _
      | exact impl_isArmorName.mono _ _
      | exact LeO.none _
      | refine LeO.ite ?_ ?_
      | refine LeO.bind ?_ (fun _ => ?_)
set_option maxHeartbeats 8000000 in
set_option maxRecDepth 100000 in
theorem impl_ArmorOf.calls (k : Nat) (a0 : ByteArray) (a1 : ByteArray) (r1 : ByteArray) (r2 : Bool) (w : World) (h : impl_ArmorOf.f k a0 a1 = some (r1, r2)) :
    Calls Tryd.prog 69 #[.string a0, .string a1] w fun e w' => e = .returned (.tuple #[.string r1, .bool r2]) ∧ Below w.heap.size w w' := by
  have HB := Aside0.mk (Below.refl w.heap.size w)
  have H : ((impl_isArmorName.f k a0).bind fun t163 => (if t163 = true then (if (a1.size : Int) > 600 then (some ((⟨#[]⟩ : ByteArray), false)) else ((impl_armorOf.f k a0 a1).bind fun t164 => (some (t164, true)))) else (some ((⟨#[]⟩ : ByteArray), false)))) = some (r1, r2) := h
  clear h
  replace H := Option.bind_eq_some_iff.mp H
  obtain ⟨t163, A30, H⟩ := H
  replace H : (if t163 = true then (if (a1.size : Int) > 600 then (some ((⟨#[]⟩ : ByteArray), false)) else ((impl_armorOf.f k a0 a1).bind fun t164 => (some (t164, true)))) else (some ((⟨#[]⟩ : ByteArray), false))) = some (r1, r2) := H
  have A3 := Aside0.mk A30
  clear A30
  by_cases c4 : t163 = true
  · subst c4
    have H1 : (if (a1.size : Int) > 600 then (some ((⟨#[]⟩ : ByteArray), false)) else ((impl_armorOf.f k a0 a1).bind fun t164 => (some (t164, true)))) = some (r1, r2) := by rw [if_pos rfl] at H; exact H
    clear H
    have H := H1
    clear H1
    by_cases c5 : (a1.size : Int) > 600
    · rw [if_pos c5] at H
      have c5b0 : decide (600 < (a1.size : Int)) = true := decide_eq_true c5
      have c5b1 : decide (600 < a1.size) = true := decide_eq_true (by omega)
      clear c5
      simp only [Option.some.injEq, Prod.mk.injEq] at H
      obtain ⟨rfl, rfl⟩ := H
      go_enter Tryd.func69, Tryd.ntmps69
      go_wp2_with (first | ((with_reducible refine gate_callee (f := 122) rfl ?_); refine goesL_ (some 7) rfl rfl Tryd.func122 (by kernel_rfl) rfl #[.string a0] rfl (by (try simp only [List.map_toArray, List.map_cons, List.map_nil]); first | done | rfl | (simp only [List.length_drop, List.length_take]; rfl)) ?_; (with_reducible refine (impl_isArmorName.calls k a0 true _ A3.out).mono ?_); rintro e w' ⟨rfl, ⟨nd, rfl⟩⟩; refine ⟨_, rfl, ?_⟩))
      go_ret2
      exact ⟨by first | rfl | (simp [errW_none, errW_some] <;> rfl) | (simp [*, errW_none, errW_some] <;> rfl), by repeat (first | (with_reducible first | exact HB.out | apply below_alloc | apply pw_below_drewN | apply below_drew1) | exact HB.out)⟩
    · rw [if_neg c5] at H
      have c5b0 : decide (600 < (a1.size : Int)) = false := decide_eq_false c5
      have c5b1 : decide (600 < a1.size) = false := decide_eq_false (by omega)
      clear c5
      replace H := Option.bind_eq_some_iff.mp H
      obtain ⟨t164, A60, H⟩ := H
      replace H : (some (t164, true)) = some (r1, r2) := H
      have A6 := Aside0.mk A60
      clear A60
      simp only [Option.some.injEq, Prod.mk.injEq] at H
      obtain ⟨rfl, rfl⟩ := H
      go_enter Tryd.func69, Tryd.ntmps69
      go_wp2_with (first | ((with_reducible refine gate_callee (f := 122) rfl ?_); refine goesL_ (some 7) rfl rfl Tryd.func122 (by kernel_rfl) rfl #[.string a0] rfl (by (try simp only [List.map_toArray, List.map_cons, List.map_nil]); first | done | rfl | (simp only [List.length_drop, List.length_take]; rfl)) ?_; (with_reducible refine (impl_isArmorName.calls k a0 true _ A3.out).mono ?_); rintro e w' ⟨rfl, ⟨nd, rfl⟩⟩; refine ⟨_, rfl, ?_⟩) | ((with_reducible refine gate_callee (f := 123) rfl ?_); refine goesL_ (some 16) rfl rfl Tryd.func123 (by kernel_rfl) rfl #[.string a0, .string a1] rfl (by (try simp only [List.map_toArray, List.map_cons, List.map_nil]); first | done | rfl | (simp only [List.length_drop, List.length_take]; rfl)) ?_; (with_reducible refine (impl_armorOf.calls k a0 a1 t164 _ A6.out).mono ?_); rintro e w7 ⟨rfl, hb⟩; refine ⟨_, rfl, ?_⟩; have n0_ := Aside0.mk (below_step (by repeat (first | (with_reducible first | exact HB.out | apply below_alloc | apply pw_below_drewN | apply below_drew1) | exact HB.out)) hb); clear HB; have HB := n0_; clear n0_; (try clear hb); (try clear hb2); (try clear hk); (try clear hi)))
      go_ret2
      exact ⟨by first | rfl | (simp [errW_none, errW_some] <;> rfl) | (simp [*, errW_none, errW_some] <;> rfl), by repeat (first | (with_reducible first | exact HB.out | apply below_alloc | apply pw_below_drewN | apply below_drew1) | exact HB.out)⟩
  · replace c4 := Bool.eq_false_iff.mpr c4
    subst c4
    have H1 : (some ((⟨#[]⟩ : ByteArray), false)) = some (r1, r2) := by rw [if_neg (show ¬ (false = true) by decide)] at H; exact H
    clear H
    have H := H1
    clear H1
    simp only [Option.some.injEq, Prod.mk.injEq] at H
    obtain ⟨rfl, rfl⟩ := H
    go_enter Tryd.func69, Tryd.ntmps69
    go_wp2_with (first | ((with_reducible refine gate_callee (f := 122) rfl ?_); refine goesL_ (some 7) rfl rfl Tryd.func122 (by kernel_rfl) rfl #[.string a0] rfl (by (try simp only [List.map_toArray, List.map_cons, List.map_nil]); first | done | rfl | (simp only [List.length_drop, List.length_take]; rfl)) ?_; (with_reducible refine (impl_isArmorName.calls k a0 false _ A3.out).mono ?_); rintro e w' ⟨rfl, ⟨nd, rfl⟩⟩; refine ⟨_, rfl, ?_⟩))
    go_ret2
    exact ⟨by first | rfl | (simp [errW_none, errW_some] <;> rfl) | (simp [*, errW_none, errW_some] <;> rfl), by repeat (first | (with_reducible first | exact HB.out | apply below_alloc | apply pw_below_drewN | apply below_drew1) | exact HB.out)⟩

/-! ### spec_l1In: function 104 -/
def spec_l1In.f (a0 : Int) (a1 : Int) (a2 : Int) : Option (Bool) := if a0 ≥ a1 then (some (decide (a0 ≤ a2))) else (some false)
set_option maxHeartbeats 8000000 in
set_option maxRecDepth 100000 in
theorem spec_l1In.calls (a0 : Int) (a1 : Int) (a2 : Int) (r : Bool) (w : World) (h : spec_l1In.f a0 a1 a2 = some r) :
    Calls Tryd.prog 104 #[.int .i64 a0, .int .i64 a1, .int .i64 a2] w fun e w' => e = .returned (.bool r) ∧ Drawn0 w w' := by
  have H : (if a0 ≥ a1 then (some (decide (a0 ≤ a2))) else (some false)) = some r := h
  clear h
  by_cases c4 : a0 ≥ a1
  · rw [if_pos c4] at H
    have c4b0 : decide (a1 ≤ a0) = true := decide_eq_true c4
    clear c4
    obtain rfl := Option.some.inj H
    go_enter Tryd.func104, Tryd.ntmps104
    go_wp2
    go_ret
    exact ⟨by first | rfl | (simp; done) | (simp [*]; done), by repeat (first | exact Drawn0.refl _ | apply Drawn0.step)⟩
  · rw [if_neg c4] at H
    have c4b0 : decide (a1 ≤ a0) = false := decide_eq_false c4
    clear c4
    obtain rfl := Option.some.inj H
    go_enter Tryd.func104, Tryd.ntmps104
    go_wp2
    go_ret
    exact ⟨by first | rfl | (simp; done) | (simp [*]; done), by repeat (first | exact Drawn0.refl _ | apply Drawn0.step)⟩

/-! ### spec_l3Name: function 124 -/
def spec_l3Name.l0 : Nat → ByteArray → Int → Option (Bool)
  | 0, _, _ => none
  | k + 1, x0, x3 => if x3 < (x0.size : Int) then (if 0 ≤ x3 then (if (bt x0 x3) < 65 then (some false) else (if (bt x0 x3) > 90 then (some false) else (spec_l3Name.l0 k x0 (wrap64 (x3 + 1))))) else (none)) else ((spec_l1In.f (x0.size : Int) 1 16).bind fun t165 => (some t165))
def spec_l3Name.f (k : Nat) (a0 : ByteArray) : Option (Bool) := spec_l3Name.l0 k a0 0
theorem spec_l3Name.mono_l : ∀ k, (∀ y0 y1, LeO (spec_l3Name.l0 k y0 y1) (spec_l3Name.l0 (k + 1) y0 y1))
  | 0 => fun _ _ r h => by simp [spec_l3Name.l0] at h
  | k + 1 => by
    have ih0 := spec_l3Name.mono_l k
    · intro y0 y1
      unfold spec_l3Name.l0
      repeat' first
      | (with_reducible exact ih0 _ _)
      | (with_reducible exact LeO.refl _)
      | (with_reducible exact LeO.none _)
      | (with_reducible refine LeO.ite ?_ ?_)
      | (with_reducible refine LeO.bind ?_ (fun _ => ?_))
      | exact ih0 _ _
      | exact LeO.none _
      | refine LeO.ite ?_ ?_
      | refine LeO.bind ?_ (fun _ => ?_)
theorem spec_l3Name.mono : ∀ a0 k, LeO (spec_l3Name.f k a0) (spec_l3Name.f (k + 1) a0) := by
  intro a0 k
  have ih0 := spec_l3Name.mono_l k
  unfold spec_l3Name.f
  repeat' first
      | (with_reducible exact ih0 _ _)
      | (with_reducible exact LeO.refl _)
      | (with_reducible exact LeO.none _)
      | (with_reducible refine LeO.ite ?_ ?_)
      | (with_reducible refine LeO.bind ?_ (fun _ => ?_))
      | exact ih0 _ _
      | exact LeO.none _
      | refine LeO.ite ?_ ?_
      | refine LeO.bind ?_ (fun _ => ?_)
set_option maxHeartbeats 8000000 in
set_option maxRecDepth 100000 in
theorem spec_l3Name.calls (k : Nat) (a0 : ByteArray) (r : Bool) (w : World) (h : spec_l3Name.f k a0 = some r) :
    Calls Tryd.prog 124 #[.string a0] w fun e w' => e = .returned (.bool r) ∧ Drawn0 w w' := by
  have H : (spec_l3Name.l0 k a0 0) = some r := h
  clear h
  have H' := Aside0.mk H
  clear H
  go_enter Tryd.func124, Tryd.ntmps124
  go_wp2
  go_loopg [3] k (fun kq v3 w' => ∃ (x3_1 : Int), v3 = .int .i64 x3_1 ∧ Aside0 (spec_l3Name.l0 kq a0 x3_1 = some r) ∧ Aside0 (kq ≤ k) ∧ Drawn0 w w')
  case atStart => exact ⟨(0), (by first | rfl | (simp; done) | (simp [*]; done)), H', ⟨Nat.le_refl _⟩, by repeat (first | exact Drawn0.refl _ | apply Drawn0.step)⟩
  case round =>
    clear H'
    try clear c1
    obtain ⟨x3_1, rfl, HA, HK1, ⟨m1, rfl⟩⟩ := hrel
    cases gk with
    | zero => exact absurd HA.out (by simp [spec_l3Name.l0])
    | succ k1 =>
      have H := HA.out
      clear HA
      simp only [spec_l3Name.l0] at H
      by_cases c2 : x3_1 < (a0.size : Int)
      · rw [if_pos c2] at H
        have c2b0 : decide (x3_1 < (a0.size : Int)) = true := decide_eq_true c2
        clear c2
        by_cases c3 : 0 ≤ x3_1
        · rw [if_pos c3] at H
          have c3b0 : decide (0 ≤ x3_1) = true := decide_eq_true c3
          clear c3
          by_cases c5 : (bt a0 x3_1) < 65
          · rw [if_pos c5] at H
            have c5b0 : decide ((bt a0 x3_1) < 65) = true := decide_eq_true c5
            clear c5
            obtain rfl := Option.some.inj H
            have p4 : 0 ≤ (x3_1 : Int) := of_decide_eq_true (by first | (with_reducible assumption) | assumption)
            have q4 : x3_1 < (a0.size : Int) := of_decide_eq_true (by first | (with_reducible assumption) | assumption)
            have hx4 := bt_at a0 x3_1
            replace p4 := eq_true p4
            replace q4 := eq_true q4
            go_wp2
            go_ret
            exact ⟨by first | rfl | (simp; done) | (simp [*]; done), by repeat (first | exact Drawn0.refl _ | apply Drawn0.step)⟩
          · rw [if_neg c5] at H
            have c5b0 : decide ((bt a0 x3_1) < 65) = false := decide_eq_false c5
            clear c5
            by_cases c7 : (bt a0 x3_1) > 90
            · rw [if_pos c7] at H
              have c7b0 : decide (90 < (bt a0 x3_1)) = true := decide_eq_true c7
              clear c7
              obtain rfl := Option.some.inj H
              have p4 : 0 ≤ (x3_1 : Int) := of_decide_eq_true (by first | (with_reducible assumption) | assumption)
              have q4 : x3_1 < (a0.size : Int) := of_decide_eq_true (by first | (with_reducible assumption) | assumption)
              have hx4 := bt_at a0 x3_1
              replace p4 := eq_true p4
              replace q4 := eq_true q4
              have p6 : 0 ≤ (x3_1 : Int) := of_decide_eq_true (by first | (with_reducible assumption) | assumption)
              have q6 : x3_1 < (a0.size : Int) := of_decide_eq_true (by first | (with_reducible assumption) | assumption)
              have hx6 := bt_at a0 x3_1
              replace p6 := eq_true p6
              replace q6 := eq_true q6
              go_wp2
              go_ret
              exact ⟨by first | rfl | (simp; done) | (simp [*]; done), by repeat (first | exact Drawn0.refl _ | apply Drawn0.step)⟩
            · rw [if_neg c7] at H
              have c7b0 : decide (90 < (bt a0 x3_1)) = false := decide_eq_false c7
              clear c7
              have H' := Aside0.mk H
              clear H
              have p4 : 0 ≤ (x3_1 : Int) := of_decide_eq_true (by first | (with_reducible assumption) | assumption)
              have q4 : x3_1 < (a0.size : Int) := of_decide_eq_true (by first | (with_reducible assumption) | assumption)
              have hx4 := bt_at a0 x3_1
              replace p4 := eq_true p4
              replace q4 := eq_true q4
              have p6 : 0 ≤ (x3_1 : Int) := of_decide_eq_true (by first | (with_reducible assumption) | assumption)
              have q6 : x3_1 < (a0.size : Int) := of_decide_eq_true (by first | (with_reducible assumption) | assumption)
              have hx6 := bt_at a0 x3_1
              replace p6 := eq_true p6
              replace q6 := eq_true q6
              go_wp2
              go_roundg k1
              case measure => have := HK1.out; omega
              case rel => exact ⟨(wrap64 (x3_1 + 1)), (by first | rfl | (simp; done) | (simp [*]; done)), H', ⟨by have := HK1.out; omega⟩, by repeat (first | exact Drawn0.refl _ | apply Drawn0.step)⟩
        · rw [if_neg c3] at H
          exact absurd H (by simp)
      · rw [if_neg c2] at H
        have c2b0 : decide (x3_1 < (a0.size : Int)) = false := decide_eq_false c2
        clear c2
        replace H := Option.bind_eq_some_iff.mp H
        obtain ⟨t165, A80, H⟩ := H
        replace H : (some t165) = some r := H
        have A8 := Aside0.mk A80
        clear A80
        obtain rfl := Option.some.inj H
        go_wp2_with (first | ((with_reducible refine gate_callee (f := 104) rfl ?_); refine goesL_ (some 22) rfl rfl Tryd.func104 (by kernel_rfl) rfl #[.int .i64 (a0.size : Int), .int .i64 1, .int .i64 16] rfl (by (try simp only [List.map_toArray, List.map_cons, List.map_nil]); first | done | rfl | (simp only [List.length_drop, List.length_take]; rfl)) ?_; (with_reducible refine (spec_l1In.calls (a0.size : Int) 1 16 t165 _ A8.out).mono ?_); rintro e w' ⟨rfl, ⟨nd, rfl⟩⟩; refine ⟨_, rfl, ?_⟩))
        go_ret
        exact ⟨by first | rfl | (simp; done) | (simp [*]; done), by repeat (first | exact Drawn0.refl _ | apply Drawn0.step)⟩

/-! ### spec_l1Least: function 149 -/
def spec_l1Least.f (a0 : Int) (a1 : Int) : Option (Int) := if a0 < a1 then (some a0) else (some a1)
set_option maxHeartbeats 8000000 in
set_option maxRecDepth 100000 in
theorem spec_l1Least.calls (a0 : Int) (a1 : Int) (r : Int) (w : World) (h : spec_l1Least.f a0 a1 = some r) :
    Calls Tryd.prog 149 #[.int .i64 a0, .int .i64 a1] w fun e w' => e = .returned (.int .i64 r) ∧ Drawn0 w w' := by
  have H : (if a0 < a1 then (some a0) else (some a1)) = some r := h
  clear h
  by_cases c3 : a0 < a1
  · rw [if_pos c3] at H
    have c3b0 : decide (a0 < a1) = true := decide_eq_true c3
    clear c3
    obtain rfl := Option.some.inj H
    go_enter Tryd.func149, Tryd.ntmps149
    go_wp2
    go_ret
    exact ⟨by first | rfl | (simp; done) | (simp [*]; done), by repeat (first | exact Drawn0.refl _ | apply Drawn0.step)⟩
  · rw [if_neg c3] at H
    have c3b0 : decide (a0 < a1) = false := decide_eq_false c3
    clear c3
    obtain rfl := Option.some.inj H
    go_enter Tryd.func149, Tryd.ntmps149
    go_wp2
    go_ret
    exact ⟨by first | rfl | (simp; done) | (simp [*]; done), by repeat (first | exact Drawn0.refl _ | apply Drawn0.step)⟩

end
end Go.Proofs.YtgoedenbekedbaaDoor.PFnArmor
