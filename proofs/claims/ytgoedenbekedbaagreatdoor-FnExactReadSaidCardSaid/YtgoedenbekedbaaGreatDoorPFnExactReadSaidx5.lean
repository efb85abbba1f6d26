-- Printed for this claim by a changed copy of the kit's printing program (wip/tools/patch_print.py); Lean checks it.
import Derived.Test.YtgoedenbekedbaaGreatDoorPFnExactReadSaidx0
namespace Go.Proofs.YtgoedenbekedbaaGreatDoor.PFnExactReadSaid
open Go.RowKit Go.Proofs.YtgoedenbekedbaaGreatDoorW.PrintWords Go.Proofs.YtgoedenbekedbaaGreatDoorW.PrintLast Go.Proofs.YtgoedenbekedbaaGreatDoorW.PrintMore
attribute [local go_sem] max2_int min2_int max_two min_two max_three min_three max_four min_four   -- for this text's walks alone
set_option linter.unusedVariables false
set_option linter.unusedSimpArgs false

noncomputable section
/-! ### strings_Cut: function 12 -/
def strings_Cut.f (a0 a1 : ByteArray) : Option (ByteArray × ByteArray × Bool) :=
  if a0.size < 4294967281 then some (⟨(Lib.cut a0.data.toList a1.data.toList).1.toArray⟩, ⟨(Lib.cut a0.data.toList a1.data.toList).2.1.toArray⟩, (Lib.cut a0.data.toList a1.data.toList).2.2) else none
theorem strings_Cut.calls (a0 a1 : ByteArray) (r0 r1 : ByteArray) (r2 : Bool) (w : World) (tb : Go.Proofs.YtgoedenbekedbaaGreatDoor.TabsH.Tabs0 w) (h : strings_Cut.f a0 a1 = some (r0, r1, r2)) :
    Calls Tryz.prog 12 #[.string a0, .string a1] w fun e w' => e = .returned (.tuple #[.string r0, .string r1, .bool r2]) ∧ Drawn0 w w' := by
  unfold strings_Cut.f at h
  by_cases hl : a0.size < 4294967281
  rotate_left
  · rw [if_neg hl] at h; cases h
  rw [if_pos hl] at h
  have h := Option.some.inj h
  injection h with h0 h
  injection h with h1 h2
  subst h0 h1 h2
  obtain ⟨m, hm⟩ := tb.maxLen
  exact (Tryz.strings_Cut a0 a1 m w hl hm).mono fun e w' ⟨he, hw⟩ => ⟨he, ⟨hw⟩⟩

/-! ### strconv_Atoi: function 15 -/
def at_ret (r1 : Int) : Option Int → Ending → Prop
  | none, e => e = .returned (.tuple #[.int .i64 r1, .nilIface])
  | some _, e => ∃ T p, e = .returned (.tuple #[.int .i64 r1, .iface T p])
/-- strconv.Atoi: the number, or an error (told as 'some 0'; which one is left open). -/
def strconv_Atoi.f (a0 : ByteArray) : Option (Int × Option Int) :=
  if a0.size ≤ 281474976710656 then (match Lib.atoiAll a0.data.toList with | .ok v => some (v, none) | .range => some (Lib.atoiSat a0.data.toList, some 0) | _ => some (0, some 0)) else none
theorem strconv_Atoi.calls (a0 : ByteArray) (r1 : Int) (r2 : Option Int) (w : World) (tb : Go.Proofs.YtgoedenbekedbaaGreatDoor.TabsH.Tabs0 w) (h : strconv_Atoi.f a0 = some (r1, r2)) :
    Calls Tryz.prog 15 #[.string a0] w fun e w' => at_ret r1 r2 e ∧ Below w.heap.size w w' := by
  by_cases hc : a0.size ≤ 281474976710656
  rotate_left
  · have e : strconv_Atoi.f a0 = none := by unfold strconv_Atoi.f; rw [if_neg hc]
    rw [e] at h
    cases h
  have e : strconv_Atoi.f a0 = (match Lib.atoiAll a0.data.toList with | .ok v => some (v, none) | .range => some (Lib.atoiSat a0.data.toList, some 0) | _ => some (0, some 0)) := by unfold strconv_Atoi.f; rw [if_pos hc]
  rw [e] at h
  obtain ⟨ev, hv, hev⟩ := tb.syn
  obtain ⟨ev2, hv2, hev2⟩ := tb.rng
  rcases hn : Lib.atoiAll a0.data.toList with v | _ | _
  · rw [hn] at h
    have h' : (v, (none : Option Int)) = (r1, r2) := Option.some.inj h
    have q1 : v = r1 := congrArg Prod.fst h'
    have q2 : (none : Option Int) = r2 := congrArg Prod.snd h'
    subst q1 q2
    refine (Tryz.strconv_Atoi_ok a0 (by omega) v hn w).mono ?_
    rintro e w' ⟨he, hw⟩
    refine ⟨he, ?_⟩
    rcases hw with rfl | ⟨t, rfl⟩
    · exact Below.refl _ _
    · exact Lib.bytesWorld_below _ _ _
  · rw [hn] at h
    have h' : ((0 : Int), (some 0 : Option Int)) = (r1, r2) := Option.some.inj h
    have q1 : (0 : Int) = r1 := congrArg Prod.fst h'
    have q2 : (some 0 : Option Int) = r2 := congrArg Prod.snd h'
    subst q1 q2
    refine (Tryz.strconv_Atoi_syntax a0 hc hn ev w hv hev).mono ?_
    rintro e w' ⟨N, he, _, _, hb⟩
    exact ⟨⟨_, _, he⟩, hb⟩
  · rw [hn] at h
    have h' : (Lib.atoiSat a0.data.toList, (some 0 : Option Int)) = (r1, r2) := Option.some.inj h
    have q1 : Lib.atoiSat a0.data.toList = r1 := congrArg Prod.fst h'
    have q2 : (some 0 : Option Int) = r2 := congrArg Prod.snd h'
    subst q1 q2
    refine (Tryz.strconv_Atoi_range a0 hc hn ev2 w hv2 hev2).mono ?_
    rintro e w' ⟨N, he, _, _, hb⟩
    exact ⟨⟨_, _, he⟩, hb⟩
theorem strconv_Atoi.calls_any (a0 : ByteArray) (r1 : Int) (r2 : Option Int) (w : World) (tb : Go.Proofs.YtgoedenbekedbaaGreatDoor.TabsH.Tabs0 w) (h : strconv_Atoi.f a0 = some (r1, r2)) :
    Calls Tryz.prog 15 #[.string a0] w fun e w' => (∃ ev, e = .returned (.tuple #[.int .i64 r1, ev])) ∧ Below w.heap.size w w' := by
  refine (strconv_Atoi.calls a0 r1 r2 w tb h).mono fun e w' ⟨he, hb⟩ => ⟨?_, hb⟩
  cases r2 with
  | none => exact ⟨_, he⟩
  | some _ => obtain ⟨T, p, he⟩ := he; exact ⟨_, he⟩

/-! ### strings_Split: function 29 -/
def strings_Split.f (a0 a1 : ByteArray) : Option (List ByteArray) := if a0.size < 4294967281 ∧ 1 ≤ a1.size then some (Lib.splitB a1 0 (Lib.countB a0 a1) a0) else none
theorem strings_Split.calls (a0 a1 : ByteArray) (r : List ByteArray) (w : World) (tb : Go.Proofs.YtgoedenbekedbaaGreatDoor.TabsH.Tabs0 w) (h : strings_Split.f a0 a1 = some r) :
    Calls Tryz.prog 29 #[.string a0, .string a1] w fun e w' => ∃ v0_ : Value, e = .returned (v0_) ∧ Kd.R Kd.string 9 w' w.heap.size (fun _ => True) v0_ r ∧ Below w.heap.size w w' := by
  unfold strings_Split.f at h
  by_cases hl : a0.size < 4294967281 ∧ 1 ≤ a1.size
  rotate_left
  · rw [if_neg hl] at h; cases h
  rw [if_pos hl] at h
  have h := Option.some.inj h
  subst h
  obtain ⟨m, hm⟩ := tb.maxLen
  have hc := Lib.countB_le a1 hl.2 a0.size a0 (Nat.le_refl _)
  have hlen := Lib.splitB_all a1 hl.2 0 _ a0 rfl
  refine (Tryz.strings_Split a0 a1 m w hl.1 hm hl.2).mono ?_
  rintro e w' ⟨he, rfl⟩
  refine ⟨_, he, ?_, (Below.refl _ _).alloc (Nat.le_refl _) _⟩
  have ho := own_lit_of (enc := Value.string) w w.heap.size 9 (Lib.splitB a1 0 (Lib.countB a0 a1) a0) (Nat.le_refl _) (by omega)
  rw [hlen] at ho
  exact Kd.R_of_own (by rw [hlen]; exact ho) (fun _ _ => trivial)

/-! ### strings_TrimRight: function 43 -/
def strings_TrimRight.f (a0 : ByteArray) (a1 : ByteArray) : Option ByteArray :=
  match a1.data.toList with
  | [c] => if c.toNat < 128 ∧ a0.size ≤ 9223372036854775807 then some ⟨(Lib.trimRightB a0.data.toList c).toArray⟩ else none
  | _ => none
theorem strings_TrimRight.calls (a0 : ByteArray) (a1 : ByteArray) (r : ByteArray) (w : World) (h : strings_TrimRight.f a0 a1 = some r) :
    Calls Tryz.prog 43 #[.string a0, .string a1] w fun e w' => e = .returned (.string r) ∧ Drawn0 w w' := by
  unfold strings_TrimRight.f at h
  obtain ⟨⟨l⟩⟩ := a1
  match l, h with
  | [], h => cases h
  | [c], h =>
    by_cases hc : c.toNat < 128 ∧ a0.size ≤ 9223372036854775807
    · simp only [if_pos hc] at h
      obtain rfl := Option.some.inj h
      exact (Tryz.strings_TrimRight_one a0 c hc.1 w hc.2).mono fun e w' ⟨he, hw⟩ => ⟨he, hw ▸ Drawn0.refl _⟩
    · simp only [if_neg hc] at h
      cases h
  | _ :: _ :: _, h => cases h

/-! ### strings_IndexByte: function 44 -/
def strings_IndexByte.f (a0 : ByteArray) (a1 : Int) : Option (Int) := some (Lib.indexByte a0.data.toList a1.toNat.toUInt8)
theorem strings_IndexByte.calls (a0 : ByteArray) (a1 : Int) (r : Int) (w : World) (h : strings_IndexByte.f a0 a1 = some r) :
    Calls Tryz.prog 44 #[.string a0, .int .u8 a1] w fun e w' => e = .returned (.int .i64 r) ∧ Drawn0 w w' := by
  obtain rfl := Option.some.inj h
  exact (Tryz.strings_IndexByte a0 a1 w).mono fun e w' ⟨he, hw⟩ => ⟨he, hw ▸ Drawn0.refl _⟩

/-! ### impl_signsOf: function 45 -/
def sg_alpha : List UInt8 := [65, 66, 67, 68, 69, 70, 71, 72, 73, 74, 75, 76, 77, 78, 79, 80, 81, 82, 83, 84, 85, 86, 87, 88, 89, 90, 97, 98, 99, 100, 101, 102, 103, 104, 105, 106, 107, 108, 109, 110, 111, 112, 113, 114, 115, 116, 117, 118, 119, 120, 121, 122, 48, 49, 50, 51, 52, 53, 54, 55, 56, 57, 43, 47]
def sg_b (g : List UInt8) (i : Nat) : Nat := (g.getD i 0).toNat
/-- The number of a group's first k bytes, the lacking ones zero. -/
def sg_num (g : List UInt8) : Nat → Nat
  | 0 => 0
  | k + 1 => sg_num g k * 256 + sg_b g k
def sg_one (g : List UInt8) (i : Nat) : UInt8 := if g.length < i then 61 else sg_alpha.getD (sg_num g 3 / 2 ^ (18 - 6 * i) % 64) 0
def sg_quad (g : List UInt8) : List UInt8 := [sg_one g 0, sg_one g 1, sg_one g 2, sg_one g 3]
def sg_all : Nat → List UInt8 → List UInt8
  | 0, _ => []
  | f + 1, l => if l = [] then [] else sg_quad (l.take 3) ++ sg_all f (l.drop 3)
theorem sg_b_lt (g : List UInt8) (i : Nat) : sg_b g i < 256 := UInt8.toNat_lt _
theorem sg_num_lt (g : List UInt8) : ∀ k, sg_num g k < 256 ^ k
  | 0 => by simp [sg_num]
  | k + 1 => by have := sg_num_lt g k; have := sg_b_lt g k; rw [sg_num, Nat.pow_succ]; omega
theorem sg_and63 (x : Int) (h0 : 0 ≤ x) (h1 : x < 9223372036854775808) : Go.bits .and .i64 x 63 = x % 64 := by
  have h := bits_mask .i64 63 (by decide) (fun n h₀ h₁ => by rw [IntKind.wrap_i64]; omega) 6 (by decide) x h0 (by omega)
  simpa using h
theorem sg_or (v b : Int) (h0 : 0 ≤ v) (h1 : v < 4611686018427387904) (hv : v % 256 = 0) (h2 : 0 ≤ b) (h3 : b < 256) : Go.bits .or .i64 v b = v + b :=
  bits_join .i64 63 (by decide) (fun n h₀ h₁ => by rw [IntKind.wrap_i64]; omega) 8 _ _ h0 hv (by omega) h2 (by omega) (by omega)
theorem sg_all_nil (f : Nat) : sg_all f [] = [] := by cases f <;> simp [sg_all]
theorem sg_all_more : ∀ (f : Nat) (l : List UInt8), l.length ≤ f → sg_all (f + 1) l = sg_all f l
  | 0, l, h => by have : l = [] := List.eq_nil_of_length_eq_zero (by omega); subst this; simp [sg_all]
  | f + 1, l, h => by
    rw [show sg_all (f + 1 + 1) l = if l = [] then [] else sg_quad (l.take 3) ++ sg_all (f + 1) (l.drop 3) from rfl, show sg_all (f + 1) l = if l = [] then [] else sg_quad (l.take 3) ++ sg_all f (l.drop 3) from rfl]
    by_cases e : l = []
    · rw [if_pos e, if_pos e]
    · have : 0 < l.length := List.length_pos_iff.2 e
      rw [if_neg e, if_neg e, sg_all_more f (l.drop 3) (by rw [List.length_drop]; omega)]
def sg_of (l : List UInt8) : List UInt8 := sg_all l.length l
theorem sg_all_of (l : List UInt8) : ∀ d, sg_all (l.length + d) l = sg_of l
  | 0 => rfl
  | d + 1 => by rw [← Nat.add_assoc, sg_all_more _ _ (by omega)]; exact sg_all_of l d
theorem sg_of_cons (l : List UInt8) (h : l ≠ []) : sg_of l = sg_quad (l.take 3) ++ sg_of (l.drop 3) := by
  have h0 : 0 < l.length := List.length_pos_iff.2 h
  obtain ⟨n, hn⟩ : ∃ n, l.length = n + 1 := ⟨l.length - 1, by omega⟩
  have hd : (l.drop 3).length + (n - (l.drop 3).length) = n := by rw [List.length_drop]; omega
  rw [sg_of, hn, sg_all, if_neg h, ← sg_all_of (l.drop 3) (n - (l.drop 3).length), hd]
theorem sg_quad_len (g : List UInt8) : (sg_quad g).length = 4 := rfl
theorem sg_of_len : ∀ (n : Nat) (l : List UInt8), l.length ≤ n → (sg_of l).length ≤ 4 * l.length + 0
  | 0, l, h => by have : l = [] := List.eq_nil_of_length_eq_zero (by omega); subst this; simp [sg_of, sg_all]
  | n + 1, l, h => by
    by_cases e : l = []
    · subst e; simp [sg_of, sg_all]
    · have h0 : 0 < l.length := List.length_pos_iff.2 e
      have := sg_of_len n (l.drop 3) (by rw [List.length_drop]; omega)
      rw [sg_of_cons l e, List.length_append, sg_quad_len]
      rw [List.length_drop] at this
      omega
def impl_signsOf.f (a0 : ByteArray) : Option ByteArray := if a0.size ≤ 1000000000000 then some ⟨(sg_of a0.data.toList).toArray⟩ else none
theorem sg_bt (t : ByteArray) (k : Nat) : ((t.data.toList.getD k 0).toNat : Int) = bt t k := by
  unfold bt
  by_cases h : k < t.size
  · have h' : (k : Int).toNat < t.size := by simpa using h
    rw [dif_pos h', List.getD_eq_getElem?_getD, List.getElem?_eq_getElem (by rw [data_length]; exact h)]
    simp; rfl
  · have h' : ¬ (k : Int).toNat < t.size := by simpa using h
    rw [dif_neg h', List.getD_eq_getElem?_getD, List.getElem?_eq_none (by rw [data_length]; omega)]
    rfl
theorem sg_cell (c : UInt8) : [Value.int .u8 (c.toNat : Int)] = Lib.byteCells [c] := rfl
theorem sg_alpha_at (X : Nat) (xl : X < 64) (h : X < (⟨#[65, 66, 67, 68, 69, 70, 71, 72, 73, 74, 75, 76, 77, 78, 79, 80, 81, 82, 83, 84, 85, 86, 87, 88, 89, 90, 97, 98, 99, 100, 101, 102, 103, 104, 105, 106, 107, 108, 109, 110, 111, 112, 113, 114, 115, 116, 117, 118, 119, 120, 121, 122, 48, 49, 50, 51, 52, 53, 54, 55, 56, 57, 43, 47]⟩ : ByteArray).size) : (((⟨#[65, 66, 67, 68, 69, 70, 71, 72, 73, 74, 75, 76, 77, 78, 79, 80, 81, 82, 83, 84, 85, 86, 87, 88, 89, 90, 97, 98, 99, 100, 101, 102, 103, 104, 105, 106, 107, 108, 109, 110, 111, 112, 113, 114, 115, 116, 117, 118, 119, 120, 121, 122, 48, 49, 50, 51, 52, 53, 54, 55, 56, 57, 43, 47]⟩ : ByteArray)[X]'h).toNat : Int) = ((sg_alpha.getD X 0).toNat : Int) := by
  rw [List.getD_eq_getElem?_getD, List.getElem?_eq_getElem (show X < sg_alpha.length from xl)]
  rfl
set_option maxHeartbeats 8000000 in
set_option maxRecDepth 100000 in
theorem impl_signsOf.calls (a0 : ByteArray) (r : ByteArray) (w : World) (h : impl_signsOf.f a0 = some r) :
    Calls Tryz.prog 45 #[.string a0] w fun e w' => e = .returned (.string r) ∧ Below w.heap.size w w' := by
  unfold impl_signsOf.f at h
  by_cases hl : a0.size ≤ 1000000000000
  rotate_left
  · rw [if_neg hl] at h; cases h
  rw [if_pos hl] at h
  obtain rfl := Option.some.inj h
  have HS := Aside0.mk hl
  have HF := Aside0.mk (Go.Proofs.YtgoedenbekedbaaGreatDoor.Bld.fresh w)
  have HB := Aside0.mk (Below.refl w.heap.size w)
  clear hl h
  go_enter Tryz.func45, Tryz.ntmps45
  go_wp2
  go_loopw [0] (fun v wr => ∃ (t : ByteArray) (acc : List UInt8), v = .string t ∧ Aside0 (t.size ≤ a0.size) ∧ Aside0 (acc.length ≤ 4 * (a0.size - t.size)) ∧ Aside0 (Lib.IsBuilder 83 5 w.heap.size w.heap.size (Lib.byteCells acc) wr) ∧ Aside0 (Below w.heap.size w wr) ∧ Aside0 (acc ++ sg_of t.data.toList = sg_of a0.data.toList)) (fun v _ => match v with | .string t => t.size | _ => 0)
  case atStart => exact ⟨a0, [], rfl, ⟨Nat.le_refl _⟩, ⟨by simp⟩, HF, ⟨below_alloc HB.out _⟩, ⟨rfl⟩⟩
  case round =>
    clear HF HB
    obtain ⟨t, acc, rfl, HT, HA, HI, HB, HE⟩ := hrel
    by_cases c3 : t.toList = ([] : List UInt8)
    · have c3b0 : (t.toList == ([] : List UInt8)) = true := beq_iff_eq.mpr c3
      have c3b1 : (t.toList != ([] : List UInt8)) = false := bne_eq_false_iff_eq.mpr c3
      have C3 := Aside0.mk c3
      clear c3
      go_wp2_with (go_at_call 69; (with_reducible refine (Go.Proofs.YtgoedenbekedbaaGreatDoor.Bld.string w.heap.size w.heap.size acc _ HI.out (below_size HB.out)).mono ?_); rintro e w2 ⟨rfl, hb⟩; have n0_ := Aside0.mk (HB.out.trans hb); clear HB hb; have HB := n0_; clear n0_)
      go_ret
      have e := HE.out
      have c3 := C3.out
      rw [ByteArray.toList_eq] at c3
      rw [c3, show sg_of [] = [] from rfl, List.append_nil] at e
      exact ⟨by rw [e]; rfl, HB.out⟩
    · have c3b0 : (t.toList == ([] : List UInt8)) = false := beq_eq_false_iff_ne.mpr c3
      have c3b1 : (t.toList != ([] : List UInt8)) = true := bne_iff_ne.mpr c3
      have hz : 0 < t.size := by
        rcases Nat.eq_zero_or_pos t.size with h0 | h0
        · exact absurd (by rw [ByteArray.toList_eq]; exact List.eq_nil_of_length_eq_zero (by rw [data_length]; exact h0)) c3
        · exact h0
      have hT := HT.out
      have hS := HS.out
      obtain ⟨J, hJ⟩ : ∃ J : Nat, J = min 3 t.size := ⟨_, rfl⟩
      have j1 : 1 ≤ J := by omega
      have j3 : J ≤ 3 := by omega
      have jt : J ≤ t.size := by omega
      have hJ_ : (if (t.size : Int) < 3 then (t.size : Int) else 3) = (J : Int) := by split <;> omega
      obtain ⟨G, hG⟩ : ∃ G, t.extract 0 J = G := ⟨_, rfl⟩
      have gs : G.size = J := by rw [← hG]; simp [ByteArray.size_extract]; omega
      have gd : G.data.toList = t.data.toList.take 3 := by
        rw [← hG]
        simp only [ByteArray.data_extract, Array.toList_extract, List.extract_eq_take_drop, List.drop_zero, Nat.sub_zero]
        rw [hJ]
        rcases Nat.le_total 3 t.size with q | q
        · rw [Nat.min_eq_left q]
        · rw [Nat.min_eq_right q, List.take_of_length_le (by rw [data_length]; omega), List.take_of_length_le (by rw [data_length]; omega)]
      have GS := Aside0.mk gs
      have GD := Aside0.mk gd
      have J_ := Aside0.mk hJ
      clear hJ gs gd
      go_wp2
      go_loop [5, 20] (fun n i => ∃ k : Nat, k ≤ 3 ∧ i = .int .i64 k ∧ n = .int .i64 (sg_num G.data.toList k)) (fun _ i => 3 - (intOf i).toNat)
      case atStart => exact ⟨0, by omega, rfl, rfl⟩
      case round =>
        obtain ⟨k, hk, rfl, rfl⟩ := hrel
        have nl := sg_num_lt G.data.toList k
        have GSo := GS.out
        by_cases e3 : k = 3
        · subst e3
          have HI0 := HI
          have HB0 := HB
          clear HI HB
          have nl3 := sg_num_lt G.data.toList 3
          obtain ⟨N, hN⟩ : ∃ N, sg_num G.data.toList 3 = N := ⟨_, rfl⟩
          have HN := Aside0.mk hN
          rw [hN] at nl3
          simp only [hN]
          clear hN
          have m0 : (0 : Int) ≤ (N : Int) := by omega
          have m1 : (N : Int) ≤ 16777215 := by omega
          go_wp2
          go_loopw [36] (fun i wr2 => ∃ k : Nat, k ≤ 4 ∧ i = .int .i64 k ∧ Aside0 (Lib.IsBuilder 83 5 w.heap.size w.heap.size (Lib.byteCells (acc ++ (sg_quad G.data.toList).take k)) wr2) ∧ Aside0 (Below w.heap.size w wr2)) (fun i _ => 4 - (intOf i).toNat)
          case atStart => exact ⟨0, by omega, rfl, by simpa using HI0, HB0⟩
          case round =>
            clear HI0 HB0
            obtain ⟨k2, hk2, rfl, HI, HB⟩ := hrel
            by_cases e4 : k2 = 4
            · subst e4
              have es : (t.extract J t.size).size = t.size - J := by simp [ByteArray.size_extract]
              have ed : (t.extract J t.size).data.toList = t.data.toList.drop 3 := by
                simp only [ByteArray.data_extract, Array.toList_extract, List.extract_eq_take_drop]
                rw [List.take_of_length_le (by rw [List.length_drop, data_length]; omega)]
                have jj := J_.out
                rcases Nat.le_total 3 t.size with q | q
                · rw [jj, Nat.min_eq_left q]
                · rw [jj, Nat.min_eq_right q, (List.drop_eq_nil_iff (l := t.data.toList) (i := t.size)).2 (by rw [data_length]; omega), (List.drop_eq_nil_iff (l := t.data.toList) (i := 3)).2 (by rw [data_length]; omega)]
              have ES := Aside0.mk es
              have ED := Aside0.mk ed
              clear es ed
              go_wp2
              go_roundw
              case rel =>
                refine ⟨t.extract J t.size, acc ++ sg_quad G.data.toList, rfl, ⟨by have := ES.out; omega⟩, ⟨?_⟩, HI, HB, ⟨?_⟩⟩
                · have := HA.out; have := ES.out; rw [List.length_append, sg_quad_len]; omega
                · have e := HE.out
                  have hne : t.data.toList ≠ [] := fun e0 => by have h9 := congrArg List.length e0; rw [data_length, List.length_nil] at h9; omega
                  rw [sg_of_cons _ hne, ← GD.out, ← ED.out, ← List.append_assoc] at e
                  exact e
              case measure => have := ES.out; simp only [Array.getD_eq_getD_getElem?]; simp; omega
            · have GSo := GS.out
              obtain rfl | rfl | rfl | rfl : k2 = 0 ∨ k2 = 1 ∨ k2 = 2 ∨ k2 = 3 := by omega
              · by_cases q : G.size < 0
                · exact absurd q (by have := GS.out; omega)
                · skip
                  have q1 : decide (G.size < 0) = false := decide_eq_false q
                  have q2 : decide ((0 : Int) > (G.size : Int)) = false := decide_eq_false (by omega)
                  obtain ⟨X, hX⟩ : ∃ X : Nat, X = N / 2 ^ (18 - 6 * 0) % 64 := ⟨_, rfl⟩
                  have xl : X < 64 := by rw [hX]; exact Nat.mod_lt _ (by decide)
                  have hN : Go.bits .and .i64 ((N : Int) / 262144) 63 = (X : Int) := by rw [sg_and63 _ (by omega) (by omega), hX]; omega
                  obtain ⟨C, hC⟩ : ∃ C : Nat, C = (sg_alpha.getD X 0).toNat := ⟨_, rfl⟩
                  have one : (sg_one G.data.toList 0).toNat = C := by unfold sg_one; rw [if_neg (by rw [data_length]; exact q), HN.out, hC, hX]
                  have ONE := Aside0.mk one
                  have hx : ∀ h : X < (⟨#[65, 66, 67, 68, 69, 70, 71, 72, 73, 74, 75, 76, 77, 78, 79, 80, 81, 82, 83, 84, 85, 86, 87, 88, 89, 90, 97, 98, 99, 100, 101, 102, 103, 104, 105, 106, 107, 108, 109, 110, 111, 112, 113, 114, 115, 116, 117, 118, 119, 120, 121, 122, 48, 49, 50, 51, 52, 53, 54, 55, 56, 57, 43, 47]⟩ : ByteArray).size, (((⟨#[65, 66, 67, 68, 69, 70, 71, 72, 73, 74, 75, 76, 77, 78, 79, 80, 81, 82, 83, 84, 85, 86, 87, 88, 89, 90, 97, 98, 99, 100, 101, 102, 103, 104, 105, 106, 107, 108, 109, 110, 111, 112, 113, 114, 115, 116, 117, 118, 119, 120, 121, 122, 48, 49, 50, 51, 52, 53, 54, 55, 56, 57, 43, 47]⟩ : ByteArray)[X]'h).toNat : Int) = (C : Int) := fun h => by rw [hC]; exact sg_alpha_at X xl h
                  have x0 := eq_true (show (0 : Int) ≤ (X : Int) by omega)
                  have x1 := eq_true (show (X : Int) < 64 by omega)
                  have x2 := eq_true xl
                  clear one hC
                  clear hX
                  go_wp2_with (go_at_call 68; (with_reducible refine (Go.Proofs.YtgoedenbekedbaaGreatDoor.Bld.writeByte w.heap.size w.heap.size _ (C : Int) _ HI.out (by rw [Lib.byteCells_length]; have := HA.out; have := HS.out; simp [sg_quad]; omega) (below_size HB.out)).mono ?_); rintro e w2 ⟨rfl, hI, hb⟩; have n0_ := Aside0.mk (HB.out.trans hb); have n1_ := Aside0.mk hI; clear HB HI hI hb; have HB := n0_; have HI := n1_; clear n0_ n1_)
                  go_roundw
                  case rel => exact ⟨1, by omega, by go_num, by have h := HI.out; rw [show [Value.int .u8 (C : Int)] = Lib.byteCells [sg_one G.data.toList 0] by rw [← ONE.out]; rfl, ← Lib.byteCells_append, List.append_assoc] at h; exact ⟨h⟩, HB⟩
                  case measure => simp [intOf]
              · by_cases q : G.size < 1
                · exact absurd q (by have := GS.out; omega)
                · skip
                  have q1 : decide (G.size < 1) = false := decide_eq_false q
                  have q2 : decide ((1 : Int) > (G.size : Int)) = false := decide_eq_false (by omega)
                  obtain ⟨X, hX⟩ : ∃ X : Nat, X = N / 2 ^ (18 - 6 * 1) % 64 := ⟨_, rfl⟩
                  have xl : X < 64 := by rw [hX]; exact Nat.mod_lt _ (by decide)
                  have hN : Go.bits .and .i64 ((N : Int) / 4096) 63 = (X : Int) := by rw [sg_and63 _ (by omega) (by omega), hX]; omega
                  obtain ⟨C, hC⟩ : ∃ C : Nat, C = (sg_alpha.getD X 0).toNat := ⟨_, rfl⟩
                  have one : (sg_one G.data.toList 1).toNat = C := by unfold sg_one; rw [if_neg (by rw [data_length]; exact q), HN.out, hC, hX]
                  have ONE := Aside0.mk one
                  have hx : ∀ h : X < (⟨#[65, 66, 67, 68, 69, 70, 71, 72, 73, 74, 75, 76, 77, 78, 79, 80, 81, 82, 83, 84, 85, 86, 87, 88, 89, 90, 97, 98, 99, 100, 101, 102, 103, 104, 105, 106, 107, 108, 109, 110, 111, 112, 113, 114, 115, 116, 117, 118, 119, 120, 121, 122, 48, 49, 50, 51, 52, 53, 54, 55, 56, 57, 43, 47]⟩ : ByteArray).size, (((⟨#[65, 66, 67, 68, 69, 70, 71, 72, 73, 74, 75, 76, 77, 78, 79, 80, 81, 82, 83, 84, 85, 86, 87, 88, 89, 90, 97, 98, 99, 100, 101, 102, 103, 104, 105, 106, 107, 108, 109, 110, 111, 112, 113, 114, 115, 116, 117, 118, 119, 120, 121, 122, 48, 49, 50, 51, 52, 53, 54, 55, 56, 57, 43, 47]⟩ : ByteArray)[X]'h).toNat : Int) = (C : Int) := fun h => by rw [hC]; exact sg_alpha_at X xl h
                  have x0 := eq_true (show (0 : Int) ≤ (X : Int) by omega)
                  have x1 := eq_true (show (X : Int) < 64 by omega)
                  have x2 := eq_true xl
                  clear one hC
                  clear hX
                  go_wp2_with (go_at_call 68; (with_reducible refine (Go.Proofs.YtgoedenbekedbaaGreatDoor.Bld.writeByte w.heap.size w.heap.size _ (C : Int) _ HI.out (by rw [Lib.byteCells_length]; have := HA.out; have := HS.out; simp [sg_quad]; omega) (below_size HB.out)).mono ?_); rintro e w2 ⟨rfl, hI, hb⟩; have n0_ := Aside0.mk (HB.out.trans hb); have n1_ := Aside0.mk hI; clear HB HI hI hb; have HB := n0_; have HI := n1_; clear n0_ n1_)
                  go_roundw
                  case rel => exact ⟨2, by omega, by go_num, by have h := HI.out; rw [show [Value.int .u8 (C : Int)] = Lib.byteCells [sg_one G.data.toList 1] by rw [← ONE.out]; rfl, ← Lib.byteCells_append, List.append_assoc] at h; exact ⟨h⟩, HB⟩
                  case measure => simp [intOf]
              · by_cases q : G.size < 2
                · skip
                  have q1 : decide (G.size < 2) = true := decide_eq_true q
                  have q2 : decide ((2 : Int) > (G.size : Int)) = true := decide_eq_true (by omega)
                  have one : sg_one G.data.toList 2 = 61 := by unfold sg_one; rw [if_pos (by rw [data_length]; exact q)]
                  have ONE := Aside0.mk one
                  clear one
                  go_wp2_with (go_at_call 68; (with_reducible refine (Go.Proofs.YtgoedenbekedbaaGreatDoor.Bld.writeByte w.heap.size w.heap.size _ 61 _ HI.out (by rw [Lib.byteCells_length]; have := HA.out; have := HS.out; simp [sg_quad]; omega) (below_size HB.out)).mono ?_); rintro e w2 ⟨rfl, hI, hb⟩; have n0_ := Aside0.mk (HB.out.trans hb); have n1_ := Aside0.mk hI; clear HB HI hI hb; have HB := n0_; have HI := n1_; clear n0_ n1_)
                  go_roundw
                  case rel => exact ⟨3, by omega, by go_num, by have h := HI.out; rw [show [Value.int .u8 61] = Lib.byteCells [sg_one G.data.toList 2] by rw [ONE.out]; rfl, ← Lib.byteCells_append, List.append_assoc] at h; exact ⟨h⟩, HB⟩
                  case measure => simp [intOf]
                · skip
                  have q1 : decide (G.size < 2) = false := decide_eq_false q
                  have q2 : decide ((2 : Int) > (G.size : Int)) = false := decide_eq_false (by omega)
                  obtain ⟨X, hX⟩ : ∃ X : Nat, X = N / 2 ^ (18 - 6 * 2) % 64 := ⟨_, rfl⟩
                  have xl : X < 64 := by rw [hX]; exact Nat.mod_lt _ (by decide)
                  have hN : Go.bits .and .i64 ((N : Int) / 64) 63 = (X : Int) := by rw [sg_and63 _ (by omega) (by omega), hX]; omega
                  obtain ⟨C, hC⟩ : ∃ C : Nat, C = (sg_alpha.getD X 0).toNat := ⟨_, rfl⟩
                  have one : (sg_one G.data.toList 2).toNat = C := by unfold sg_one; rw [if_neg (by rw [data_length]; exact q), HN.out, hC, hX]
                  have ONE := Aside0.mk one
                  have hx : ∀ h : X < (⟨#[65, 66, 67, 68, 69, 70, 71, 72, 73, 74, 75, 76, 77, 78, 79, 80, 81, 82, 83, 84, 85, 86, 87, 88, 89, 90, 97, 98, 99, 100, 101, 102, 103, 104, 105, 106, 107, 108, 109, 110, 111, 112, 113, 114, 115, 116, 117, 118, 119, 120, 121, 122, 48, 49, 50, 51, 52, 53, 54, 55, 56, 57, 43, 47]⟩ : ByteArray).size, (((⟨#[65, 66, 67, 68, 69, 70, 71, 72, 73, 74, 75, 76, 77, 78, 79, 80, 81, 82, 83, 84, 85, 86, 87, 88, 89, 90, 97, 98, 99, 100, 101, 102, 103, 104, 105, 106, 107, 108, 109, 110, 111, 112, 113, 114, 115, 116, 117, 118, 119, 120, 121, 122, 48, 49, 50, 51, 52, 53, 54, 55, 56, 57, 43, 47]⟩ : ByteArray)[X]'h).toNat : Int) = (C : Int) := fun h => by rw [hC]; exact sg_alpha_at X xl h
                  have x0 := eq_true (show (0 : Int) ≤ (X : Int) by omega)
                  have x1 := eq_true (show (X : Int) < 64 by omega)
                  have x2 := eq_true xl
                  clear one hC
                  clear hX
                  go_wp2_with (go_at_call 68; (with_reducible refine (Go.Proofs.YtgoedenbekedbaaGreatDoor.Bld.writeByte w.heap.size w.heap.size _ (C : Int) _ HI.out (by rw [Lib.byteCells_length]; have := HA.out; have := HS.out; simp [sg_quad]; omega) (below_size HB.out)).mono ?_); rintro e w2 ⟨rfl, hI, hb⟩; have n0_ := Aside0.mk (HB.out.trans hb); have n1_ := Aside0.mk hI; clear HB HI hI hb; have HB := n0_; have HI := n1_; clear n0_ n1_)
                  go_roundw
                  case rel => exact ⟨3, by omega, by go_num, by have h := HI.out; rw [show [Value.int .u8 (C : Int)] = Lib.byteCells [sg_one G.data.toList 2] by rw [← ONE.out]; rfl, ← Lib.byteCells_append, List.append_assoc] at h; exact ⟨h⟩, HB⟩
                  case measure => simp [intOf]
              · by_cases q : G.size < 3
                · skip
                  have q1 : decide (G.size < 3) = true := decide_eq_true q
                  have q2 : decide ((3 : Int) > (G.size : Int)) = true := decide_eq_true (by omega)
                  have one : sg_one G.data.toList 3 = 61 := by unfold sg_one; rw [if_pos (by rw [data_length]; exact q)]
                  have ONE := Aside0.mk one
                  clear one
                  go_wp2_with (go_at_call 68; (with_reducible refine (Go.Proofs.YtgoedenbekedbaaGreatDoor.Bld.writeByte w.heap.size w.heap.size _ 61 _ HI.out (by rw [Lib.byteCells_length]; have := HA.out; have := HS.out; simp [sg_quad]; omega) (below_size HB.out)).mono ?_); rintro e w2 ⟨rfl, hI, hb⟩; have n0_ := Aside0.mk (HB.out.trans hb); have n1_ := Aside0.mk hI; clear HB HI hI hb; have HB := n0_; have HI := n1_; clear n0_ n1_)
                  go_roundw
                  case rel => exact ⟨4, by omega, by go_num, by have h := HI.out; rw [show [Value.int .u8 61] = Lib.byteCells [sg_one G.data.toList 3] by rw [ONE.out]; rfl, ← Lib.byteCells_append, List.append_assoc] at h; exact ⟨h⟩, HB⟩
                  case measure => simp [intOf]
                · skip
                  have q1 : decide (G.size < 3) = false := decide_eq_false q
                  have q2 : decide ((3 : Int) > (G.size : Int)) = false := decide_eq_false (by omega)
                  obtain ⟨X, hX⟩ : ∃ X : Nat, X = N / 2 ^ (18 - 6 * 3) % 64 := ⟨_, rfl⟩
                  have xl : X < 64 := by rw [hX]; exact Nat.mod_lt _ (by decide)
                  have hN : Go.bits .and .i64 ((N : Int)) 63 = (X : Int) := by rw [sg_and63 _ (by omega) (by omega), hX]; omega
                  obtain ⟨C, hC⟩ : ∃ C : Nat, C = (sg_alpha.getD X 0).toNat := ⟨_, rfl⟩
                  have one : (sg_one G.data.toList 3).toNat = C := by unfold sg_one; rw [if_neg (by rw [data_length]; exact q), HN.out, hC, hX]
                  have ONE := Aside0.mk one
                  have hx : ∀ h : X < (⟨#[65, 66, 67, 68, 69, 70, 71, 72, 73, 74, 75, 76, 77, 78, 79, 80, 81, 82, 83, 84, 85, 86, 87, 88, 89, 90, 97, 98, 99, 100, 101, 102, 103, 104, 105, 106, 107, 108, 109, 110, 111, 112, 113, 114, 115, 116, 117, 118, 119, 120, 121, 122, 48, 49, 50, 51, 52, 53, 54, 55, 56, 57, 43, 47]⟩ : ByteArray).size, (((⟨#[65, 66, 67, 68, 69, 70, 71, 72, 73, 74, 75, 76, 77, 78, 79, 80, 81, 82, 83, 84, 85, 86, 87, 88, 89, 90, 97, 98, 99, 100, 101, 102, 103, 104, 105, 106, 107, 108, 109, 110, 111, 112, 113, 114, 115, 116, 117, 118, 119, 120, 121, 122, 48, 49, 50, 51, 52, 53, 54, 55, 56, 57, 43, 47]⟩ : ByteArray)[X]'h).toNat : Int) = (C : Int) := fun h => by rw [hC]; exact sg_alpha_at X xl h
                  have x0 := eq_true (show (0 : Int) ≤ (X : Int) by omega)
                  have x1 := eq_true (show (X : Int) < 64 by omega)
                  have x2 := eq_true xl
                  clear one hC
                  clear hX
                  go_wp2_with (go_at_call 68; (with_reducible refine (Go.Proofs.YtgoedenbekedbaaGreatDoor.Bld.writeByte w.heap.size w.heap.size _ (C : Int) _ HI.out (by rw [Lib.byteCells_length]; have := HA.out; have := HS.out; simp [sg_quad]; omega) (below_size HB.out)).mono ?_); rintro e w2 ⟨rfl, hI, hb⟩; have n0_ := Aside0.mk (HB.out.trans hb); have n1_ := Aside0.mk hI; clear HB HI hI hb; have HB := n0_; have HI := n1_; clear n0_ n1_)
                  go_roundw
                  case rel => exact ⟨4, by omega, by go_num, by have h := HI.out; rw [show [Value.int .u8 (C : Int)] = Lib.byteCells [sg_one G.data.toList 3] by rw [← ONE.out]; rfl, ← Lib.byteCells_append, List.append_assoc] at h; exact ⟨h⟩, HB⟩
                  case measure => simp [intOf]
        · have k3 : k < 3 := by omega
          have n0 : (0 : Int) ≤ (sg_num G.data.toList k : Int) := by omega
          have n1 : (sg_num G.data.toList k : Int) ≤ 65535 := by
            have : 256 ^ k ≤ 256 ^ 2 := Nat.pow_le_pow_right (by omega) (by omega)
            omega
          have b0 := bt_range G k
          have bG := sg_bt G k
          by_cases q : k < G.size
          · have hx : ∀ h : k < G.size, ((G[k]'h).toNat : Int) = bt G k := fun h => bt_at G k (by simpa using h)
            have q1 : decide (k < G.size) = true := decide_eq_true q
            have NX := Aside0.mk (show Go.bits .or .i64 ((sg_num G.data.toList k : Int) * 256) (bt G k) = ((sg_num G.data.toList (k + 1) : Nat) : Int) by
              rw [sg_or _ _ (by omega) (by omega) (by omega) b0.1 (by omega), sg_num]
              unfold sg_b; rw [← bG]; omega)
            go_wp2
            go_round
            case rel => exact ⟨k + 1, by omega, by go_num, by rw [NX.out]⟩
            case measure => simp [intOf]; omega
          · have q1 : decide (k < G.size) = false := decide_eq_false q
            have NX := Aside0.mk (show ((sg_num G.data.toList k : Nat) : Int) * 256 = ((sg_num G.data.toList (k + 1) : Nat) : Int) by
              have e : sg_b G.data.toList k = 0 := by
                unfold sg_b
                rw [List.getD_eq_getElem?_getD, List.getElem?_eq_none (by rw [data_length]; omega)]; rfl
              rw [sg_num, e]; omega)
            go_wp2
            go_round
            case rel => exact ⟨k + 1, by omega, by go_num, by rw [NX.out]⟩
            case measure => simp [intOf]; omega

/-! ### impl_ofSigns: function 30 -/
mutual
def impl_ofSigns.j0 : Nat → ByteArray → Bool → Option (ByteArray × Bool)
  | 0, _, _ => none
  | k + 1, x0, x19 => if x19 = true then (some ((⟨#[]⟩ : ByteArray), false)) else (impl_ofSigns.l0 k x0 ([] : List Int) 0)
def impl_ofSigns.l0 : Nat → ByteArray → List Int → Int → Option (ByteArray × Bool)
  | 0, _, _, _ => none
  | k + 1, x0, x4, x5 => if x5 < (x0.size : Int) then (if 0 ≤ x5 then (if x5 ≤ (wrap64 (x5 + 4)) then (if (wrap64 (x5 + 4)) ≤ (x0.size : Int) then ((strings_TrimRight.f (x0.extract (x5 : Int).toNat ((wrap64 (x5 + 4)) : Int).toNat) (⟨#[61]⟩ : ByteArray)).bind fun t168 => (impl_ofSigns.l1 k x0 x4 x5 t168 0 0)) else (none)) else (none)) else (none)) else ((impl_signsOf.f (strOfNums x4)).bind fun t167 => (if t167.toList = x0.toList then (if (x4.length : Int) > 600 then (some ((⟨#[]⟩ : ByteArray), false)) else (some (strOfNums x4, true))) else (some ((⟨#[]⟩ : ByteArray), false))))
def impl_ofSigns.l1 : Nat → ByteArray → List Int → Int → ByteArray → Int → Int → Option (ByteArray × Bool)
  | 0, _, _, _, _, _, _ => none
  | k + 1, x0, x4, x5, x6, x7, x32 => if x32 < 4 then (if x32 ≥ (x6.size : Int) then (impl_ofSigns.l1 k x0 x4 x5 x6 (wrap64 (x7 * 64)) (wrap64 (x32 + 1))) else (if 0 ≤ x32 then (if x32 < (x6.size : Int) then ((strings_IndexByte.f (⟨#[65, 66, 67, 68, 69, 70, 71, 72, 73, 74, 75, 76, 77, 78, 79, 80, 81, 82, 83, 84, 85, 86, 87, 88, 89, 90, 97, 98, 99, 100, 101, 102, 103, 104, 105, 106, 107, 108, 109, 110, 111, 112, 113, 114, 115, 116, 117, 118, 119, 120, 121, 122, 48, 49, 50, 51, 52, 53, 54, 55, 56, 57, 43, 47]⟩ : ByteArray) (bt x6 x32)).bind fun t169 => (if t169 < 0 then (some ((⟨#[]⟩ : ByteArray), false)) else (impl_ofSigns.l1 k x0 x4 x5 x6 (Go.bits .or .i64 (wrap64 (x7 * 64)) t169) (wrap64 (x32 + 1))))) else (none)) else (none))) else (if (x6.size : Int) < 2 then (some ((⟨#[]⟩ : ByteArray), false)) else (impl_ofSigns.l2 k x0 x4 x5 x7 (wrap64 ((x6.size : Int) - 1)) 0))
def impl_ofSigns.l2 : Nat → ByteArray → List Int → Int → Int → Int → Int → Option (ByteArray × Bool)
  | 0, _, _, _, _, _, _ => none
  | k + 1, x0, x4, x5, x7, x56, x57 => if x57 < x56 then (if 0 ≤ (wrap64 (16 - (wrap64 (8 * x57)))) then (if x4.length < 140737488355328 then (impl_ofSigns.l2 k x0 (x4 ++ [(shr .i64 x7 (wrap64 (16 - (wrap64 (8 * x57))))) % 256]) x5 x7 x56 (wrap64 (x57 + 1))) else (none)) else (none)) else (impl_ofSigns.l0 k x0 x4 (wrap64 (x5 + 4)))
end
def impl_ofSigns.f (k : Nat) (a0 : ByteArray) : Option (ByteArray × Bool) := if ((a0.size : Int) % 4) = 0 then (impl_ofSigns.j0 k a0 (decide ((a0.size : Int) > 800))) else (impl_ofSigns.j0 k a0 true)
theorem impl_ofSigns.mono_l : ∀ k, (∀ y0 y1, LeO (impl_ofSigns.j0 k y0 y1) (impl_ofSigns.j0 (k + 1) y0 y1)) ∧ (∀ y0 y1 y2, LeO (impl_ofSigns.l0 k y0 y1 y2) (impl_ofSigns.l0 (k + 1) y0 y1 y2)) ∧ (∀ y0 y1 y2 y3 y4 y5, LeO (impl_ofSigns.l1 k y0 y1 y2 y3 y4 y5) (impl_ofSigns.l1 (k + 1) y0 y1 y2 y3 y4 y5)) ∧ (∀ y0 y1 y2 y3 y4 y5, LeO (impl_ofSigns.l2 k y0 y1 y2 y3 y4 y5) (impl_ofSigns.l2 (k + 1) y0 y1 y2 y3 y4 y5))
  | 0 => ⟨fun _ _ r h => by simp [impl_ofSigns.j0] at h, fun _ _ _ r h => by simp [impl_ofSigns.l0] at h, fun _ _ _ _ _ _ r h => by simp [impl_ofSigns.l1] at h, fun _ _ _ _ _ _ r h => by simp [impl_ofSigns.l2] at h⟩
  | k + 1 => by
    obtain ⟨ih0, ih1, ih2, ih3⟩ := impl_ofSigns.mono_l k
    refine ⟨?_, ?_, ?_, ?_⟩
    · intro y0 y1
      unfold impl_ofSigns.j0
      repeat' first
      | (with_reducible exact ih0 _ _)
      | (with_reducible exact ih1 _ _ _)
      | (with_reducible exact ih2 _ _ _ _ _ _)
      | (with_reducible exact ih3 _ _ _ _ _ _)
      | (with_reducible exact LeO.refl _)
      | (with_reducible exact LeO.none _)
      | (with_reducible refine LeO.ite ?_ ?_)
      | (with_reducible refine LeO.bind ?_ (fun _ => ?_))
      | exact ih0 _ _
      | exact ih1 _ _ _
      | exact ih2 _ _ _ _ _ _
      | exact ih3 _ _ _ _ _ _
      | exact LeO.none _
      | refine LeO.ite ?_ ?_
      | refine LeO.bind ?_ (fun _ => ?_)
    · intro y0 y1 y2
      unfold impl_ofSigns.l0
      repeat' first
      | (with_reducible exact ih0 _ _)
      | (with_reducible exact ih1 _ _ _)
      | (with_reducible exact ih2 _ _ _ _ _ _)
      | (with_reducible exact ih3 _ _ _ _ _ _)
      | (with_reducible exact LeO.refl _)
      | (with_reducible exact LeO.none _)
      | (with_reducible refine LeO.ite ?_ ?_)
      | (with_reducible refine LeO.bind ?_ (fun _ => ?_))
      | exact ih0 _ _
      | exact ih1 _ _ _
      | exact ih2 _ _ _ _ _ _
      | exact ih3 _ _ _ _ _ _
      | exact LeO.none _
      | refine LeO.ite ?_ ?_
      | refine LeO.bind ?_ (fun _ => ?_)
    · intro y0 y1 y2 y3 y4 y5
      unfold impl_ofSigns.l1
      repeat' first
      | (with_reducible exact ih0 _ _)
      | (with_reducible exact ih1 _ _ _)
      | (with_reducible exact ih2 _ _ _ _ _ _)
      | (with_reducible exact ih3 _ _ _ _ _ _)
      | (with_reducible exact LeO.refl _)
      | (with_reducible exact LeO.none _)
      | (with_reducible refine LeO.ite ?_ ?_)
      | (with_reducible refine LeO.bind ?_ (fun _ => ?_))
      | exact ih0 _ _
      | exact ih1 _ _ _
      | exact ih2 _ _ _ _ _ _
      | exact ih3 _ _ _ _ _ _
      | exact LeO.none _
      | refine LeO.ite ?_ ?_
      | refine LeO.bind ?_ (fun _ => ?_)
    · intro y0 y1 y2 y3 y4 y5
      unfold impl_ofSigns.l2
      repeat' first
      | (with_reducible exact ih0 _ _)
      | (with_reducible exact ih1 _ _ _)
      | (with_reducible exact ih2 _ _ _ _ _ _)
      | (with_reducible exact ih3 _ _ _ _ _ _)
      | (with_reducible exact LeO.refl _)
      | (with_reducible exact LeO.none _)
      | (with_reducible refine LeO.ite ?_ ?_)
      | (with_reducible refine LeO.bind ?_ (fun _ => ?_))
      | exact ih0 _ _
      | exact ih1 _ _ _
      | exact ih2 _ _ _ _ _ _
      | exact ih3 _ _ _ _ _ _
      | exact LeO.none _
      | refine LeO.ite ?_ ?_
      | refine LeO.bind ?_ (fun _ => ?_)
theorem impl_ofSigns.mono : ∀ a0 k, LeO (impl_ofSigns.f k a0) (impl_ofSigns.f (k + 1) a0) := by
  intro a0 k
  obtain ⟨ih0, ih1, ih2, ih3⟩ := impl_ofSigns.mono_l k
  unfold impl_ofSigns.f
  repeat' first
      | (with_reducible exact ih0 _ _)
      | (with_reducible exact ih1 _ _ _)
      | (with_reducible exact ih2 _ _ _ _ _ _)
      | (with_reducible exact ih3 _ _ _ _ _ _)
      | (with_reducible exact LeO.refl _)
      | (with_reducible exact LeO.none _)
      | (with_reducible refine LeO.ite ?_ ?_)
      | (with_reducible refine LeO.bind ?_ (fun _ => ?_))
      | exact ih0 _ _
      | exact ih1 _ _ _
      | exact ih2 _ _ _ _ _ _
      | exact ih3 _ _ _ _ _ _
      | exact LeO.none _
      | refine LeO.ite ?_ ?_
      | refine LeO.bind ?_ (fun _ => ?_)
set_option maxHeartbeats 8000000 in
set_option maxRecDepth 100000 in
theorem impl_ofSigns.calls (k : Nat) (a0 : ByteArray) (r1 : ByteArray) (r2 : Bool) (w : World) (h : impl_ofSigns.f k a0 = some (r1, r2)) :
    Calls Tryz.prog 30 #[.string a0] w fun e w' => e = .returned (.tuple #[.string r1, .bool r2]) ∧ Below w.heap.size w w' := by
  have HB := Aside0.mk (Below.refl w.heap.size w)
  have H : (if ((a0.size : Int) % 4) = 0 then (impl_ofSigns.j0 k a0 (decide ((a0.size : Int) > 800))) else (impl_ofSigns.j0 k a0 true)) = some (r1, r2) := h
  clear h
  have HC2 := Aside0.mk H
  clear H
  go_enter Tryz.func30, Tryz.ntmps30
  go_upto_region 1 with (fail)
  go_cut [19] (fun v19 wc => ∃ (kq : Nat) (x19_1 : Bool), v19 = .bool x19_1 ∧ Aside0 (impl_ofSigns.j0 kq a0 x19_1 = some (r1, r2)) ∧ Aside0 (kq ≤ k) ∧ Aside0 (Below w.heap.size w wc))
  case first =>
    have H := HC2.out
    clear HC2
    by_cases c3 : ((a0.size : Int) % 4) = 0
    · rw [if_pos c3] at H
      have c3b0 : (((a0.size : Int) % 4) == 0) = true := beq_iff_eq.mpr c3
      have c3b1 : (((a0.size : Int) % 4) != 0) = false := bne_eq_false_iff_eq.mpr c3
      clear c3
      (first | rw [c3b0] | (simp only [i64_w, i32_w]; rw [c3b0]) | skip)
      have H' := Aside0.mk H
      clear H
      go_wp2
      go_meet
      case rel => exact ⟨_, (decide ((a0.size : Int) > 800)), (by first | rfl | (simp; done) | (simp [*]; done)), H', ⟨by first | omega | exact Nat.le_refl _⟩, ⟨by repeat (first | (with_reducible first | exact HB.out | apply below_alloc | apply pw_below_drewN | apply below_drew1) | exact HB.out)⟩⟩
    · rw [if_neg c3] at H
      have c3b0 : (((a0.size : Int) % 4) == 0) = false := beq_eq_false_iff_ne.mpr c3
      have c3b1 : (((a0.size : Int) % 4) != 0) = true := bne_iff_ne.mpr c3
      (first | rw [c3b0] | (simp only [i64_w, i32_w]; rw [c3b0]) | skip)
      have H' := Aside0.mk H
      clear H
      go_wp2
      go_meet
      case rel => exact ⟨_, (true), (by first | rfl | (simp; done) | (simp [*]; done)), H', ⟨by first | omega | exact Nat.le_refl _⟩, ⟨by repeat (first | (with_reducible first | exact HB.out | apply below_alloc | apply pw_below_drewN | apply below_drew1) | exact HB.out)⟩⟩
  case rest =>
    clear HC2
    try clear p2
    try clear c3
    try clear c3b0
    try clear c3b1
    obtain ⟨kq, x19_1, rfl, HA, HJ1, HB⟩ := hcut
    cases kq with
    | zero => exact absurd HA.out (by simp [impl_ofSigns.j0])
    | succ kj1 =>
      have H := HA.out
      clear HA
      simp only [impl_ofSigns.j0] at H
      by_cases c4 : x19_1 = true
      · subst c4
        have H1 : (some ((⟨#[]⟩ : ByteArray), false)) = some (r1, r2) := by rw [if_pos rfl] at H; exact H
        clear H
        have H := H1
        clear H1
        simp only [Option.some.injEq, Prod.mk.injEq] at H
        obtain ⟨rfl, rfl⟩ := H
        go_wp2
        go_ret2
        exact ⟨by first | rfl | (simp [errW_none, errW_some] <;> rfl) | (simp [*, errW_none, errW_some] <;> rfl), by repeat (first | (with_reducible first | exact HB.out | apply below_alloc | apply pw_below_drewN | apply below_drew1) | exact HB.out)⟩
      · replace c4 := Bool.eq_false_iff.mpr c4
        subst c4
        have H1 : (impl_ofSigns.l0 kj1 a0 ([] : List Int) 0) = some (r1, r2) := by rw [if_neg (show ¬ (false = true) by decide)] at H; exact H
        clear H
        have H := H1
        clear H1
        have H' := Aside0.mk H
        clear H
        go_wp2
        go_loopg [4, 5] kj1 (fun kq v4 v5 w' => ∃ (x4_2 : List Int) (x5_2 : Int), v5 = .int .i64 x5_2 ∧ Aside0 (impl_ofSigns.l0 kq a0 x4_2 x5_2 = some (r1, r2)) ∧ Aside0 (kq ≤ kj1) ∧ Aside0 (Kd.R (Kd.int .u8) 5 w' w.heap.size (fun _ => True) v4 x4_2) ∧ Aside0 (Below w.heap.size w w'))
        case atStart => exact ⟨(([] : List Int)), (0), (by first | rfl | (simp; done) | (simp [*]; done)), H', ⟨Nat.le_refl _⟩, ⟨by first | exact Kd.R_nil _ _ _ _ _ | exact Kd.N_nil _ _ _ _ _ | exact Kd.V_nil _ _ _ _ _ | exact Kd.Q_nil _ _ _ _ _ | exact Kd.S_nil _ _ _ _ _⟩, ⟨by repeat (first | (with_reducible first | exact HB.out | apply below_alloc | apply pw_below_drewN | apply below_drew1) | exact HB.out)⟩⟩
        case round =>
          clear H'
          try clear p2
          try clear c3
          try clear c3b0
          try clear c3b1
          try clear c4
          try clear p2
          obtain ⟨x4_2, x5_2, rfl, HA, HK2, HO_4, HB⟩ := hrel
          cases gk with
          | zero => exact absurd HA.out (by simp [impl_ofSigns.l0])
          | succ k2 =>
            have H := HA.out
            clear HA
            simp only [impl_ofSigns.l0] at H
            by_cases c5 : x5_2 < (a0.size : Int)
            · rw [if_pos c5] at H
              have c5b0 : decide (x5_2 < (a0.size : Int)) = true := decide_eq_true c5
              clear c5
              by_cases c6 : 0 ≤ x5_2
              · rw [if_pos c6] at H
                have c6b0 := eq_true c6
                have c6b1 : decide (0 ≤ x5_2) = true := decide_eq_true c6
                clear c6
                by_cases c7 : x5_2 ≤ (wrap64 (x5_2 + 4))
                · rw [if_pos c7] at H
                  have c7b0 := eq_true c7
                  have c7b1 : decide (x5_2 ≤ (wrap64 (x5_2 + 4))) = true := decide_eq_true c7
                  by_cases c8 : (wrap64 (x5_2 + 4)) ≤ (a0.size : Int)
                  · rw [if_pos c8] at H
                    have c8b0 := eq_true c8
                    have c8b1 : decide ((wrap64 (x5_2 + 4)) ≤ (a0.size : Int)) = true := decide_eq_true c8
                    replace H := Option.bind_eq_some_iff.mp H
                    obtain ⟨t168, A90, H⟩ := H
                    replace H : (impl_ofSigns.l1 k2 a0 x4_2 x5_2 t168 0 0) = some (r1, r2) := H
                    have A9 := Aside0.mk A90
                    clear A90
                    have H' := Aside0.mk H
                    clear H
                    go_wp2_with (first | ((with_reducible refine gate_callee (f := 43) rfl ?_); refine goesL_ (some 31) rfl rfl Tryz.func43 (by kernel_rfl) rfl #[.string (a0.extract (x5_2 : Int).toNat ((wrap64 (x5_2 + 4)) : Int).toNat), .string (⟨#[61]⟩ : ByteArray)] rfl (by (try simp only [List.map_toArray, List.map_cons, List.map_nil]); first | done | rfl | (simp only [List.length_drop, List.length_take]; rfl)) ?_; (with_reducible refine (strings_TrimRight.calls (a0.extract (x5_2 : Int).toNat ((wrap64 (x5_2 + 4)) : Int).toNat) (⟨#[61]⟩ : ByteArray) t168 _ A9.out).mono ?_); rintro e w' ⟨rfl, ⟨nd, rfl⟩⟩; refine ⟨_, rfl, ?_⟩))
                    go_loopg [7, 32] k2 (fun kq v7 v32 w' => ∃ (x7_3 : Int) (x32_3 : Int), v7 = .int .i64 x7_3 ∧ v32 = .int .i64 x32_3 ∧ Aside0 (impl_ofSigns.l1 kq a0 x4_2 x5_2 t168 x7_3 x32_3 = some (r1, r2)) ∧ Aside0 (kq ≤ k2) ∧ Aside0 (Kd.R (Kd.int .u8) 5 w' w.heap.size (fun _ => True) u4 x4_2) ∧ Aside0 (Below w.heap.size w w'))
                    case atStart => exact ⟨(0), (0), (by first | rfl | (simp; done) | (simp [*]; done)), (by first | rfl | (simp; done) | (simp [*]; done)), H', ⟨Nat.le_refl _⟩, ⟨by (with_reducible repeat (first | apply Kd.R_alloc | apply Kd.R_drewN | apply Kd.R_drew)); exact HO_4.out⟩, ⟨by repeat (first | (with_reducible first | exact HB.out | apply below_alloc | apply pw_below_drewN | apply below_drew1) | exact HB.out)⟩⟩
                    case round =>
                      clear H'
                      try clear p2
                      try clear c3
                      try clear c3b0
                      try clear c3b1
                      try clear c4
                      try clear c5
                      try clear c5b0
                      try clear c6
                      try clear c6b0
                      try clear c6b1
                      try clear p6
                      try clear c7
                      try clear c7b0
                      try clear c7b1
                      try clear c8
                      try clear c8b0
                      try clear c8b1
                      try clear p2
                      obtain ⟨x7_3, x32_3, rfl, rfl, HA, HK3, HO_4, HB⟩ := hrel
                      cases gk with
                      | zero => exact absurd HA.out (by simp [impl_ofSigns.l1])
                      | succ k3 =>
                        have H := HA.out
                        clear HA
                        simp only [impl_ofSigns.l1] at H
                        by_cases c10 : x32_3 < 4
                        · rw [if_pos c10] at H
                          have c10b0 : decide (x32_3 < 4) = true := decide_eq_true c10
                          clear c10
                          by_cases c11 : x32_3 ≥ (t168.size : Int)
                          · rw [if_pos c11] at H
                            have c11b0 : decide ((t168.size : Int) ≤ x32_3) = true := decide_eq_true c11
                            clear c11
                            have H' := Aside0.mk H
                            clear H
                            go_wp2
                            go_roundg k3
                            case measure => have := HJ1.out; have := HK2.out; have := HK3.out; omega
                            case rel => exact ⟨(wrap64 (x7_3 * 64)), (wrap64 (x32_3 + 1)), (by first | rfl | (simp; done) | (simp [*]; done)), (by first | rfl | (simp; done) | (simp [*]; done)), H', ⟨by have := HJ1.out; have := HK2.out; have := HK3.out; omega⟩, ⟨by (with_reducible repeat (first | apply Kd.R_alloc | apply Kd.R_drewN | apply Kd.R_drew)); exact HO_4.out⟩, ⟨by repeat (first | (with_reducible first | exact HB.out | apply below_alloc | apply pw_below_drewN | apply below_drew1) | exact HB.out)⟩⟩
                          · rw [if_neg c11] at H
                            have c11b0 : decide ((t168.size : Int) ≤ x32_3) = false := decide_eq_false c11
                            clear c11
                            by_cases c12 : 0 ≤ x32_3
                            · rw [if_pos c12] at H
                              have c12b0 : decide (0 ≤ x32_3) = true := decide_eq_true c12
                              clear c12
                              by_cases c13 : x32_3 < (t168.size : Int)
                              · rw [if_pos c13] at H
                                have c13b0 : decide (x32_3 < (t168.size : Int)) = true := decide_eq_true c13
                                clear c13
                                replace H := Option.bind_eq_some_iff.mp H
                                obtain ⟨t169, A150, H⟩ := H
                                replace H : (if t169 < 0 then (some ((⟨#[]⟩ : ByteArray), false)) else (impl_ofSigns.l1 k3 a0 x4_2 x5_2 t168 (Go.bits .or .i64 (wrap64 (x7_3 * 64)) t169) (wrap64 (x32_3 + 1)))) = some (r1, r2) := H
                                have A15 := Aside0.mk A150
                                clear A150
                                by_cases c16 : t169 < 0
                                · rw [if_pos c16] at H
                                  have c16b0 : decide (t169 < 0) = true := decide_eq_true c16
                                  clear c16
                                  simp only [Option.some.injEq, Prod.mk.injEq] at H
                                  obtain ⟨rfl, rfl⟩ := H
                                  have p14 : 0 ≤ (x32_3 : Int) := of_decide_eq_true (by first | (with_reducible assumption) | assumption)
                                  have q14 : x32_3 < (t168.size : Int) := of_decide_eq_true (by first | (with_reducible assumption) | assumption)
                                  have hx14 := bt_at t168 x32_3
                                  replace p14 := eq_true p14
                                  replace q14 := eq_true q14
                                  go_wp2_with (first | ((with_reducible refine gate_callee (f := 44) rfl ?_); refine goesL_ (some 44) rfl rfl Tryz.func44 (by kernel_rfl) rfl #[.string (⟨#[65, 66, 67, 68, 69, 70, 71, 72, 73, 74, 75, 76, 77, 78, 79, 80, 81, 82, 83, 84, 85, 86, 87, 88, 89, 90, 97, 98, 99, 100, 101, 102, 103, 104, 105, 106, 107, 108, 109, 110, 111, 112, 113, 114, 115, 116, 117, 118, 119, 120, 121, 122, 48, 49, 50, 51, 52, 53, 54, 55, 56, 57, 43, 47]⟩ : ByteArray), .int .u8 (bt t168 x32_3)] rfl (by (try simp only [List.map_toArray, List.map_cons, List.map_nil]); first | done | rfl | (simp only [List.length_drop, List.length_take]; rfl)) ?_; (with_reducible refine (strings_IndexByte.calls (⟨#[65, 66, 67, 68, 69, 70, 71, 72, 73, 74, 75, 76, 77, 78, 79, 80, 81, 82, 83, 84, 85, 86, 87, 88, 89, 90, 97, 98, 99, 100, 101, 102, 103, 104, 105, 106, 107, 108, 109, 110, 111, 112, 113, 114, 115, 116, 117, 118, 119, 120, 121, 122, 48, 49, 50, 51, 52, 53, 54, 55, 56, 57, 43, 47]⟩ : ByteArray) (bt t168 x32_3) t169 _ A15.out).mono ?_); rintro e w' ⟨rfl, ⟨nd, rfl⟩⟩; refine ⟨_, rfl, ?_⟩))
                                  go_ret2
                                  exact ⟨by first | rfl | (simp [errW_none, errW_some] <;> rfl) | (simp [*, errW_none, errW_some] <;> rfl), by repeat (first | (with_reducible first | exact HB.out | apply below_alloc | apply pw_below_drewN | apply below_drew1) | exact HB.out)⟩
                                · rw [if_neg c16] at H
                                  have c16b0 : decide (t169 < 0) = false := decide_eq_false c16
                                  clear c16
                                  have H' := Aside0.mk H
                                  clear H
                                  have p14 : 0 ≤ (x32_3 : Int) := of_decide_eq_true (by first | (with_reducible assumption) | assumption)
                                  have q14 : x32_3 < (t168.size : Int) := of_decide_eq_true (by first | (with_reducible assumption) | assumption)
                                  have hx14 := bt_at t168 x32_3
                                  replace p14 := eq_true p14
                                  replace q14 := eq_true q14
                                  go_wp2_with (first | ((with_reducible refine gate_callee (f := 44) rfl ?_); refine goesL_ (some 44) rfl rfl Tryz.func44 (by kernel_rfl) rfl #[.string (⟨#[65, 66, 67, 68, 69, 70, 71, 72, 73, 74, 75, 76, 77, 78, 79, 80, 81, 82, 83, 84, 85, 86, 87, 88, 89, 90, 97, 98, 99, 100, 101, 102, 103, 104, 105, 106, 107, 108, 109, 110, 111, 112, 113, 114, 115, 116, 117, 118, 119, 120, 121, 122, 48, 49, 50, 51, 52, 53, 54, 55, 56, 57, 43, 47]⟩ : ByteArray), .int .u8 (bt t168 x32_3)] rfl (by (try simp only [List.map_toArray, List.map_cons, List.map_nil]); first | done | rfl | (simp only [List.length_drop, List.length_take]; rfl)) ?_; (with_reducible refine (strings_IndexByte.calls (⟨#[65, 66, 67, 68, 69, 70, 71, 72, 73, 74, 75, 76, 77, 78, 79, 80, 81, 82, 83, 84, 85, 86, 87, 88, 89, 90, 97, 98, 99, 100, 101, 102, 103, 104, 105, 106, 107, 108, 109, 110, 111, 112, 113, 114, 115, 116, 117, 118, 119, 120, 121, 122, 48, 49, 50, 51, 52, 53, 54, 55, 56, 57, 43, 47]⟩ : ByteArray) (bt t168 x32_3) t169 _ A15.out).mono ?_); rintro e w' ⟨rfl, ⟨nd, rfl⟩⟩; refine ⟨_, rfl, ?_⟩))
                                  go_roundg k3
                                  case measure => have := HJ1.out; have := HK2.out; have := HK3.out; omega
                                  case rel => exact ⟨(Go.bits .or .i64 (wrap64 (x7_3 * 64)) t169), (wrap64 (x32_3 + 1)), (by first | rfl | (simp; done) | (simp [*]; done)), (by first | rfl | (simp; done) | (simp [*]; done)), H', ⟨by have := HJ1.out; have := HK2.out; have := HK3.out; omega⟩, ⟨by (with_reducible repeat (first | apply Kd.R_alloc | apply Kd.R_drewN | apply Kd.R_drew)); exact HO_4.out⟩, ⟨by repeat (first | (with_reducible first | exact HB.out | apply below_alloc | apply pw_below_drewN | apply below_drew1) | exact HB.out)⟩⟩
                              · rw [if_neg c13] at H
                                exact absurd H (by simp)
                            · rw [if_neg c12] at H
                              exact absurd H (by simp)
                        · rw [if_neg c10] at H
                          have c10b0 : decide (x32_3 < 4) = false := decide_eq_false c10
                          clear c10
                          by_cases c17 : (t168.size : Int) < 2
                          · rw [if_pos c17] at H
                            have c17b0 : decide ((t168.size : Int) < 2) = true := decide_eq_true c17
                            have c17b1 : decide (t168.size < 2) = true := decide_eq_true (by omega)
                            clear c17
                            simp only [Option.some.injEq, Prod.mk.injEq] at H
                            obtain ⟨rfl, rfl⟩ := H
                            go_wp2
                            go_ret2
                            exact ⟨by first | rfl | (simp [errW_none, errW_some] <;> rfl) | (simp [*, errW_none, errW_some] <;> rfl), by repeat (first | (with_reducible first | exact HB.out | apply below_alloc | apply pw_below_drewN | apply below_drew1) | exact HB.out)⟩
                          · rw [if_neg c17] at H
                            have c17b0 : decide ((t168.size : Int) < 2) = false := decide_eq_false c17
                            have c17b1 : decide (t168.size < 2) = false := decide_eq_false (by omega)
                            clear c17
                            have H' := Aside0.mk H
                            clear H
                            go_wp2
                            go_loopg [4, 57] k3 (fun kq v4 v57 w' => ∃ (x4_4 : List Int) (x57_4 : Int), v57 = .int .i64 x57_4 ∧ Aside0 (impl_ofSigns.l2 kq a0 x4_4 x5_2 x7_3 (wrap64 ((t168.size : Int) - 1)) x57_4 = some (r1, r2)) ∧ Aside0 (kq ≤ k3) ∧ Aside0 (Kd.R (Kd.int .u8) 5 w' w.heap.size (fun _ => True) v4 x4_4) ∧ Aside0 (Below w.heap.size w w'))
                            case atStart => exact ⟨(x4_2), (0), (by first | rfl | (simp; done) | (simp [*]; done)), H', ⟨Nat.le_refl _⟩, ⟨by (with_reducible repeat (first | apply Kd.R_alloc | apply Kd.R_drewN | apply Kd.R_drew)); exact HO_4.out⟩, ⟨by repeat (first | (with_reducible first | exact HB.out | apply below_alloc | apply pw_below_drewN | apply below_drew1) | exact HB.out)⟩⟩
                            case round =>
                              clear H'
                              try clear c1
                              try clear p1
                              try clear q1
                              try clear hx1
                              try clear p2
                              try clear c3
                              try clear c3b0
                              try clear c3b1
                              try clear c4
                              try clear c5
                              try clear c5b0
                              try clear c6
                              try clear c6b0
                              try clear c6b1
                              try clear p6
                              try clear c7
                              try clear c7b0
                              try clear c7b1
                              try clear c8
                              try clear c8b0
                              try clear c8b1
                              try clear c10
                              try clear c10b0
                              try clear c11
                              try clear c11b0
                              try clear c12
                              try clear c12b0
                              try clear c13
                              try clear c13b0
                              try clear p14
                              try clear q14
                              try clear hx14
                              try clear c16
                              try clear c16b0
                              try clear c17
                              try clear c17b0
                              try clear c17b1
                              try clear p14
                              try clear p2
                              try clear p6
                              try clear q14
                              obtain ⟨x4_4, x57_4, rfl, HA, HK4, HO_4, HB⟩ := hrel
                              cases gk with
                              | zero => exact absurd HA.out (by simp [impl_ofSigns.l2])
                              | succ k4 =>
                                have H := HA.out
                                clear HA
                                simp only [impl_ofSigns.l2] at H
                                by_cases c18 : x57_4 < (wrap64 ((t168.size : Int) - 1))
                                · rw [if_pos c18] at H
                                  have c18b0 : decide (x57_4 < (wrap64 ((t168.size : Int) - 1))) = true := decide_eq_true c18
                                  clear c18
                                  obtain ⟨ji19, hji19⟩ : ∃ j_ : Int, (wrap64 (16 - (wrap64 (8 * x57_4)))) = j_ := ⟨_, rfl⟩
                                  replace H : (if 0 ≤ (ji19) then (if x4_4.length < 140737488355328 then (impl_ofSigns.l2 k4 a0 (x4_4 ++ [(shr .i64 x7_3 (ji19)) % 256]) x5_2 x7_3 (wrap64 ((t168.size : Int) - 1)) (wrap64 (x57_4 + 1))) else (none)) else (none)) = some (r1, r2) := by first | (rw [hji19] at H; exact H) | (simp only [hji19] at H ⊢; exact H)
                                  have hji19w : (IntKind.i64.wrap (16 - (wrap64 (8 * x57_4)))) = ji19 := (i64_w _).trans hji19
                                  by_cases c20 : 0 ≤ (ji19)
                                  · rw [if_pos c20] at H
                                    have c20b0 := eq_true c20
                                    have c20b1 : decide (0 ≤ (ji19)) = true := decide_eq_true c20
                                    clear c20
                                    obtain ⟨ji21, hji21⟩ : ∃ j_ : Int, (shr .i64 x7_3 (ji19)) = j_ := ⟨_, rfl⟩
                                    replace H : (if x4_4.length < 140737488355328 then (impl_ofSigns.l2 k4 a0 (x4_4 ++ [(ji21) % 256]) x5_2 x7_3 (wrap64 ((t168.size : Int) - 1)) (wrap64 (x57_4 + 1))) else (none)) = some (r1, r2) := by first | (rw [hji21] at H; exact H) | (simp only [hji21] at H ⊢; exact H)
                                    have hji21_ : (x7_3 / 2 ^ min (ji19).toNat 64) = ji21 := hji21
                                    have hji21z : (ji19) ≤ 64 → (x7_3 / 2 ^ (ji19).toNat) = ji21 := shr_small hji21
                                    by_cases c22 : x4_4.length < 140737488355328
                                    · rw [if_pos c22] at H
                                      have LMc22 := Aside0.mk c22
                                      clear c22
                                      obtain ⟨y170, hy170⟩ : ∃ y_ : List Int, y_ = (x4_4 ++ [(ji21) % 256]) := ⟨_, rfl⟩
                                      replace H : (impl_ofSigns.l2 k4 a0 y170 x5_2 x7_3 (wrap64 ((t168.size : Int) - 1)) (wrap64 (x57_4 + 1))) = some (r1, r2) := by first | (rw [hy170]; with_reducible exact H) | (have H2_ := (Option.bind_some _ _).symm.trans H; rw [hy170]; with_reducible exact H2_) | (have H2_ := (Option.bind_some _ _).symm.trans H; with_reducible exact H2_) | with_reducible exact H | (rw [hy170]; exact H) | exact H
                                      have Ny170 := Aside0.mk hy170
                                      clear hy170
                                      have H' := Aside0.mk H
                                      clear H
                                      go_wp2_with (first | ((with_reducible refine gate_builtin (b := .append) (xs := #[.tmp 60, .tmp 67]) rfl ?_); (try (refine gate_guard (by rfl) ?_; dsimp only)); at_builtin; refine Kd.R_append (Kd.int .u8) (w0 := w) w.heap.size rfl (.tmp 60) (.tmp 67) 50 5 (.int .u8 0) 1 rfl Tryz.underlying50 info5 rfl (by decide) (by omega) u4 x4_4 ((ji21) % 256) [.int .u8 ((ji21) % 256)] (fun _ => True) (fun _ => False) rfl rfl ?aP (fun _ hk => hk.elim) ?aF ?aO ?aB ?aS ?aL ?_; (case aP => exact rfl); (case aB => exact (by repeat (first | (with_reducible first | exact HB.out | apply below_alloc | apply pw_below_drewN | apply below_drew1) | exact HB.out))); (case aF => exact (fun _ _ => trivial)); (case aO => exact (by (with_reducible repeat (first | apply Kd.R_alloc | apply Kd.R_drewN | apply Kd.R_drew)); exact HO_4.out)); (case aS => exact (below_size (by repeat (first | (with_reducible first | exact HB.out | apply below_alloc | apply pw_below_drewN | apply below_drew1) | exact HB.out)))); (case aL => have := LMc22.out; omega); intro v171 w23 ho hb hg hat; rw [← Ny170.out] at ho; have n0_ := Aside0.mk (hb); have n1_ := Aside0.mk (ho); clear HB; clear HO_4; have HB := n0_; have HO172 := n1_; clear n0_ n1_; clear ho hb hg hat))
                                      go_roundg k4
                                      case measure => have := HJ1.out; have := HK2.out; have := HK3.out; have := HK4.out; omega
                                      case rel => exact ⟨(y170), (wrap64 (x57_4 + 1)), (by first | rfl | (simp; done) | (simp [*]; done)), H', ⟨by have := HJ1.out; have := HK2.out; have := HK3.out; have := HK4.out; omega⟩, ⟨by (with_reducible repeat (first | apply Kd.R_alloc | apply Kd.R_drewN | apply Kd.R_drew)); exact HO172.out⟩, ⟨by repeat (first | (with_reducible first | exact HB.out | apply below_alloc | apply pw_below_drewN | apply below_drew1) | exact HB.out)⟩⟩
                                    · rw [if_neg c22] at H
                                      exact absurd H (by simp)
                                  · rw [if_neg c20] at H
                                    exact absurd H (by simp)
                                · rw [if_neg c18] at H
                                  have c18b0 : decide (x57_4 < (wrap64 ((t168.size : Int) - 1))) = false := decide_eq_false c18
                                  clear c18
                                  have H' := Aside0.mk H
                                  clear H
                                  go_wp2
                                  go_roundg k4
                                  case measure => have := HJ1.out; have := HK2.out; have := HK3.out; have := HK4.out; omega
                                  case rel => exact ⟨(x4_4), (wrap64 (x5_2 + 4)), (by first | rfl | (simp; done) | (simp [*]; done)), H', ⟨by have := HJ1.out; have := HK2.out; have := HK3.out; have := HK4.out; omega⟩, ⟨by (with_reducible repeat (first | apply Kd.R_alloc | apply Kd.R_drewN | apply Kd.R_drew)); exact HO_4.out⟩, ⟨by repeat (first | (with_reducible first | exact HB.out | apply below_alloc | apply pw_below_drewN | apply below_drew1) | exact HB.out)⟩⟩
                  · rw [if_neg c8] at H
                    exact absurd H (by simp)
                · rw [if_neg c7] at H
                  exact absurd H (by simp)
              · rw [if_neg c6] at H
                exact absurd H (by simp)
            · rw [if_neg c5] at H
              have c5b0 : decide (x5_2 < (a0.size : Int)) = false := decide_eq_false c5
              clear c5
              replace H := Option.bind_eq_some_iff.mp H
              obtain ⟨t167, A240, H⟩ := H
              replace H : (if t167.toList = a0.toList then (if (x4_2.length : Int) > 600 then (some ((⟨#[]⟩ : ByteArray), false)) else (some (strOfNums x4_2, true))) else (some ((⟨#[]⟩ : ByteArray), false))) = some (r1, r2) := H
              have A24 := Aside0.mk A240
              clear A240
              by_cases c25 : t167.toList = a0.toList
              · rw [if_pos c25] at H
                have c25b0 : (t167.toList == a0.toList) = true := beq_iff_eq.mpr c25
                have c25b1 : (t167.toList != a0.toList) = false := bne_eq_false_iff_eq.mpr c25
                clear c25
                by_cases c26 : (x4_2.length : Int) > 600
                · rw [if_pos c26] at H
                  have c26b0 : decide (600 < (x4_2.length : Int)) = true := decide_eq_true c26
                  have c26b1 : decide (600 < x4_2.length) = true := decide_eq_true (by omega)
                  clear c26
                  simp only [Option.some.injEq, Prod.mk.injEq] at H
                  obtain ⟨rfl, rfl⟩ := H
                  have hcv27 := own_string (P := Tryz.prog) Tryz.underlying50 Tryz.underlying5 Tryz.underlying9 (Kd.own_of_R HO_4.out)
                  go_wp2_with (first | ((with_reducible refine gate_callee (f := 45) rfl ?_); refine goesL_ (some 72) rfl rfl Tryz.func45 (by kernel_rfl) rfl #[.string (strOfNums x4_2)] rfl (by (try simp only [List.map_toArray, List.map_cons, List.map_nil]); first | done | rfl | (simp only [List.length_drop, List.length_take]; rfl)) ?_; (with_reducible refine (impl_signsOf.calls (strOfNums x4_2) t167 _ A24.out).mono ?_); rintro e w28 ⟨rfl, hb⟩; refine ⟨_, rfl, ?_⟩; have n0_ := Aside0.mk (Kd.R_below (by (with_reducible repeat (first | apply Kd.R_alloc | apply Kd.R_drewN | apply Kd.R_drew)); exact HO_4.out) hb); have n1_ := Aside0.mk (below_step (by repeat (first | (with_reducible first | exact HB.out | apply below_alloc | apply pw_below_drewN | apply below_drew1) | exact HB.out)) hb); clear HO_4; clear HB; have HO_4 := n0_; have HB := n1_; clear n0_ n1_; (try clear hb); (try clear hb2); (try clear hk); (try clear hi); obtain ⟨Ao29, co29, eo29⟩ := Kd.R_slice HO_4.out; subst eo29))
                  go_ret2
                  exact ⟨by first | rfl | (simp [errW_none, errW_some] <;> rfl) | (simp [*, errW_none, errW_some] <;> rfl), by repeat (first | (with_reducible first | exact HB.out | apply below_alloc | apply pw_below_drewN | apply below_drew1) | exact HB.out)⟩
                · rw [if_neg c26] at H
                  have c26b0 : decide (600 < (x4_2.length : Int)) = false := decide_eq_false c26
                  have c26b1 : decide (600 < x4_2.length) = false := decide_eq_false (by omega)
                  clear c26
                  simp only [Option.some.injEq, Prod.mk.injEq] at H
                  obtain ⟨rfl, rfl⟩ := H
                  have hcv30 := own_string (P := Tryz.prog) Tryz.underlying50 Tryz.underlying5 Tryz.underlying9 (Kd.own_of_R HO_4.out)
                  go_wp2_with (first | ((with_reducible refine gate_callee (f := 45) rfl ?_); refine goesL_ (some 72) rfl rfl Tryz.func45 (by kernel_rfl) rfl #[.string (strOfNums x4_2)] rfl (by (try simp only [List.map_toArray, List.map_cons, List.map_nil]); first | done | rfl | (simp only [List.length_drop, List.length_take]; rfl)) ?_; (with_reducible refine (impl_signsOf.calls (strOfNums x4_2) t167 _ A24.out).mono ?_); rintro e w31 ⟨rfl, hb⟩; refine ⟨_, rfl, ?_⟩; have n0_ := Aside0.mk (Kd.R_below (by (with_reducible repeat (first | apply Kd.R_alloc | apply Kd.R_drewN | apply Kd.R_drew)); exact HO_4.out) hb); have n1_ := Aside0.mk (below_step (by repeat (first | (with_reducible first | exact HB.out | apply below_alloc | apply pw_below_drewN | apply below_drew1) | exact HB.out)) hb); clear HO_4; clear HB; have HO_4 := n0_; have HB := n1_; clear n0_ n1_; (try clear hb); (try clear hb2); (try clear hk); (try clear hi); obtain ⟨Ao32, co32, eo32⟩ := Kd.R_slice HO_4.out; subst eo32; have hcv33 := own_string (P := Tryz.prog) Tryz.underlying50 Tryz.underlying5 Tryz.underlying9 (Kd.own_of_R HO_4.out)))
                  go_ret2
                  exact ⟨by first | rfl | (simp [errW_none, errW_some] <;> rfl) | (simp [*, errW_none, errW_some] <;> rfl), by repeat (first | (with_reducible first | exact HB.out | apply below_alloc | apply pw_below_drewN | apply below_drew1) | exact HB.out)⟩
              · rw [if_neg c25] at H
                have c25b0 : (t167.toList == a0.toList) = false := beq_eq_false_iff_ne.mpr c25
                have c25b1 : (t167.toList != a0.toList) = true := bne_iff_ne.mpr c25
                simp only [Option.some.injEq, Prod.mk.injEq] at H
                obtain ⟨rfl, rfl⟩ := H
                have hcv34 := own_string (P := Tryz.prog) Tryz.underlying50 Tryz.underlying5 Tryz.underlying9 (Kd.own_of_R HO_4.out)
                go_wp2_with (first | ((with_reducible refine gate_callee (f := 45) rfl ?_); refine goesL_ (some 72) rfl rfl Tryz.func45 (by kernel_rfl) rfl #[.string (strOfNums x4_2)] rfl (by (try simp only [List.map_toArray, List.map_cons, List.map_nil]); first | done | rfl | (simp only [List.length_drop, List.length_take]; rfl)) ?_; (with_reducible refine (impl_signsOf.calls (strOfNums x4_2) t167 _ A24.out).mono ?_); rintro e w35 ⟨rfl, hb⟩; refine ⟨_, rfl, ?_⟩; have n0_ := Aside0.mk (Kd.R_below (by (with_reducible repeat (first | apply Kd.R_alloc | apply Kd.R_drewN | apply Kd.R_drew)); exact HO_4.out) hb); have n1_ := Aside0.mk (below_step (by repeat (first | (with_reducible first | exact HB.out | apply below_alloc | apply pw_below_drewN | apply below_drew1) | exact HB.out)) hb); clear HO_4; clear HB; have HO_4 := n0_; have HB := n1_; clear n0_ n1_; (try clear hb); (try clear hb2); (try clear hk); (try clear hi)))
                go_ret2
                exact ⟨by first | rfl | (simp [errW_none, errW_some] <;> rfl) | (simp [*, errW_none, errW_some] <;> rfl), by repeat (first | (with_reducible first | exact HB.out | apply below_alloc | apply pw_below_drewN | apply below_drew1) | exact HB.out)⟩

end
end Go.Proofs.YtgoedenbekedbaaGreatDoor.PFnExactReadSaid
