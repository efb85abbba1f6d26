/-
The pure statement of FnFound is proved: for drawn indexes what is found by a beginning is what is found by all keys with it, the pairs of an index rebuild it, and the program and the reference find the same.
Conditions: the drawn codes are bytes. None besides.
-/
import Derived.Test.YtkkphbjemnifiaaPFnFoundx15
set_option linter.unusedVariables false
set_option linter.unusedSimpArgs false
namespace Go.Proofs.Ytkkphbjemnifiaa.Pure
open Go.RowKit Go.Proofs.Ytkkphbjemnifiaa.PFnFound Go.Proofs.YtkkphbjemnifiaaW.PrintWords Go.Proofs.YtkkphbjemnifiaaW.PrintLast Go.Proofs.YtkkphbjemnifiaaW.PrintMore

theorem w64 {n : Int} (h0 : -9223372036854775808 ≤ n) (h1 : n ≤ 9223372036854775807) : wrap64 n = n := by unfold wrap64; omega
theorem putInt_l0 (x : List Int) (n : Int) (hx : x.length < 4000000000) (hs : x.Pairwise (· < ·)) (d : Nat) : ∀ (k : Nat) (i : Int), 0 ≤ i → i ≤ x.length → (x.length : Int) - i = d → d < k → (∀ a ∈ x.take i.toNat, a < n) →
  ∃ r, spec_l10PutInt.l0 k x n i = some r ∧ r.Pairwise (· < ·) ∧ (∀ a, a ∈ r ↔ a ∈ x ∨ a = n) ∧ r.length ≤ x.length + 1 := by
 have build : ∀ i : Int, 0 ≤ i → i ≤ x.length → (∀ a ∈ x.take i.toNat, a < n) → (∀ a ∈ x.drop i.toNat, n < a) →
   (([] ++ x.take i.toNat ++ [n]) ++ x.drop i.toNat).Pairwise (· < ·) ∧ (∀ a, a ∈ (([] ++ x.take i.toNat ++ [n]) ++ x.drop i.toNat) ↔ a ∈ x ∨ a = n) ∧ (([] ++ x.take i.toNat ++ [n]) ++ x.drop i.toNat).length ≤ x.length + 1 := by
  intro i h0 hi hlt hgt
  have hsplit : x.take i.toNat ++ x.drop i.toNat = x := List.take_append_drop i.toNat x
  refine ⟨?_, fun a => ?_, ?_⟩
  ·rw [← hsplit, List.pairwise_append] at hs
   rw [List.nil_append, List.append_assoc, List.pairwise_append]
   refine ⟨hs.1, ?_, ?_⟩
   ·rw [List.singleton_append, List.pairwise_cons]; exact ⟨hgt, hs.2.1⟩
   ·intro a ha b hb
    rw [List.singleton_append, List.mem_cons] at hb
    rcases hb with rfl | hb
    ·exact hlt a ha
    ·exact hs.2.2 a ha b hb
  ·constructor
   ·intro h
    rw [List.nil_append, List.append_assoc, List.mem_append, List.singleton_append, List.mem_cons] at h
    rcases h with h | h | h
    ·exact .inl (List.mem_of_mem_take h)
    ·exact .inr h
    ·exact .inl (List.mem_of_mem_drop h)
   ·intro h
    rw [List.nil_append, List.append_assoc, List.mem_append, List.singleton_append, List.mem_cons]
    rcases h with h | h
    ·rw [← hsplit, List.mem_append] at h
     rcases h with h | h
     ·exact .inl h
     ·exact .inr (.inr h)
    ·exact .inr (.inl h)
  ·simp; omega
 induction d with
 | zero =>
  intro k i h0 hi hd hk hlt
  obtain ⟨k, rfl⟩ : ∃ m, k = m + 1 := ⟨k - 1, by omega⟩
  have hgt : ∀ a ∈ x.drop i.toNat, n < a := by
   rw [List.drop_of_length_le (by omega)]; intro a ha; cases ha
  obtain ⟨h1, h2, h3⟩ := build i h0 hi hlt hgt
  refine ⟨_, ?_, h1, h2, h3⟩
  simp only [spec_l10PutInt.l0, Option.bind_some]
  rw [if_neg (by omega), if_pos h0, if_pos hi, if_pos (by simp; omega), if_pos (by simp; omega), if_pos (by simp; omega)]
 | succ d ih =>
  intro k i h0 hi hd hk hlt
  obtain ⟨k, rfl⟩ : ∃ m, k = m + 1 := ⟨k - 1, by omega⟩
  have hrd : x[i.toNat]? = some (rd x i) := by
   have hl : i.toNat < x.length := by omega
   simp [rd, List.getD_eq_getElem?_getD, List.getElem?_eq_getElem hl]
  simp only [spec_l10PutInt.l0, Option.bind_some]
  rw [if_pos (by omega), if_pos h0, w64 (by omega) (by omega)]
  by_cases h1 : rd x i < n
  ·rw [if_pos h1]
   refine ih k (i + 1) (by omega) (by omega) (by omega) (by omega) (fun a ha => ?_)
   rw [show (i + 1).toNat = i.toNat + 1 by omega, List.take_add_one, hrd] at ha
   rcases List.mem_append.1 ha with ha | ha
   ·exact hlt a ha
   ·simp at ha; rw [ha]; exact h1
  ·rw [if_neg h1]
   by_cases h2 : rd x i = n
   ·rw [if_pos h2]
    have hm : n ∈ x := by rw [← h2]; exact List.mem_of_getElem? hrd
    exact ⟨x, rfl, hs, fun a => ⟨.inl, fun h => h.elim id (fun h => h ▸ hm)⟩, Nat.le_succ _⟩
   ·rw [if_neg h2]
    have hgt : ∀ a ∈ x.drop i.toNat, n < a := by
     have hd2 : x.drop i.toNat = rd x i :: x.drop (i.toNat + 1) := by
      obtain ⟨hlt3, he⟩ := List.getElem?_eq_some_iff.1 hrd
      rw [← he]; exact List.drop_eq_getElem_cons hlt3
     intro a ha
     have hp : (x.drop i.toNat).Pairwise (· < ·) := hs.sublist (List.drop_sublist _ _)
     rw [hd2] at ha hp
     rcases List.mem_cons.1 ha with rfl | ha
     ·omega
     ·have := (List.pairwise_cons.1 hp).1 a ha; omega
    obtain ⟨h3, h4, h5⟩ := build i h0 hi hlt hgt
    refine ⟨_, ?_, h3, h4, h5⟩
    rw [if_pos hi, if_pos (by simp; omega), if_pos (by simp; omega), if_pos (by simp; omega)]
theorem putInt (x : List Int) (n : Int) (hx : x.length < 4000000000) (hs : x.Pairwise (· < ·)) :
  ∃ r, Ev (fun k => spec_l10PutInt.f k x n) r ∧ r.Pairwise (· < ·) ∧ (∀ a, a ∈ r ↔ a ∈ x ∨ a = n) ∧ r.length ≤ x.length + 1 := by
 obtain ⟨r, h1, h2⟩ := putInt_l0 x n hx hs x.length (x.length + 1) 0 (by omega) (by omega) (by omega) (by omega) (by simp)
 exact ⟨r, Ev.of (fun k => spec_l10PutInt.mono x n k) h1, h2⟩
def bitAt (a : ByteArray) (i : Int) : Int := (bt a (i / 8) / 2 ^ (7 - i % 8).toNat) % 2
theorem and_one (x : Int) (h0 : 0 ≤ x) (h1 : x < 256) : Go.bits .and .i64 x 1 = x % 2 := by
 have h := bits_mask .i64 8 (by decide) (fun n h₀ h₁ => by rw [IntKind.wrap_i64]; omega) 1 (by decide) x h0 (by omega)
 simpa using h
theorem z53 (b : Int) (h0 : 0 ≤ b) (h1 : b ≤ 255) (n : Nat) : 0 ≤ b / 2 ^ n ∧ b / 2 ^ n ≤ 255 := by
 have hp : (0 : Int) < 2 ^ n := Int.pow_pos (by decide)
 exact ⟨Int.ediv_nonneg h0 (Int.le_of_lt hp), Int.le_trans (Int.ediv_le_self _ h0) h1⟩
theorem spec_bit (a : ByteArray) (ha : a.size = 4) (i : Int) (h0 : 0 ≤ i) (h1 : i < 32) : spec_l10Bit.f a i = some (bitAt a i) := by
 have e1 : wrap64 (Int.tdiv i 8) = i / 8 := by rw [Int.tdiv_eq_ediv_of_nonneg h0]; unfold wrap64; omega
 have e2 : Int.tmod i 8 = i % 8 := Int.tmod_eq_emod_of_nonneg h0
 have e3 : wrap64 (7 - i % 8) = 7 - i % 8 := by unfold wrap64; omega
 have e4 : IntKind.u64.wrap (7 - i % 8) = 7 - i % 8 := by simp [IntKind.wrap, IntKind.bits, IntKind.signed]; omega
 have hb := bt_range a (i / 8)
 have hq := z53 _ hb.1 hb.2 (7 - i % 8).toNat
 have hs : shr .u8 (bt a (i / 8)) (7 - i % 8) = bt a (i / 8) / 2 ^ (7 - i % 8).toNat := by
  unfold shr; rw [Nat.min_eq_left (by simp only [IntKind.bits]; omega)]
 unfold spec_l10Bit.f
 rw [e1, e2, e3, e4, hs, if_pos (by omega), if_pos (by omega), if_pos (by omega)]
 have e5 : wrap64 (bt a (i / 8) / 2 ^ (7 - i % 8).toNat) = bt a (i / 8) / 2 ^ (7 - i % 8).toNat := by unfold wrap64; omega
 rw [e5, and_one _ hq.1 (by omega)]
 rfl
theorem impl_bit (a : ByteArray) (ha : a.size = 4) (i : Int) (h0 : 0 ≤ i) (h1 : i < 32) : impl_bitOf.f a i = some (bitAt a i) := by
 have e1 : wrap64 (Int.tdiv i 8) = i / 8 := by rw [Int.tdiv_eq_ediv_of_nonneg h0]; unfold wrap64; omega
 have e2 : Int.tmod i 8 = i % 8 := Int.tmod_eq_emod_of_nonneg h0
 have e3 : wrap64 (7 - i % 8) = 7 - i % 8 := by unfold wrap64; omega
 have hb := bt_range a (i / 8)
 have hq := z53 _ hb.1 hb.2 (7 - i % 8).toNat
 have e5 : wrap64 (bt a (i / 8)) = bt a (i / 8) := by unfold wrap64; omega
 have hs : shr .i64 (bt a (i / 8)) (7 - i % 8) = bt a (i / 8) / 2 ^ (7 - i % 8).toNat := by
  unfold shr; rw [Nat.min_eq_left (by simp only [IntKind.bits]; omega)]
 unfold impl_bitOf.f
 rw [e1, e2, e3, e5, hs, if_pos (by omega), if_pos (by omega), if_pos (by omega), and_one _ hq.1 (by omega)]
 rfl
def bitN (s : ByteArray) (i : Nat) : Nat := (s.data.toList.getD (i / 8) 0).toNat / 2 ^ (7 - i % 8) % 2
theorem bitlt : ∀ (w x y : Nat), x < y → y < 2 ^ w → ∃ q, q < w ∧ x / 2 ^ (w - 1 - q) % 2 = 0 ∧ y / 2 ^ (w - 1 - q) % 2 = 1 ∧ ∀ j, j < q → x / 2 ^ (w - 1 - j) % 2 = y / 2 ^ (w - 1 - j) % 2
 | 0, x, y, h, hy => by simp at hy; omega
 | w + 1, x, y, h, hy => by
  have half : ∀ (z m : Nat), z / 2 / 2 ^ m = z / 2 ^ (m + 1) := fun z m => by rw [Nat.div_div_eq_div_mul, Nat.pow_succ, Nat.mul_comm]
  rcases Nat.lt_or_ge (x / 2) (y / 2) with h1 | h1
  ·obtain ⟨q, hq, a, b, c⟩ := bitlt w (x / 2) (y / 2) h1 (by rw [Nat.pow_succ] at hy; omega)
   refine ⟨q, by omega, ?_, ?_, fun j hj => ?_⟩
   ·rw [half, show w - 1 - q + 1 = w + 1 - 1 - q by omega] at a; exact a
   ·rw [half, show w - 1 - q + 1 = w + 1 - 1 - q by omega] at b; exact b
   ·have := c j hj
    rw [half, half, show w - 1 - j + 1 = w + 1 - 1 - j by omega] at this; exact this
  ·have e : x / 2 = y / 2 := by omega
   refine ⟨w, by omega, ?_, ?_, fun j hj => ?_⟩
   ·rw [show w + 1 - 1 - w = 0 by omega, Nat.pow_zero, Nat.div_one]; omega
   ·rw [show w + 1 - 1 - w = 0 by omega, Nat.pow_zero, Nat.div_one]; omega
   ·rw [show w + 1 - 1 - j = (w - 1 - j) + 1 by omega, ← half, ← half, e]
theorem z91 : ∀ (x y : List UInt8), x.length = y.length → x < y → ∃ p, p < x.length ∧ (x.getD p 0).toNat < (y.getD p 0).toNat ∧ ∀ j, j < p → x.getD j 0 = y.getD j 0
 | [], [], _, h => absurd h (List.lt_irrefl _)
 | [], _ :: _, hl, _ => by simp at hl
 | _ :: _, [], hl, _ => by simp at hl
 | a :: x, b :: y, hl, h => by
  rcases List.cons_lt_cons_iff.1 h with h1 | ⟨rfl, h1⟩
  ·exact ⟨0, by simp, h1, fun j hj => by omega⟩
  ·obtain ⟨p, hp, h2, h3⟩ := z91 x y (by simpa using hl) h1
   refine ⟨p + 1, by simpa using hp, by simpa using h2, fun j hj => ?_⟩
   cases j with
   | zero => rfl
   | succ j => simpa using h3 j (by omega)
theorem z93 (s : ByteArray) (p q : Nat) (hq : q < 8) : bitN s (8 * p + q) = (s.data.toList.getD p 0).toNat / 2 ^ (7 - q) % 2 := by
 unfold bitN
 rw [show (8 * p + q) / 8 = p by omega, show (8 * p + q) % 8 = q by omega]
theorem key_lt (a b : ByteArray) (ha : a.size = 4) (hb : b.size = 4) (h : a.data.toList < b.data.toList) :
  ∃ i, i < 32 ∧ bitN a i = 0 ∧ bitN b i = 1 ∧ ∀ j, j < i → bitN a j = bitN b j := by
 have la : a.data.toList.length = 4 := ha
 have lb : b.data.toList.length = 4 := hb
 obtain ⟨p, hp, h1, h2⟩ := z91 _ _ (by omega) h
 obtain ⟨q, hq, b1, b2, b3⟩ := bitlt 8 _ _ h1 (UInt8.toNat_lt _)
 refine ⟨8 * p + q, by omega, by rw [z93 _ _ _ hq]; exact b1, by rw [z93 _ _ _ hq]; exact b2, fun j hj => ?_⟩
 have ej : j = 8 * (j / 8) + j % 8 := by omega
 rw [ej, z93 _ _ _ (by omega), z93 _ _ _ (by omega)]
 by_cases e : j / 8 = p
 ·rw [e]; exact b3 _ (by omega)
 ·rw [h2 _ (by omega)]
def z3 (a b : ByteArray) : Nat := ((List.range 32).find? fun i => bitN a i != bitN b i).getD 0
theorem z84 (a b : ByteArray) (i : Nat) (hi : i < 32) (h : bitN a i ≠ bitN b i) (hj : ∀ j, j < i → bitN a j = bitN b j) : z3 a b = i := by
 unfold z3
 have : (List.range 32).find? (fun i => bitN a i != bitN b i) = some i := by
  rw [List.find?_eq_some_iff_getElem]
  refine ⟨by simpa using h, i, by simpa using hi, by simp, fun j hlt => ?_⟩
  simp [hj j hlt]
 rw [this]; rfl
structure Keys (ks : List ByteArray) : Prop where
 up : ks.Pairwise fun a b => a.data.toList < b.data.toList
 four : ∀ k ∈ ks, k.size = 4
theorem Keys.take {ks : List ByteArray} (h : Keys ks) (n : Nat) : Keys (ks.take n) := ⟨h.up.sublist (List.take_sublist _ _), fun k hk => h.four k (List.mem_of_mem_take hk)⟩
theorem Keys.drop {ks : List ByteArray} (h : Keys ks) (n : Nat) : Keys (ks.drop n) := ⟨h.up.sublist (List.drop_sublist _ _), fun k hk => h.four k (List.mem_of_mem_drop hk)⟩
def z5 (ks : List ByteArray) : ByteArray := ks.getD 0 ByteArray.empty
def z4 (ks : List ByteArray) : ByteArray := ks.getD (ks.length - 1) ByteArray.empty
def cutN (bit : Nat) (ks : List ByteArray) : Nat := (ks.takeWhile fun k => bitN k bit == 0).length
theorem cutN_le (bit : Nat) (ks : List ByteArray) : cutN bit ks ≤ ks.length := (List.takeWhile_sublist _).length_le
theorem Keys.ends {ks : List ByteArray} (h : Keys ks) (h2 : 2 ≤ ks.length) :
  z3 (z5 ks) (z4 ks) < 32 ∧ bitN (z5 ks) (z3 (z5 ks) (z4 ks)) = 0 ∧ bitN (z4 ks) (z3 (z5 ks) (z4 ks)) = 1 ∧ ∀ j, j < z3 (z5 ks) (z4 ks) → bitN (z5 ks) j = bitN (z4 ks) j := by
 have e0 : z5 ks = ks[0] := by simp [z5, List.getD_eq_getElem?_getD, show 0 < ks.length by omega]
 have e1 : z4 ks = ks[ks.length - 1] := by simp [z4, List.getD_eq_getElem?_getD, show ks.length - 1 < ks.length by omega]
 have hlt : (z5 ks).data.toList < (z4 ks).data.toList := by
  rw [e0, e1]
  exact List.pairwise_iff_getElem.1 h.up 0 (ks.length - 1) (by omega) (by omega) (by omega)
 obtain ⟨i, hi, b0, b1, hj⟩ := key_lt (z5 ks) (z4 ks) (h.four _ (by rw [e0]; exact List.getElem_mem _)) (h.four _ (by rw [e1]; exact List.getElem_mem _)) hlt
 have e := z84 _ _ i hi (by omega) hj
 rw [e]
 exact ⟨hi, b0, b1, hj⟩
theorem z59 {α : Type} (p : α → Bool) (l : List α) (h : 0 < l.length) (hp : p l[0] = true) : 0 < (l.takeWhile p).length := by
 cases l with
 | nil => simp at h
 | cons a l => simp at hp; simp [hp]
theorem z22 {α : Type} (p : α → Bool) : ∀ (l : List α) (i : Nat) (h : i < l.length), p l[i] = false → (l.takeWhile p).length ≤ i
 | [], i, h, _ => by simp at h
 | a :: l, 0, h, hp => by simp at hp; simp [hp]
 | a :: l, i + 1, h, hp => by
  by_cases e : p a = true
  ·have := z22 p l i (by simpa using h) (by simpa using hp)
   rw [List.takeWhile_cons_of_pos e]
   simp only [List.length_cons]
   omega
  ·rw [List.takeWhile_cons_of_neg e]; simp
theorem Keys.cut {ks : List ByteArray} (h : Keys ks) (h2 : 2 ≤ ks.length) : 1 ≤ cutN (z3 (z5 ks) (z4 ks)) ks ∧ cutN (z3 (z5 ks) (z4 ks)) ks < ks.length := by
 obtain ⟨_, b0, b1, _⟩ := h.ends h2
 have e0 : z5 ks = ks[0] := by simp [z5, List.getD_eq_getElem?_getD, show 0 < ks.length by omega]
 have e1 : z4 ks = ks[ks.length - 1] := by simp [z4, List.getD_eq_getElem?_getD, show ks.length - 1 < ks.length by omega]
 generalize z3 (z5 ks) (z4 ks) = bit at b0 b1
 rw [e0] at b0
 rw [e1] at b1
 refine ⟨z59 _ ks (by omega) (by simpa using b0), ?_⟩
 have := z22 (fun k => bitN k bit == 0) ks (ks.length - 1) (by omega) (by simp [b1])
 unfold cutN
 omega
def T (pl : ByteArray → List Int) : Nat → List ByteArray → Nat → List S74
 | 0, _, _ => []
 | f + 1, ks, off =>
  if ks.length = 0 then [] else if ks.length = 1 then [⟨z5 ks, pl (z5 ks), 0, 0, 0⟩] else
   ⟨⟨#[]⟩, [], (z3 (z5 ks) (z4 ks) : Nat), (off + 1 : Nat), (off + 1 + (T pl f (ks.take (cutN (z3 (z5 ks) (z4 ks)) ks)) (off + 1)).length : Nat)⟩ ::
    (T pl f (ks.take (cutN (z3 (z5 ks) (z4 ks)) ks)) (off + 1) ++ T pl f (ks.drop (cutN (z3 (z5 ks) (z4 ks)) ks)) (off + 1 + (T pl f (ks.take (cutN (z3 (z5 ks) (z4 ks)) ks)) (off + 1)).length))
theorem z95 (pl : ByteArray → List Int) (f : Nat) (ks : List ByteArray) (off : Nat) : T pl (f + 1) ks off = if ks.length = 0 then [] else if ks.length = 1 then [⟨z5 ks, pl (z5 ks), 0, 0, 0⟩] else
   ⟨⟨#[]⟩, [], (z3 (z5 ks) (z4 ks) : Nat), (off + 1 : Nat), (off + 1 + (T pl f (ks.take (cutN (z3 (z5 ks) (z4 ks)) ks)) (off + 1)).length : Nat)⟩ ::
    (T pl f (ks.take (cutN (z3 (z5 ks) (z4 ks)) ks)) (off + 1) ++ T pl f (ks.drop (cutN (z3 (z5 ks) (z4 ks)) ks)) (off + 1 + (T pl f (ks.take (cutN (z3 (z5 ks) (z4 ks)) ks)) (off + 1)).length)) := rfl
theorem T_more (pl : ByteArray → List Int) : ∀ (f : Nat) (ks : List ByteArray) (off : Nat), Keys ks → ks.length ≤ f → T pl (f + 1) ks off = T pl f ks off
 | 0, ks, off, hk, hl => by rw [z95, if_pos (by omega)]; rfl
 | f + 1, ks, off, hk, hl => by
  rw [z95 pl (f + 1) ks off, z95 pl f ks off]
  by_cases h0 : ks.length = 0
  ·rw [if_pos h0, if_pos h0]
  ·by_cases h1 : ks.length = 1
   ·rw [if_neg h0, if_neg h0, if_pos h1, if_pos h1]
   ·rw [if_neg h0, if_neg h0, if_neg h1, if_neg h1]
    obtain ⟨c1, c2⟩ := hk.cut (by omega)
    rw [T_more pl f _ (off + 1) (hk.take _) (by rw [List.length_take]; omega)]
    rw [T_more pl f _ _ (hk.drop _) (by rw [List.length_drop]; omega)]
theorem T_any (pl : ByteArray → List Int) (ks : List ByteArray) (off : Nat) (hk : Keys ks) : ∀ d, T pl (ks.length + d) ks off = T pl ks.length ks off
 | 0 => rfl
 | d + 1 => by rw [← Nat.add_assoc, T_more pl _ ks off hk (by omega)]; exact T_any pl ks off hk d
def tr (pl : ByteArray → List Int) (ks : List ByteArray) (off : Nat) : List S74 := T pl ks.length ks off
theorem T_tr (pl : ByteArray → List Int) (ks : List ByteArray) (off f : Nat) (hk : Keys ks) (hf : ks.length ≤ f) : T pl f ks off = tr pl ks off := by
 have := T_any pl ks off hk (f - ks.length)
 rwa [show ks.length + (f - ks.length) = f by omega] at this
def z0 (ks : List ByteArray) : Nat := z3 (z5 ks) (z4 ks)
def cut2 (ks : List ByteArray) : Nat := cutN (z0 ks) ks
theorem z42 (pl : ByteArray → List Int) (off : Nat) : tr pl [] off = [] := rfl
theorem z41 (pl : ByteArray → List Int) (k : ByteArray) (off : Nat) : tr pl [k] off = [⟨k, pl k, 0, 0, 0⟩] := rfl
theorem z21 (pl : ByteArray → List Int) (ks : List ByteArray) (off : Nat) (hk : Keys ks) (h2 : 2 ≤ ks.length) :
  tr pl ks off = ⟨⟨#[]⟩, [], (z0 ks : Nat), (off + 1 : Nat), (off + 1 + (tr pl (ks.take (cut2 ks)) (off + 1)).length : Nat)⟩ ::
   (tr pl (ks.take (cut2 ks)) (off + 1) ++ tr pl (ks.drop (cut2 ks)) (off + 1 + (tr pl (ks.take (cut2 ks)) (off + 1)).length)) := by
 have hc : 1 ≤ cut2 ks ∧ cut2 ks < ks.length := hk.cut h2
 obtain ⟨c1, c2⟩ := hc
 obtain ⟨n, hn⟩ : ∃ n, ks.length = n + 1 := ⟨ks.length - 1, by omega⟩
 have e1 := T_tr pl (ks.take (cut2 ks)) (off + 1) n (hk.take _) (by rw [List.length_take]; omega)
 have e2 := T_tr pl (ks.drop (cut2 ks)) (off + 1 + (tr pl (ks.take (cut2 ks)) (off + 1)).length) n (hk.drop _) (by rw [List.length_drop]; omega)
 conv => lhs; unfold tr
 rw [hn, z95 pl n ks off, if_neg (by omega), if_neg (by omega)]
 show (⟨⟨#[]⟩, [], (z0 ks : Nat), (off + 1 : Nat), (off + 1 + (T pl n (ks.take (cut2 ks)) (off + 1)).length : Nat)⟩ : S74) :: (T pl n (ks.take (cut2 ks)) (off + 1) ++ T pl n (ks.drop (cut2 ks)) (off + 1 + (T pl n (ks.take (cut2 ks)) (off + 1)).length)) = _
 rw [e1, e2]
theorem bitAt_N (a : ByteArray) (ha : a.size = 4) (i : Nat) (hi : i < 32) : bitAt a (i : Int) = ((bitN a i : Nat) : Int) := by
 unfold bitAt bitN bt
 have h1 : ((i : Int) / 8).toNat = i / 8 := by omega
 have h2 : (7 - (i : Int) % 8).toNat = 7 - i % 8 := by omega
 rw [h1, h2, dif_pos (show i / 8 < a.size by omega)]
 have e : a.data.toList.getD (i / 8) 0 = a[i / 8]'(by omega) := by
  have hl : i / 8 < a.data.toList.length := by show i / 8 < a.data.size; have : a.data.size = 4 := ha; omega
  rw [List.getD_eq_getElem?_getD, List.getElem?_eq_getElem hl]
  rfl
 rw [e, Int.natCast_emod, Int.natCast_ediv, Int.natCast_pow]
 rfl
theorem z23 (a : ByteArray) (ha : a.size = 4) (i : Nat) (hi : i < 32) : spec_l10Bit.f a (i : Int) = some ((bitN a i : Nat) : Int) := by rw [spec_bit a ha _ (by omega) (by omega), bitAt_N a ha i hi]
theorem z25 (a : ByteArray) (ha : a.size = 4) (i : Nat) (hi : i < 32) : impl_bitOf.f a (i : Int) = some ((bitN a i : Nat) : Int) := by rw [impl_bit a ha _ (by omega) (by omega), bitAt_N a ha i hi]
theorem z94 (a : ByteArray) (i : Nat) : bitN a i < 2 := Nat.mod_lt _ (by decide)
theorem z51 (a b : ByteArray) (ha : a.size = 4) (hb : b.size = 4) (i : Nat) (hi : i < 32) (hd : bitN a i ≠ bitN b i) (hj : ∀ j, j < i → bitN a j = bitN b j) (d : Nat) : ∀ (k j : Nat), j + d = i → d < k → spec_l10Unlike.l0 k a b (j : Int) = some (i : Int) ∧ impl_firstUnlike.l0 k a b (j : Int) = some (i : Int) := by
 induction d with
 | zero =>
  intro k j h hk
  obtain ⟨k, rfl⟩ : ∃ m, k = m + 1 := ⟨k - 1, by omega⟩
  obtain rfl : j = i := by omega
  simp only [spec_l10Unlike.l0, impl_firstUnlike.l0]
  rw [z23 a ha j hi, z23 b hb j hi, z25 a ha j hi, z25 b hb j hi]
  simp only [Option.bind_some]
  rw [if_neg (by omega), if_neg (by omega)]
  exact ⟨rfl, rfl⟩
 | succ d ih =>
  intro k j h hk
  obtain ⟨k, rfl⟩ : ∃ m, k = m + 1 := ⟨k - 1, by omega⟩
  simp only [spec_l10Unlike.l0, impl_firstUnlike.l0]
  rw [z23 a ha j (by omega), z23 b hb j (by omega), z25 a ha j (by omega), z25 b hb j (by omega)]
  simp only [Option.bind_some]
  have e := hj j (by omega)
  rw [if_pos (by omega), if_pos (by omega), w64 (by omega) (by omega)]
  have := ih k (j + 1) (by omega) (by omega)
  rwa [Int.natCast_add] at this
theorem unlikeS (a b : ByteArray) (ha : a.size = 4) (hb : b.size = 4) (i : Nat) (hi : i < 32) (hd : bitN a i ≠ bitN b i) (hj : ∀ j, j < i → bitN a j = bitN b j) : Ev (fun k => spec_l10Unlike.f k a b) (i : Int) :=
 Ev.of (fun k => spec_l10Unlike.mono a b k) (k := i + 1) (z51 a b ha hb i hi hd hj i (i + 1) 0 (by omega) (by omega)).1
theorem unlikeI (a b : ByteArray) (ha : a.size = 4) (hb : b.size = 4) (i : Nat) (hi : i < 32) (hd : bitN a i ≠ bitN b i) (hj : ∀ j, j < i → bitN a j = bitN b j) : Ev (fun k => impl_firstUnlike.f k a b) (i : Int) :=
 Ev.of (fun k => impl_firstUnlike.mono a b k) (k := i + 1) (z51 a b ha hb i hi hd hj i (i + 1) 0 (by omega) (by omega)).2
theorem z87 (pl : ByteArray → List Int) : ∀ (n : Nat) (ks : List ByteArray) (off : Nat), ks.length = n → Keys ks → 1 ≤ n → (tr pl ks off).length + 1 = 2 * n := by
 intro n
 induction n using Nat.strongRecOn with
 | _ n ih =>
  intro ks off hl hk hn
  by_cases h1 : n = 1
  ·obtain ⟨k, rfl⟩ : ∃ k, ks = [k] := by
    match ks, hl with
    | [k], _ => exact ⟨k, rfl⟩
    | [], h => simp at h; omega
    | _ :: _ :: _, h => simp at h; omega
   rw [z41]; simp [h1]
  ·obtain ⟨c1, c2⟩ : 1 ≤ cut2 ks ∧ cut2 ks < ks.length := hk.cut (by omega)
   rw [z21 pl ks off hk (by omega), List.length_cons, List.length_append]
   have e1 := ih (cut2 ks) (by omega) (ks.take (cut2 ks)) (off + 1) (by rw [List.length_take]; omega) (hk.take _) c1
   have e2 := ih (ks.length - cut2 ks) (by omega) (ks.drop (cut2 ks)) (off + 1 + (tr pl (ks.take (cut2 ks)) (off + 1)).length) (by rw [List.length_drop]) (hk.drop _) (by omega)
   omega
theorem cut_at (ks : List ByteArray) (bit : Nat) (j : Nat) (hj : j < cutN bit ks) : ∃ h : j < ks.length, bitN ks[j] bit = 0 := by
 have h := Nat.lt_of_lt_of_le hj (cutN_le bit ks)
 refine ⟨h, ?_⟩
 have := List.takeWhile_prefix (l := ks) (fun k => bitN k bit == 0)
 have h2 := this.getElem hj
 have h3 : (ks.takeWhile fun k => bitN k bit == 0)[j] ∈ ks.takeWhile fun k => bitN k bit == 0 := List.getElem_mem hj
 have h4 := List.all_eq_true.1 (List.all_takeWhile (l := ks) (p := fun k => bitN k bit == 0)) _ h3
 rw [h2] at h4
 simpa using h4
theorem cut_end (ks : List ByteArray) (bit : Nat) (h : cutN bit ks < ks.length) : bitN (ks[cutN bit ks]) bit = 1 := by
 have h2 : ¬ (bitN (ks[cutN bit ks]) bit == 0) = true := by
  intro hc
  have : ∀ (l : List ByteArray) (h : (l.takeWhile fun k => bitN k bit == 0).length < l.length), ¬ (bitN (l[(l.takeWhile fun k => bitN k bit == 0).length]) bit == 0) = true := by
   intro l
   induction l with
   | nil => intro h; simp at h
   | cons a l ih =>
    intro h hc
    by_cases e : (bitN a bit == 0) = true
    ·simp only [List.takeWhile_cons, e, if_true, List.length_cons] at h
     simp only [List.takeWhile_cons, e, if_true, List.length_cons, List.getElem_cons_succ] at hc
     exact ih (by omega) hc
    ·simp only [List.takeWhile_cons, e] at hc
     exact e hc
  exact this ks h hc
 have := z94 (ks[cutN bit ks]) bit
 simp at h2
 omega
theorem rdK (ks : List ByteArray) (i : Nat) (h : i < ks.length) : rdOf ByteArray.empty ks (i : Int) = ks[i] := by simp [rdOf, List.getD_eq_getElem?_getD, List.getElem?_eq_getElem h]
theorem z66 (ks : List ByteArray) (h : 0 < ks.length) : z5 ks = ks[0] := by simp [z5, List.getD_eq_getElem?_getD, h]
theorem z64 (ks : List ByteArray) (h : 0 < ks.length) : z4 ks = ks[ks.length - 1] := by simp [z4, List.getD_eq_getElem?_getD, show ks.length - 1 < ks.length by omega]
theorem cnt (ks : List ByteArray) (hk : Keys ks) (bit : Nat) (hb : bit < 32) (hc : cutN bit ks < ks.length) (hm : ks.length < 4000000000) (d : Nat) : ∀ (k j : Nat), j + d = cutN bit ks → d < k → bd_cnt k ks (bit : Int) (j : Int) = some ((cutN bit ks : Nat) : Int) := by
 induction d with
 | zero =>
  intro k j h hd
  obtain ⟨k, rfl⟩ : ∃ m, k = m + 1 := ⟨k - 1, by omega⟩
  obtain rfl : j = cutN bit ks := by omega
  rw [bd_cnt, if_pos (by omega), rdK _ _ hc, z23 _ (hk.four _ (List.getElem_mem _)) _ hb, Option.bind_some, cut_end ks bit hc, if_neg (by decide)]
 | succ d ih =>
  intro k j h hd
  obtain ⟨k, rfl⟩ : ∃ m, k = m + 1 := ⟨k - 1, by omega⟩
  obtain ⟨hj, hz⟩ := cut_at ks bit j (by omega)
  rw [bd_cnt, if_pos (by omega), rdK _ _ hj, z23 _ (hk.four _ (List.getElem_mem _)) _ hb, Option.bind_some, hz, if_pos (show ((0 : Nat) : Int) = 0 from rfl), w64 (by omega) (by omega)]
  have := ih k (j + 1) (by omega) (by omega)
  rwa [Int.natCast_add] at this
theorem z77 {ks : List ByteArray} (hk : Keys ks) (h2 : 2 ≤ ks.length) : z0 ks < 32 ∧ bitN (z5 ks) (z0 ks) ≠ bitN (z4 ks) (z0 ks) ∧ ∀ j, j < z0 ks → bitN (z5 ks) j = bitN (z4 ks) j := by
 obtain ⟨a, b, c, d⟩ := hk.ends h2
 exact ⟨a, by show bitN (z5 ks) (z3 (z5 ks) (z4 ks)) ≠ bitN (z4 ks) (z3 (z5 ks) (z4 ks)); omega, d⟩
theorem fill (F L : List S74) (b a : Int) (x : S74) (hx : x = ⟨⟨#[]⟩, [], b, a, 0⟩) :
  ((F ++ [x] ++ L).set F.length { (rd_T74 (F ++ [x] ++ L) (F.length : Int)) with f4 := ((F ++ [x] ++ L).length : Int) }) = F ++ [⟨⟨#[]⟩, [], b, a, ((F.length + 1 + L.length : Nat) : Int)⟩] ++ L := by
 have e : rd_T74 (F ++ [x] ++ L) (F.length : Int) = x := by simp [rd_T74]
 rw [e, hx]
 simp
 omega
theorem specBuild (l : List S51) (pl : ByteArray → List Int) : ∀ (n : Nat) (ks : List ByteArray) (F : List S74), ks.length = n → Keys ks → (∀ k ∈ ks, Ev (fun m => bd_pl m k l []) (pl k)) → F.length + 2 * n < 1000000000 → Ev (fun k => spec_l10Build.f k l ks F) (F ++ tr pl ks F.length) := by
 intro n
 induction n using Nat.strongRecOn with
 | _ n ih =>
  intro ks F hl hk hp hb
  by_cases h0 : n = 0
  ·obtain rfl : ks = [] := List.eq_nil_of_length_eq_zero (by omega)
   rw [z42, List.append_nil]
   exact Ev.step (fun k => by rw [spec_l10Build.f, if_pos (by simp)]) (Ev.now _)
  by_cases h1 : n = 1
  ·obtain ⟨k, rfl⟩ : ∃ k, ks = [k] := by
    match ks, hl with
    | [k], _ => exact ⟨k, rfl⟩
    | [], h => simp at h; omega
    | _ :: _ :: _, h => simp at h; omega
   rw [z41]
   have e : rdOf ByteArray.empty [k] 0 = k := rfl
   exact Ev.step (fun m => by rw [spec_l10Build.f, if_neg (by simp), if_pos (by simp), e]) (Ev.bind (hp k (by simp)) (by simp only [show F.length < 1099511627776 by omega, if_true]; exact Ev.now _))
  ·obtain ⟨c1, c2⟩ : 1 ≤ cut2 ks ∧ cut2 ks < ks.length := hk.cut (by omega)
   obtain ⟨hbit, hne, hlt⟩ := z77 hk (by omega)
   have e0 : rdOf ByteArray.empty ks 0 = z5 ks := by rw [z66 ks (by omega)]; exact rdK ks 0 (by omega)
   have e1 : rdOf ByteArray.empty ks ((ks.length : Int) - 1) = z4 ks := by rw [z64 ks (by omega), show (ks.length : Int) - 1 = ((ks.length - 1 : Nat) : Int) by omega]; exact rdK ks _ (by omega)
   have h4 : ∀ i (h : i < ks.length), ks[i].size = 4 := fun i h => hk.four _ (List.getElem_mem _)
   have hu := unlikeS (z5 ks) (z4 ks) (by rw [z66 ks (by omega)]; exact h4 _ _) (by rw [z64 ks (by omega)]; exact h4 _ _) (z0 ks) hbit hne hlt
   have ec : cut2 ks = cutN (z0 ks) ks := rfl
   have hc : Ev (fun m => bd_cnt m ks ((z0 ks : Nat) : Int) 0) ((cut2 ks : Nat) : Int) := Ev.of (fun m => bd_cnt_mono m ks _ _) (k := cut2 ks + 1) (cnt ks hk (z0 ks) hbit c2 (by omega) (cut2 ks) (cut2 ks + 1) 0 (by omega) (by omega))
   obtain ⟨x, hx⟩ : ∃ x : S74, x = ⟨⟨#[]⟩, [], ((z0 ks : Nat) : Int), (F.length : Int) + 1, 0⟩ := ⟨_, rfl⟩
   have i1 := ih (cut2 ks) (by omega) (ks.take (cut2 ks)) (F ++ [x]) (by rw [List.length_take]; omega) (hk.take _) (fun k hk' => hp k (List.mem_of_mem_take hk')) (by rw [List.length_append, List.length_singleton]; omega)
   rw [List.length_append, List.length_singleton] at i1
   obtain ⟨L, hL⟩ : ∃ L, L = tr pl (ks.take (cut2 ks)) (F.length + 1) := ⟨_, rfl⟩
   rw [← hL] at i1
   have hLl : L.length + 1 = 2 * cut2 ks := by rw [hL]; exact z87 pl (cut2 ks) (ks.take (cut2 ks)) (F.length + 1) (by rw [List.length_take]; omega) (hk.take _) c1
   obtain ⟨G, hG⟩ : ∃ G, G = F ++ [(⟨⟨#[]⟩, [], ((z0 ks : Nat) : Int), ((F.length + 1 : Nat) : Int), ((F.length + 1 + L.length : Nat) : Int)⟩ : S74)] ++ L := ⟨_, rfl⟩
   have ea : (F.length : Int) + 1 = ((F.length + 1 : Nat) : Int) := by omega
   have hGl : G.length = F.length + 1 + L.length := by rw [hG, List.length_append, List.length_append, List.length_singleton]
   have i2 := ih (n - cut2 ks) (by omega) (ks.drop (cut2 ks)) G (by rw [List.length_drop]; omega) (hk.drop _) (fun k hk' => hp k (List.mem_of_mem_drop hk')) (by rw [hGl]; omega)
   have ht : F ++ tr pl ks F.length = G ++ tr pl (ks.drop (cut2 ks)) G.length := by
    rw [z21 pl ks F.length hk (by omega), ← hL, hGl, hG]
    simp
   rw [ht]
   refine Ev.step (fun k => by rw [spec_l10Build.f, if_neg (by omega), if_neg (by omega), e0, e1]) (Ev.bind hu (Ev.bind hc ?_))
   rw [Int.toNat_natCast]
   simp only [show (0 : Int) ≤ ((cut2 ks : Nat) : Int) ∧ ((cut2 ks : Nat) : Int) ≤ (ks.length : Int) ∧ F.length < 1099511627776 from ⟨by omega, by omega, by omega⟩, and_self, if_true, ← hx]
   refine Ev.bind i1 ?_
   have hlen : F.length < (F ++ [x] ++ L).length := by rw [List.length_append, List.length_append, List.length_singleton]; omega
   simp only [hlen, if_true, fill F L _ _ x hx]
   rw [ea, ← hG]
   exact i2
def flat (pl : ByteArray → List Int) (ks : List ByteArray) : List S51 := ks.flatMap fun k => (pl k).map fun a => ⟨k, a⟩
theorem z12 (pl : ByteArray → List Int) (k : ByteArray) (ks : List ByteArray) : flat pl (k :: ks) = ((pl k).map fun a => (⟨k, a⟩ : S51)) ++ flat pl ks := rfl
theorem z46 (pl : ByteArray → List Int) (a b : List ByteArray) : flat pl (a ++ b) = flat pl a ++ flat pl b := by simp [flat]
theorem z19 (pl : ByteArray → List Int) (ks : List ByteArray) (x : S51) : x ∈ flat pl ks ↔ x.f0 ∈ ks ∧ x.f1 ∈ pl x.f0 := by
 unfold flat
 rw [List.mem_flatMap]
 constructor
 ·rintro ⟨k, hk, hx⟩
  obtain ⟨a, ha, rfl⟩ := List.mem_map.1 hx
  exact ⟨hk, ha⟩
 ·rintro ⟨hk, ha⟩
  exact ⟨x.f0, hk, List.mem_map.2 ⟨x.f1, ha, rfl⟩⟩
theorem z76 (pl : ByteArray → List Int) (k : ByteArray) (ks : List ByteArray) (h : pl k ≠ []) : ∃ a t, flat pl (k :: ks) = ⟨k, a⟩ :: t := by
 obtain ⟨a, m, e⟩ := List.exists_cons_of_ne_nil h
 exact ⟨a, m.map (fun a => ⟨k, a⟩) ++ flat pl ks, by rw [z12, e]; rfl⟩
theorem z75 (pl : ByteArray → List Int) : ∀ (ks : List ByteArray), ks ≠ [] → (∀ k ∈ ks, pl k ≠ []) → ∃ a, (flat pl ks).getLast? = some ⟨z4 ks, a⟩
 | [], h, _ => absurd rfl h
 | [k], _, h => by
  have h1 := h k (by simp)
  rw [z12, show flat pl [] = [] from rfl, List.append_nil, List.getLast?_map, List.getLast?_eq_some_getLast h1]
  exact ⟨_, rfl⟩
 | k :: k2 :: ks, _, h => by
  obtain ⟨a, ha⟩ := z75 pl (k2 :: ks) (by simp) (fun x hx => h x (List.mem_cons_of_mem _ hx))
  refine ⟨a, ?_⟩
  rw [z12, List.getLast?_append, ha, show z4 (k :: k2 :: ks) = z4 (k2 :: ks) from by simp [z4]]
  rfl
theorem grIx (bit : Int) (y : S51) (B : List S51) (hy : impl_bitOf.f y.f0 bit = some 1) : ∀ (A : List S51) (i : Int), (∀ x ∈ A, impl_bitOf.f x.f0 bit = some 0) → gr_ix bit (A ++ y :: B) i = some (i + A.length)
 | [], i, _ => by rw [List.nil_append, gr_ix, hy, Option.bind_some, if_pos rfl]; simp
 | x :: A, i, h => by
  rw [List.cons_append, gr_ix, h x (by simp), Option.bind_some, if_neg (by decide), grIx bit y B hy A (i + 1) (fun z hz => h z (List.mem_cons_of_mem _ hz))]
  simp; omega
theorem rdLast (s : List S51) (x : S51) (h : s.getLast? = some x) : rd_T51 s ((s.length : Int) - 1) = x := by
 rw [List.getLast?_eq_getElem?] at h
 unfold rd_T51
 rw [List.getD_eq_getElem?_getD, show ((s.length : Int) - 1).toNat = s.length - 1 by omega, h]
 rfl
theorem implGrown (pl : ByteArray → List Int) : ∀ (n : Nat) (ks : List ByteArray) (F : List S74), ks.length = n → Keys ks → (∀ k ∈ ks, pl k ≠ []) → F.length + 2 * n < 1000000000 → (flat pl ks).length < 1000000000 → Ev (fun k => impl_grown.f k F (flat pl ks)) (F ++ tr pl ks F.length) := by
 intro n
 induction n using Nat.strongRecOn with
 | _ n ih =>
  intro ks F hl hk hp hb hs
  by_cases h0 : n = 0
  ·obtain rfl : ks = [] := List.eq_nil_of_length_eq_zero (by omega)
   rw [z42, List.append_nil]
   exact Ev.step (fun k => by rw [impl_grown.f, if_pos (by simp [flat])]) (Ev.now _)
  have hne0 : ks ≠ [] := by rintro rfl; simp at hl; omega
  obtain ⟨k0, ks0, rfl⟩ := List.exists_cons_of_ne_nil hne0
  obtain ⟨a0, t0, e0⟩ := z76 pl k0 ks0 (hp k0 (by simp))
  obtain ⟨a1, e1⟩ := z75 pl (k0 :: ks0) hne0 hp
  have r0 : (rd_T51 (flat pl (k0 :: ks0)) 0).f0 = k0 := by rw [e0]; rfl
  have r1 : (rd_T51 (flat pl (k0 :: ks0)) (((flat pl (k0 :: ks0)).length : Int) - 1)).f0 = z4 (k0 :: ks0) := by rw [rdLast _ _ e1]
  have hpos : ¬ ((flat pl (k0 :: ks0)).length : Int) = 0 := by rw [e0]; simp; omega
  by_cases h1 : n = 1
  ·obtain rfl : ks0 = [] := List.eq_nil_of_length_eq_zero (by simp at hl; omega)
   rw [z41]
   have em : (flat pl [k0]).map (fun x => x.f1) = pl k0 := by
    rw [z12, show flat pl [] = [] from rfl, List.append_nil, List.map_map]
    exact List.map_id _
   refine Ev.step (f := fun _ => some (F ++ [⟨k0, pl k0, 0, 0, 0⟩])) (fun m => ?_) (Ev.now _)
   rw [impl_grown.f, if_neg hpos, r0, r1, show z4 [k0] = k0 from rfl, if_pos rfl, if_pos ⟨by omega, by omega⟩, em]
  ·generalize hks : k0 :: ks0 = ks at *
   obtain ⟨c1, c2⟩ : 1 ≤ cut2 ks ∧ cut2 ks < ks.length := hk.cut (by omega)
   obtain ⟨hbit, hne, hlt⟩ := z77 hk (by omega)
   have ec : cut2 ks = cutN (z0 ks) ks := rfl
   have h4 : ∀ i (h : i < ks.length), ks[i].size = 4 := fun i h => hk.four _ (List.getElem_mem _)
   have eh : k0 = z5 ks := by rw [← hks]; rfl
   have hu := unlikeI (z5 ks) (z4 ks) (by rw [z66 ks (by omega)]; exact h4 _ _) (by rw [z64 ks (by omega)]; exact h4 _ _) (z0 ks) hbit hne hlt
   have hkne : ¬ (z5 ks).toList = (z4 ks).toList := by
    intro e
    rw [ByteArray.toList_eq, ByteArray.toList_eq] at e
    apply hne
    unfold bitN
    rw [e]
   -- the two parts
   obtain ⟨A, hA⟩ : ∃ A, A = flat pl (ks.take (cut2 ks)) := ⟨_, rfl⟩
   obtain ⟨B, hB⟩ : ∃ B, B = flat pl (ks.drop (cut2 ks)) := ⟨_, rfl⟩
   have hAB : flat pl ks = A ++ B := by rw [hA, hB, ← z46, List.take_append_drop]
   have hdc := List.drop_eq_getElem_cons c2
   obtain ⟨a2, t2, e2⟩ := z76 pl ks[cut2 ks] (ks.drop (cut2 ks + 1)) (hp _ (List.getElem_mem _))
   rw [← hdc, ← hB] at e2
   have hy : impl_bitOf.f ks[cut2 ks] ((z0 ks : Nat) : Int) = some 1 := by
    rw [z25 _ (h4 _ _) _ hbit]
    have := cut_end ks (z0 ks) c2
    rw [show bitN (ks[cut2 ks]) (z0 ks) = 1 from this]; rfl
   have hAx : ∀ x ∈ A, impl_bitOf.f x.f0 ((z0 ks : Nat) : Int) = some 0 := by
    intro x hx
    rw [hA, z19] at hx
    obtain ⟨j, hj, hje⟩ := List.mem_iff_getElem.1 hx.1
    rw [List.length_take] at hj
    rw [List.getElem_take] at hje
    obtain ⟨hjl, hz⟩ := cut_at ks (z0 ks) j (by omega)
    rw [← hje, z25 _ (h4 _ _) _ hbit, hz]; rfl
   have hix : gr_ix ((z0 ks : Nat) : Int) (flat pl ks) 0 = some ((A.length : Nat) : Int) := by
    rw [hAB, e2, grIx _ ⟨ks[cut2 ks], a2⟩ t2 hy A 0 hAx]; simp
   obtain ⟨x, hx⟩ : ∃ x : S74, x = ⟨⟨#[]⟩, [], ((z0 ks : Nat) : Int), (F.length : Int) + 1, 0⟩ := ⟨_, rfl⟩
   have hABl : (flat pl ks).length = A.length + B.length := by rw [hAB, List.length_append]
   have i1 := ih (cut2 ks) (by omega) (ks.take (cut2 ks)) (F ++ [x]) (by rw [List.length_take]; omega) (hk.take _) (fun k hk' => hp k (List.mem_of_mem_take hk')) (by rw [List.length_append, List.length_singleton]; omega) (by rw [← hA]; omega)
   rw [List.length_append, List.length_singleton, ← hA] at i1
   obtain ⟨L, hL⟩ : ∃ L, L = tr pl (ks.take (cut2 ks)) (F.length + 1) := ⟨_, rfl⟩
   rw [← hL] at i1
   have hLl : L.length + 1 = 2 * cut2 ks := by rw [hL]; exact z87 pl (cut2 ks) (ks.take (cut2 ks)) (F.length + 1) (by rw [List.length_take]; omega) (hk.take _) c1
   obtain ⟨G, hG⟩ : ∃ G, G = F ++ [(⟨⟨#[]⟩, [], ((z0 ks : Nat) : Int), ((F.length + 1 : Nat) : Int), ((F.length + 1 + L.length : Nat) : Int)⟩ : S74)] ++ L := ⟨_, rfl⟩
   have ea : (F.length : Int) + 1 = ((F.length + 1 : Nat) : Int) := by omega
   have hGl : G.length = F.length + 1 + L.length := by rw [hG, List.length_append, List.length_append, List.length_singleton]
   have i2 := ih (n - cut2 ks) (by omega) (ks.drop (cut2 ks)) G (by rw [List.length_drop]; omega) (hk.drop _) (fun k hk' => hp k (List.mem_of_mem_drop hk')) (by rw [hGl]; omega) (by rw [← hB]; omega)
   rw [← hB] at i2
   have ht : F ++ tr pl ks F.length = G ++ tr pl (ks.drop (cut2 ks)) G.length := by
    rw [z21 pl ks F.length hk (by omega), ← hL, hGl, hG]
    simp
   rw [ht]
   refine Ev.step (fun k => by rw [impl_grown.f, if_neg hpos, r0, r1, eh, if_neg hkne]) (Ev.bind hu (Ev.bind (g := fun _ => gr_ix ((z0 ks : Nat) : Int) (flat pl ks) 0) ⟨0, fun _ _ => hix⟩ ?_))
   rw [Int.toNat_natCast]
   simp only [show (0 : Int) ≤ ((A.length : Nat) : Int) ∧ ((A.length : Nat) : Int) ≤ ((A ++ B).length : Int) ∧ F.length < 1099511627776 from ⟨by omega, by rw [List.length_append]; omega, by omega⟩, and_self, if_true, ← hx, hAB, List.take_left, List.drop_left]
   refine Ev.bind i1 ?_
   have hlen : F.length < (F ++ [x] ++ L).length := by rw [List.length_append, List.length_append, List.length_singleton]; omega
   simp only [hlen, if_true, fill F L _ _ x hx]
   rw [ea, ← hG]
   exact i2
theorem less_eq : ∀ (x y : List UInt8), Op.bytesLess x y = decide (x < y)
 | [], [] => by simp [Op.bytesLess]
 | _ :: _, [] => by simp [Op.bytesLess]
 | [], _ :: _ => by simp [Op.bytesLess]
 | a :: x, b :: y => by
  rw [Op.bytesLess, less_eq x y]
  simp only [List.cons_lt_cons_iff]
  by_cases h1 : a < b <;> by_cases h2 : a = b <;> by_cases h3 : x < y <;> simp [h1, h2, h3]
theorem lex_lt_of {a b : List UInt8} (h : ¬ a < b) (hne : ¬ a = b) : b < a := by
 rcases List.le_total a b with h1 | h1
 ·exact absurd (Std.lt_of_le_of_ne h1 hne) h
 ·exact Std.lt_of_le_of_ne h1 (Ne.symm hne)
def tl (l : List ByteArray) : List (List UInt8) := l.map ByteArray.toList
theorem tl_rd (l : List ByteArray) (i : Int) (h0 : 0 ≤ i) (h1 : i < l.length) : (tl l)[i.toNat]? = some (rdOf ByteArray.empty l i).toList := by
 have hi : i.toNat < l.length := by omega
 simp [tl, rdOf, List.getD_eq_getElem?_getD, hi]
theorem z65 (L : List (List UInt8)) (i : Nat) (s : List UInt8) (hs : L.Pairwise (· < ·)) (hlt : ∀ a ∈ L.take i, a < s) (hgt : ∀ a ∈ L.drop i, s < a) :
  (L.take i ++ [s] ++ L.drop i).Pairwise (· < ·) ∧ s ∉ L ∧ (L.take i ++ [s] ++ L.drop i).Perm (s :: L) := by
 have hsplit : L.take i ++ L.drop i = L := List.take_append_drop i L
 refine ⟨?_, ?_, ?_⟩
 ·rw [← hsplit, List.pairwise_append] at hs
  rw [List.append_assoc, List.pairwise_append]
  refine ⟨hs.1, ?_, ?_⟩
  ·rw [List.singleton_append, List.pairwise_cons]; exact ⟨hgt, hs.2.1⟩
  ·intro a ha b hb
   rw [List.singleton_append, List.mem_cons] at hb
   rcases hb with rfl | hb
   ·exact hlt a ha
   ·exact hs.2.2 a ha b hb
 ·intro hm
  rw [← hsplit, List.mem_append] at hm
  rcases hm with hm | hm
  ·exact List.lt_irrefl s (hlt s hm)
  ·exact List.lt_irrefl s (hgt s hm)
 ·rw [List.append_assoc, List.singleton_append]
  refine List.perm_middle.trans ?_
  rw [hsplit]
theorem put_l0 (x : List ByteArray) (s : ByteArray) (hx : x.length < 4000000000) (hs : (tl x).Pairwise (· < ·)) (d : Nat) : ∀ (k : Nat) (i : Int), 0 ≤ i → i ≤ x.length → (x.length : Int) - i = d → d < k → (∀ a ∈ (tl x).take i.toNat, a < s.toList) →
  ∃ r, spec_l10Put.l0 k x s i = some r ∧ (tl r).Pairwise (· < ·) ∧ (s.toList ∈ tl x → tl r = tl x) ∧ (s.toList ∉ tl x → (tl r).Perm (s.toList :: tl x)) := by
 have build : ∀ i : Int, 0 ≤ i → i ≤ x.length → (∀ a ∈ (tl x).take i.toNat, a < s.toList) → (∀ a ∈ (tl x).drop i.toNat, s.toList < a) →
   (tl (([] ++ x.take i.toNat ++ [s]) ++ x.drop i.toNat)).Pairwise (· < ·) ∧ (s.toList ∈ tl x → tl (([] ++ x.take i.toNat ++ [s]) ++ x.drop i.toNat) = tl x) ∧ (s.toList ∉ tl x → (tl (([] ++ x.take i.toNat ++ [s]) ++ x.drop i.toNat)).Perm (s.toList :: tl x)) := by
  intro i h0 hi hlt hgt
  have e : tl (([] ++ x.take i.toNat ++ [s]) ++ x.drop i.toNat) = (tl x).take i.toNat ++ [s.toList] ++ (tl x).drop i.toNat := by simp [tl, List.map_take, List.map_drop]
  rw [e]
  obtain ⟨h1, h2, h3⟩ := z65 (tl x) i.toNat s.toList hs hlt hgt
  exact ⟨h1, fun h => absurd h h2, fun _ => h3⟩
 induction d with
 | zero =>
  intro k i h0 hi hd hk hlt
  obtain ⟨k, rfl⟩ : ∃ m, k = m + 1 := ⟨k - 1, by omega⟩
  have hgt : ∀ a ∈ (tl x).drop i.toNat, s.toList < a := by
   rw [List.drop_of_length_le (by simp [tl]; omega)]; intro a ha; cases ha
  obtain ⟨h1, h2, h3⟩ := build i h0 hi hlt hgt
  refine ⟨_, ?_, h1, h2, h3⟩
  simp only [spec_l10Put.l0, Option.bind_some]
  rw [if_neg (by omega), if_pos h0, if_pos hi, if_pos (by simp; omega), if_pos (by simp; omega), if_pos (by simp; omega)]
 | succ d ih =>
  intro k i h0 hi hd hk hlt
  obtain ⟨k, rfl⟩ : ∃ m, k = m + 1 := ⟨k - 1, by omega⟩
  have hrd := tl_rd x i h0 (by omega)
  simp only [spec_l10Put.l0, Option.bind_some]
  rw [if_pos (by omega), if_pos h0, w64 (by omega) (by omega), less_eq]
  by_cases h1 : (rdOf ByteArray.empty x i).toList < s.toList
  ·rw [if_pos (by simpa using h1)]
   refine ih k (i + 1) (by omega) (by omega) (by omega) (by omega) (fun a ha => ?_)
   rw [show (i + 1).toNat = i.toNat + 1 by omega, List.take_add_one, hrd] at ha
   rcases List.mem_append.1 ha with ha | ha
   ·exact hlt a ha
   ·simp at ha; rw [ha]; exact h1
  ·rw [if_neg (by simpa using h1)]
   by_cases h2 : (rdOf ByteArray.empty x i).toList = s.toList
   ·rw [if_pos h2]
    have hm : s.toList ∈ tl x := by rw [← h2]; exact List.mem_of_getElem? hrd
    exact ⟨x, rfl, hs, fun _ => rfl, fun h => absurd hm h⟩
   ·rw [if_neg h2]
    have hlt2 := lex_lt_of h1 h2
    have hgt : ∀ a ∈ (tl x).drop i.toNat, s.toList < a := by
     have hd2 : (tl x).drop i.toNat = (rdOf ByteArray.empty x i).toList :: (tl x).drop (i.toNat + 1) := by
      obtain ⟨hlt3, he⟩ := List.getElem?_eq_some_iff.1 hrd
      rw [← he]; exact List.drop_eq_getElem_cons hlt3
     intro a ha
     have hp : ((tl x).drop i.toNat).Pairwise (· < ·) := hs.sublist (List.drop_sublist _ _)
     rw [hd2] at ha hp
     rcases List.mem_cons.1 ha with rfl | ha
     ·exact hlt2
     ·exact List.lt_trans hlt2 ((List.pairwise_cons.1 hp).1 a ha)
    obtain ⟨h3, h4, h5⟩ := build i h0 hi hlt hgt
    refine ⟨_, ?_, h3, h4, h5⟩
    rw [if_pos hi, if_pos (by simp; omega), if_pos (by simp; omega), if_pos (by simp; omega)]
theorem put (x : List ByteArray) (s : ByteArray) (hx : x.length < 4000000000) (hs : (tl x).Pairwise (· < ·)) :
  ∃ r, Ev (fun k => spec_l10Put.f k x s) r ∧ (tl r).Pairwise (· < ·) ∧ (s.toList ∈ tl x → tl r = tl x) ∧ (s.toList ∉ tl x → (tl r).Perm (s.toList :: tl x)) := by
 obtain ⟨r, h1, h2⟩ := put_l0 x s hx hs x.length (x.length + 1) 0 (by omega) (by omega) (by omega) (by omega) (by simp)
 exact ⟨r, Ev.of (fun k => spec_l10Put.mono x s k) h1, h2⟩
theorem z86 (x : List ByteArray) (s : ByteArray) (hx : x.length < 4000000000) (d : Nat) : ∀ (k : Nat) (i : Int), 0 ≤ i → i ≤ x.length → (x.length : Int) - i = d → d < k →
  ∃ r : Int, slices_Index_string_string.l0 k x s x.length i = some r ∧ (decide (r ≥ 0) = decide (s.toList ∈ (tl x).drop i.toNat)) := by
 induction d with
 | zero =>
  intro k i h0 hi hd hk
  obtain ⟨k, rfl⟩ : ∃ m, k = m + 1 := ⟨k - 1, by omega⟩
  refine ⟨-1, by simp only [slices_Index_string_string.l0]; rw [if_neg (by omega)], ?_⟩
  rw [List.drop_of_length_le (by simp [tl]; omega)]; simp
 | succ d ih =>
  intro k i h0 hi hd hk
  obtain ⟨k, rfl⟩ : ∃ m, k = m + 1 := ⟨k - 1, by omega⟩
  have hrd := tl_rd x i h0 (by omega)
  have hd2 : (tl x).drop i.toNat = (rdOf ByteArray.empty x i).toList :: (tl x).drop (i.toNat + 1) := by
   obtain ⟨hlt3, he⟩ := List.getElem?_eq_some_iff.1 hrd
   rw [← he]; exact List.drop_eq_getElem_cons hlt3
  simp only [slices_Index_string_string.l0]
  rw [if_pos (by omega), if_pos h0, if_pos (by omega), w64 (by omega) (by omega), hd2]
  by_cases h : s.toList = (rdOf ByteArray.empty x i).toList
  ·exact ⟨i, by rw [if_pos h], by rw [h]; simp; omega⟩
  ·rw [if_neg h]
   obtain ⟨r, h1, h2⟩ := ih k (i + 1) (by omega) (by omega) (by omega) (by omega)
   refine ⟨r, h1, ?_⟩
   rw [h2, show (i + 1).toNat = i.toNat + 1 by omega]
   simp [h]
theorem contains (x : List ByteArray) (s : ByteArray) (hx : x.length < 4000000000) : Ev (fun k => slices_Contains_string_string.f k x s) (decide (s.toList ∈ tl x)) := by
 obtain ⟨r, h1, h2⟩ := z86 x s hx x.length (x.length + 1) 0 (by omega) (by omega) (by omega) (by omega)
 rw [show (tl x).drop (0 : Int).toNat = tl x by simp] at h2
 unfold slices_Contains_string_string.f
 rw [← h2]
 exact Ev.bind (Ev.of (fun k => slices_Index_string_string.mono x s k) h1) (Ev.now _)
def z8 (m : List S51) (a : ByteArray) (b : Int) : Bool := m.any fun y => a.toList == y.f0.toList && b == y.f1
theorem z40 (m : List S51) (a : ByteArray) (b : Int) (i : Int) (h0 : 0 ≤ i) (h1 : i < m.length) : z8 (m.drop i.toNat) a b = (((a.toList == (rd_T51 m i).f0.toList) && (b == (rd_T51 m i).f1)) || z8 (m.drop (i + 1).toNat) a b) := by
 have hi : i.toNat < m.length := by omega
 have e : rd_T51 m i = m[i.toNat] := by simp [rd_T51, List.getD_eq_getElem?_getD, hi]
 unfold z8
 rw [List.drop_eq_getElem_cons hi, show (i + 1).toNat = i.toNat + 1 by omega, List.any_cons, e]
theorem pairIn_l0 (m : List S51) (a : ByteArray) (b : Int) (hm : m.length < 4000000000) (d : Nat) : ∀ (k : Nat) (i : Int), 0 ≤ i → i ≤ m.length → (m.length : Int) - i = d → d < k →
  ∃ r : Int, impl_Pair_98.l0 k m m.length i a b = some r ∧ decide (r ≥ 0) = z8 (m.drop i.toNat) a b := by
 induction d with
 | zero =>
  intro k i h0 hi hd hk
  obtain ⟨k, rfl⟩ : ∃ m, k = m + 1 := ⟨k - 1, by omega⟩
  refine ⟨-1, by simp only [impl_Pair_98.l0]; rw [if_neg (by omega)], ?_⟩
  rw [List.drop_of_length_le (by omega)]; simp [z8]
 | succ d ih =>
  intro k i h0 hi hd hk
  obtain ⟨k, rfl⟩ : ∃ m, k = m + 1 := ⟨k - 1, by omega⟩
  simp only [impl_Pair_98.l0]
  rw [if_pos (by omega), if_pos h0, if_pos (by omega), w64 (by omega) (by omega), z40 m a b i h0 (by omega)]
  by_cases h : ((a.toList == (rd_T51 m i).f0.toList) && (b == (rd_T51 m i).f1)) = true
  ·exact ⟨i, by rw [if_pos h], by rw [h]; simp; omega⟩
  ·rw [if_neg h]
   obtain ⟨r, h1, h2⟩ := ih k (i + 1) (by omega) (by omega) (by omega) (by omega)
   refine ⟨r, h1, ?_⟩
   rw [h2]
   simp only [Bool.not_eq_true] at h
   rw [h]; simp
theorem pairIn (m : List S51) (a : ByteArray) (b : Int) (hm : m.length < 4000000000) : Ev (fun k => impl_Pair_87.f k m a b) (z8 m a b) := by
 obtain ⟨r, h1, h2⟩ := pairIn_l0 m a b hm m.length (m.length + 1) 0 (by omega) (by omega) (by omega) (by omega)
 rw [show m.drop (0 : Int).toNat = m by simp] at h2
 unfold impl_Pair_87.f
 rw [← h2]
 exact Ev.bind (Ev.of (fun k => impl_Pair_98.mono m a b k) h1) (Ev.now _)
theorem inner (l : List S51) (kt : List ByteArray) (i : Int) (m : List S51) (a : ByteArray) (b : Int) (hm : m.length < 4000000000) (r : Bool)
  (hr : z8 m a b = true → r = false) (hn : z8 m a b = false → Ev (fun k => (spec_l10Put.f k kt a).bind fun t => spec_GoodPairs.l0 k l t l l.length (wrap64 (i + 1))) r) (d : Nat) :
  ∀ j : Int, 0 ≤ j → j ≤ m.length → (m.length : Int) - j = d → z8 (m.take j.toNat) a b = false → Ev (fun k => spec_GoodPairs.l1 k l kt l l.length i m m.length j a b) r := by
 have hsplit : ∀ n : Nat, z8 m a b = (z8 (m.take n) a b || z8 (m.drop n) a b) := fun n => by
  unfold z8; rw [← List.any_append, List.take_append_drop]
 induction d with
 | zero =>
  intro j h0 hj hd hno
  refine Ev.step (fun k => by rw [spec_GoodPairs.l1, if_neg (by omega)]) (hn ?_)
  rw [hsplit j.toNat, hno, List.drop_of_length_le (by omega)]; rfl
 | succ d ih =>
  intro j h0 hj hd hno
  have had := z40 m a b j h0 (by omega)
  by_cases h : ((a.toList == (rd_T51 m j).f0.toList) && (b == (rd_T51 m j).f1)) = true
  ·have hf : z8 m a b = true := by rw [hsplit j.toNat, had, h]; simp
   rw [hr hf]
   exact Ev.step (fun k => by rw [spec_GoodPairs.l1, if_pos (by omega), if_pos h0, if_pos (by omega), if_pos h]) (Ev.now _)
  ·have hw : wrap64 (j + 1) = j + 1 := w64 (by omega) (by omega)
   refine Ev.step (fun k => by rw [spec_GoodPairs.l1, if_pos (by omega), if_pos h0, if_pos (by omega), if_neg h, hw]) (ih (j + 1) (by omega) (by omega) (by omega) ?_)
   have hi : j.toNat < m.length := by omega
   rw [show (j + 1).toNat = j.toNat + 1 by omega, List.take_add_one]
   unfold z8 at hno ⊢
   rw [List.any_append, hno]
   simp only [Bool.not_eq_true] at h
   simpa [rd_T51, List.getD_eq_getElem?_getD, hi] using h
theorem pairs_l0 (l : List S51) (hl : l.length < 2000000000) (d : Nat) : ∀ (i : Int) (kt ks : List ByteArray), 0 ≤ i → i ≤ l.length → (l.length : Int) - i = d → (tl kt).Pairwise (· < ·) → (tl ks).Perm (tl kt) → (kt.length : Int) ≤ i →
  ∃ b : Bool, Ev (fun k => spec_GoodPairs.l0 k l kt l l.length i) b ∧ Ev (fun k => impl_arePairs.l0 k l ks l l.length i) b := by
 induction d with
 | zero =>
  intro i kt ks h0 hi hd hs hp hkl
  have hlen : ks.length = kt.length := by have := hp.length_eq; simpa [tl] using this
  by_cases h : (l.length : Int) ≤ 60
  ·refine ⟨decide ((kt.length : Int) ≤ 20), Ev.step (fun k => by rw [spec_GoodPairs.l0, if_neg (by omega), if_pos h]) (Ev.now _), Ev.step (fun k => by rw [impl_arePairs.l0, if_neg (by omega), if_pos h, hlen]) (Ev.now _)⟩
  ·exact ⟨false, Ev.step (fun k => by rw [spec_GoodPairs.l0, if_neg (by omega), if_neg h]) (Ev.now _), Ev.step (fun k => by rw [impl_arePairs.l0, if_neg (by omega), if_neg h]) (Ev.now _)⟩
 | succ d ih =>
  intro i kt ks h0 hi hd hs hp hkl
  have hlen : ks.length = kt.length := by have := hp.length_eq; simpa [tl] using this
  have hw : wrap64 (i + 1) = i + 1 := w64 (by omega) (by omega)
  generalize hq : rd_T51 l i = q
  have badS : Ev (fun k => spec_GoodPairs.j1 k l kt i l l.length i true q.f0 q.f1) false := Ev.step (fun k => by rw [spec_GoodPairs.j1, if_pos rfl]) (Ev.now _)
  have badI : Ev (fun k => impl_arePairs.j1 k l ks l l.length i true q.f0 q.f1) false := Ev.step (fun k => by rw [impl_arePairs.j1, if_pos rfl]) (Ev.now _)
  by_cases h4 : (q.f0.size : Int) = 4
  ·by_cases ha : q.f1 ≥ 0 ∧ q.f1 ≤ 10000
   ·have hsS : ∀ b, Ev (fun k => spec_GoodPairs.j1 k l kt i l l.length i false q.f0 q.f1) b → Ev (fun k => spec_GoodPairs.l0 k l kt l l.length i) b := by
     intro b hb
     refine Ev.step (fun k => by rw [spec_GoodPairs.l0, if_pos (by omega), if_pos h0, if_pos (by omega), hq, if_pos h4, spec_l1In.f, if_pos ha.1, decide_eq_true ha.2]; rfl) hb
    have hsI : ∀ b, Ev (fun k => impl_arePairs.j1 k l ks l l.length i (z8 (l.take i.toNat) q.f0 q.f1) q.f0 q.f1) b → Ev (fun k => impl_arePairs.l0 k l ks l l.length i) b := by
     intro b hb
     refine Ev.step (fun k => by rw [impl_arePairs.l0, if_pos (by omega), if_pos h0, if_pos (by omega), hq, if_pos h4, impl_within.f, if_pos ha.1, decide_eq_true ha.2]) ?_
     simp only [Option.bind_some, if_true, if_pos hi]
     exact Ev.bind (pairIn (l.take i.toNat) q.f0 q.f1 (by simp; omega)) hb
    have hj1 : ∀ r : Bool, (z8 (l.take i.toNat) q.f0 q.f1 = true → r = false) → (z8 (l.take i.toNat) q.f0 q.f1 = false → Ev (fun k => (spec_l10Put.f k kt q.f0).bind fun t => spec_GoodPairs.l0 k l t l l.length (wrap64 (i + 1))) r) →
      Ev (fun k => spec_GoodPairs.j1 k l kt i l l.length i false q.f0 q.f1) r := by
     intro r hr hn
     refine Ev.step (fun k => by rw [spec_GoodPairs.j1, if_neg (by simp), if_pos h0, if_pos hi]) ?_
     simp only [Option.bind_some]
     exact inner l kt i (l.take i.toNat) q.f0 q.f1 (by simp; omega) r hr hn (l.take i.toNat).length 0 (by omega) (by omega) (by omega) (by simp [z8])
    cases hin : z8 (l.take i.toNat) q.f0 q.f1 with
    | true => exact ⟨false, hsS _ (hj1 false (fun _ => rfl) (fun h => by rw [hin] at h; cases h)), hsI _ (by rw [hin]; exact badI)⟩
    | false =>
     obtain ⟨kt', hput, hs', hmem, hnew⟩ := put kt q.f0 (by omega) hs
     have hc := contains ks q.f0 (by omega)
     have hmi : q.f0.toList ∈ tl ks ↔ q.f0.toList ∈ tl kt := hp.mem_iff
     by_cases hk : q.f0.toList ∈ tl kt
     ·have hkt' : kt'.length = kt.length := by have := congrArg List.length (hmem hk); simpa [tl] using this
      obtain ⟨b, h1, h2⟩ := ih (i + 1) kt' ks (by omega) (by omega) (by omega) hs' (by rw [hmem hk]; exact hp) (by omega)
      refine ⟨b, hsS _ (hj1 b (fun h => by rw [hin] at h; cases h) (fun _ => Ev.bind hput (by rw [hw]; exact h1))), hsI _ ?_⟩
      rw [hin]
      refine Ev.step (fun k => by rw [impl_arePairs.j1, if_neg (by simp)]) (Ev.bind hc ?_)
      simp only [decide_eq_true (hmi.2 hk), if_true, hw]
      exact h2
     ·have hkt' : kt'.length = kt.length + 1 := by have := (hnew hk).length_eq; simpa [tl] using this
      obtain ⟨b, h1, h2⟩ := ih (i + 1) kt' (ks ++ [q.f0]) (by omega) (by omega) (by omega) hs' (by
       have e : tl (ks ++ [q.f0]) = tl ks ++ [q.f0.toList] := by simp [tl]
       rw [e]
       exact (List.perm_append_singleton _ _).trans ((hp.cons _).trans (hnew hk).symm)) (by omega)
      refine ⟨b, hsS _ (hj1 b (fun h => by rw [hin] at h; cases h) (fun _ => Ev.bind hput (by rw [hw]; exact h1))), hsI _ ?_⟩
      rw [hin]
      refine Ev.step (fun k => by rw [impl_arePairs.j1, if_neg (by simp)]) (Ev.bind hc ?_)
      simp only [decide_eq_false (fun h => hk (hmi.1 h)), Bool.false_eq_true, if_false, hw]
      simp only [if_pos (show ks.length < 8796093022208 by omega)]
      exact h2
   ·have hf : (if q.f1 ≥ 0 then some (decide (q.f1 ≤ 10000)) else some false) = some false := by
     split
     ·rw [decide_eq_false (fun h => ha ⟨by assumption, h⟩)]
     ·rfl
    refine ⟨false, Ev.step (fun k => by rw [spec_GoodPairs.l0, if_pos (by omega), if_pos h0, if_pos (by omega), hq, if_pos h4, spec_l1In.f, hf]; rfl) badS, Ev.step (fun k => by rw [impl_arePairs.l0, if_pos (by omega), if_pos h0, if_pos (by omega), hq, if_pos h4, impl_within.f, hf, Option.bind_some, if_neg (by simp)]) badI⟩
  ·exact ⟨false, Ev.step (fun k => by rw [spec_GoodPairs.l0, if_pos (by omega), if_pos h0, if_pos (by omega), hq, if_neg h4]) badS, Ev.step (fun k => by rw [impl_arePairs.l0, if_pos (by omega), if_pos h0, if_pos (by omega), hq, if_neg h4]) badI⟩
theorem z44 (l : List S51) (hl : l.length < 2000000000) : ∃ b, Ev (fun k => spec_GoodPairs.f k l) b ∧ Ev (fun k => impl_arePairs.f k l) b :=
 pairs_l0 l hl l.length 0 [] [] (by omega) (by omega) (by omega) (by simp [tl]) (by simp [tl]) (by simp)
theorem good_inner (l : List S51) (kt : List ByteArray) (i : Int) (m : List S51) (hm : m.length < 4000000000) (a : ByteArray) (b : Int) : ∀ (k : Nat) (j : Int), 0 ≤ j → j ≤ m.length → spec_GoodPairs.l1 k l kt l l.length i m m.length j a b = some true →
  z8 (m.drop j.toNat) a b = false ∧ ∃ k' kt', k' < k ∧ spec_l10Put.f k' kt a = some kt' ∧ spec_GoodPairs.l0 k' l kt' l l.length (wrap64 (i + 1)) = some true := by
 intro k
 induction k with
 | zero => intro j _ _ h; simp [spec_GoodPairs.l1] at h
 | succ k ih =>
  intro j h0 h1 h
  rw [spec_GoodPairs.l1] at h
  by_cases hj : j < (m.length : Int)
  ·rw [if_pos hj, if_pos h0, if_pos hj] at h
   by_cases he : (a.toList == (rd_T51 m j).f0.toList && (b == (rd_T51 m j).f1)) = true
   ·rw [if_pos he] at h; cases h
   ·rw [if_neg he, w64 (by omega) (by omega)] at h
    obtain ⟨h2, k', kt', hk, h3⟩ := ih (j + 1) (by omega) (by omega) h
    refine ⟨?_, k', kt', by omega, h3⟩
    rw [z40 m a b j h0 hj, h2, Bool.or_false]
    simpa using he
  ·rw [if_neg hj] at h
   obtain ⟨kt', hp, h⟩ := Option.bind_eq_some_iff.1 h
   refine ⟨?_, k, kt', by omega, hp, h⟩
   rw [List.drop_of_length_le (by omega)]; rfl
theorem good_true (l : List S51) (hl : l.length < 2000000000) : ∀ (k : Nat) (i : Int) (kt : List ByteArray), 0 ≤ i → i ≤ l.length → spec_GoodPairs.l0 k l kt l l.length i = some true →
  l.length ≤ 60 ∧ (∀ j : Int, i ≤ j → j < l.length → (rd_T51 l j).f0.size = 4 ∧ 0 ≤ (rd_T51 l j).f1 ∧ (rd_T51 l j).f1 ≤ 10000 ∧ z8 (l.take j.toNat) (rd_T51 l j).f0 (rd_T51 l j).f1 = false) ∧ ∃ ks, Ev (fun k => spec_l10Keys.l0 k kt l l.length i) ks ∧ ks.length ≤ 20 := by
 intro k
 induction k using Nat.strongRecOn with
 | _ k ih =>
  intro i kt h0 h1 h
  cases k with
  | zero => simp [spec_GoodPairs.l0] at h
  | succ k =>
   rw [spec_GoodPairs.l0] at h
   by_cases hi : i < (l.length : Int)
   ·rw [if_pos hi, if_pos h0, if_pos hi] at h
    generalize hq : rd_T51 l i = q at h
    have nb : ∀ k, spec_GoodPairs.j1 k l kt i l l.length i true q.f0 q.f1 = some true → False := by
     intro k h
     cases k with
     | zero => simp [spec_GoodPairs.j1] at h
     | succ k => rw [spec_GoodPairs.j1, if_pos rfl] at h; cases h
    by_cases h4 : (q.f0.size : Int) = 4
    ·rw [if_pos h4] at h
     obtain ⟨t, ht, h⟩ := Option.bind_eq_some_iff.1 h
     cases t with
     | false => exact absurd h (nb k)
     | true =>
      have hr : 0 ≤ q.f1 ∧ q.f1 ≤ 10000 := by
       unfold spec_l1In.f at ht
       by_cases hge : q.f1 ≥ 0
       ·rw [if_pos hge] at ht
        have := of_decide_eq_true (Option.some.inj ht)
        omega
       ·rw [if_neg hge] at ht; cases ht
      cases k with
      | zero => simp [spec_GoodPairs.j1] at h
      | succ k =>
       rw [spec_GoodPairs.j1, if_neg (by decide), if_pos h0, if_pos h1, Option.bind_some] at h
       obtain ⟨ha, k', kt', hk', hp, h⟩ := good_inner l kt i (l.take i.toNat) (by rw [List.length_take]; omega) q.f0 q.f1 k 0 (by omega) (by omega) h
       rw [w64 (by omega) (by omega)] at h
       obtain ⟨g1, g2, ks, g3, g4⟩ := ih k' (by omega) (i + 1) kt' (by omega) (by omega) h
       refine ⟨g1, fun j hj1 hj2 => ?_, ks, ?_, g4⟩
       ·by_cases e : j = i
        ·subst e
         rw [hq]
         exact ⟨by omega, hr.1, hr.2, by simpa using ha⟩
        ·exact g2 j (by omega) hj2
       ·refine Ev.step (fun k => by rw [spec_l10Keys.l0, if_pos hi, if_pos h0, if_pos hi, hq, w64 (by omega) (by omega)]) (Ev.bind (Ev.of (fun k => spec_l10Put.mono kt q.f0 k) hp) g3)
    ·rw [if_neg h4] at h
     exact absurd h (nb k)
   ·rw [if_neg hi] at h
    by_cases h60 : (l.length : Int) ≤ 60
    ·rw [if_pos h60] at h
     have := of_decide_eq_true (Option.some.inj h)
     refine ⟨by omega, fun j _ _ => by omega, kt, Ev.step (fun k => by rw [spec_l10Keys.l0, if_neg hi]) (Ev.now _), by omega⟩
    ·rw [if_neg h60] at h; cases h
theorem Ev.uniq {α : Type} {g : Nat → Option α} {a b : α} (h : Ev g a) (k : Ev g b) : a = b := by
 obtain ⟨m, hm⟩ := h
 obtain ⟨n, hn⟩ := k
 have h1 := hm (max m n) (Nat.le_max_left _ _)
 rw [hn (max m n) (Nat.le_max_right _ _)] at h1
 exact (Option.some.inj h1).symm
theorem rdP (l : List S51) (i : Int) (h0 : 0 ≤ i) (h1 : i < l.length) : rd_T51 l i = l[i.toNat]'(by omega) := by simp [rd_T51, List.getD_eq_getElem?_getD, List.getElem?_eq_getElem (show i.toNat < l.length by omega)]
theorem keysOf (l : List S51) (hl : l.length < 2000000000) (d : Nat) : ∀ (i : Int) (kt : List ByteArray), 0 ≤ i → i ≤ l.length → (l.length : Int) - i = d → (tl kt).Pairwise (· < ·) → (kt.length : Int) ≤ i →
  ∃ ks, Ev (fun k => spec_l10Keys.l0 k kt l l.length i) ks ∧ (tl ks).Pairwise (· < ·) ∧ ∀ s, s ∈ tl ks ↔ s ∈ tl kt ∨ ∃ x ∈ l.drop i.toNat, x.f0.toList = s := by
 induction d with
 | zero =>
  intro i kt h0 h1 hd hs hk
  refine ⟨kt, Ev.step (fun k => by rw [spec_l10Keys.l0, if_neg (by omega)]) (Ev.now _), hs, fun s => ?_⟩
  rw [List.drop_of_length_le (by omega)]; simp
 | succ d ih =>
  intro i kt h0 h1 hd hs hk
  have hi : i < (l.length : Int) := by omega
  obtain ⟨r, hr, hrs, hin, hout⟩ := put kt (rd_T51 l i).f0 (by omega) hs
  have hmem : ∀ s, s ∈ tl r ↔ s ∈ tl kt ∨ s = (rd_T51 l i).f0.toList := by
   intro s
   by_cases h : (rd_T51 l i).f0.toList ∈ tl kt
   ·rw [hin h]; exact ⟨.inl, fun h2 => h2.elim id (fun e => e ▸ h)⟩
   ·rw [(hout h).mem_iff, List.mem_cons]; exact Or.comm
  have hlen : r.length ≤ kt.length + 1 := by
   by_cases h : (rd_T51 l i).f0.toList ∈ tl kt
   ·have := congrArg List.length (hin h); simp [tl] at this; omega
   ·have := (hout h).length_eq; simp [tl] at this; omega
  obtain ⟨ks, e1, e2, e3⟩ := ih (i + 1) r (by omega) (by omega) (by omega) hrs (by omega)
  refine ⟨ks, Ev.step (fun k => by rw [spec_l10Keys.l0, if_pos hi, if_pos h0, if_pos hi, w64 (by omega) (by omega)]) (Ev.bind hr e1), e2, fun s => ?_⟩
  rw [e3, hmem, List.drop_eq_getElem_cons (show i.toNat < l.length by omega), show (i + 1).toNat = i.toNat + 1 by omega]
  rw [rdP l i h0 hi]
  simp only [List.mem_cons, exists_eq_or_imp]
  constructor
  ·rintro ((h | h) | h)
   ·exact .inl h
   ·exact .inr (.inl h.symm)
   ·exact .inr (.inr h)
  ·rintro (h | h | h)
   ·exact .inl (.inl h)
   ·exact .inl (.inr h.symm)
   ·exact .inr h
theorem z61 (key : ByteArray) : ∀ (l : List S51) (acc : List Int), acc.length + l.length < 2000000000 → acc.Pairwise (· < ·) →
  ∃ r, Ev (fun k => bd_pl k key l acc) r ∧ r.Pairwise (· < ·) ∧ ∀ a, a ∈ r ↔ a ∈ acc ∨ ∃ x ∈ l, x.f0.toList = key.toList ∧ x.f1 = a
 | [], acc, _, hs => ⟨acc, Ev.now _, hs, fun a => by simp⟩
 | x :: l, acc, hb, hs => by
  simp only [List.length_cons] at hb
  by_cases h : x.f0.toList = key.toList
  ·obtain ⟨r, hr, hrs, hm, hlen⟩ := putInt acc x.f1 (by omega) hs
   obtain ⟨r2, e1, e2, e3⟩ := z61 key l r (by omega) hrs
   refine ⟨r2, ?_, e2, fun a => ?_⟩
   ·have := Ev.bind hr e1
    exact Ev.congr (fun k => by rw [bd_pl, if_pos h]) this
   ·rw [e3, hm]
    simp only [List.mem_cons, exists_eq_or_imp, h, true_and]
    constructor
    ·rintro ((h | h) | h)
     ·exact .inl h
     ·exact .inr (.inl h.symm)
     ·exact .inr (.inr h)
    ·rintro (h | h | h)
     ·exact .inl (.inl h)
     ·exact .inl (.inr h.symm)
     ·exact .inr h
  ·obtain ⟨r2, e1, e2, e3⟩ := z61 key l acc (by omega) hs
   refine ⟨r2, Ev.congr (fun k => by rw [bd_pl, if_neg h]) e1, e2, fun a => ?_⟩
   rw [e3]
   simp only [List.mem_cons, exists_eq_or_imp, h, false_and, false_or]
theorem z11 {α : Type} {R : α → α → Prop} (hi : ∀ a, ¬ R a a) (ht : ∀ a b, R a b → R b a → False) : ∀ (a b : List α), a.Pairwise R → b.Pairwise R → (∀ x, x ∈ a ↔ x ∈ b) → a = b
 | [], [], _, _, _ => rfl
 | [], y :: b, _, _, h => absurd ((h y).2 (by simp)) (by simp)
 | x :: a, [], _, _, h => absurd ((h x).1 (by simp)) (by simp)
 | x :: a, y :: b, ha, hb, h => by
  have hx := List.pairwise_cons.1 ha
  have hy := List.pairwise_cons.1 hb
  have e : x = y := by
   rcases List.mem_cons.1 ((h x).1 (by simp)) with e | e
   ·exact e
   ·rcases List.mem_cons.1 ((h y).2 (by simp)) with e2 | e2
    ·exact e2.symm
    ·exact (ht _ _ (hx.1 y e2) (hy.1 x e)).elim
  subst e
  rw [z11 hi ht a b hx.2 hy.2 (fun z => ?_)]
  constructor
  ·intro hz
   rcases List.mem_cons.1 ((h z).1 (List.mem_cons_of_mem _ hz)) with e | e
   ·subst e; exact absurd (hx.1 z hz) (hi z)
   ·exact e
  ·intro hz
   rcases List.mem_cons.1 ((h z).2 (List.mem_cons_of_mem _ hz)) with e | e
   ·subst e; exact absurd (hy.1 z hz) (hi z)
   ·exact e
theorem z33 (pl : ByteArray → List Int) : ∀ (ks : List ByteArray), ks.Pairwise (fun a b => a.data.toList < b.data.toList) → (∀ k ∈ ks, (pl k).Pairwise (· < ·)) → (flat pl ks).Pairwise LtP
 | [], _, _ => List.Pairwise.nil
 | k :: ks, hk, hp => by
  have h := List.pairwise_cons.1 hk
  rw [z12, List.pairwise_append]
  refine ⟨?_, z33 pl ks h.2 (fun x hx => hp x (List.mem_cons_of_mem _ hx)), ?_⟩
  ·rw [List.pairwise_map]
   exact (hp k (by simp)).imp (fun h => .inr ⟨rfl, h⟩)
  ·intro x hx y hy
   obtain ⟨a, _, rfl⟩ := List.mem_map.1 hx
   exact .inl (h.1 _ ((z19 pl ks y).1 hy).1)
theorem sortP_mem (l : List S51) (x : S51) : x ∈ sortP l ↔ x ∈ l := (List.mergeSort_perm l _).mem_iff
theorem z69 (l : List S51) (hn : l.Pairwise (· ≠ ·)) : (sortP l).Pairwise LtP := by
 have h1 : (sortP l).Pairwise fun x y => (!(ltOf cfP) y x) = true := List.pairwise_mergeSort (fun a b c h k => by
  simp only [Bool.not_eq_true'] at h k ⊢
  rw [ltP_false] at h k ⊢
  intro h2
  rcases LtP.tri a b with e | e | e
  ·exact k (h2.trans e)
  ·subst e; exact k h2
  ·exact h e) (fun a b => by
  cases h : ltOf cfP b a with
  | false => rfl
  | true =>
   have h3 : ltOf cfP a b = false := by
    rw [ltP_false]
    exact fun h2 => LtP.irrefl a (h2.trans ((ltP_iff _ _).1 h))
   simp [h3]) l
 have h2 : (sortP l).Pairwise (· ≠ ·) := (List.mergeSort_perm l _).symm.pairwise hn (fun h => Ne.symm h)
 refine (h1.and h2).imp (fun h => ?_)
 have h3 := h.1
 simp only [Bool.not_eq_true'] at h3
 rw [ltP_false] at h3
 rename_i a b
 rcases LtP.tri a b with e | e | e
 ·exact e
 ·exact absurd e h.2
 ·exact absurd e h3
theorem good_nodup (l : List S51) (h : ∀ j : Int, 0 ≤ j → j < l.length → z8 (l.take j.toNat) (rd_T51 l j).f0 (rd_T51 l j).f1 = false) : l.Pairwise (· ≠ ·) := by
 rw [List.pairwise_iff_getElem]
 intro i j hi hj hij e
 have := h j (by omega) (by omega)
 rw [Int.toNat_natCast] at this
 unfold z8 at this
 rw [List.any_eq_false] at this
 have hm : l[i] ∈ l.take j := by
  rw [List.mem_iff_getElem]
  exact ⟨i, by rw [List.length_take]; omega, by rw [List.getElem_take]⟩
 apply this _ hm
 have e2 : rd_T51 l (j : Int) = l[j] := by rw [rdP l j (by omega) (by omega)]; simp
 rw [e2, ← e]
 simp
structure Tree (l : List S51) (ks : List ByteArray) (pl : ByteArray → List Int) : Prop where
 keys : Keys ks
 few : ks.length ≤ 20
 full : ∀ k ∈ ks, pl k ≠ []
 rising : ∀ k ∈ ks, (pl k).Pairwise (· < ·)
 mem : ∀ x, x ∈ l ↔ x ∈ flat pl ks
 short : l.length ≤ 60
 flat_len : (flat pl ks).length ≤ 60
 range : ∀ x ∈ l, 0 ≤ x.f1 ∧ x.f1 ≤ 10000
 spec : Ev (fun k => spec_l10Index.f k l) (tr pl ks 0)
 impl : Ev (fun k => impl_indexOf.f k l) (tr pl ks 0)
theorem z38 (l : List S51) (hl : l.length < 2000000000) (k : Nat) (hg : spec_GoodPairs.f k l = some true) : ∃ ks pl, Tree l ks pl := by
 obtain ⟨h60, hall, ks, hks, h20⟩ := good_true l hl k 0 [] (by omega) (by omega) hg
 obtain ⟨ks2, e1, e2, e3⟩ := keysOf l hl l.length 0 [] (by omega) (by omega) (by omega) (by simp [tl]) (by simp)
 obtain rfl := Ev.uniq hks e1
 have hnd := good_nodup l (fun j h0 h1 => (hall j h0 h1).2.2.2)
 have hx : ∀ x ∈ l, x.f0.size = 4 ∧ 0 ≤ x.f1 ∧ x.f1 ≤ 10000 := by
  intro x hx
  obtain ⟨j, hj, rfl⟩ := List.mem_iff_getElem.1 hx
  have := hall j (by omega) (by omega)
  rw [rdP l j (by omega) (by omega)] at this
  simp only [Int.toNat_natCast] at this
  exact ⟨this.1, this.2.1, this.2.2.1⟩
 have hkm : ∀ s : List UInt8, s ∈ tl ks ↔ ∃ x ∈ l, x.f0.toList = s := by
  intro s; rw [e3]; simp [tl]
 have hback : ∀ key ∈ ks, ∃ x ∈ l, x.f0 = key := by
  intro key hkey
  obtain ⟨x, hxl, hxe⟩ := (hkm key.toList).1 (List.mem_map.2 ⟨key, hkey, rfl⟩)
  refine ⟨x, hxl, ?_⟩
  rw [ByteArray.toList_eq, ByteArray.toList_eq] at hxe
  exact ByteArray.ext (Array.toList_inj.1 hxe)
 have hkeys : Keys ks := by
  refine ⟨?_, fun key hkey => ?_⟩
  ·unfold tl at e2
   rw [List.pairwise_map] at e2
   exact e2.imp (fun h => by rwa [ByteArray.toList_eq, ByteArray.toList_eq] at h)
  ·obtain ⟨x, hxl, rfl⟩ := hback key hkey
   exact (hx x hxl).1
 have hpl : ∀ key, ∃ r, Ev (fun k => bd_pl k key l []) r ∧ r.Pairwise (· < ·) ∧ ∀ a, a ∈ r ↔ ∃ x ∈ l, x.f0.toList = key.toList ∧ x.f1 = a := by
  intro key
  obtain ⟨r, h1, h2, h3⟩ := z61 key l [] (by simp; omega) List.Pairwise.nil
  exact ⟨r, h1, h2, fun a => by rw [h3]; simp⟩
 obtain ⟨pl, hp⟩ := Classical.axiomOfChoice hpl
 have hfull : ∀ k ∈ ks, pl k ≠ [] := by
  intro key hkey e
  obtain ⟨x, hxl, rfl⟩ := hback key hkey
  have := ((hp x.f0).2.2 x.f1).2 ⟨x, hxl, rfl, rfl⟩
  rw [e] at this; cases this
 have hmem : ∀ x, x ∈ l ↔ x ∈ flat pl ks := by
  intro x
  rw [z19, (hp x.f0).2.2]
  constructor
  ·intro h
   refine ⟨?_, x, h, rfl, rfl⟩
   have := (hkm x.f0.toList).2 ⟨x, h, rfl⟩
   obtain ⟨key, hkey, e⟩ := List.mem_map.1 this
   rw [ByteArray.toList_eq, ByteArray.toList_eq] at e
   rwa [ByteArray.ext (Array.toList_inj.1 e)] at hkey
  ·rintro ⟨_, y, hy, e1, e2⟩
   rw [ByteArray.toList_eq, ByteArray.toList_eq] at e1
   have e3 : y.f0 = x.f0 := ByteArray.ext (Array.toList_inj.1 e1)
   have : x = y := by
    obtain ⟨a, b⟩ := x
    obtain ⟨a', b'⟩ := y
    simp only at e2 e3
    rw [e2, e3]
   rwa [this]
 have hsort : sortP l = flat pl ks := z11 LtP.irrefl (fun a b h k => LtP.irrefl a (h.trans k)) _ _ (z69 l hnd) (z33 pl ks hkeys.up (fun k _ => (hp k).2.1)) (fun x => by rw [sortP_mem, hmem])
 have hfl : (flat pl ks).length ≤ 60 := by rw [← hsort, sortP_length]; exact h60
 refine ⟨ks, pl, hkeys, h20, hfull, fun k _ => (hp k).2.1, hmem, h60, hfl, fun x hxl => (hx x hxl).2, ?_, ?_⟩
 ·unfold spec_l10Index.f
  refine Ev.bind (f := fun k ks => spec_l10Build.f k l ks []) (a := ks) hks ?_
  ·have := specBuild l pl ks.length ks [] rfl hkeys (fun k _ => (hp k).1) (by simp; omega)
   simpa using this
 ·unfold impl_indexOf.f
  simp only [show l.length < 1000000000000 by omega, if_true, hsort]
  have := implGrown pl ks.length ks [] rfl hkeys hfull (by simp; omega) (by omega)
  simpa using this
theorem tr_mem (pl : ByteArray → List Int) : ∀ (n : Nat) (ks : List ByteArray) (off : Nat), ks.length = n → Keys ks → ∀ x ∈ tr pl ks off, (x.f0 = ⟨#[]⟩ ∧ x.f1 = []) ∨ (x.f0 ∈ ks ∧ x = ⟨x.f0, pl x.f0, 0, 0, 0⟩) := by
 intro n
 induction n using Nat.strongRecOn with
 | _ n ih =>
  intro ks off hl hk x hx
  by_cases h0 : n = 0
  ·obtain rfl : ks = [] := List.eq_nil_of_length_eq_zero (by omega)
   rw [z42] at hx; cases hx
  by_cases h1 : n = 1
  ·obtain ⟨k, rfl⟩ : ∃ k, ks = [k] := by
    match ks, hl with
    | [k], _ => exact ⟨k, rfl⟩
    | [], h => simp at h; omega
    | _ :: _ :: _, h => simp at h; omega
   rw [z41, List.mem_singleton] at hx
   subst hx
   exact .inr ⟨by simp, rfl⟩
  ·obtain ⟨c1, c2⟩ : 1 ≤ cut2 ks ∧ cut2 ks < ks.length := hk.cut (by omega)
   rw [z21 pl ks off hk (by omega), List.mem_cons, List.mem_append] at hx
   rcases hx with rfl | hx | hx
   ·exact .inl ⟨rfl, rfl⟩
   ·rcases ih (cut2 ks) (by omega) (ks.take (cut2 ks)) (off + 1) (by rw [List.length_take]; omega) (hk.take _) x hx with h | ⟨h, e⟩
    ·exact .inl h
    ·exact .inr ⟨List.mem_of_mem_take h, e⟩
   ·rcases ih (ks.length - cut2 ks) (by omega) (ks.drop (cut2 ks)) _ (by rw [List.length_drop]) (hk.drop _) x hx with h | ⟨h, e⟩
    ·exact .inl h
    ·exact .inr ⟨List.mem_of_mem_drop h, e⟩
theorem z13 (pl : ByteArray → List Int) : ∀ (ks : List ByteArray) (k : ByteArray), k ∈ ks → (pl k).length ≤ (flat pl ks).length
 | a :: ks, k, h => by
  rw [z12, List.length_append, List.length_map]
  rcases List.mem_cons.1 h with rfl | h
  ·omega
  ·have := z13 pl ks k h; omega
theorem z68 {l : List S51} {ks : List ByteArray} {pl : ByteArray → List Int} (h : Tree l ks pl) (x : S74) (hx : x ∈ tr pl ks 0) : x.f1.length < 4000000000 := by
 rcases tr_mem pl ks.length ks 0 rfl h.keys x hx with ⟨_, e⟩ | ⟨hm, e⟩
 ·rw [e]; simp
 ·have h1 := z13 pl ks x.f0 hm
  have h2 := h.flat_len
  have h3 : x.f1 = pl x.f0 := by rw [e]
  rw [h3]; omega
theorem z34 {l : List S51} {ks : List ByteArray} {pl : ByteArray → List Int} (h : Tree l ks pl) : (tr pl ks 0).length ≤ 39 := by
 rcases Nat.eq_zero_or_pos ks.length with e | e
 ·obtain rfl : ks = [] := List.eq_nil_of_length_eq_zero e
  simp [z42]
 ·have := z87 pl ks.length ks 0 rfl h.keys e
  have := h.few
  omega
theorem z57 {l : List S51} {ks : List ByteArray} {pl : ByteArray → List Int} (h : Tree l ks pl) (x : S74) (hx : x ∈ tr pl ks 0) : x.f1.length ≤ 60 := by
 rcases tr_mem pl ks.length ks 0 rfl h.keys x hx with ⟨_, e⟩ | ⟨hm, e⟩
 ·rw [e]; simp
 ·have h1 := z13 pl ks x.f0 hm
  have h2 := h.flat_len
  have h3 : x.f1 = pl x.f0 := by rw [e]
  rw [h3]; omega
def z6 (l : List S74) : List S51 := l.flatMap fun x => x.f1.map fun a => ⟨x.f0, a⟩
theorem rdF (l : List S74) (i : Int) (h0 : 0 ≤ i) (h1 : i < l.length) : rd_T74 l i = l[i.toNat]'(by omega) := by simp [rd_T74, List.getD_eq_getElem?_getD, List.getElem?_eq_getElem (show i.toNat < l.length by omega)]
theorem rdI (l : List Int) (i : Int) (h0 : 0 ≤ i) (h1 : i < l.length) : rd l i = l[i.toNat]'(by omega) := by simp [rd, List.getD_eq_getElem?_getD, List.getElem?_eq_getElem (show i.toNat < l.length by omega)]
theorem z7 (x : S74) (l : List S74) : z6 (x :: l) = (x.f1.map fun a => (⟨x.f0, a⟩ : S51)) ++ z6 l := rfl
theorem z71 (f : List S74) (i : Int) (x : S74) (r : List S51) (hx : x.f1.length < 4000000000) (d : Nat) : ∀ (j : Int) (acc : List S51), 0 ≤ j → j ≤ x.f1.length → (x.f1.length : Int) - j = d → acc.length + d < 5000000000000 →
  Ev (fun k => spec_l10Pairs.l0 k (acc ++ (x.f1.drop j.toNat).map fun a => ⟨x.f0, a⟩) f f.length (wrap64 (i + 1))) r →
  Ev (fun k => spec_l10Pairs.l1 k acc f f.length i x.f1 x.f1.length j x.f0 x.f1 x.f2 x.f3 x.f4) r := by
 induction d with
 | zero =>
  intro j acc h0 h1 hd hb h
  rw [List.drop_of_length_le (by omega)] at h
  simp only [List.map_nil, List.append_nil] at h
  exact Ev.step (fun k => by rw [spec_l10Pairs.l1, if_neg (by omega)]) h
 | succ d ih =>
  intro j acc h0 h1 hd hb h
  refine Ev.step (fun k => by rw [spec_l10Pairs.l1, if_pos (by omega), if_pos h0, if_pos (by omega), if_pos (by omega), w64 (n := j + 1) (by omega) (by omega)]) (ih (j + 1) _ (by omega) (by omega) (by omega) (by simp; omega) ?_)
  rw [List.drop_eq_getElem_cons (show j.toNat < x.f1.length by omega)] at h
  rw [rdI x.f1 j h0 (by omega), show (j + 1).toNat = j.toNat + 1 by omega, List.append_assoc]
  exact h
theorem pairsS_l0 (f : List S74) (hf : f.length < 2000000000) (hs : ∀ x ∈ f, x.f1.length ≤ 1048576) (d : Nat) : ∀ (i : Int) (acc : List S51), 0 ≤ i → i ≤ f.length → (f.length : Int) - i = d → acc.length + (z6 (f.drop i.toNat)).length < 4000000000 →
  Ev (fun k => spec_l10Pairs.l0 k acc f f.length i) (acc ++ z6 (f.drop i.toNat)) := by
 induction d with
 | zero =>
  intro i acc h0 h1 hd hb
  rw [List.drop_of_length_le (by omega)]
  exact Ev.step (fun k => by rw [spec_l10Pairs.l0, if_neg (by omega)]) (by simp [z6]; exact Ev.now _)
 | succ d ih =>
  intro i acc h0 h1 hd hb
  have hi : i.toNat < f.length := by omega
  have hz := hs _ (List.getElem_mem hi)
  rw [List.drop_eq_getElem_cons hi, z7] at hb ⊢
  rw [List.length_append, List.length_map] at hb
  refine Ev.step (fun k => by rw [spec_l10Pairs.l0, if_pos (by omega), if_pos h0, if_pos (by omega), rdF f i h0 (by omega)]) (z71 f i f[i.toNat] _ (by omega) f[i.toNat].f1.length 0 acc (by omega) (by omega) (by omega) (by omega) ?_)
  rw [w64 (by omega) (by omega), ← List.append_assoc, show i.toNat + 1 = (i + 1).toNat by omega]
  exact ih (i + 1) _ (by omega) (by omega) (by omega) (by rw [List.length_append, List.length_map, show (i + 1).toNat = i.toNat + 1 by omega]; simp; omega)
theorem z72 (f : List S74) (i : Int) (x : S74) (r : List S51) (hx : x.f1.length < 4000000000) (d : Nat) : ∀ (j : Int) (acc : List S51), 0 ≤ j → j ≤ x.f1.length → (x.f1.length : Int) - j = d → acc.length + d < 5000000000000 →
  Ev (fun k => impl_pairsIn.l0 k (acc ++ (x.f1.drop j.toNat).map fun a => ⟨x.f0, a⟩) f f.length (wrap64 (i + 1))) r →
  Ev (fun k => impl_pairsIn.l1 k acc f f.length i x.f1 x.f1.length j x.f0 x.f1 x.f2 x.f3 x.f4) r := by
 induction d with
 | zero =>
  intro j acc h0 h1 hd hb h
  rw [List.drop_of_length_le (by omega)] at h
  simp only [List.map_nil, List.append_nil] at h
  exact Ev.step (fun k => by rw [impl_pairsIn.l1, if_neg (by omega)]) h
 | succ d ih =>
  intro j acc h0 h1 hd hb h
  refine Ev.step (fun k => by rw [impl_pairsIn.l1, if_pos (by omega), if_pos h0, if_pos (by omega), if_pos (by omega), w64 (n := j + 1) (by omega) (by omega)]) (ih (j + 1) _ (by omega) (by omega) (by omega) (by simp; omega) ?_)
  rw [List.drop_eq_getElem_cons (show j.toNat < x.f1.length by omega)] at h
  rw [rdI x.f1 j h0 (by omega), show (j + 1).toNat = j.toNat + 1 by omega, List.append_assoc]
  exact h
theorem pairsI_l0 (f : List S74) (hf : f.length < 2000000000) (hs : ∀ x ∈ f, x.f1.length ≤ 1048576) (d : Nat) : ∀ (i : Int) (acc : List S51), 0 ≤ i → i ≤ f.length → (f.length : Int) - i = d → acc.length + (z6 (f.drop i.toNat)).length < 4000000000 →
  Ev (fun k => impl_pairsIn.l0 k acc f f.length i) (acc ++ z6 (f.drop i.toNat)) := by
 induction d with
 | zero =>
  intro i acc h0 h1 hd hb
  rw [List.drop_of_length_le (by omega)]
  exact Ev.step (fun k => by rw [impl_pairsIn.l0, if_neg (by omega)]) (by simp [z6]; exact Ev.now _)
 | succ d ih =>
  intro i acc h0 h1 hd hb
  have hi : i.toNat < f.length := by omega
  have hz := hs _ (List.getElem_mem hi)
  rw [List.drop_eq_getElem_cons hi, z7] at hb ⊢
  rw [List.length_append, List.length_map] at hb
  refine Ev.step (fun k => by rw [impl_pairsIn.l0, if_pos (by omega), if_pos h0, if_pos (by omega), rdF f i h0 (by omega)]) (z72 f i f[i.toNat] _ (by omega) f[i.toNat].f1.length 0 acc (by omega) (by omega) (by omega) (by omega) ?_)
  rw [w64 (by omega) (by omega), ← List.append_assoc, show i.toNat + 1 = (i + 1).toNat by omega]
  exact ih (i + 1) _ (by omega) (by omega) (by omega) (by rw [List.length_append, List.length_map, show (i + 1).toNat = i.toNat + 1 by omega]; simp; omega)
theorem z73 (f : List S74) (hf : f.length < 2000000000) (hs : ∀ x ∈ f, x.f1.length ≤ 1048576) (hp : (z6 f).length < 2000000000) : Ev (fun k => spec_l10Pairs.f k f) (z6 f) ∧ Ev (fun k => impl_pairsIn.f k f) (z6 f) := by
 have h1 := pairsS_l0 f hf hs f.length 0 [] (by omega) (by omega) (by omega) (by simp; omega)
 have h2 := pairsI_l0 f hf hs f.length 0 [] (by omega) (by omega) (by omega) (by simp; omega)
 simp only [List.nil_append, Int.toNat_zero, List.drop_zero] at h1 h2
 exact ⟨h1, h2⟩
theorem intsEq_l0 (a b : List Int) (hl : a.length = b.length) (ha : a.length < 4000000000) (d : Nat) : ∀ (i : Int), 0 ≤ i → i ≤ a.length → (a.length : Int) - i = d → Ev (fun k => slices_Equal_int_int.l0 k a b a.length i) (decide (a.drop i.toNat = b.drop i.toNat)) := by
 induction d with
 | zero =>
  intro i h0 h1 hd
  rw [List.drop_of_length_le (by omega), List.drop_of_length_le (by omega)]
  exact Ev.step (fun k => by rw [slices_Equal_int_int.l0, if_neg (by omega)]) (by simp; exact Ev.now _)
 | succ d ih =>
  intro i h0 h1 hd
  rw [List.drop_eq_getElem_cons (show i.toNat < a.length by omega), List.drop_eq_getElem_cons (show i.toNat < b.length by omega)]
  by_cases h : a[i.toNat]'(by omega) = b[i.toNat]'(by omega)
  ·refine Ev.step (fun k => by rw [slices_Equal_int_int.l0, if_pos (by omega), if_pos h0, if_pos (by omega), if_pos (by omega), rdI a i h0 (by omega), rdI b i h0 (by omega), if_pos h, w64 (by omega) (by omega)]) ?_
   have := ih (i + 1) (by omega) (by omega) (by omega)
   rw [show (i + 1).toNat = i.toNat + 1 by omega] at this
   rw [decide_eq_decide.2 (show (a[i.toNat]'(by omega) :: List.drop (i.toNat + 1) a = b[i.toNat]'(by omega) :: List.drop (i.toNat + 1) b) ↔ List.drop (i.toNat + 1) a = List.drop (i.toNat + 1) b from by rw [List.cons.injEq]; exact and_iff_right h)]
   exact this
  ·refine Ev.step (fun k => by rw [slices_Equal_int_int.l0, if_pos (by omega), if_pos h0, if_pos (by omega), if_pos (by omega), rdI a i h0 (by omega), rdI b i h0 (by omega), if_neg h]) ?_
   rw [decide_eq_false (fun e => h (List.cons.inj e).1)]
   exact Ev.now _
theorem intsEq (a b : List Int) (ha : a.length < 4000000000) : Ev (fun k => slices_Equal_int_int.f k a b) (decide (a = b)) := by
 unfold slices_Equal_int_int.f
 by_cases h : (a.length : Int) = (b.length : Int)
 ·simp only [h, if_true]
  have := intsEq_l0 a b (by omega) ha a.length 0 (by omega) (by omega) (by omega)
  rw [h] at this
  simpa using this
 ·simp only [h, if_false]
  have : ¬ a = b := fun e => h (by rw [e])
  simp [this]; exact Ev.now _
def z10 (x y : S74) : Bool := x.f0.toList == y.f0.toList && (decide (x.f1 = y.f1) && (x.f2 == y.f2 && (x.f3 == y.f3 && x.f4 == y.f4)))
def z32 : List S74 → List S74 → Bool
 | x :: a, y :: b => z10 x y && z32 a b
 | _, _ => true
theorem z31 (x y : S74) : z10 x y = true ↔ x = y := by
 unfold z10
 obtain ⟨⟨⟨a⟩⟩, b, c, d, e⟩ := x
 obtain ⟨⟨⟨a'⟩⟩, b', c', d', e'⟩ := y
 simp only [Bool.and_eq_true, beq_iff_eq, decide_eq_true_eq, ByteArray.toList_eq]
 constructor
 ·rintro ⟨h1, h2, h3, h4, h5⟩
  subst h1; subst h2; subst h3; subst h4; subst h5; rfl
 ·intro h
  injection h with h1 h2 h3 h4 h5
  injection h1 with h1
  injection h1 with h1
  exact ⟨h1, h2, h3, h4, h5⟩
theorem z60 (x y : S74) : z10 x y = z10 y x := by
 rw [Bool.eq_iff_iff, z31, z31]
 exact eq_comm
theorem z52 : ∀ a b, z32 a b = z32 b a
 | x :: a, y :: b => by rw [z32, z32, z60, z52 a b]
 | [], [] => rfl
 | [], _ :: _ => rfl
 | _ :: _, [] => rfl
theorem z90 : ∀ a b : List S74, a.length = b.length → (z32 a b = true ↔ a = b)
 | x :: a, y :: b, h => by rw [z32, Bool.and_eq_true, z31, z90 a b (by simpa using h), List.cons.injEq]
 | [], [], _ => by simp [z32]
 | [], _ :: _, h => by simp at h
 | _ :: _, [], h => by simp at h
theorem isIndex1 (x y : S74) (hx : x.f1.length < 4000000000) : Ev (fun k => impl_isIndex_1.f k x.f0 x.f1 x.f2 x.f3 x.f4 y.f0 y.f1 y.f2 y.f3 y.f4) (z10 x y) := by
 unfold impl_isIndex_1.f z10
 by_cases h0 : x.f0.toList = y.f0.toList
 ·simp only [h0, if_true]
  refine Ev.bind (intsEq x.f1 y.f1 hx) ?_
  by_cases h1 : x.f1 = y.f1
  ·simp only [h1, decide_true, if_true]
   by_cases h2 : x.f2 = y.f2
   ·simp only [h2, if_true]
    by_cases h3 : x.f3 = y.f3
    ·simp only [h3, if_true, beq_self_eq_true, Bool.true_and]; exact Ev.now _
    ·simp only [h3, if_false, beq_self_eq_true, Bool.true_and, beq_false_of_ne h3, Bool.false_and]; exact Ev.now _
   ·simp only [h2, if_false, beq_self_eq_true, Bool.true_and, beq_false_of_ne h2, Bool.false_and]; exact Ev.now _
  ·simp only [h1, decide_false, Bool.false_and, Bool.and_false, Bool.false_eq_true, if_false]; exact Ev.now _
 ·simp only [h0, if_false, beq_false_of_ne h0, Bool.false_and]; exact Ev.now _
theorem equalF : ∀ (a b : List S74), (∀ x ∈ a, x.f1.length < 4000000000) → Ev (fun k => impl_Fork.l k a b) (z32 a b)
 | x :: a, y :: b, h => by
  refine Ev.congr (fun k => by rw [impl_Fork.l]) (Ev.bind (isIndex1 x y (h x (by simp))) ?_)
  rw [z32]
  cases z10 x y with
  | false => simp; exact Ev.now _
  | true => simp; exact equalF a b (fun z hz => h z (List.mem_cons_of_mem _ hz))
 | [], b, _ => ⟨0, fun k _ => by cases b <;> rfl⟩
 | x :: a, [], _ => ⟨0, fun k _ => rfl⟩
theorem z81 (T f : List S74) (i : Int) (a : List Int) (y : S74) (hl : a.length = y.f1.length) (ha : a.length < 4000000000) (r : Bool) (hr : Ev (fun k => spec_l10Same.l0 k T f f.length (wrap64 (i + 1))) r) (d : Nat) : ∀ (j : Int), 0 ≤ j → j ≤ a.length → (a.length : Int) - j = d →
  Ev (fun k => spec_l10Same.l1 k T f f.length i a a.length j y.f0 y.f1 y.f2 y.f3 y.f4) (decide (a.drop j.toNat = y.f1.drop j.toNat) && r) := by
 induction d with
 | zero =>
  intro j h0 h1 hd
  rw [List.drop_of_length_le (by omega), List.drop_of_length_le (by omega)]
  exact Ev.step (fun k => by rw [spec_l10Same.l1, if_neg (by omega)]) (by simpa using hr)
 | succ d ih =>
  intro j h0 h1 hd
  rw [List.drop_eq_getElem_cons (show j.toNat < a.length by omega), List.drop_eq_getElem_cons (show j.toNat < y.f1.length by omega)]
  by_cases h : a[j.toNat]'(by omega) = y.f1[j.toNat]'(by omega)
  ·refine Ev.step (fun k => by rw [spec_l10Same.l1, if_pos (by omega), if_pos h0, if_pos (by omega), if_pos (by omega), rdI a j h0 (by omega), rdI y.f1 j h0 (by omega), if_pos h.symm, w64 (n := j + 1) (by omega) (by omega)]) ?_
   have := ih (j + 1) (by omega) (by omega) (by omega)
   rw [show (j + 1).toNat = j.toNat + 1 by omega] at this
   rw [decide_eq_decide.2 (show (a[j.toNat]'(by omega) :: List.drop (j.toNat + 1) a = y.f1[j.toNat]'(by omega) :: List.drop (j.toNat + 1) y.f1) ↔ List.drop (j.toNat + 1) a = List.drop (j.toNat + 1) y.f1 from by rw [List.cons.injEq]; exact and_iff_right h)]
   exact this
  ·refine Ev.step (fun k => by rw [spec_l10Same.l1, if_pos (by omega), if_pos h0, if_pos (by omega), if_pos (by omega), rdI a j h0 (by omega), rdI y.f1 j h0 (by omega), if_neg (Ne.symm h)]) ?_
   rw [decide_eq_false (fun e => h (List.cons.inj e).1), Bool.false_and]
   exact Ev.now _
theorem sameS_l0 (T f : List S74) (hl : f.length = T.length) (hf : f.length < 2000000000) (hs : ∀ x ∈ f, x.f1.length < 4000000000) (d : Nat) : ∀ (i : Int), 0 ≤ i → i ≤ f.length → (f.length : Int) - i = d → Ev (fun k => spec_l10Same.l0 k T f f.length i) (z32 (f.drop i.toNat) (T.drop i.toNat)) := by
 induction d with
 | zero =>
  intro i h0 h1 hd
  rw [List.drop_of_length_le (by omega), List.drop_of_length_le (by omega)]
  exact Ev.step (fun k => by rw [spec_l10Same.l0, if_neg (by omega)]; rfl) (Ev.now _)
 | succ d ih =>
  intro i h0 h1 hd
  have hi : i.toNat < f.length := by omega
  rw [List.drop_eq_getElem_cons hi, List.drop_eq_getElem_cons (show i.toNat < T.length by omega), z32]
  have hz := hs _ (List.getElem_mem hi)
  have hn := ih (i + 1) (by omega) (by omega) (by omega)
  rw [show (i + 1).toNat = i.toNat + 1 by omega] at hn
  have ex := rdF f i h0 (by omega)
  have ey := rdF T i h0 (by omega)
  generalize f[i.toNat]'hi = x at *
  generalize T[i.toNat]'(by omega) = y at *
  have hbad : ∀ a0 a1 a2 a3 a4 b0 b1 b2 b3 b4, Ev (fun k => spec_l10Same.j1 k T f f.length i true a0 a1 a2 a3 a4 b0 b1 b2 b3 b4) false := fun _ _ _ _ _ _ _ _ _ _ => Ev.step (fun k => by rw [spec_l10Same.j1, if_pos rfl]) (Ev.now _)
  unfold z10
  by_cases c0 : x.f0.toList = y.f0.toList
  ·by_cases c2 : x.f2 = y.f2
   ·by_cases c3 : x.f3 = y.f3
    ·by_cases c4 : x.f4 = y.f4
     ·refine Ev.step (fun k => by rw [spec_l10Same.l0, if_pos (by omega), if_pos h0, if_pos (by omega), if_pos (by omega), ex, ey, if_pos c0, if_pos c2, if_pos c3, if_pos c4]) ?_
      by_cases cl : x.f1.length = y.f1.length
      ·have cb : (x.f1.length != y.f1.length) = false := by rw [cl]; exact bne_self_eq_false _
       refine Ev.step (fun k => by rw [spec_l10Same.j1, cb, if_neg (by decide)]) ?_
       have := z81 T f i x.f1 y cl hz _ (by rw [w64 (by omega) (by omega)]; exact hn) x.f1.length 0 (by omega) (by omega) (by omega)
       simpa [c0, c2, c3, c4] using this
      ·have cb : (x.f1.length != y.f1.length) = true := bne_iff_ne.2 cl
       rw [cb]
       have : decide (x.f1 = y.f1) = false := decide_eq_false (fun e => cl (by rw [e]))
       rw [this, Bool.false_and, Bool.and_false, Bool.false_and]
       exact hbad _ _ _ _ _ _ _ _ _ _
     ·refine Ev.step (fun k => by rw [spec_l10Same.l0, if_pos (by omega), if_pos h0, if_pos (by omega), if_pos (by omega), ex, ey, if_pos c0, if_pos c2, if_pos c3, if_neg c4]) ?_
      rw [beq_false_of_ne c4]; simp only [Bool.and_false, Bool.false_and]; exact hbad _ _ _ _ _ _ _ _ _ _
    ·refine Ev.step (fun k => by rw [spec_l10Same.l0, if_pos (by omega), if_pos h0, if_pos (by omega), if_pos (by omega), ex, ey, if_pos c0, if_pos c2, if_neg c3]) ?_
     rw [beq_false_of_ne c3]; simp only [Bool.and_false, Bool.false_and]; exact hbad _ _ _ _ _ _ _ _ _ _
   ·refine Ev.step (fun k => by rw [spec_l10Same.l0, if_pos (by omega), if_pos h0, if_pos (by omega), if_pos (by omega), ex, ey, if_pos c0, if_neg c2]) ?_
    rw [beq_false_of_ne c2]; simp only [Bool.and_false, Bool.false_and]; exact hbad _ _ _ _ _ _ _ _ _ _
  ·refine Ev.step (fun k => by rw [spec_l10Same.l0, if_pos (by omega), if_pos h0, if_pos (by omega), if_pos (by omega), ex, ey, if_neg c0]) ?_
   rw [beq_false_of_ne c0]; simp only [Bool.false_and]; exact hbad _ _ _ _ _ _ _ _ _ _
theorem z45 (f : List S74) (hf : f.length ≤ 1048576) (hs : ∀ x ∈ f, x.f1.length ≤ 1048576) (hp : (z6 f).length ≤ 1048576) :
  ∃ b, Ev (fun k => spec_GoodIndex.f k f) b ∧ Ev (fun k => impl_isIndex.f k f) b ∧ (b = true → ∃ ks pl, Tree (z6 f) ks pl ∧ f = tr pl ks 0) := by
 obtain ⟨p1, p2⟩ := z73 f (by omega) hs (by omega)
 obtain ⟨b0, g1, g2⟩ := z44 (z6 f) (by omega)
 unfold spec_GoodIndex.f impl_isIndex.f
 cases b0 with
 | false =>
  refine ⟨false, Ev.bind p1 (Ev.bind g1 (Ev.now _)), Ev.bind p2 ?_, fun h => by cases h⟩
  by_cases h : (f.length : Int) ≤ 40
  ·simp only [h, if_true]; exact Ev.bind g2 (Ev.now _)
  ·simp only [h, if_false]; exact Ev.now _
 | true =>
  obtain ⟨k0, hk0⟩ := Ev.rounds g1
  obtain ⟨ks, pl, ht⟩ := z38 (z6 f) (by omega) k0 hk0
  have hl := z34 ht
  by_cases he : f.length = (tr pl ks 0).length
  ·refine ⟨z32 f (tr pl ks 0), Ev.bind p1 (Ev.bind g1 ?_), Ev.bind p2 ?_, fun h => ⟨ks, pl, ht, (z90 _ _ he).1 h⟩⟩
   ·simp only [if_true]
    refine Ev.bind ht.spec (Ev.bind (a := z32 f (tr pl ks 0)) ?_ (Ev.now _))
    unfold spec_l10Same.f
    simp only [show (f.length : Int) = ((tr pl ks 0).length : Int) by omega, if_true]
    have := sameS_l0 (tr pl ks 0) f he (by omega) (fun x hx => by have := hs x hx; omega) f.length 0 (by omega) (by omega) (by omega)
    simpa [he] using this
   ·simp only [show (f.length : Int) ≤ 40 by omega, if_true]
    refine Ev.bind g2 ?_
    simp only [if_true]
    refine Ev.bind ht.impl (Ev.bind (a := z32 f (tr pl ks 0)) ?_ (Ev.now _))
    unfold impl_Fork.f
    simp only [show ((tr pl ks 0).length : Int) = (f.length : Int) by omega, if_true]
    rw [z52]
    have hfl : (flat pl ks).length ≤ 60 := ht.flat_len
    exact equalF (tr pl ks 0) f (fun x hx => z68 ht x hx)
  ·have hne : ¬ (f.length : Int) = ((tr pl ks 0).length : Int) := by omega
   refine ⟨false, Ev.bind p1 (Ev.bind g1 ?_), Ev.bind p2 ?_, fun h => by cases h⟩
   ·simp only [if_true]
    refine Ev.bind ht.spec (Ev.bind (a := false) ?_ (Ev.now _))
    unfold spec_l10Same.f
    simp only [hne, if_false]
    exact Ev.now _
   ·by_cases h : (f.length : Int) ≤ 40
    ·simp only [h, if_true]
     refine Ev.bind g2 ?_
     simp only [if_true]
     refine Ev.bind ht.impl (Ev.bind (a := false) ?_ (Ev.now _))
     unfold impl_Fork.f
     simp only [show ¬ ((tr pl ks 0).length : Int) = (f.length : Int) by omega, if_true, if_false]
     exact Ev.now _
    ·simp only [h, if_false]; exact Ev.now _
def numK (s : ByteArray) : Nat := (((s.data.toList.getD 0 0).toNat * 256 + (s.data.toList.getD 1 0).toNat) * 256 + (s.data.toList.getD 2 0).toNat) * 256 + (s.data.toList.getD 3 0).toNat
theorem z63 (s : ByteArray) : numK s < 4294967296 := by
 unfold numK
 have h0 := UInt8.toNat_lt (s.data.toList.getD 0 0)
 have h1 := UInt8.toNat_lt (s.data.toList.getD 1 0)
 have h2 := UInt8.toNat_lt (s.data.toList.getD 2 0)
 have h3 := UInt8.toNat_lt (s.data.toList.getD 3 0)
 omega
theorem z36 (s : ByteArray) (h : s.size = 4) : ∃ a b c d, s.data.toList = [a, b, c, d] := by
 have hl : s.data.toList.length = 4 := h
 match hs : s.data.toList, hl with
 | [a, b, c, d], _ => exact ⟨a, b, c, d, rfl⟩
theorem z83 (s : ByteArray) {a b c d : UInt8} (h : s.data.toList = [a, b, c, d]) : numK s = ((a.toNat * 256 + b.toNat) * 256 + c.toNat) * 256 + d.toNat := by unfold numK; rw [h]; rfl
theorem numK_mono (x y : ByteArray) (hx : x.size = 4) (hy : y.size = 4) (h : x.data.toList < y.data.toList) : numK x < numK y := by
 obtain ⟨a, b, c, d, ex⟩ := z36 x hx
 obtain ⟨a', b', c', d', ey⟩ := z36 y hy
 rw [z83 x ex, z83 y ey]
 rw [ex, ey] at h
 have q1 := UInt8.toNat_lt b; have q2 := UInt8.toNat_lt c; have q3 := UInt8.toNat_lt d
 have r1 := UInt8.toNat_lt b'; have r2 := UInt8.toNat_lt c'; have r3 := UInt8.toNat_lt d'
 rcases List.cons_lt_cons_iff.1 h with g0 | ⟨e0, g0⟩
 ·have := UInt8.lt_iff_toNat_lt.1 g0; omega
 rcases List.cons_lt_cons_iff.1 g0 with g1 | ⟨e1, g1⟩
 ·have := UInt8.lt_iff_toNat_lt.1 g1; rw [e0]; omega
 rcases List.cons_lt_cons_iff.1 g1 with g2 | ⟨e2, g2⟩
 ·have := UInt8.lt_iff_toNat_lt.1 g2; rw [e0, e1]; omega
 rcases List.cons_lt_cons_iff.1 g2 with g3 | ⟨e3, g3⟩
 ·have := UInt8.lt_iff_toNat_lt.1 g3; rw [e0, e1, e2]; omega
 ·exact absurd g3 (List.lt_irrefl _)
theorem z15 (s : ByteArray) (hs : s.size = 4) (i : Nat) (hi : i < 32) : bitN s i = numK s / 2 ^ (31 - i) % 2 := by
 obtain ⟨a, b, c, d, e⟩ := z36 s hs
 have ha := UInt8.toNat_lt a; have hb := UInt8.toNat_lt b; have hc := UInt8.toNat_lt c; have hd := UInt8.toNat_lt d
 rw [z83 s e]
 unfold bitN
 rw [e]
 rcases (by omega : i < 8 ∨ (8 ≤ i ∧ i < 16) ∨ (16 ≤ i ∧ i < 24) ∨ 24 ≤ i) with h | ⟨h, h'⟩ | ⟨h, h'⟩ | h
 ·rw [show i / 8 = 0 by omega]; show a.toNat / 2 ^ (7 - i % 8) % 2 = _
  rcases (by omega : i = 0 ∨ i = 1 ∨ i = 2 ∨ i = 3 ∨ i = 4 ∨ i = 5 ∨ i = 6 ∨ i = 7) with rfl | rfl | rfl | rfl | rfl | rfl | rfl | rfl <;> simp only [Nat.reduceMod, Nat.reduceSub, Nat.reducePow] <;> omega
 ·rw [show i / 8 = 1 by omega]; show b.toNat / 2 ^ (7 - i % 8) % 2 = _
  rcases (by omega : i = 8 ∨ i = 9 ∨ i = 10 ∨ i = 11 ∨ i = 12 ∨ i = 13 ∨ i = 14 ∨ i = 15) with rfl | rfl | rfl | rfl | rfl | rfl | rfl | rfl <;> simp only [Nat.reduceMod, Nat.reduceSub, Nat.reducePow] <;> omega
 ·rw [show i / 8 = 2 by omega]; show c.toNat / 2 ^ (7 - i % 8) % 2 = _
  rcases (by omega : i = 16 ∨ i = 17 ∨ i = 18 ∨ i = 19 ∨ i = 20 ∨ i = 21 ∨ i = 22 ∨ i = 23) with rfl | rfl | rfl | rfl | rfl | rfl | rfl | rfl <;> simp only [Nat.reduceMod, Nat.reduceSub, Nat.reducePow] <;> omega
 ·rw [show i / 8 = 3 by omega]; show d.toNat / 2 ^ (7 - i % 8) % 2 = _
  rcases (by omega : i = 24 ∨ i = 25 ∨ i = 26 ∨ i = 27 ∨ i = 28 ∨ i = 29 ∨ i = 30 ∨ i = 31) with rfl | rfl | rfl | rfl | rfl | rfl | rfl | rfl <;> simp only [Nat.reduceMod, Nat.reduceSub, Nat.reducePow] <;> omega
theorem z26 (x t : Nat) (ht : t < 32) : x / 2 ^ (32 - (t + 1)) = 2 * (x / 2 ^ (32 - t)) + x / 2 ^ (31 - t) % 2 := by
 rw [show 32 - t = (31 - t) + 1 by omega, show 32 - (t + 1) = 31 - t by omega, Nat.pow_succ, ← Nat.div_div_eq_div_mul]
 omega
theorem top_eq (x y : Nat) (hx : x < 4294967296) (hy : y < 4294967296) : ∀ t, t ≤ 32 → (∀ j, j < t → x / 2 ^ (31 - j) % 2 = y / 2 ^ (31 - j) % 2) → x / 2 ^ (32 - t) = y / 2 ^ (32 - t)
 | 0, _, _ => by rw [Nat.div_eq_of_lt (by simpa using hx), Nat.div_eq_of_lt (by simpa using hy)]
 | t + 1, ht, h => by
  rw [z26 x t (by omega), z26 y t (by omega), top_eq x y hx hy t (by omega) (fun j hj => h j (by omega)), h t (by omega)]
theorem z89 (x y : Nat) : ∀ t, t ≤ 32 → x / 2 ^ (32 - t) = y / 2 ^ (32 - t) → ∀ j, j < t → x / 2 ^ (31 - j) % 2 = y / 2 ^ (31 - j) % 2
 | 0, _, _, j, hj => by omega
 | t + 1, ht, h, j, hj => by
  rw [z26 x t (by omega), z26 y t (by omega)] at h
  by_cases e : j = t
  ·subst e; omega
  ·exact z89 x y t (by omega) (by omega) j (by omega)
theorem Keys.le {ks : List ByteArray} (h : Keys ks) (i j : Nat) (hi : i ≤ j) (hj : j < ks.length) : numK (ks[i]'(by omega)) ≤ numK ks[j] := by
 by_cases e : i = j
 ·subst e; exact Nat.le_refl _
 ·exact Nat.le_of_lt (numK_mono _ _ (h.four _ (List.getElem_mem _)) (h.four _ (List.getElem_mem _)) (List.pairwise_iff_getElem.1 h.up i j (by omega) hj (by omega)))
theorem Keys.share {ks : List ByteArray} (h : Keys ks) (h2 : 2 ≤ ks.length) (k : ByteArray) (hk : k ∈ ks) : ∀ j, j < z0 ks → bitN k j = bitN (z5 ks) j := by
 obtain ⟨hb, b0, b1, hj⟩ := h.ends h2
 have e0 : z5 ks = ks[0] := by simp [z5, List.getD_eq_getElem?_getD, show 0 < ks.length by omega]
 have e1 : z4 ks = ks[ks.length - 1] := by simp [z4, List.getD_eq_getElem?_getD, show ks.length - 1 < ks.length by omega]
 have f0 : (z5 ks).size = 4 := by rw [e0]; exact h.four _ (List.getElem_mem _)
 have f1 : (z4 ks).size = 4 := by rw [e1]; exact h.four _ (List.getElem_mem _)
 have fk := h.four k hk
 obtain ⟨i, hi, rfl⟩ := List.mem_iff_getElem.1 hk
 have l0 := h.le 0 i (by omega) hi
 have l1 := h.le i (ks.length - 1) (by omega) (by omega)
 rw [← e0] at l0
 rw [← e1] at l1
 have ht := top_eq (numK (z5 ks)) (numK (z4 ks)) (z63 _) (z63 _) (z0 ks) (Nat.le_of_lt hb) (fun j hjb => by
  rw [← z15 _ f0 j (by unfold z0 at hjb; omega), ← z15 _ f1 j (by unfold z0 at hjb; omega)]; exact hj j hjb)
 have m0 := Nat.div_le_div_right (c := 2 ^ (32 - z0 ks)) l0
 have m1 := Nat.div_le_div_right (c := 2 ^ (32 - z0 ks)) l1
 intro j hjb
 rw [z15 _ fk j (by unfold z0 at hjb; omega), z15 _ f0 j (by unfold z0 at hjb; omega)]
 exact z89 _ _ (z0 ks) (Nat.le_of_lt hb) (by omega) j hjb
theorem z35 {α : Type} (p : α → Bool) : ∀ (l : List α) (x : α), x ∈ l.takeWhile p → p x = true
 | a :: l, x, h => by
  by_cases e : p a = true
  ·rw [List.takeWhile_cons_of_pos e] at h
   rcases List.mem_cons.1 h with rfl | h
   ·exact e
   ·exact z35 p l x h
  ·rw [List.takeWhile_cons_of_neg e] at h; cases h
theorem z28 {α : Type} (p : α → Bool) : ∀ (l : List α), l.take (l.takeWhile p).length = l.takeWhile p
 | [] => rfl
 | a :: l => by
  by_cases e : p a = true
  ·rw [List.takeWhile_cons_of_pos e, List.length_cons, List.take_succ_cons, z28 p l]
  ·rw [List.takeWhile_cons_of_neg e]; rfl
theorem z43 {α : Type} (p : α → Bool) : ∀ (l : List α) (h : (l.takeWhile p).length < l.length), p (l[(l.takeWhile p).length]'h) = false
 | a :: l, h => by
  by_cases e : p a = true
  ·have e2 := List.takeWhile_cons_of_pos (l := l) e
   have := z43 p l (by rw [e2] at h; simpa using h)
   simp only [e2, List.length_cons, List.getElem_cons_succ]
   exact this
  ·have e2 := List.takeWhile_cons_of_neg (l := l) e
   simp only [e2, List.length_nil, List.getElem_cons_zero]
   simpa using e
theorem Keys.zero {ks : List ByteArray} (h : Keys ks) (k : ByteArray) (hk : k ∈ ks.take (cut2 ks)) : bitN k (z0 ks) = 0 := by
 unfold cut2 cutN at hk
 rw [z28] at hk
 simpa using z35 _ _ _ hk
theorem Keys.one {ks : List ByteArray} (h : Keys ks) (h2 : 2 ≤ ks.length) (k : ByteArray) (hk : k ∈ ks.drop (cut2 ks)) : bitN k (z0 ks) = 1 := by
 obtain ⟨hb, b0, b1, hj⟩ := h.ends h2
 obtain ⟨c1, c2⟩ : 1 ≤ cut2 ks ∧ cut2 ks < ks.length := h.cut h2
 have hc := z43 (fun k => bitN k (z0 ks) == 0) ks c2
 have hm : ks[cut2 ks] ∈ ks := List.getElem_mem _
 obtain ⟨i, hi, rfl⟩ := List.mem_iff_getElem.1 hk
 rw [List.length_drop] at hi
 rw [List.getElem_drop] at hk ⊢
 have hle := h.le (cut2 ks) (cut2 ks + i) (by omega) (by omega)
 have hm2 : ks[cut2 ks + i]'(by omega) ∈ ks := List.getElem_mem _
 have s1 := h.share h2 _ hm
 have s2 := h.share h2 _ hm2
 have q1 := h.four _ hm
 have q2 := h.four _ hm2
 have hbt : z0 ks < 32 := hb
 have t1 := top_eq (numK ks[cut2 ks]) (numK (ks[cut2 ks + i]'(by omega))) (z63 _) (z63 _) (z0 ks) (Nat.le_of_lt hbt) (fun j hjb => by
  rw [← z15 _ q1 j (by omega), ← z15 _ q2 j (by omega), s1 j hjb, s2 j hjb])
 have d1 := Nat.div_le_div_right (c := 2 ^ (32 - (z0 ks + 1))) hle
 rw [z26 _ _ hbt, z26 _ _ hbt, t1] at d1
 have hc1 : bitN ks[cut2 ks] (z0 ks) ≠ 0 := by
  intro e
  have hc2 : (bitN ks[cut2 ks] (z0 ks) == 0) = false := hc
  rw [e] at hc2; cases hc2
 rw [z15 _ q1 _ hbt] at hc1
 rw [z15 _ q2 _ hbt]
 omega
theorem rdAt (A : List S74) (x : S74) (R : List S74) : rd_T74 (A ++ x :: R) (A.length : Int) = x := by
 rw [rdF _ _ (by omega) (by simp only [List.length_append, List.length_cons]; omega)]
 simp
theorem key_ne (k : ByteArray) (h : k.size = 4) : ¬ k.toList = [] := by
 intro e
 rw [ByteArray.toList_eq] at e
 obtain ⟨a, b, c, d, e2⟩ := z36 k h
 rw [e2] at e; cases e
theorem z78 (a b : ByteArray) : a.toList = b.toList ↔ a = b := by
 rw [ByteArray.toList_eq, ByteArray.toList_eq]
 exact ⟨fun e => ByteArray.ext (Array.toList_inj.1 e), fun e => by rw [e]⟩
theorem z88 {l : List S51} {ks : List ByteArray} {pl : ByteArray → List Int} (ht : Tree l ks pl) : (tr pl ks 0).length = 0 ↔ ks = [] := by
 constructor
 ·intro h
  rcases Nat.eq_zero_or_pos ks.length with e | e
  ·exact List.eq_nil_of_length_eq_zero e
  ·have := z87 pl ks.length ks 0 rfl ht.keys e; omega
 ·rintro rfl; rw [z42]; rfl
theorem find_both (pl : ByteArray → List Int) (F : List S74) (key : ByteArray) (hk4 : key.size = 4) (hF : F.length < 2000000000) (hpl : ∀ x ∈ F, x.f1.length < 4000000000) : ∀ (n : Nat) (ks : List ByteArray) (A B : List S74) (looks : Int) (b : Nat), ks.length = n → 1 ≤ n → Keys ks → F = A ++ tr pl ks A.length ++ B →
  b ≤ 32 → (∀ k ∈ ks, ∀ k' ∈ ks, ∀ j, j < b → bitN k j = bitN k' j) → 0 ≤ looks → looks ≤ b →
  ∃ kf ∈ ks, ∃ m : Nat, m + b ≤ 32 ∧ (key ∈ ks → kf = key) ∧ Ev (fun k => spec_FindKey.l0 k F key A.length looks) (if kf.toList = key.toList then pl kf else [], looks + m, true) ∧ Ev (fun k => impl_FindKey.l0 k F key A.length looks) (if kf.toList = key.toList then pl kf else [], looks + m, true) := by
 intro n
 induction n using Nat.strongRecOn with
 | _ n ih =>
  intro ks A B looks b hn h1 hk hFe hb32 hsh hl0 hlb
  by_cases e1 : n = 1
  ·obtain ⟨kf, rfl⟩ : ∃ k, ks = [k] := by
    match ks, hn with
    | [k], _ => exact ⟨k, rfl⟩
    | [], h => simp at h; omega
    | _ :: _ :: _, h => simp at h; omega
   rw [z41, List.append_assoc, List.singleton_append] at hFe
   have hrd : rd_T74 F (A.length : Int) = ⟨kf, pl kf, 0, 0, 0⟩ := by rw [hFe]; exact rdAt A _ B
   have hlt : (A.length : Int) < (F.length : Int) := by rw [hFe]; simp only [List.length_append, List.length_cons]; omega
   have hne := key_ne kf (hk.four kf (by simp))
   have hpk : (pl kf).length < 4000000000 := hpl ⟨kf, pl kf, 0, 0, 0⟩ (by rw [hFe]; simp)
   refine ⟨kf, by simp, 0, by omega, fun h => (List.mem_singleton.1 h).symm, ?_, ?_⟩
   ·refine Ev.step (fun k => by rw [spec_FindKey.l0, if_pos (by omega), if_pos hlt, hrd, if_neg hne]) ?_
    by_cases he : kf.toList = key.toList
    ·simp only [he, if_true, Option.bind_some, List.length_nil, show (0 + (pl kf).length < 17592186044416) from by omega, List.nil_append, Int.natCast_zero, Int.add_zero]
     exact Ev.now _
    ·simp only [he, if_false, Int.natCast_zero, Int.add_zero]; exact Ev.now _
   ·refine Ev.step (fun k => by rw [impl_FindKey.l0, if_pos (by omega), if_pos hlt, hrd, if_neg hne]) ?_
    by_cases he : kf.toList = key.toList
    ·simp only [he, if_true, slices_Clone_int_int.f, show (pl kf).length < 1000000000000 from by omega, Option.bind_some, Int.natCast_zero, Int.add_zero]
     exact Ev.now _
    ·simp only [he, if_false, Int.natCast_zero, Int.add_zero]; exact Ev.now _
  ·obtain ⟨c1, c2⟩ : 1 ≤ cut2 ks ∧ cut2 ks < ks.length := hk.cut (by omega)
   obtain ⟨hbt, b0, b1, hj⟩ := hk.ends (show 2 ≤ ks.length by omega)
   have hbt : z0 ks < 32 := hbt
   have hbb : b ≤ z0 ks := by
    rcases Nat.lt_or_ge (z0 ks) b with h | h
    ·have m0 : z5 ks ∈ ks := by
      have : z5 ks = ks[0] := by simp [z5, List.getD_eq_getElem?_getD, show 0 < ks.length by omega]
      rw [this]; exact List.getElem_mem _
     have m1 : z4 ks ∈ ks := by
      have : z4 ks = ks[ks.length - 1] := by simp [z4, List.getD_eq_getElem?_getD, show ks.length - 1 < ks.length by omega]
      rw [this]; exact List.getElem_mem _
     have := hsh _ m0 _ m1 _ h
     unfold z0 at this
     omega
    ·exact h
   rw [z21 pl ks A.length hk (by omega)] at hFe
   have hrd : rd_T74 F (A.length : Int) = ⟨⟨#[]⟩, [], (z0 ks : Nat), (A.length + 1 : Nat), (A.length + 1 + (tr pl (ks.take (cut2 ks)) (A.length + 1)).length : Nat)⟩ := by rw [hFe, List.append_assoc, List.cons_append]; exact rdAt A _ _
   have hlt : (A.length : Int) < (F.length : Int) := by rw [hFe]; simp only [List.length_append, List.length_cons]; omega
   have hnil : (⟨#[]⟩ : ByteArray).toList = ([] : List UInt8) := by rw [ByteArray.toList_eq]
   have hwl : wrap64 (looks + 1) = looks + 1 := w64 (by omega) (by omega)
   have hshare : ∀ k ∈ ks, ∀ k' ∈ ks, ∀ j, j < z0 ks → bitN k j = bitN k' j := fun k hkm k' hkm' j hjb => (hk.share (by omega) k hkm j hjb).trans (hk.share (by omega) k' hkm' j hjb).symm
   have hk01 := z94 key (z0 ks)
   by_cases hz : bitN key (z0 ks) = 0
   ·-- the side of the zero
    obtain ⟨kf, hkf, m, hm, hin, s1, s2⟩ := ih (cut2 ks) (by omega) (ks.take (cut2 ks)) (A ++ [⟨⟨#[]⟩, [], (z0 ks : Nat), (A.length + 1 : Nat), (A.length + 1 + (tr pl (ks.take (cut2 ks)) (A.length + 1)).length : Nat)⟩]) (tr pl (ks.drop (cut2 ks)) (A.length + 1 + (tr pl (ks.take (cut2 ks)) (A.length + 1)).length) ++ B) (looks + 1) (z0 ks + 1)
     (by rw [List.length_take]; omega) c1 (hk.take _) (by rw [hFe]; simp) (by omega) (fun k hkm k' hkm' j hjb => by
      by_cases ej : j = z0 ks
      ·subst ej; rw [hk.zero k hkm, hk.zero k' hkm']
      ·exact hshare k (List.mem_of_mem_take hkm) k' (List.mem_of_mem_take hkm') j (by omega)) (by omega) (by omega)
    rw [List.length_append, List.length_singleton] at s1 s2
    refine ⟨kf, List.mem_of_mem_take hkf, m + 1, by omega, fun hmem => ?_, ?_, ?_⟩
    ·rw [← List.take_append_drop (cut2 ks) ks, List.mem_append] at hmem
     rcases hmem with h | h
     ·exact hin h
     ·have := hk.one (by omega) key h; omega
    ·refine Ev.step (fun k => by rw [spec_FindKey.l0, if_pos (by omega), if_pos hlt, hrd, if_pos hnil, z23 key hk4 _ hbt, Option.bind_some, hz, if_pos (by rfl), hwl]) ?_
     rw [show looks + ((m + 1 : Nat) : Int) = looks + 1 + (m : Int) by omega]
     exact s1
    ·refine Ev.step (fun k => by rw [impl_FindKey.l0, if_pos (by omega), if_pos hlt, hrd, if_pos hnil, z25 key hk4 _ hbt, Option.bind_some, hz, if_neg (by decide), hwl]) ?_
     rw [show looks + ((m + 1 : Nat) : Int) = looks + 1 + (m : Int) by omega]
     exact s2
   ·have hz1 : bitN key (z0 ks) = 1 := by omega
    obtain ⟨kf, hkf, m, hm, hin, s1, s2⟩ := ih (ks.length - cut2 ks) (by omega) (ks.drop (cut2 ks)) (A ++ ⟨⟨#[]⟩, [], (z0 ks : Nat), (A.length + 1 : Nat), (A.length + 1 + (tr pl (ks.take (cut2 ks)) (A.length + 1)).length : Nat)⟩ :: tr pl (ks.take (cut2 ks)) (A.length + 1)) B (looks + 1) (z0 ks + 1)
     (by rw [List.length_drop]) (by omega) (hk.drop _) (by
      rw [hFe]
      have : (A ++ (⟨⟨#[]⟩, [], (z0 ks : Nat), (A.length + 1 : Nat), (A.length + 1 + (tr pl (ks.take (cut2 ks)) (A.length + 1)).length : Nat)⟩ : S74) :: tr pl (ks.take (cut2 ks)) (A.length + 1)).length = A.length + 1 + (tr pl (ks.take (cut2 ks)) (A.length + 1)).length := by
       rw [List.length_append, List.length_cons]; omega
      rw [this]; simp) (by omega) (fun k hkm k' hkm' j hjb => by
      by_cases ej : j = z0 ks
      ·subst ej; rw [hk.one (by omega) k hkm, hk.one (by omega) k' hkm']
      ·exact hshare k (List.mem_of_mem_drop hkm) k' (List.mem_of_mem_drop hkm') j (by omega)) (by omega) (by omega)
    rw [List.length_append, List.length_cons, show A.length + ((tr pl (ks.take (cut2 ks)) (A.length + 1)).length + 1) = A.length + 1 + (tr pl (ks.take (cut2 ks)) (A.length + 1)).length by omega] at s1 s2
    refine ⟨kf, List.mem_of_mem_drop hkf, m + 1, by omega, fun hmem => ?_, ?_, ?_⟩
    ·rw [← List.take_append_drop (cut2 ks) ks, List.mem_append] at hmem
     rcases hmem with h | h
     ·have := hk.zero key h; omega
     ·exact hin h
    ·refine Ev.step (fun k => by rw [spec_FindKey.l0, if_pos (by omega), if_pos hlt, hrd, if_pos hnil, z23 key hk4 _ hbt, Option.bind_some, hz1, if_neg (by decide), hwl]) ?_
     rw [show looks + ((m + 1 : Nat) : Int) = looks + 1 + (m : Int) by omega]
     exact s1
    ·refine Ev.step (fun k => by rw [impl_FindKey.l0, if_pos (by omega), if_pos hlt, hrd, if_pos hnil, z25 key hk4 _ hbt, Option.bind_some, hz1, if_pos (by rfl), hwl]) ?_
     rw [show looks + ((m + 1 : Nat) : Int) = looks + 1 + (m : Int) by omega]
     exact s2
theorem find_tree {l : List S51} {ks : List ByteArray} {pl : ByteArray → List Int} (ht : Tree l ks pl) (key : ByteArray) (hk4 : key.size = 4) (hne : ks ≠ []) :
  ∃ kf ∈ ks, ∃ m : Nat, m ≤ 32 ∧ (key ∈ ks → kf = key) ∧ Ev (fun k => spec_FindKey.l0 k (tr pl ks 0) key 0 0) (if kf.toList = key.toList then pl kf else [], (m : Int), true) ∧ Ev (fun k => impl_FindKey.l0 k (tr pl ks 0) key 0 0) (if kf.toList = key.toList then pl kf else [], (m : Int), true) := by
 have hl := z34 ht
 obtain ⟨kf, h1, m, h2, h3, h4, h5⟩ := find_both pl (tr pl ks 0) key hk4 (by omega) (fun x hx => z68 ht x hx) ks.length ks [] [] 0 0 rfl (by have := List.length_pos_iff.2 hne; omega) ht.keys (by simp) (by omega) (fun _ _ _ _ j hj => by omega) (by omega) (by omega)
 refine ⟨kf, h1, m, by omega, h3, ?_, ?_⟩
 ·simpa using h4
 ·simpa using h5
theorem findBoth (f : List S74) (hf : f.length ≤ 1048576) (hs : ∀ x ∈ f, x.f1.length ≤ 1048576) (hp : (z6 f).length ≤ 1048576) (key : ByteArray) :
  ∃ r : List Int × Int × Bool, Ev (fun k => spec_FindKey.f k f key) r ∧ Ev (fun k => impl_FindKey.f k f key) r ∧ r.1.length ≤ 1048576 := by
 obtain ⟨b, g1, g2, g3⟩ := z45 f hf hs hp
 have g2' := g2
 unfold spec_FindKey.f impl_FindKey.f
 cases b with
 | false =>
  refine ⟨([], 0, false), Ev.bind g1 ?_, Ev.bind g2' ?_, by simp⟩
  ·simp only [Bool.false_eq_true, if_false]; exact Ev.step (fun k => by rw [spec_FindKey.j0, if_pos rfl]) (Ev.now _)
  ·simp only [Bool.false_eq_true, if_false]; exact Ev.step (fun k => by rw [impl_FindKey.j0, if_pos rfl]) (Ev.now _)
 | true =>
  obtain ⟨ks, pl, ht, rfl⟩ := g3 rfl
  by_cases h4 : key.size = 4
  ·have hb : ((key.size : Int) != 4) = false := by rw [h4]; rfl
   by_cases he : ks = []
   ·have hz : ((tr pl ks 0).length : Int) = 0 := by have := (z88 ht).2 he; omega
    refine ⟨([], 0, true), Ev.bind g1 ?_, Ev.bind g2' ?_, by simp⟩
    ·simp only [if_true, hb]; exact Ev.step (fun k => by rw [spec_FindKey.j0, if_neg (by decide), if_pos hz]) (Ev.now _)
    ·simp only [if_true, hb]; exact Ev.step (fun k => by rw [impl_FindKey.j0, if_neg (by decide), if_pos hz]) (Ev.now _)
   ·have hz : ¬ ((tr pl ks 0).length : Int) = 0 := fun h => he ((z88 ht).1 (by omega))
    obtain ⟨kf, hkf, m, hm, _, s1, s2⟩ := find_tree ht key h4 he
    refine ⟨(if kf.toList = key.toList then pl kf else [], (m : Int), true), Ev.bind g1 ?_, Ev.bind g2' ?_, ?_⟩
    ·simp only [if_true, hb]; exact Ev.step (fun k => by rw [spec_FindKey.j0, if_neg (by decide), if_neg hz]) s1
    ·simp only [if_true, hb]; exact Ev.step (fun k => by rw [impl_FindKey.j0, if_neg (by decide), if_neg hz]) s2
    ·have h1 := z13 pl ks kf hkf
     have h2 := ht.flat_len
     show (if kf.toList = key.toList then pl kf else []).length ≤ 1048576
     split
     ·omega
     ·simp
  ·have hb : ((key.size : Int) != 4) = true := by
    rw [bne_iff_ne]; intro e; exact h4 (by omega)
   refine ⟨([], 0, false), Ev.bind g1 ?_, Ev.bind g2' ?_, by simp⟩
   ·simp only [if_true, hb]; exact Ev.step (fun k => by rw [spec_FindKey.j0, if_pos rfl]) (Ev.now _)
   ·simp only [if_true, hb]; exact Ev.step (fun k => by rw [impl_FindKey.j0, if_pos rfl]) (Ev.now _)
theorem z62 (a b : List S74) : z6 (a ++ b) = z6 a ++ z6 b := by simp [z6]
theorem z58 (pl : ByteArray → List Int) : ∀ (n : Nat) (ks : List ByteArray) (off : Nat), ks.length = n → Keys ks → z6 (tr pl ks off) = flat pl ks := by
 intro n
 induction n using Nat.strongRecOn with
 | _ n ih =>
  intro ks off hl hk
  by_cases h0 : n = 0
  ·obtain rfl : ks = [] := List.eq_nil_of_length_eq_zero (by omega)
   rw [z42]; rfl
  by_cases h1 : n = 1
  ·obtain ⟨k, rfl⟩ : ∃ k, ks = [k] := by
    match ks, hl with
    | [k], _ => exact ⟨k, rfl⟩
    | [], h => simp at h; omega
    | _ :: _ :: _, h => simp at h; omega
   rw [z41, z7, z12]
   rfl
  ·obtain ⟨c1, c2⟩ : 1 ≤ cut2 ks ∧ cut2 ks < ks.length := hk.cut (by omega)
   rw [z21 pl ks off hk (by omega), z7, z62, ih (cut2 ks) (by omega) _ _ (by rw [List.length_take]; omega) (hk.take _), ih (ks.length - cut2 ks) (by omega) _ _ (by rw [List.length_drop]) (hk.drop _), ← z46, List.take_append_drop]
   rfl
theorem tr_congr (pl pl' : ByteArray → List Int) : ∀ (n : Nat) (ks : List ByteArray) (off : Nat), ks.length = n → Keys ks → (∀ k ∈ ks, pl k = pl' k) → tr pl ks off = tr pl' ks off := by
 intro n
 induction n using Nat.strongRecOn with
 | _ n ih =>
  intro ks off hl hk he
  by_cases h0 : n = 0
  ·obtain rfl : ks = [] := List.eq_nil_of_length_eq_zero (by omega)
   rw [z42, z42]
  by_cases h1 : n = 1
  ·obtain ⟨k, rfl⟩ : ∃ k, ks = [k] := by
    match ks, hl with
    | [k], _ => exact ⟨k, rfl⟩
    | [], h => simp at h; omega
    | _ :: _ :: _, h => simp at h; omega
   rw [z41, z41, he k (by simp)]
  ·obtain ⟨c1, c2⟩ : 1 ≤ cut2 ks ∧ cut2 ks < ks.length := hk.cut (by omega)
   rw [z21 pl ks off hk (by omega), z21 pl' ks off hk (by omega), ih (cut2 ks) (by omega) (ks.take (cut2 ks)) (off + 1) (by rw [List.length_take]; omega) (hk.take _) (fun k h => he k (List.mem_of_mem_take h)), ih (ks.length - cut2 ks) (by omega) (ks.drop (cut2 ks)) _ (by rw [List.length_drop]) (hk.drop _) (fun k h => he k (List.mem_of_mem_drop h))]
theorem Tree.key_iff {l : List S51} {ks : List ByteArray} {pl : ByteArray → List Int} (h : Tree l ks pl) (k : ByteArray) : k ∈ ks ↔ ∃ x ∈ l, x.f0 = k := by
 constructor
 ·intro hk
  obtain ⟨a, ha⟩ := List.exists_mem_of_ne_nil _ (h.full k hk)
  exact ⟨⟨k, a⟩, (h.mem _).2 ((z19 _ _ _).2 ⟨hk, ha⟩), rfl⟩
 ·rintro ⟨x, hx, rfl⟩
  exact ((z19 _ _ _).1 ((h.mem x).1 hx)).1
theorem tree_uniq {l l' : List S51} {ks ks' : List ByteArray} {pl pl' : ByteArray → List Int} (h : Tree l ks pl) (h' : Tree l' ks' pl') (hm : ∀ x, x ∈ l' ↔ x ∈ l) : ks' = ks ∧ tr pl' ks' 0 = tr pl ks 0 := by
 have hks : ks' = ks := by
  refine z11 (R := fun a b : ByteArray => a.data.toList < b.data.toList) (fun a => List.lt_irrefl _) (fun a b h1 h2 => List.lt_irrefl _ (List.lt_trans h1 h2)) _ _ h'.keys.up h.keys.up (fun k => ?_)
  rw [h'.key_iff, h.key_iff]
  exact ⟨fun ⟨x, hx, e⟩ => ⟨x, (hm x).1 hx, e⟩, fun ⟨x, hx, e⟩ => ⟨x, (hm x).2 hx, e⟩⟩
 subst hks
 refine ⟨rfl, tr_congr _ _ _ _ _ rfl h.keys (fun k hk => ?_)⟩
 refine z11 (R := fun a b : Int => a < b) (fun a => Int.lt_irrefl a) (fun a b h1 h2 => by omega) _ _ (h'.rising k hk) (h.rising k hk) (fun a => ?_)
 have e1 := h'.mem ⟨k, a⟩
 have e2 := h.mem ⟨k, a⟩
 rw [z19] at e1 e2
 have e3 := hm ⟨k, a⟩
 constructor
 ·intro ha; exact (e2.1 (e3.1 (e1.2 ⟨hk, ha⟩))).2
 ·intro ha; exact (e1.1 (e3.2 (e2.2 ⟨hk, ha⟩))).2
theorem good_back (ks : List ByteArray) (hks : Keys ks) (h20 : ks.length ≤ 20) (l : List S51) (hl : l.length ≤ 60) (hx : ∀ x ∈ l, x.f0.size = 4 ∧ 0 ≤ x.f1 ∧ x.f1 ≤ 10000) (hn : l.Pairwise (· ≠ ·)) (hk : ∀ k, k ∈ ks ↔ ∃ x ∈ l, x.f0 = k) (d : Nat) :
  ∀ (i : Int) (kt : List ByteArray), 0 ≤ i → i ≤ l.length → (l.length : Int) - i = d → (tl kt).Pairwise (· < ·) → (∀ s, s ∈ tl kt ↔ ∃ x ∈ l.take i.toNat, x.f0.toList = s) → (kt.length : Int) ≤ i → Ev (fun k => spec_GoodPairs.l0 k l kt l l.length i) true := by
 induction d with
 | zero =>
  intro i kt h0 hi hd hs hm hkl
  have e : tl kt = tl ks := by
   refine z11 (R := fun a b : List UInt8 => a < b) (fun a => List.lt_irrefl _) (fun a b h1 h2 => List.lt_irrefl _ (List.lt_trans h1 h2)) _ _ hs ?_ (fun s => ?_)
   ·unfold tl; rw [List.pairwise_map]
    exact hks.up.imp (fun h => by rwa [ByteArray.toList_eq, ByteArray.toList_eq])
   ·rw [hm, List.take_of_length_le (by omega)]
    unfold tl
    rw [List.mem_map]
    constructor
    ·rintro ⟨x, hx, rfl⟩; exact ⟨x.f0, (hk _).2 ⟨x, hx, rfl⟩, rfl⟩
    ·rintro ⟨k, hk', rfl⟩
     obtain ⟨x, hx, rfl⟩ := (hk k).1 hk'
     exact ⟨x, hx, rfl⟩
  have hlen : kt.length = ks.length := by have := congrArg List.length e; simpa [tl] using this
  refine Ev.step (fun k => by rw [spec_GoodPairs.l0, if_neg (by omega), if_pos (by omega)]) ?_
  rw [decide_eq_true (show (kt.length : Int) ≤ 20 by omega)]
  exact Ev.now _
 | succ d ih =>
  intro i kt h0 hi hd hs hm hkl
  have hw : wrap64 (i + 1) = i + 1 := w64 (by omega) (by omega)
  have hil : i.toNat < l.length := by omega
  have hq : rd_T51 l i = l[i.toNat] := rdP l i h0 (by omega)
  obtain ⟨q1, q2, q3⟩ := hx _ (List.getElem_mem hil)
  refine Ev.step (fun k => by rw [spec_GoodPairs.l0, if_pos (by omega), if_pos h0, if_pos (by omega), hq, if_pos (by omega), spec_l1In.f, if_pos q2, decide_eq_true q3]) ?_
  simp only [Option.bind_some, Bool.not_true]
  refine Ev.step (fun k => by rw [spec_GoodPairs.j1, if_neg (by decide), if_pos h0, if_pos hi]) ?_
  simp only [Option.bind_some]
  have hno : z8 (l.take i.toNat) l[i.toNat].f0 l[i.toNat].f1 = false := by
   unfold z8
   rw [List.any_eq_false]
   intro y hy e
   simp only [Bool.and_eq_true, beq_iff_eq] at e
   obtain ⟨j, hj, rfl⟩ := List.mem_iff_getElem.1 hy
   rw [List.length_take] at hj
   rw [List.getElem_take] at e
   have hne := List.pairwise_iff_getElem.1 hn j i.toNat (by omega) hil (by omega)
   apply hne
   have e1 := (z78 _ _).1 e.1
   generalize l[j]'(by omega) = u at e e1 ⊢
   generalize l[i.toNat] = v at e e1 ⊢
   obtain ⟨a, b⟩ := u
   obtain ⟨a', b'⟩ := v
   simp only at e e1
   rw [e1, e.2]
  refine inner l kt i (l.take i.toNat) _ _ (by rw [List.length_take]; omega) true (fun h => by rw [hno] at h; cases h) (fun _ => ?_) (l.take i.toNat).length 0 (by omega) (by omega) (by omega) (by simp [z8])
  obtain ⟨kt', hput, hs', hmem, hnew⟩ := put kt l[i.toNat].f0 (by omega) hs
  refine Ev.bind hput ?_
  rw [hw]
  have htk : ∀ s, (∃ x ∈ l.take (i + 1).toNat, x.f0.toList = s) ↔ (∃ x ∈ l.take i.toNat, x.f0.toList = s) ∨ l[i.toNat].f0.toList = s := by
   intro s
   rw [show (i + 1).toNat = i.toNat + 1 by omega, List.take_add_one, List.getElem?_eq_getElem hil]
   constructor
   ·rintro ⟨x, hx, e⟩
    rcases List.mem_append.1 hx with h | h
    ·exact .inl ⟨x, h, e⟩
    ·have h' : x = l[i.toNat] := by simpa using h
     rw [h'] at e; exact .inr e
   ·rintro (⟨x, h, e⟩ | e)
    ·exact ⟨x, List.mem_append_left _ h, e⟩
    ·exact ⟨l[i.toNat], List.mem_append_right _ (by simp), e⟩
  by_cases hin : l[i.toNat].f0.toList ∈ tl kt
  ·have e := hmem hin
   refine ih (i + 1) kt' (by omega) (by omega) (by omega) hs' (fun s => ?_) (by have := congrArg List.length e; simp [tl] at this; omega)
   rw [htk, e, hm]
   constructor
   ·intro h; exact .inl h
   ·rintro (h | rfl)
    ·exact h
    ·exact (hm _).1 hin
  ·have e := hnew hin
   refine ih (i + 1) kt' (by omega) (by omega) (by omega) hs' (fun s => ?_) (by have := e.length_eq; simp [tl] at this; omega)
   rw [htk, e.mem_iff, List.mem_cons, hm]
   constructor
   ·rintro (rfl | h)
    ·exact .inr rfl
    ·exact .inl h
   ·rintro (h | rfl)
    ·exact .inr h
    ·exact .inl rfl
theorem tree_of {l l' : List S51} {ks : List ByteArray} {pl : ByteArray → List Int} (h : Tree l ks pl) (hl : l'.length ≤ 60) (hm : ∀ x, x ∈ l' ↔ x ∈ l) (hn : l'.Pairwise (· ≠ ·)) :
  Ev (fun k => spec_GoodPairs.f k l') true ∧ Ev (fun k => impl_arePairs.f k l') true ∧ ∃ ks' pl', Tree l' ks' pl' ∧ tr pl' ks' 0 = tr pl ks 0 := by
 have hx : ∀ x ∈ l', x.f0.size = 4 ∧ 0 ≤ x.f1 ∧ x.f1 ≤ 10000 := fun x hx => by
  have h1 := (hm x).1 hx
  exact ⟨h.keys.four _ ((h.key_iff _).2 ⟨x, h1, rfl⟩), h.range x h1⟩
 have hg : Ev (fun k => spec_GoodPairs.f k l') true := good_back ks h.keys h.few l' hl hx hn (fun k => by
  rw [h.key_iff]; exact ⟨fun ⟨x, hx, e⟩ => ⟨x, (hm x).2 hx, e⟩, fun ⟨x, hx, e⟩ => ⟨x, (hm x).1 hx, e⟩⟩) l'.length 0 [] (by omega) (by omega) (by omega) (by simp [tl]) (by simp [tl]) (by simp)
 obtain ⟨b, g1, g2⟩ := z44 l' (by omega)
 obtain rfl := Ev.uniq g1 hg
 obtain ⟨k0, hk0⟩ := Ev.rounds g1
 obtain ⟨ks', pl', ht⟩ := z38 l' (by omega) k0 hk0
 exact ⟨hg, g2, ks', pl', ht, (tree_uniq h ht hm).2⟩
theorem LtP.ne {a b : S51} (h : LtP a b) : a ≠ b := fun e => LtP.irrefl b (by rw [e] at h; exact h)
theorem z82 (a : List Int) (ha : a.length < 1000000000000) (d : List Int) : ∀ (p : List Int), a = p ++ d → ∀ k, d.length < k → laws_sameInts.l0 k a a a.length p.length = some true := by
 induction d with
 | nil =>
  intro p h k hk
  obtain ⟨k, rfl⟩ : ∃ m, k = m + 1 := ⟨k - 1, by simp at hk; omega⟩
  rw [laws_sameInts.l0, if_neg (by rw [h]; simp)]
 | cons x d ih =>
  intro p h k hk
  obtain ⟨k, rfl⟩ : ∃ m, k = m + 1 := ⟨k - 1, by simp at hk; omega⟩
  have hl : a.length = p.length + (d.length + 1) := by rw [h]; simp
  have := ih (p ++ [x]) (by rw [h]; simp) k (by simp at hk; omega)
  simp only [List.length_append, List.length_cons, List.length_nil] at this
  rw [laws_sameInts.l0, if_pos (by omega), if_pos (by omega), if_pos (by omega), if_pos (by omega), if_pos rfl, w64 (by omega) (by omega)]
  exact this
theorem z17 (a : List Int) (ha : a.length < 1000000000000) : Ev (fun k => laws_sameInts.f k a a) true :=
 ⟨a.length + 1, fun k hk => by show laws_sameInts.f k a a = some true; unfold laws_sameInts.f; rw [if_pos rfl]; exact z82 a ha a [] rfl k (by omega)⟩
theorem z70 (f : List S74) (hf : f.length < 2000000000) (hs : ∀ x ∈ f, x.f1.length < 1000000000) (d : Nat) : ∀ (i : Int), 0 ≤ i → i ≤ f.length → (f.length : Int) - i = d → Ev (fun k => laws_sameForks.l0 k f f f.length i) true := by
 induction d with
 | zero => intro i h0 h1 hd; exact Ev.step (fun k => by rw [laws_sameForks.l0, if_neg (by omega)]) (Ev.now _)
 | succ d ih =>
  intro i h0 h1 hd
  have hi : i.toNat < f.length := by omega
  have hz := hs _ (List.getElem_mem hi)
  have he := rdF f i h0 (by omega)
  refine Ev.step (fun k => by rw [laws_sameForks.l0, if_pos (by omega), if_pos h0, if_pos (by omega), if_pos (by omega), if_pos rfl, if_pos rfl, if_pos rfl, if_pos rfl, he]) (Ev.bind (z17 _ (by omega)) ?_)
  simp only [if_true, w64 (n := i + 1) (by omega) (by omega)]
  exact ih (i + 1) (by omega) (by omega) (by omega)
theorem z49 (f : List S74) (hf : f.length < 2000000000) (hs : ∀ x ∈ f, x.f1.length < 1000000000) : Ev (fun k => laws_sameForks.f k f f) true := by
 unfold laws_sameForks.f
 simp only [if_true]
 exact z70 f hf hs f.length 0 (by omega) (by omega) (by omega)
theorem has_l0 (l : List Int) (a : Int) (hl : l.length < 2000000000) (d : Nat) : ∀ (i : Int), 0 ≤ i → i ≤ l.length → (l.length : Int) - i = d → Ev (fun k => laws_has.l0 k a l l.length i) (decide (a ∈ l.drop i.toNat)) := by
 induction d with
 | zero =>
  intro i h0 h1 hd
  rw [List.drop_of_length_le (by omega), show decide (a ∈ ([] : List Int)) = false from by simp]
  exact Ev.step (fun k => by rw [laws_has.l0, if_neg (by omega)]) (Ev.now _)
 | succ d ih =>
  intro i h0 h1 hd
  have hi : i.toNat < l.length := by omega
  have e : rd l i = l[i.toNat] := by simp [rd, List.getD_eq_getElem?_getD, hi]
  rw [List.drop_eq_getElem_cons hi]
  by_cases h : l[i.toNat] = a
  ·rw [decide_eq_true (by rw [h]; simp)]
   exact Ev.step (fun k => by rw [laws_has.l0, if_pos (by omega), if_pos h0, if_pos (by omega), e, if_pos h]) (Ev.now _)
  ·have := ih (i + 1) (by omega) (by omega) (by omega)
   rw [show (i + 1).toNat = i.toNat + 1 by omega] at this
   rw [show decide (a ∈ l[i.toNat] :: List.drop (i.toNat + 1) l) = decide (a ∈ List.drop (i.toNat + 1) l) from by
    rw [decide_eq_decide, List.mem_cons]; exact ⟨fun q => q.resolve_left (fun e => h e.symm), .inr⟩]
   exact Ev.step (fun k => by rw [laws_has.l0, if_pos (by omega), if_pos h0, if_pos (by omega), e, if_neg h, w64 (n := i + 1) (by omega) (by omega)]) this
theorem has_is (l : List Int) (a : Int) (hl : l.length < 2000000000) : Ev (fun k => laws_has.f k l a) (decide (a ∈ l)) := by
 have := has_l0 l a hl l.length 0 (by omega) (by omega) (by omega)
 unfold laws_has.f
 simpa using this
def z16 (l : List Int) : Prop := ∀ x ∈ l, 0 ≤ x ∧ x ≤ 255
theorem z48 {l : List Int} (h : ∀ x ∈ l, (Lit.int .u8 x).wf = true) : z16 l := fun x hx => by
 have := h x hx
 simpa [Lit.wf, IntKind.min, IntKind.max, IntKind.signed, IntKind.bits] using this
theorem bytes_rd {l : List Int} (h : z16 l) (i : Int) (h0 : 0 ≤ i) (h1 : i < l.length) : 0 ≤ rd l i ∧ rd l i ≤ 255 := by
 have hi : i.toNat < l.length := by omega
 have : rd l i = l[i.toNat] := by simp [rd, List.getD_eq_getElem?_getD, hi]
 rw [this]; exact h _ (List.getElem_mem hi)
theorem and255 (x : Int) (h0 : 0 ≤ x) (h1 : x < 18446744073709551616) : Go.bits .and .u64 x 255 = x % 256 := by
 have h := bits_mask .u64 64 (by decide) (fun n h₀ h₁ => by simp [IntKind.wrap, IntKind.bits, IntKind.signed]; omega) 8 (by decide) x h0 (by omega)
 simpa using h
theorem u64_range (x : Int) : 0 ≤ IntKind.u64.wrap x ∧ IntKind.u64.wrap x < 18446744073709551616 := by simp [IntKind.wrap, IntKind.bits, IntKind.signed]; omega
theorem z92 (l : List Int) (hl : z16 l) (at_ s : Int) (h0 : 0 ≤ at_) (h1 : at_ < 4611686018427387904) : ∃ r s', spec_l1Cur_next.f l at_ s = some (r, at_ + 1, s') ∧ 0 ≤ r ∧ r ≤ 255 := by
 have hw : wrap64 (at_ + 1) = at_ + 1 := w64 (by omega) (by omega)
 have hseed : ∀ x : Int, 0 ≤ wrap64 (Go.bits .and .u64 (IntKind.u64.wrap x / 1099511627776) 255) ∧ wrap64 (Go.bits .and .u64 (IntKind.u64.wrap x / 1099511627776) 255) ≤ 255 := fun x => by
  have hx := u64_range x
  rw [and255 _ (by omega) (by omega), w64 (by omega) (by omega)]; omega
 unfold spec_l1Cur_next.f
 rw [hw]
 by_cases hlt : at_ < (l.length : Int)
 ·have hb := bytes_rd hl at_ h0 hlt
  rw [if_pos hlt, if_pos h0]
  split
  ·exact ⟨_, _, rfl, by rw [w64 (by omega) (by omega)]; exact hb.1, by rw [w64 (by omega) (by omega)]; exact hb.2⟩
  ·exact ⟨_, _, rfl, (hseed _).1, (hseed _).2⟩
 ·rw [if_neg hlt]
  split
  ·exact ⟨_, _, rfl, by omega, by omega⟩
  ·exact ⟨_, _, rfl, (hseed _).1, (hseed _).2⟩
theorem z27 (l : List Int) (hl : z16 l) (at_ s n : Int) (h0 : 0 ≤ at_) (h1 : at_ < 2305843009213693952) (hn : n < 4611686018427387904) : ∃ r a' s', spec_l1Cur_pick.f l at_ s n = some (r, a', s') ∧ at_ ≤ a' ∧ a' ≤ at_ + 2 ∧ 0 ≤ r ∧ (1 ≤ n → r < n) := by
 unfold spec_l1Cur_pick.f
 by_cases hs : n ≤ 1
 ·rw [if_pos hs]; exact ⟨0, at_, s, rfl, by omega, by omega, by omega, by omega⟩
 rw [if_neg hs]
 obtain ⟨r, s', h, hr0, hr1⟩ := z92 l hl at_ s h0 (by omega)
 rw [h]
 simp only [Option.bind_some]
 by_cases hb : n > 200
 ·obtain ⟨r2, s2, h2, h3, h4⟩ := z92 l hl (at_ + 1) s' (by omega) (by omega)
  rw [if_pos hb, h2]
  simp only [Option.bind_some]
  rw [if_neg (by omega), w64 (n := r * 256) (by omega) (by omega), w64 (by omega) (by omega), Int.tmod_eq_emod_of_nonneg (by omega)]
  exact ⟨_, _, _, rfl, by omega, by omega, Int.emod_nonneg _ (by omega), fun _ => Int.emod_lt_of_pos _ (by omega)⟩
 ·rw [if_neg hb, if_neg (by omega), Int.tmod_eq_emod_of_nonneg (by omega)]
  exact ⟨_, _, _, rfl, by omega, by omega, Int.emod_nonneg _ (by omega), fun _ => Int.emod_lt_of_pos _ (by omega)⟩
theorem z67 (l : List Int) (hl : z16 l) (at_ s n : Int) (h0 : 0 ≤ at_) (h1 : at_ < 2305843009213693952) (hn : n < 4611686018427387904) : ∃ b a' s', spec_l1Cur_one.f l at_ s n = some (b, a', s') ∧ at_ ≤ a' ∧ a' ≤ at_ + 2 := by
 obtain ⟨r, a', s', h, h2, h3, _⟩ := z27 l hl at_ s n h0 h1 hn
 unfold spec_l1Cur_one.f
 rw [h]
 exact ⟨_, _, _, rfl, h2, h3⟩
theorem cur_among (l : List Int) (hl : z16 l) (at_ s : Int) (m : List Int) (hm : 1 ≤ m.length) (hm2 : m.length < 4000000000) (h0 : 0 ≤ at_) (h1 : at_ < 2305843009213693952) : ∃ r a' s', spec_l1Cur_among.f l at_ s m = some (r, a', s') ∧ at_ ≤ a' ∧ a' ≤ at_ + 2 ∧ r ∈ m := by
 obtain ⟨r, a', s', h, h2, h3, h4, h5⟩ := z27 l hl at_ s m.length h0 h1 (by omega)
 have h5 := h5 (by omega)
 unfold spec_l1Cur_among.f
 rw [h]
 simp only [Option.bind_some]
 rw [if_pos h4, if_pos h5]
 refine ⟨_, _, _, rfl, h2, h3, ?_⟩
 have hi : r.toNat < m.length := by omega
 have : rd m r = m[r.toNat] := by simp [rd, List.getD_eq_getElem?_getD, hi]
 rw [this]; exact List.getElem_mem hi
theorem cur_of (l : List Int) (hl : z16 l) (at_ s : Int) (m : List ByteArray) (hm : 1 ≤ m.length) (hm2 : m.length < 4000000000) (h0 : 0 ≤ at_) (h1 : at_ < 2305843009213693952) : ∃ r a' s', spec_l1Cur_of.f l at_ s m = some (r, a', s') ∧ at_ ≤ a' ∧ a' ≤ at_ + 2 ∧ r ∈ m := by
 obtain ⟨r, a', s', h2, h3, h4, h5, h6⟩ := z27 l hl at_ s m.length h0 h1 (by omega)
 have h7 := h6 (by omega)
 refine ⟨rdOf ByteArray.empty m r, a', s', ?_, h3, h4, ?_⟩
 ·unfold spec_l1Cur_of.f
  rw [h2, Option.bind_some, if_pos h5, if_pos h7]
 ·have hr : r.toNat < m.length := by omega
  have : rdOf ByteArray.empty m r = m[r.toNat] := by simp [rdOf, List.getD_eq_getElem?_getD, hr]
  rw [this]; exact List.getElem_mem _
theorem z37 (l : List Int) (hl : z16 l) (at_ s : Int) (h0 : 0 ≤ at_) (h1 : at_ < 2305843009213693952) : ∃ r a' s', spec_l1Cur_key10.f l at_ s = some (r, a', s') ∧ at_ ≤ a' ∧ a' ≤ at_ + 2 ∧ r.size = 4 := by
 obtain ⟨r, a', s', h2, h3, h4, h5⟩ := cur_of l hl at_ s ([(⟨#[97, 97, 97, 97]⟩ : ByteArray), (⟨#[97, 97, 97, 98]⟩ : ByteArray), (⟨#[97, 97, 98, 97]⟩ : ByteArray), (⟨#[97, 98, 99, 100]⟩ : ByteArray), (⟨#[98, 0, 0, 0]⟩ : ByteArray), (⟨#[255, 255, 255, 255]⟩ : ByteArray), (⟨#[0, 0, 0, 0]⟩ : ByteArray), (⟨#[122, 122, 48, 48]⟩ : ByteArray), (⟨#[128, 97, 97, 97]⟩ : ByteArray)] : List ByteArray) (by decide) (by decide) h0 h1
 refine ⟨r, a', s', by unfold spec_l1Cur_key10.f; rw [h2]; rfl, h3, h4, ?_⟩
 simp only [List.mem_cons, List.not_mem_nil, or_false] at h5
 rcases h5 with rfl | rfl | rfl | rfl | rfl | rfl | rfl | rfl | rfl <;> rfl
theorem pairs10_l1 (m : List S51) (n : Int) (l : List Int) (at_ s : Int) (a : ByteArray) (b : Int) (hm : m.length < 2000000000) (d : Nat) : ∀ (has : Bool) (j : Int), 0 ≤ j → j ≤ m.length → (m.length : Int) - j = d →
  ∃ has', ∀ r, Ev (fun k => spec_l1Cur_pairs10.l1 k m n has' m m.length m.length l at_ s a b) r → Ev (fun k => spec_l1Cur_pairs10.l1 k m n has m m.length j l at_ s a b) r := by
 induction d with
 | zero => intro has j h0 h1 hd; obtain rfl : j = m.length := (by omega); exact ⟨has, fun r h => h⟩
 | succ d ih =>
  intro has j h0 h1 hd
  have hw : wrap64 (j + 1) = j + 1 := w64 (by omega) (by omega)
  by_cases hh : has = true
  ·obtain ⟨h', e⟩ := ih true (j + 1) (by omega) (by omega) (by omega)
   exact ⟨h', fun r h => Ev.step (fun k => by rw [spec_l1Cur_pairs10.l1, if_pos (by omega), if_pos h0, if_pos (by omega), if_pos hh, hw]) (e r h)⟩
  ·obtain ⟨h', e⟩ := ih (a.toList == (rd_T51 m j).f0.toList && (b == (rd_T51 m j).f1)) (j + 1) (by omega) (by omega) (by omega)
   exact ⟨h', fun r h => Ev.step (fun k => by rw [spec_l1Cur_pairs10.l1, if_pos (by omega), if_pos h0, if_pos (by omega), if_neg hh, hw]) (e r h)⟩
theorem pairs10_j2 (l : List Int) (hl : z16 l) (m : List S51) (hm : 0 < m.length) (fl : Bool) (at_ s : Int) (h0 : 0 ≤ at_) (h1 : at_ < 1000000000000) :
  ∃ r a' s', Ev (fun k => spec_l1Cur_pairs10.j2 k m fl l at_ s) (r, a', s') ∧ at_ ≤ a' ∧ a' ≤ at_ + 4 ∧ r.length = m.length := by
 cases fl with
 | false => exact ⟨m, at_, s, Ev.step (fun k => by rw [spec_l1Cur_pairs10.j2, if_neg (by decide)]) (Ev.now _), by omega, by omega, rfl⟩
 | true =>
  obtain ⟨r1, a1, s1, e1, b1, b2, _⟩ := cur_of l hl at_ s ([(⟨#[]⟩ : ByteArray), (⟨#[97, 98, 99]⟩ : ByteArray), (⟨#[97, 97, 97, 97]⟩ : ByteArray)] : List ByteArray) (by decide) (by decide) h0 (by omega)
  obtain ⟨r2, a2, s2, e2, b3, b4, _⟩ := cur_among l hl a1 s1 ([(-1), 10000, 10001] : List Int) (by decide) (by decide) (by omega) (by omega)
  exact ⟨_, a2, s2, Ev.step (fun k => by rw [spec_l1Cur_pairs10.j2, if_pos rfl, e1, Option.bind_some, e2, Option.bind_some, if_pos (by omega)]) (Ev.now _), by omega, by omega, by simp⟩
theorem pairs10_l0 (l : List Int) (hl : z16 l) (d : Nat) : ∀ (m : List S51) (n at_ s : Int), n = d → m.length + d ≤ 100 → 0 ≤ at_ → at_ + 10 * d < 1000000000 →
  ∃ r a' s', Ev (fun k => spec_l1Cur_pairs10.l0 k m n l at_ s) (r, a', s') ∧ at_ ≤ a' ∧ a' ≤ at_ + 10 * d + 10 ∧ r.length ≤ m.length + d := by
 induction d with
 | zero =>
  intro m n at_ s hn hm h0 h1
  by_cases hz : (m.length : Int) > 0
  ·obtain ⟨fl, a1, s1, e1, b1, b2⟩ := z67 l hl at_ s 30 h0 (by omega) (by omega)
   obtain ⟨r, a2, s2, e2, b3, b4, b5⟩ := pairs10_j2 l hl m (by omega) fl a1 s1 (by omega) (by omega)
   exact ⟨r, a2, s2, Ev.step (fun k => by rw [spec_l1Cur_pairs10.l0, if_neg (by omega), if_pos hz, e1, Option.bind_some]) e2, by omega, by omega, by omega⟩
  ·exact ⟨m, at_, s, Ev.step (fun k => by rw [spec_l1Cur_pairs10.l0, if_neg (by omega), if_neg hz]) (Ev.step (fun k => by rw [spec_l1Cur_pairs10.j2, if_neg (by decide)]) (Ev.now _)), by omega, by omega, by omega⟩
 | succ d ih =>
  intro m n at_ s hn hm h0 h1
  obtain ⟨key, a1, s1, e1, b1, b2, _⟩ := z37 l hl at_ s h0 (by omega)
  obtain ⟨x, a2, s2, e2, b3, b4, _, _⟩ := z27 l hl a1 s1 12 (by omega) (by omega) (by omega)
  obtain ⟨has, hh⟩ := pairs10_l1 m n l a2 s2 key x (by omega) m.length false 0 (by omega) (by omega) (by omega)
  have hw : wrap64 (n - 1) = n - 1 := w64 (by omega) (by omega)
  have hstep : ∀ r, Ev (fun k => spec_l1Cur_pairs10.l1 k m n has m m.length m.length l a2 s2 key x) r → Ev (fun k => spec_l1Cur_pairs10.l0 k m n l at_ s) r := fun r h =>
   Ev.step (fun k => by rw [spec_l1Cur_pairs10.l0, if_pos (by omega), e1, Option.bind_some, e2, Option.bind_some]) (hh r h)
  have hmore : ∀ at3 s3, a2 ≤ at3 → at3 ≤ a2 + 2 → ∃ r a' s', Ev (fun k => spec_l1Cur_pairs10.l0 k (m ++ [⟨key, x⟩]) (n - 1) l at3 s3) (r, a', s') ∧ at3 ≤ a' ∧ a' ≤ at3 + 10 * d + 10 ∧ r.length ≤ m.length + 1 + d := fun at3 s3 z1 z2 => by
   have := ih (m ++ [⟨key, x⟩]) (n - 1) at3 s3 (by omega) (by simp; omega) (by omega) (by omega)
   simpa using this
  cases has with
  | false =>
   obtain ⟨r, a', s', e3, c1, c2, c3⟩ := hmore a2 s2 (by omega) (by omega)
   exact ⟨r, a', s', hstep _ (Ev.step (fun k => by rw [spec_l1Cur_pairs10.l1, if_neg (by omega), if_neg (by decide), if_pos (by omega), hw]) e3), by omega, by omega, by omega⟩
  | true =>
   obtain ⟨fl, a3, s3, e3, b5, b6⟩ := z67 l hl a2 s2 30 (by omega) (by omega) (by omega)
   cases fl with
   | true =>
    obtain ⟨r, a', s', e4, c1, c2, c3⟩ := hmore a3 s3 (by omega) (by omega)
    exact ⟨r, a', s', hstep _ (Ev.step (fun k => by rw [spec_l1Cur_pairs10.l1, if_neg (by omega), if_pos rfl, e3, Option.bind_some, if_pos (show (true, a3, s3).1 = true from rfl), if_pos (by omega), hw]) e4), by omega, by omega, by omega⟩
   | false =>
    obtain ⟨r, a', s', e4, c1, c2, c3⟩ := ih m (n - 1) a3 s3 (by omega) (by omega) (by omega) (by omega)
    exact ⟨r, a', s', hstep _ (Ev.step (fun k => by rw [spec_l1Cur_pairs10.l1, if_neg (by omega), if_pos rfl, e3, Option.bind_some, if_neg (show ¬ ((false, a3, s3).1 = true) from Bool.false_ne_true), hw]) e4), by omega, by omega, by omega⟩
theorem z85 (l : List Int) (hl : z16 l) (at_ s : Int) (h0 : 0 ≤ at_) (h1 : at_ < 1000) :
  ∃ r a' s', Ev (fun k => spec_l1Cur_pairs10.f k l at_ s) (r, a', s') ∧ at_ ≤ a' ∧ a' ≤ at_ + 200 ∧ r.length ≤ 10 := by
 obtain ⟨n, a1, s1, e1, b1, b2, b3, b4⟩ := z27 l hl at_ s 10 h0 (by omega) (by omega)
 have b5 := b4 (by omega)
 obtain ⟨r, a', s', e2, c1, c2, c3⟩ := pairs10_l0 l hl n.toNat [] n a1 s1 (by omega) (by simp; omega) (by omega) (by omega)
 refine ⟨r, a', s', ?_, by omega, by omega, by simp at c3; omega⟩
 unfold spec_l1Cur_pairs10.f
 simp only [e1, Option.bind_some]
 exact e2
theorem z24 (M : Nat) : ∀ (f : List S74), (∀ x ∈ f, x.f1.length ≤ M) → (z6 f).length ≤ f.length * M
 | [], _ => by simp [z6]
 | x :: f, h => by
  have h1 := h x (by simp)
  have h2 := z24 M f (fun y hy => h y (List.mem_cons_of_mem _ hy))
  rw [z7, List.length_append, List.length_map, List.length_cons, Nat.succ_mul]
  omega
theorem z74 (l : List S51) (hl : l.length < 2000000000) : ∃ g b, Ev (fun k => spec_GoodPairs.f k l) b ∧ Ev (fun k => impl_arePairs.f k l) b ∧ Ev (fun k => spec_IndexOf.f k l) (g, b) ∧ Ev (fun k => impl_IndexOf.f k l) (g, b) ∧ g.length ≤ 39 ∧ (∀ x ∈ g, x.f1.length ≤ 60) ∧ (b = true → ∃ ks pl, Tree l ks pl ∧ g = tr pl ks 0) := by
 obtain ⟨b0, g1, g2⟩ := z44 l (by omega)
 unfold spec_IndexOf.f impl_IndexOf.f
 cases b0 with
 | false =>
  refine ⟨[], false, g1, g2, Ev.bind g1 ?_, Ev.bind g2 ?_, by simp, by simp, fun h => by cases h⟩
  ·simp only [Bool.false_eq_true, if_false]; exact Ev.now _
  ·simp only [Bool.false_eq_true, if_false]; exact Ev.now _
 | true =>
  obtain ⟨k0, hk0⟩ := Ev.rounds g1
  obtain ⟨ks, pl, ht⟩ := z38 l (by omega) k0 hk0
  refine ⟨tr pl ks 0, true, g1, g2, Ev.bind g1 ?_, Ev.bind g2 ?_, z34 ht, fun x hx => ?_, fun _ => ⟨ks, pl, ht, rfl⟩⟩
  ·simp only [if_true]; exact Ev.bind ht.spec (Ev.now _)
  ·simp only [if_true]; exact Ev.bind ht.impl (Ev.now _)
  ·exact z57 ht x hx
theorem z47 (l : List Int) (hl : z16 l) (at_ s : Int) (h0 : 0 ≤ at_) (h1 : at_ < 1000) :
  ∃ g a' s', Ev (fun k => spec_l1Cur_index10.f k l at_ s) (g, a', s') ∧ at_ ≤ a' ∧ a' ≤ at_ + 204 ∧ g.length ≤ 39 ∧ (∀ x ∈ g, x.f1.length ≤ 60) := by
 obtain ⟨r, a1, s1, e1, b1, b2, b3⟩ := z85 l hl at_ s h0 h1
 obtain ⟨g, b, _, _, hs, _, hg1, hg2, _⟩ := z74 r (by omega)
 unfold spec_l1Cur_index10.f
 by_cases hz : (g.length : Int) > 0
 ·obtain ⟨fl, a2, s2, e2, c1, c2⟩ := z67 l hl a1 s1 20 (by omega) (by omega) (by omega)
  cases fl with
  | false =>
   refine ⟨g, a2, s2, Ev.bind e1 (Ev.bind hs ?_), by omega, by omega, hg1, hg2⟩
   simp only [hz, if_true, e2, Option.bind_some, Bool.false_eq_true, if_false]
   exact Ev.now _
  | true =>
   obtain ⟨n, a3, s3, e3, d1, d2, d3, d4⟩ := z27 l hl a2 s2 g.length (by omega) (by omega) (by omega)
   have d5 := d4 (by omega)
   refine ⟨g.set n.toNat ⟨(rd_T74 g n).f0, (rd_T74 g n).f1, wrap64 ((rd_T74 g n).f2 + 1), (rd_T74 g n).f3, (rd_T74 g n).f4⟩, a3, s3, Ev.bind e1 (Ev.bind hs ?_), by omega, by omega, ?_, ?_⟩
   ·simp only [hz, if_true, e2, Option.bind_some, e3, d3, d5]
    exact Ev.now _
   ·rw [List.length_set]; exact hg1
   ·intro x hx
    rcases List.mem_or_eq_of_mem_set hx with hx | rfl
    ·exact hg2 x hx
    ·show (rd_T74 g n).f1.length ≤ 60
     rw [rdF g n d3 d5]
     exact hg2 _ (List.getElem_mem _)
 ·refine ⟨g, a1, s1, Ev.bind e1 (Ev.bind hs ?_), by omega, by omega, hg1, hg2⟩
  simp only [hz, if_false]
  exact Ev.now _
theorem z39 (l : List Int) (hl : z16 l) : ∃ g s, Ev (fun k => spec_DrawFindBeginning.f k l) (g, s) ∧ g.length ≤ 1048576 ∧ (∀ x ∈ g, x.f1.length ≤ 1048576) ∧ (z6 g).length ≤ 1048576 := by
 obtain ⟨g, a1, s1, e1, b1, b2, h1, h2⟩ := z47 l hl 0 0 (by omega) (by omega)
 obtain ⟨key, a2, s2, e2, b3, b4, _⟩ := cur_of l hl a1 s1 (([(⟨#[]⟩ : ByteArray), (⟨#[97]⟩ : ByteArray), (⟨#[97, 97]⟩ : ByteArray), (⟨#[97, 97, 97]⟩ : ByteArray), (⟨#[97, 97, 97, 97]⟩ : ByteArray), (⟨#[98]⟩ : ByteArray), (⟨#[122, 122]⟩ : ByteArray), (⟨#[97, 97, 97, 97, 97]⟩ : ByteArray)] : List ByteArray)) (by decide) (by decide) (by omega) (by omega)
 have h3 := z24 60 g h2
 have h4 : g.length * 60 ≤ 39 * 60 := Nat.mul_le_mul_right _ h1
 refine ⟨g, key, ?_, by omega, fun x hx => by have := h2 x hx; omega, by omega⟩
 unfold spec_DrawFindBeginning.f
 refine Ev.bind e1 ?_
 simp only [e2, Option.bind_some]
 exact Ev.now _
theorem z50 (l : List Int) (hs : l.Pairwise (· ≤ ·)) : (Lib.compact l).Pairwise (· < ·) ∧ ∀ a, a ∈ Lib.compact l ↔ a ∈ l := by
 unfold Lib.compact Lib.compactUpTo
 have hget : ∀ j, j < l.length → l.toArray[j]! = l.getD j 0 := fun j hj => by simp [List.getD_eq_getElem?_getD, hj]
 have hmono : ∀ i j, i ≤ j → j < l.length → l.getD i 0 ≤ l.getD j 0 := fun i j hij hj => by
  rcases Nat.eq_or_lt_of_le hij with e | e
  ·subst e; omega
  ·have := List.pairwise_iff_getElem.1 hs i j (by omega) hj e
   simpa [List.getD_eq_getElem?_getD, List.getElem?_eq_getElem hj, List.getElem?_eq_getElem (show i < l.length by omega)] using this
 refine ⟨?_, fun a => ?_⟩
 ·rw [List.pairwise_map, List.pairwise_filter]
  refine List.Pairwise.imp_of_mem ?_ List.pairwise_lt_range
  intro i j hi hj hij _ hk
  rw [List.mem_range] at hi hj
  rw [hget i hi, hget j hj]
  have h1 := hmono i (j - 1) (by omega) (by omega)
  have h2 := hmono (j - 1) j (by omega) hj
  by_cases e : l.getD (j - 1) 0 = l.getD j 0
  ·have : Lib.keeps l.toArray j = false := Lib.keeps_neg (by omega) (by rw [hget j hj, hget (j - 1) (by omega), e])
   rw [this] at hk; cases hk
  ·omega
 ·simp only [List.mem_map, List.mem_filter, List.mem_range]
  constructor
  ·rintro ⟨j, ⟨hj, _⟩, rfl⟩
   rw [hget j hj, List.getD_eq_getElem?_getD, List.getElem?_eq_getElem hj]
   exact List.getElem_mem _
  ·intro ha
   obtain ⟨j, hj, rfl⟩ := List.mem_iff_getElem.1 ha
   have key : ∀ j, ∀ hj : j < l.length, ∃ i, (i < l.length ∧ Lib.keeps l.toArray i = true) ∧ l.toArray[i]! = l[j] := by
    intro j
    induction j with
    | zero => intro hj; exact ⟨0, ⟨hj, Lib.keeps_lt_one _ 0 (by omega)⟩, by simp [hj]⟩
    | succ j ih =>
     intro hj
     by_cases e : l.toArray[j + 1]! = l.toArray[j]!
     ·obtain ⟨i, h1, h2⟩ := ih (by omega)
      refine ⟨i, h1, ?_⟩
      rw [h2]
      simp [hj, show j < l.length by omega] at e
      exact e.symm
     ·exact ⟨j + 1, ⟨hj, Lib.keeps_pos (by simpa using e)⟩, by simp [hj]⟩
   exact key j hj
def z9 (s : ByteArray) (x : S74) : Bool := !decide (x.f0.toList = ([] : List UInt8)) && Lib.hasPrefix x.f0.data.toList s.data.toList
def z14 (s : ByteArray) (f : List S74) : List Int := f.flatMap fun x => if z9 s x then x.f1 else []
theorem z20 (s : ByteArray) (x : S74) (f : List S74) : z14 s (x :: f) = (if z9 s x then x.f1 else []) ++ z14 s f := rfl
theorem z30 (k s : ByteArray) (h : s.size ≤ k.size) : ((k.extract 0 ((s.size : Int) : Int).toNat).toList == s.toList) = Lib.hasPrefix k.data.toList s.data.toList := by
 rw [Int.toNat_natCast, Bool.eq_iff_iff, beq_iff_eq, ByteArray.toList_eq, ByteArray.toList_eq]
 unfold Lib.hasPrefix
 rw [List.isPrefixOf_iff_prefix, List.prefix_iff_eq_take]
 have e : (k.extract 0 s.size).data.toList = k.data.toList.take s.data.toList.length := by
  have h1 : s.data.toList.length = s.size := rfl
  rw [h1, ByteArray.data_extract, Array.toList_extract]
  simp [List.extract]
 rw [e]
 exact eq_comm
theorem z79 (s : ByteArray) (F : List S74) (n c : Int) (p : List Int) (hp : p.length ≤ 60) (d : Nat) : ∀ (i : Int) (acc : List Int), 0 ≤ i → i ≤ p.length → (p.length : Int) - i = d → acc.Pairwise (· < ·) → acc.length + d < 100000 →
  ∃ acc', acc'.Pairwise (· < ·) ∧ (∀ a, a ∈ acc' ↔ a ∈ acc ∨ a ∈ p.drop i.toNat) ∧ acc'.length ≤ acc.length + d ∧ ∀ r, Ev (fun k => spec_FindBeginning.l0 k s acc' F n (wrap64 (c + 1))) r → Ev (fun k => spec_FindBeginning.l1 k s acc F n c p p.length i) r := by
 induction d with
 | zero =>
  intro i acc h0 h1 hd hs ha
  refine ⟨acc, hs, fun a => ?_, by omega, fun r h => Ev.step (fun k => by rw [spec_FindBeginning.l1, if_neg (by omega)]) h⟩
  rw [List.drop_of_length_le (by omega)]; simp
 | succ d ih =>
  intro i acc h0 h1 hd hs ha
  have hi : i.toNat < p.length := by omega
  obtain ⟨acc1, e1, e2, e3, e4⟩ := putInt acc (rd p i) (by omega) hs
  obtain ⟨acc', g1, g2, g3, g4⟩ := ih (i + 1) acc1 (by omega) (by omega) (by omega) e2 (by omega)
  refine ⟨acc', g1, fun a => ?_, by omega, fun r h => ?_⟩
  ·rw [g2, e3, List.drop_eq_getElem_cons hi, List.mem_cons, rdI p i h0 (by omega), show (i + 1).toNat = i.toNat + 1 by omega]
   constructor
   ·rintro ((h | h) | h)
    ·exact .inl h
    ·exact .inr (.inl h)
    ·exact .inr (.inr h)
   ·rintro (h | h | h)
    ·exact .inl (.inl h)
    ·exact .inl (.inr h)
    ·exact .inr h
  ·refine Ev.step (fun k => by rw [spec_FindBeginning.l1, if_pos (by omega), if_pos h0, if_pos (by omega)]) (Ev.bind e1 ?_)
   rw [w64 (n := i + 1) (by omega) (by omega)]
   exact g4 r h
theorem beginS (s : ByteArray) (hs4 : s.size ≤ 4) (F : List S74) (hF : F.length ≤ 39) (hx : ∀ x ∈ F, x.f1.length ≤ 60 ∧ (x.f0.toList = [] ∨ x.f0.size = 4)) (d : Nat) : ∀ (i : Int) (acc : List Int), 0 ≤ i → i ≤ F.length → (F.length : Int) - i = d → acc.Pairwise (· < ·) → acc.length + 60 * d < 50000 →
  ∃ r, Ev (fun k => spec_FindBeginning.l0 k s acc F F.length i) (r, true) ∧ r.Pairwise (· < ·) ∧ (∀ a, a ∈ r ↔ a ∈ acc ∨ a ∈ z14 s (F.drop i.toNat)) := by
 induction d with
 | zero =>
  intro i acc h0 h1 hd hs ha
  refine ⟨acc, Ev.step (fun k => by rw [spec_FindBeginning.l0, if_neg (by omega)]) (Ev.now _), hs, fun a => ?_⟩
  rw [List.drop_of_length_le (by omega)]; simp [z14]
 | succ d ih =>
  intro i acc h0 h1 hd hs ha
  have hi : i.toNat < F.length := by omega
  have hrd := rdF F i h0 (by omega)
  obtain ⟨hz, hk⟩ := hx _ (List.getElem_mem hi)
  have hw : wrap64 (i + 1) = i + 1 := w64 (by omega) (by omega)
  rw [List.drop_eq_getElem_cons hi, z20]
  generalize F[i.toNat] = x at hrd hz hk
  have skip : ∀ r : List Int × Bool, Ev (fun k => spec_FindBeginning.l0 k s acc F F.length (i + 1)) r → Ev (fun k => spec_FindBeginning.j2 k s acc F F.length i false x.f0 x.f1 x.f2 x.f3 x.f4) r := fun r h =>
   Ev.step (fun k => by rw [spec_FindBeginning.j2, if_neg (by decide), hw]) h
  by_cases he : x.f0.toList = []
  ·have hb : z9 s x = false := by unfold z9; rw [decide_eq_true he]; rfl
   obtain ⟨r, g1, g2, g3⟩ := ih (i + 1) acc (by omega) (by omega) (by omega) hs (by omega)
   refine ⟨r, Ev.step (fun k => by rw [spec_FindBeginning.l0, if_pos (by omega), if_pos h0, if_pos (by omega), hrd, if_pos he]) (skip _ g1), g2, fun a => ?_⟩
   rw [hb, g3, show (i + 1).toNat = i.toNat + 1 by omega]; simp
  ·have hk4 : x.f0.size = 4 := hk.resolve_left he
   have hpe := z30 x.f0 s (by omega)
   have hbe : z9 s x = Lib.hasPrefix x.f0.data.toList s.data.toList := by unfold z9; rw [decide_eq_false he]; rfl
   cases hb : z9 s x with
   | false =>
    obtain ⟨r, g1, g2, g3⟩ := ih (i + 1) acc (by omega) (by omega) (by omega) hs (by omega)
    rw [hb] at hbe
    refine ⟨r, Ev.step (fun k => by rw [spec_FindBeginning.l0, if_pos (by omega), if_pos h0, if_pos (by omega), hrd, if_neg he, if_pos (by omega), if_pos (by omega), hpe, ← hbe]) (skip _ g1), g2, fun a => ?_⟩
    rw [g3, show (i + 1).toNat = i.toNat + 1 by omega]; simp
   | true =>
    rw [hb] at hbe
    obtain ⟨acc', q1, q2, q3, q4⟩ := z79 s F F.length i x.f1 hz x.f1.length 0 acc (by omega) (by omega) (by omega) hs (by omega)
    obtain ⟨r, g1, g2, g3⟩ := ih (i + 1) acc' (by omega) (by omega) (by omega) q1 (by omega)
    refine ⟨r, Ev.step (fun k => by rw [spec_FindBeginning.l0, if_pos (by omega), if_pos h0, if_pos (by omega), hrd, if_neg he, if_pos (by omega), if_pos (by omega), hpe, ← hbe]) (Ev.step (fun k => by rw [spec_FindBeginning.j2, if_pos rfl]) (q4 _ (by rw [hw]; exact g1))), g2, fun a => ?_⟩
    rw [g3, q2, show (i + 1).toNat = i.toNat + 1 by omega, if_pos rfl, List.mem_append]
    simp [or_assoc]
theorem beginI (s : ByteArray) (F : List S74) (hF : F.length ≤ 39) (hx : ∀ x ∈ F, x.f1.length ≤ 60) (d : Nat) : ∀ (i : Int) (acc : List Int), 0 ≤ i → i ≤ F.length → (F.length : Int) - i = d → acc.length + 60 * d < 50000 →
  Ev (fun k => impl_FindBeginning.l0 k s acc F F.length i) (Lib.compact ((acc ++ z14 s (F.drop i.toNat)).mergeSort fun x y => decide (x ≤ y)), true) := by
 induction d with
 | zero =>
  intro i acc h0 h1 hd ha
  rw [List.drop_of_length_le (by omega)]
  refine Ev.step (fun k => by rw [impl_FindBeginning.l0, if_neg (by omega), slices_Sort_int_int.f, if_pos (by omega), Option.bind_some, slices_Compact_int_int.f, if_pos (by rw [List.length_mergeSort]; omega), Option.bind_some]) ?_
  simp only [z14, List.flatMap_nil, List.append_nil]
  exact Ev.now _
 | succ d ih =>
  intro i acc h0 h1 hd ha
  have hi : i.toNat < F.length := by omega
  have hrd := rdF F i h0 (by omega)
  have hz := hx _ (List.getElem_mem hi)
  have hw : wrap64 (i + 1) = i + 1 := w64 (by omega) (by omega)
  rw [List.drop_eq_getElem_cons hi, z20]
  generalize F[i.toNat] = x at hrd hz
  have he1 : (i + 1).toNat = i.toNat + 1 := by omega
  by_cases he : x.f0.toList = []
  ·have hb : z9 s x = false := by unfold z9; rw [decide_eq_true he]; rfl
   have := ih (i + 1) acc (by omega) (by omega) (by omega) (by omega)
   rw [he1] at this
   rw [hb]
   exact Ev.step (fun k => by rw [impl_FindBeginning.l0, if_pos (by omega), if_pos h0, if_pos (by omega), hrd, if_pos he, hw]) (by simpa using this)
  ·have hbe : z9 s x = Lib.hasPrefix x.f0.data.toList s.data.toList := by unfold z9; rw [decide_eq_false he]; rfl
   cases hb : z9 s x with
   | false =>
    rw [hb] at hbe
    have := ih (i + 1) acc (by omega) (by omega) (by omega) (by omega)
    rw [he1] at this
    exact Ev.step (fun k => by rw [impl_FindBeginning.l0, if_pos (by omega), if_pos h0, if_pos (by omega), hrd, if_neg he, strings_HasPrefix.f, ← hbe, Option.bind_some, if_neg (by decide), hw]) (by simpa using this)
   | true =>
    rw [hb] at hbe
    have := ih (i + 1) (acc ++ x.f1) (by omega) (by omega) (by omega) (by simp; omega)
    rw [he1] at this
    exact Ev.step (fun k => by rw [impl_FindBeginning.l0, if_pos (by omega), if_pos h0, if_pos (by omega), hrd, if_neg he, strings_HasPrefix.f, ← hbe, Option.bind_some, if_pos rfl, if_pos (by omega), hw]) (by simpa using this)
theorem sorted_ms (l : List Int) : (l.mergeSort fun x y => decide (x ≤ y)).Pairwise (· ≤ ·) := by
 have := List.pairwise_mergeSort (le := fun x y : Int => decide (x ≤ y)) (fun a b c h1 h2 => by simp only [decide_eq_true_eq] at *; omega) (fun a b => by simp only [Bool.or_eq_true, decide_eq_true_eq]; omega) l
 exact this.imp (fun h => by simpa using h)
theorem z56 {l : List S51} {ks : List ByteArray} {pl : ByteArray → List Int} (ht : Tree l ks pl) (s : ByteArray) (hs4 : s.size ≤ 4) : ∃ r, Ev (fun k => spec_FindBeginning.l0 k s [] (tr pl ks 0) (tr pl ks 0).length 0) (r, true) ∧ Ev (fun k => impl_FindBeginning.l0 k s [] (tr pl ks 0) (tr pl ks 0).length 0) (r, true) ∧ r.Pairwise (· < ·) ∧ (∀ a, a ∈ r ↔ a ∈ z14 s (tr pl ks 0)) := by
 have hl := z34 ht
 have hx : ∀ x ∈ tr pl ks 0, x.f1.length ≤ 60 ∧ (x.f0.toList = [] ∨ x.f0.size = 4) := fun x hx => by
  refine ⟨z57 ht x hx, ?_⟩
  rcases tr_mem pl ks.length ks 0 rfl ht.keys x hx with ⟨e, _⟩ | ⟨hm, _⟩
  ·left; rw [e, ByteArray.toList_eq]
  ·right; exact ht.keys.four _ hm
 obtain ⟨r, g1, g2, g3⟩ := beginS s hs4 (tr pl ks 0) hl hx (tr pl ks 0).length 0 [] (by omega) (by omega) (by omega) List.Pairwise.nil (by simp; omega)
 have g4 := beginI s (tr pl ks 0) hl (fun x h => (hx x h).1) (tr pl ks 0).length 0 [] (by omega) (by omega) (by omega) (by simp; omega)
 simp only [Int.toNat_zero, List.drop_zero, List.nil_append] at g3 g4
 obtain ⟨c1, c2⟩ := z50 _ (sorted_ms (z14 s (tr pl ks 0)))
 have e : Lib.compact ((z14 s (tr pl ks 0)).mergeSort fun x y => decide (x ≤ y)) = r :=
  z11 (R := fun a b : Int => a < b) (fun a => Int.lt_irrefl a) (fun a b h1 h2 => by omega) _ _ c1 g2 (fun a => by rw [c2, g3, (List.mergeSort_perm _ _).mem_iff]; simp)
 rw [e] at g4
 exact ⟨r, g1, g4, g2, fun a => by rw [g3]; simp⟩
theorem z29 : ∀ (r f : List Int), r.Pairwise (· < ·) → (∀ a ∈ r, a ∈ f) → r.length ≤ f.length
 | [], f, _, _ => by simp
 | a :: r, f, hr, hm => by
  rw [List.pairwise_cons] at hr
  have ha := hm a (by simp)
  have := z29 r (f.erase a) hr.2 (fun b hb => by
   have h1 := hr.1 b hb
   exact (List.mem_erase_of_ne (by omega)).2 (hm b (List.mem_cons_of_mem _ hb)))
  rw [List.length_erase_of_mem ha] at this
  have := List.length_pos_of_mem ha
  rw [List.length_cons]
  omega
theorem z55 (s : ByteArray) (M : Nat) : ∀ (f : List S74), (∀ x ∈ f, x.f1.length ≤ M) → (z14 s f).length ≤ f.length * M
 | [], _ => by simp [z14]
 | x :: f, h => by
  have h1 := h x (by simp)
  have h2 := z55 s M f (fun y hy => h y (List.mem_cons_of_mem _ hy))
  rw [z20, List.length_append, List.length_cons, Nat.succ_mul]
  split
  ·omega
  ·simp; omega
theorem beginBoth (f : List S74) (hf : f.length ≤ 1048576) (hs : ∀ x ∈ f, x.f1.length ≤ 1048576) (hp : (z6 f).length ≤ 1048576) (s : ByteArray) :
  ∃ r b, Ev (fun k => spec_FindBeginning.f k f s) (r, b) ∧ Ev (fun k => impl_FindBeginning.f k f s) (r, b) ∧ r.length ≤ 1048576 := by
 obtain ⟨b, g1, g2, g3⟩ := z45 f hf hs hp
 unfold spec_FindBeginning.f impl_FindBeginning.f
 cases b with
 | false =>
  refine ⟨[], false, Ev.bind g1 ?_, Ev.bind g2 ?_, by simp⟩
  ·simp only [Bool.false_eq_true, if_false]; exact Ev.step (fun k => by rw [spec_FindBeginning.j0, if_pos rfl]) (Ev.now _)
  ·simp only [Bool.false_eq_true, if_false]; exact Ev.step (fun k => by rw [impl_FindBeginning.j0, if_pos rfl]) (Ev.now _)
 | true =>
  obtain ⟨ks, pl, ht, rfl⟩ := g3 rfl
  by_cases h4 : (s.size : Int) > 4
  ·refine ⟨[], false, Ev.bind g1 ?_, Ev.bind g2 ?_, by simp⟩
   ·simp only [if_true, decide_eq_true h4]; exact Ev.step (fun k => by rw [spec_FindBeginning.j0, if_pos rfl]) (Ev.now _)
   ·simp only [if_true, decide_eq_true h4]; exact Ev.step (fun k => by rw [impl_FindBeginning.j0, if_pos rfl]) (Ev.now _)
  ·obtain ⟨r, s1, s2, s3, s4⟩ := z56 ht s (by omega)
   refine ⟨r, true, Ev.bind g1 ?_, Ev.bind g2 ?_, ?_⟩
   ·simp only [if_true, decide_eq_false h4]; exact Ev.step (fun k => by rw [spec_FindBeginning.j0, if_neg (by decide)]) s1
   ·simp only [if_true, decide_eq_false h4]; exact Ev.step (fun k => by rw [impl_FindBeginning.j0, if_neg (by decide)]) s2
   ·have h1 := z55 s 60 (tr pl ks 0) (fun x hx => z57 ht x hx)
    have h2 := z34 ht
    have h3 := z29 r (z14 s (tr pl ks 0)) s3 (fun a ha => (s4 a).1 ha)
    have h5 : (tr pl ks 0).length * 60 ≤ 39 * 60 := Nat.mul_le_mul_right _ h2
    omega
theorem z54 (s : ByteArray) (a : Int) : ∀ (f : List S74), a ∈ z14 s f ↔ ∃ y ∈ z6 f, ¬ y.f0.toList = [] ∧ Lib.hasPrefix y.f0.data.toList s.data.toList = true ∧ y.f1 = a
 | [] => by simp [z14, z6]
 | x :: f => by
  rw [z20, z7, List.mem_append, z54 s a f]
  constructor
  ·rintro (h | ⟨y, hy, h⟩)
   ·by_cases hb : z9 s x = true
    ·rw [if_pos hb] at h
     unfold z9 at hb
     rw [Bool.and_eq_true, Bool.not_eq_true', decide_eq_false_iff_not] at hb
     exact ⟨⟨x.f0, a⟩, List.mem_append_left _ (List.mem_map.2 ⟨a, h, rfl⟩), hb.1, hb.2, rfl⟩
    ·rw [if_neg hb] at h; cases h
   ·exact ⟨y, List.mem_append_right _ hy, h⟩
  ·rintro ⟨y, hy, h1, h2, h3⟩
   rcases List.mem_append.1 hy with hy | hy
   ·left
    obtain ⟨b, hb, rfl⟩ := List.mem_map.1 hy
    have hbg : z9 s x = true := by
     unfold z9
     rw [Bool.and_eq_true, Bool.not_eq_true', decide_eq_false_iff_not]
     exact ⟨h1, h2⟩
    rw [if_pos hbg]
    have h3 : b = a := h3
    rw [← h3]; exact hb
   ·exact .inr ⟨y, hy, h1, h2, h3⟩
theorem z18 : ∀ (r f : List Int), r.Nodup → (∀ a ∈ r, a ∈ f) → r.length ≤ f.length
 | [], f, _, _ => by simp
 | a :: r, f, hr, hm => by
  rw [List.nodup_cons] at hr
  have ha := hm a (by simp)
  have := z18 r (f.erase a) hr.2 (fun b hb => by
   have h1 : b ≠ a := fun e => hr.1 (by rw [← e]; exact hb)
   exact (List.mem_erase_of_ne h1).2 (hm b (List.mem_cons_of_mem _ hb)))
  rw [List.length_erase_of_mem ha] at this
  have := List.length_pos_of_mem ha
  rw [List.length_cons]
  omega
theorem z80 (a b : ByteArray) (ha : a.size = 4) (hb : b.size = 4) : ∃ r, Ev (fun k => spec_FirstUnlike.f k a b) r ∧ Ev (fun k => impl_FirstUnlike.f k a b) r := by
 unfold spec_FirstUnlike.f impl_FirstUnlike.f
 have h4 : ∀ x : ByteArray, x.size = 4 → ((x.size : Int) = 4) := fun x h => by rw [h]; rfl
 simp only [h4 a ha, h4 b hb, if_true]
 by_cases he : a.toList = b.toList
 ·simp only [he, if_true]; exact ⟨_, Ev.now _, Ev.now _⟩
 ·simp only [he, if_false]
  have hbit : ∃ i, i < 32 ∧ bitN a i ≠ bitN b i ∧ ∀ j, j < i → bitN a j = bitN b j := by
   rcases cb_tri a.data.toList b.data.toList with ⟨_, h⟩ | ⟨_, h⟩ | ⟨_, h⟩
   ·obtain ⟨i, h1, h2, h3, h4⟩ := key_lt a b ha hb h
    exact ⟨i, h1, by omega, h4⟩
   ·exact absurd (by rw [ByteArray.toList_eq, ByteArray.toList_eq, h]) he
   ·obtain ⟨i, h1, h2, h3, h4⟩ := key_lt b a hb ha h
    exact ⟨i, h1, by omega, fun j hj => (h4 j hj).symm⟩
  obtain ⟨i, h1, h2, h3⟩ := hbit
  exact ⟨((i : Int), true), Ev.bind (unlikeS a b ha hb i h1 h2 h3) (Ev.now _), Ev.bind (unlikeI a b ha hb i h1 h2 h3) (Ev.now _)⟩
theorem found_j5 (l1 : List Int) (h1 : z16 l1) : Ev (fun k => laws_FnFound.j5 k l1) true := by
 obtain ⟨g, a1, s1, e1, b1, b2, hg1, hg2⟩ := z47 l1 h1 0 0 (by omega) (by omega)
 have hg3 := z24 60 g hg2
 have hg4 : g.length * 60 ≤ 39 * 60 := Nat.mul_le_mul_right _ hg1
 have hdraw : ∃ key, Ev (fun k => spec_DrawFindKey.f k l1) (g, key) := by
  obtain ⟨fl, a2, s2, e2, c1, c2⟩ := z67 l1 h1 a1 s1 12 (by omega) (by omega) (by omega)
  unfold spec_DrawFindKey.f
  cases fl with
  | true =>
   refine ⟨(⟨#[97, 98, 99]⟩ : ByteArray), Ev.bind e1 ?_⟩
   simp only [e2, Option.bind_some, if_true]; exact Ev.now _
  | false =>
   obtain ⟨key, a3, s3, e3, c3, c4, _⟩ := z37 l1 h1 a2 s2 (by omega) (by omega)
   refine ⟨key, Ev.bind e1 ?_⟩
   simp only [e2, Option.bind_some, Bool.false_eq_true, if_false, e3]; exact Ev.now _
 obtain ⟨key, hd⟩ := hdraw
 obtain ⟨r, hs, hi, hr⟩ := findBoth g (by omega) (fun x hx => by have := hg2 x hx; omega) (by omega) key
 obtain ⟨ka, a4, s4, e4, c5, c6, ha4⟩ := z37 l1 h1 0 0 (by omega) (by omega)
 obtain ⟨kb, a5, s5, e5, c7, c8, hb4⟩ := z37 l1 h1 a4 s4 (by omega) (by omega)
 have hu : spec_DrawFirstUnlike.f l1 = some (ka, kb) := by unfold spec_DrawFirstUnlike.f; rw [e4, Option.bind_some, e5, Option.bind_some]
 obtain ⟨u, us, ui⟩ := z80 ka kb ha4 hb4
 refine Ev.step (fun k => by rw [laws_FnFound.j5]) (Ev.bind hd (Ev.bind hi (Ev.bind hs ?_)))
 simp only [hu, Option.bind_some]
 refine Ev.bind ui (Ev.bind us ?_)
 simp only [beq_self_eq_true, if_true]
 refine Ev.bind (z17 r.1 (by omega)) ?_
 simp only [if_true]
 exact Ev.now _
theorem found_l1 (l1 : List Int) (s : ByteArray) (p : List Int) (l : List S51) (hs4 : s.size ≤ 4) (hl : l.length ≤ 60) (hk : ∀ x ∈ l, x.f0.size = 4) (hp : p.length < 2000000000) (hpn : p.Pairwise (· < ·)) (hpm : ∀ a, a ∈ p ↔ ∃ y ∈ l, Lib.hasPrefix y.f0.data.toList s.data.toList = true ∧ y.f1 = a)
  (hj5 : Ev (fun k => laws_FnFound.j5 k l1) true) (d : Nat) : ∀ (i : Int) (n : Int) (all : List Int), 0 ≤ i → i ≤ l.length → (l.length : Int) - i = d → all.Nodup → (all.length : Int) ≤ n → n ≤ i → (∀ a, a ∈ all ↔ ∃ y ∈ l.take i.toNat, Lib.hasPrefix y.f0.data.toList s.data.toList = true ∧ y.f1 = a) →
  Ev (fun k => laws_FnFound.l1 k l1 s p n all l l.length i) true := by
 induction d with
 | zero =>
  intro i n all h0 h1 hd hn hle hni hm
  rw [List.take_of_length_le (by omega)] at hm
  have e1 := z18 all p hn (fun a ha => (hpm a).2 ((hm a).1 ha))
  have e2 := z18 p all (hpn.imp (fun h => by omega)) (fun a ha => (hm a).2 ((hpm a).1 ha))
  exact Ev.step (fun k => by rw [laws_FnFound.l1, if_neg (by omega), if_pos (by omega), if_neg (by omega)]) hj5
 | succ d ih =>
  intro i n all h0 h1 hd hn hle hni hm
  have hi : i.toNat < l.length := by omega
  have hrd : rd_T51 l i = l[i.toNat] := rdP l i h0 (by omega)
  have hmem : l[i.toNat] ∈ l := List.getElem_mem hi
  have hx4 := hk _ hmem
  have hw : wrap64 (i + 1) = i + 1 := w64 (by omega) (by omega)
  have hwn : wrap64 (n + 1) = n + 1 := w64 (by omega) (by omega)
  have htk : l.take (i + 1).toNat = l.take i.toNat ++ [l[i.toNat]] := by rw [show (i + 1).toNat = i.toNat + 1 by omega, List.take_add_one, List.getElem?_eq_getElem hi]; rfl
  generalize l[i.toNat] = x at hrd hmem hx4 htk
  have hpe := z30 x.f0 s (by omega)
  have hmx : ∀ a, (∃ y ∈ l.take (i + 1).toNat, Lib.hasPrefix y.f0.data.toList s.data.toList = true ∧ y.f1 = a) ↔ (∃ y ∈ l.take i.toNat, Lib.hasPrefix y.f0.data.toList s.data.toList = true ∧ y.f1 = a) ∨ (Lib.hasPrefix x.f0.data.toList s.data.toList = true ∧ x.f1 = a) := by
   intro a
   rw [htk]
   constructor
   ·rintro ⟨y, hy, h⟩
    rcases List.mem_append.1 hy with hy | hy
    ·exact .inl ⟨y, hy, h⟩
    ·rw [List.mem_singleton] at hy; subst hy; exact .inr h
   ·rintro (⟨y, hy, h⟩ | h)
    ·exact ⟨y, List.mem_append_left _ hy, h⟩
    ·exact ⟨x, List.mem_append_right _ (by simp), h⟩
  by_cases hb : Lib.hasPrefix x.f0.data.toList s.data.toList = true
  ·have hex : (x.f0.extract 0 ((s.size : Int) : Int).toNat).toList = s.toList := by rw [hb] at hpe; exact beq_iff_eq.1 hpe
   have hin : x.f1 ∈ p := (hpm _).2 ⟨x, hmem, hb, rfl⟩
   have hal : all.length ≤ 60 := by omega
   refine Ev.step (fun k => by rw [laws_FnFound.l1, if_pos (by omega), if_pos h0, if_pos (by omega), if_pos (by omega), hrd, if_pos (by omega), if_pos hex]) (Ev.bind (has_is p x.f1 hp) ?_)
   simp only [decide_eq_true hin, if_true]
   refine Ev.bind (has_is all x.f1 (by omega)) ?_
   by_cases hin2 : x.f1 ∈ all
   ·simp only [decide_eq_true hin2, if_true, hw, hwn]
    refine ih (i + 1) (n + 1) all (by omega) (by omega) (by omega) hn (by omega) (by omega) (fun a => ?_)
    rw [hmx, hm]
    constructor
    ·exact .inl
    ·rintro (h | ⟨_, rfl⟩)
     ·exact h
     ·exact (hm _).1 hin2
   ·simp only [decide_eq_false hin2, Bool.false_eq_true, if_false, hw, hwn, show all.length < 17592186044416 from by omega, if_true]
    refine ih (i + 1) (n + 1) (all ++ [x.f1]) (by omega) (by omega) (by omega) ?_ (by simp; omega) (by omega) (fun a => ?_)
    ·rw [List.nodup_append]
     exact ⟨hn, by simp, fun a ha b hb e => hin2 (by rw [List.mem_singleton] at hb; rw [← hb, ← e]; exact ha)⟩
    ·rw [hmx, List.mem_append, hm, List.mem_singleton]
     constructor
     ·rintro (h | rfl)
      ·exact .inl h
      ·exact .inr ⟨hb, rfl⟩
     ·rintro (h | ⟨_, rfl⟩)
      ·exact .inl h
      ·exact .inr rfl
  ·have hex : ¬ (x.f0.extract 0 ((s.size : Int) : Int).toNat).toList = s.toList := fun e => hb (by rw [← hpe]; exact beq_iff_eq.2 e)
   refine Ev.step (fun k => by rw [laws_FnFound.l1, if_pos (by omega), if_pos h0, if_pos (by omega), if_pos (by omega), hrd, if_pos (by omega), if_neg hex, hw]) ?_
   refine ih (i + 1) n all (by omega) (by omega) (by omega) hn hle (by omega) (fun a => ?_)
   rw [hmx, hm]
   constructor
   ·exact .inl
   ·rintro (h | ⟨h, _⟩)
    ·exact h
    ·exact absurd h hb
theorem found_l0 (l1 : List Int) (f : List S74) (s : ByteArray) (p : List Int) (ok one : Bool) (l : List S51) (hl : l.length < 2000000000) (r : Bool) (hend : Ev (fun k => laws_FnFound.l0 k l1 f s p ok l one l l.length l.length) r) (d : Nat) : ∀ (i : Int), 0 ≤ i → i ≤ l.length → (l.length : Int) - i = d →
  Ev (fun k => laws_FnFound.l0 k l1 f s p ok l one l l.length i) r := by
 induction d with
 | zero => intro i h0 h1 hd; obtain rfl : i = l.length := (by omega); exact hend
 | succ d ih =>
  intro i h0 h1 hd
  have hb : (!(((rd_T51 l i).f0).toList == ((rd_T51 l i).f0).toList) || (!((rd_T51 l i).f1 == (rd_T51 l i).f1))) = false := by simp
  exact Ev.step (fun k => by rw [laws_FnFound.l0, if_pos (by omega), if_pos h0, if_pos (by omega), if_pos (by omega), hb, if_neg (by decide), w64 (n := i + 1) (by omega) (by omega)]) (ih (i + 1) (by omega) (by omega) (by omega))
theorem FnFound : laws_FnFound.Pure := by
 intro l0 l1 _ hs0 hb0 _ hs1 hb1
 apply Ev.rounds (g := fun k => laws_FnFound.f k l0 l1)
 unfold laws_FnFound.f
 by_cases hz : wrap64 ((l0.length : Int) + (l1.length : Int)) > 1048576
 ·simp only [hz, if_true]; exact Ev.now _
 simp only [hz, if_false]
 have hj5 := found_j5 l1 (z48 hb1)
 obtain ⟨f, s, hd, hf1, hf2, hf3⟩ := z39 l0 (z48 hb0)
 obtain ⟨p, ok, hps, hpi, hpl⟩ := beginBoth f hf1 hf2 hf3 s
 obtain ⟨b, g1, g2, g3⟩ := z45 f hf1 hf2 hf3
 obtain ⟨q1, q2⟩ := z73 f (by omega) hf2 (by omega)
 have hboth : ∃ l, Ev (fun k => spec_PairsIn.f k f) (l, b) ∧ Ev (fun k => impl_PairsIn.f k f) (l, b) ∧ l = if b then z6 f else [] := by
  unfold spec_PairsIn.f impl_PairsIn.f
  cases b with
  | false =>
   refine ⟨[], Ev.bind g1 ?_, Ev.bind g2 ?_, rfl⟩
   ·simp only [Bool.false_eq_true, if_false]; exact Ev.now _
   ·simp only [Bool.false_eq_true, if_false]; exact Ev.now _
  | true =>
   refine ⟨z6 f, Ev.bind g1 ?_, Ev.bind g2 ?_, rfl⟩
   ·simp only [if_true]; exact Ev.bind q1 (Ev.now _)
   ·simp only [if_true]; exact Ev.bind q2 (Ev.now _)
 obtain ⟨l, hls, hli, hle⟩ := hboth
 refine Ev.bind hd (Ev.bind hpi (Ev.bind hps (Ev.bind hli (Ev.bind hls ?_))))
 simp only [bne_self_eq_false, Bool.false_eq_true, if_false]
 refine Ev.bind (z17 p (by omega)) ?_
 simp only [if_true]
 refine Ev.step (fun k => by rw [laws_FnFound.j0, if_neg (by decide)]) ?_
 have hll : l.length < 2000000000 := by
  rw [hle]
  split
  ·omega
  ·simp
 refine found_l0 l1 f s p ok b l hll true ?_ l.length 0 (by omega) (by omega) (by omega)
 cases b with
 | false =>
  have hok : ok = false := by
   have : Ev (fun k => spec_FindBeginning.f k f s) ([], false) := by
    unfold spec_FindBeginning.f
    refine Ev.bind g1 ?_
    simp only [Bool.false_eq_true, if_false]; exact Ev.step (fun k => by rw [spec_FindBeginning.j0, if_pos rfl]) (Ev.now _)
   exact (Prod.mk.inj (Ev.uniq hps this)).2
  subst hok
  refine Ev.step (fun k => by rw [laws_FnFound.l0, if_neg (by omega), if_neg (by decide)]) ?_
  refine Ev.step (fun k => by rw [laws_FnFound.j2, if_neg (by decide)]) ?_
  exact Ev.step (fun k => by rw [laws_FnFound.j3, if_neg (by decide)]) hj5
 | true =>
  obtain ⟨ks, pl, ht, rfl⟩ := g3 rfl
  rw [if_pos rfl, z58 pl ks.length ks 0 rfl ht.keys] at hle
  subst hle
  obtain ⟨w1, w2, ks', pl', ht', he⟩ := tree_of ht (l' := flat pl ks) ht.flat_len (fun x => by rw [z58 pl ks.length ks 0 rfl ht.keys]) ((z33 pl ks ht.keys.up ht.rising).imp LtP.ne)
  refine Ev.step (fun k => by rw [laws_FnFound.l0, if_neg (by omega), if_pos rfl]) ?_
  refine Ev.bind (a := (tr pl ks 0, true)) ?_ ?_
  ·unfold impl_IndexOf.f
   refine Ev.bind w2 ?_
   simp only [if_true]
   rw [← he]
   exact Ev.bind ht'.impl (Ev.now _)
  ·simp only [if_true]
   refine Ev.bind (z49 (tr pl ks 0) (by omega) (fun x hx => by have := hf2 x hx; omega)) ?_
   simp only [if_true]
   refine Ev.step (fun k => by rw [laws_FnFound.j2]) ?_
   cases ok with
   | false =>
    simp only [Bool.false_eq_true, if_false]
    exact Ev.step (fun k => by rw [laws_FnFound.j3, if_neg (by decide)]) hj5
   | true =>
    simp only [if_true]
    refine Ev.step (fun k => by rw [laws_FnFound.j3, if_pos rfl]) ?_
    have hs4 : s.size ≤ 4 := by
     by_cases h : (s.size : Int) > 4
     ·have : Ev (fun k => spec_FindBeginning.f k (tr pl ks 0) s) ([], false) := by
       unfold spec_FindBeginning.f
       refine Ev.bind g1 ?_
       simp only [if_true, decide_eq_true h]; exact Ev.step (fun k => by rw [spec_FindBeginning.j0, if_pos rfl]) (Ev.now _)
      exact absurd (Prod.mk.inj (Ev.uniq hps this)).2 (by decide)
     ·omega
    obtain ⟨r, s1, s2, s3, s4⟩ := z56 ht s hs4
    have hpr : p = r := by
     have : Ev (fun k => spec_FindBeginning.f k (tr pl ks 0) s) (r, true) := by
      unfold spec_FindBeginning.f
      refine Ev.bind g1 ?_
      simp only [if_true, decide_eq_false (show ¬ (s.size : Int) > 4 by omega)]; exact Ev.step (fun k => by rw [spec_FindBeginning.j0, if_neg (by decide)]) s1
     exact (Prod.mk.inj (Ev.uniq hps this)).1
    subst hpr
    have hk4 : ∀ x ∈ flat pl ks, x.f0.size = 4 := fun x hx => ht.keys.four _ ((z19 _ _ _).1 hx).1
    refine found_l1 l1 s p (flat pl ks) hs4 ht.flat_len hk4 (by omega) s3 (fun a => ?_) hj5 (flat pl ks).length 0 0 [] (by omega) (by omega) (by omega) List.nodup_nil (by simp) (by omega) (by simp)
    rw [s4, z54, z58 pl ks.length ks 0 rfl ht.keys]
    exact ⟨fun ⟨y, hy, _, h⟩ => ⟨y, hy, h⟩, fun ⟨y, hy, h⟩ => ⟨y, hy, key_ne _ (hk4 y hy), h⟩⟩
end Go.Proofs.Ytkkphbjemnifiaa.Pure