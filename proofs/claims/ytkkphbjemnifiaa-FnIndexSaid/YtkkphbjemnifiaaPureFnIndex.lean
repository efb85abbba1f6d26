/-
The pure statement of FnIndex is proved: for drawn pairs both programs build one index, in whatever order the pairs came, a lookup gives exactly the positions of its key, rising, and a pair that is put in is found.
Conditions: the drawn codes are bytes. None besides.
-/
import Derived.Test.YtkkphbjemnifiaaPFnIndexx15
set_option linter.unusedVariables false
set_option linter.unusedSimpArgs false
namespace Go.Proofs.Ytkkphbjemnifiaa.Pure
open Go.RowKit Go.Proofs.Ytkkphbjemnifiaa.PFnIndex Go.Proofs.YtkkphbjemnifiaaW.PrintWords Go.Proofs.YtkkphbjemnifiaaW.PrintLast Go.Proofs.YtkkphbjemnifiaaW.PrintMore

theorem w64 {n : Int} (h0 : -9223372036854775808 ≤ n) (h1 : n ≤ 9223372036854775807) : wrap64 n = n := by unfold wrap64; omega
theorem putInt_l0 (x : List Int) (n : Int) (hx : x.length < 4000000000) (hs : x.Pairwise (· < ·)) (d : Nat) : ∀ (k : Nat) (i : Int), 0 ≤ i → i ≤ x.length → (x.length : Int) - i = d → d < k → (∀ a ∈ x.take i.toNat, a < n) →
    ∃ r, spec_l10PutInt.l0 k x n i = some r ∧ r.Pairwise (· < ·) ∧ (∀ a, a ∈ r ↔ a ∈ x ∨ a = n) ∧ r.length ≤ x.length + 1 := by
  have build : ∀ i : Int, 0 ≤ i → i ≤ x.length → (∀ a ∈ x.take i.toNat, a < n) → (∀ a ∈ x.drop i.toNat, n < a) →
      (([] ++ x.take i.toNat ++ [n]) ++ x.drop i.toNat).Pairwise (· < ·) ∧ (∀ a, a ∈ (([] ++ x.take i.toNat ++ [n]) ++ x.drop i.toNat) ↔ a ∈ x ∨ a = n) ∧ (([] ++ x.take i.toNat ++ [n]) ++ x.drop i.toNat).length ≤ x.length + 1 := by
    intro i h0 hi hlt hgt
    have hsplit : x.take i.toNat ++ x.drop i.toNat = x := List.take_append_drop i.toNat x
    refine ⟨?_, fun a => ?_, ?_⟩
    · rw [← hsplit, List.pairwise_append] at hs
      rw [List.nil_append, List.append_assoc, List.pairwise_append]
      refine ⟨hs.1, ?_, ?_⟩
      · rw [List.singleton_append, List.pairwise_cons]; exact ⟨hgt, hs.2.1⟩
      · intro a ha b hb
        rw [List.singleton_append, List.mem_cons] at hb
        rcases hb with rfl | hb
        · exact hlt a ha
        · exact hs.2.2 a ha b hb
    · constructor
      · intro h
        rw [List.nil_append, List.append_assoc, List.mem_append, List.singleton_append, List.mem_cons] at h
        rcases h with h | h | h
        · exact .inl (List.mem_of_mem_take h)
        · exact .inr h
        · exact .inl (List.mem_of_mem_drop h)
      · intro h
        rw [List.nil_append, List.append_assoc, List.mem_append, List.singleton_append, List.mem_cons]
        rcases h with h | h
        · rw [← hsplit, List.mem_append] at h
          rcases h with h | h
          · exact .inl h
          · exact .inr (.inr h)
        · exact .inr (.inl h)
    · simp; omega
  induction d with
  | zero =>
    intro k i h0 hi hd hk hlt
    obtain ⟨k, rfl⟩ : ∃ m, k = m + 1 := ⟨k - 1, by omega⟩
    have hgt : ∀ a ∈ x.drop i.toNat, n < a := by
      rw [List.drop_of_length_le (by omega)]; intro a ha; cases ha
    obtain ⟨h1, h2, h3⟩ := build i h0 hi hlt hgt
    refine ⟨_, ?_, h1, h2, h3⟩
    simp only [spec_l10PutInt.l0, Option.bind_some]
    rw [if_neg (by omega), if_pos h0, if_pos hi, if_pos (by simp; omega), if_pos (by simp; omega), if_pos (by simp; omega)]
  | succ d ih =>
    intro k i h0 hi hd hk hlt
    obtain ⟨k, rfl⟩ : ∃ m, k = m + 1 := ⟨k - 1, by omega⟩
    have hrd : x[i.toNat]? = some (rd x i) := by
      have hl : i.toNat < x.length := by omega
      simp [rd, List.getD_eq_getElem?_getD, List.getElem?_eq_getElem hl]
    simp only [spec_l10PutInt.l0, Option.bind_some]
    rw [if_pos (by omega), if_pos h0, w64 (by omega) (by omega)]
    by_cases h1 : rd x i < n
    · rw [if_pos h1]
      refine ih k (i + 1) (by omega) (by omega) (by omega) (by omega) (fun a ha => ?_)
      rw [show (i + 1).toNat = i.toNat + 1 by omega, List.take_add_one, hrd] at ha
      rcases List.mem_append.1 ha with ha | ha
      · exact hlt a ha
      · simp at ha; rw [ha]; exact h1
    · rw [if_neg h1]
      by_cases h2 : rd x i = n
      · rw [if_pos h2]
        have hm : n ∈ x := by rw [← h2]; exact List.mem_of_getElem? hrd
        exact ⟨x, rfl, hs, fun a => ⟨.inl, fun h => h.elim id (fun h => h ▸ hm)⟩, Nat.le_succ _⟩
      · rw [if_neg h2]
        have hgt : ∀ a ∈ x.drop i.toNat, n < a := by
          have hd2 : x.drop i.toNat = rd x i :: x.drop (i.toNat + 1) := by
            obtain ⟨hlt3, he⟩ := List.getElem?_eq_some_iff.1 hrd
            rw [← he]; exact List.drop_eq_getElem_cons hlt3
          intro a ha
          have hp : (x.drop i.toNat).Pairwise (· < ·) := hs.sublist (List.drop_sublist _ _)
          rw [hd2] at ha hp
          rcases List.mem_cons.1 ha with rfl | ha
          · omega
          · have := (List.pairwise_cons.1 hp).1 a ha; omega
        obtain ⟨h3, h4, h5⟩ := build i h0 hi hlt hgt
        refine ⟨_, ?_, h3, h4, h5⟩
        rw [if_pos hi, if_pos (by simp; omega), if_pos (by simp; omega), if_pos (by simp; omega)]
theorem putInt (x : List Int) (n : Int) (hx : x.length < 4000000000) (hs : x.Pairwise (· < ·)) :
    ∃ r, Ev (fun k => spec_l10PutInt.f k x n) r ∧ r.Pairwise (· < ·) ∧ (∀ a, a ∈ r ↔ a ∈ x ∨ a = n) ∧ r.length ≤ x.length + 1 := by
  obtain ⟨r, h1, h2⟩ := putInt_l0 x n hx hs x.length (x.length + 1) 0 (by omega) (by omega) (by omega) (by omega) (by simp)
  exact ⟨r, Ev.of (fun k => spec_l10PutInt.mono x n k) h1, h2⟩

/-- Bit number i of a string, the first bit of a byte being its highest. -/
def bitAt (a : ByteArray) (i : Int) : Int := (bt a (i / 8) / 2 ^ (7 - i % 8).toNat) % 2

theorem and_one (x : Int) (h0 : 0 ≤ x) (h1 : x < 256) : Go.bits .and .i64 x 1 = x % 2 := by
  have h := bits_mask .i64 8 (by decide) (fun n h₀ h₁ => by rw [IntKind.wrap_i64]; omega) 1 (by decide) x h0 (by omega)
  simpa using h

theorem quot_range (b : Int) (h0 : 0 ≤ b) (h1 : b ≤ 255) (n : Nat) : 0 ≤ b / 2 ^ n ∧ b / 2 ^ n ≤ 255 := by
  have hp : (0 : Int) < 2 ^ n := Int.pow_pos (by decide)
  exact ⟨Int.ediv_nonneg h0 (Int.le_of_lt hp), Int.le_trans (Int.ediv_le_self _ h0) h1⟩

theorem spec_bit (a : ByteArray) (ha : a.size = 4) (i : Int) (h0 : 0 ≤ i) (h1 : i < 32) : spec_l10Bit.f a i = some (bitAt a i) := by
  have e1 : wrap64 (Int.tdiv i 8) = i / 8 := by rw [Int.tdiv_eq_ediv_of_nonneg h0]; unfold wrap64; omega
  have e2 : Int.tmod i 8 = i % 8 := Int.tmod_eq_emod_of_nonneg h0
  have e3 : wrap64 (7 - i % 8) = 7 - i % 8 := by unfold wrap64; omega
  have e4 : IntKind.u64.wrap (7 - i % 8) = 7 - i % 8 := by simp [IntKind.wrap, IntKind.bits, IntKind.signed]; omega
  have hb := bt_range a (i / 8)
  have hq := quot_range _ hb.1 hb.2 (7 - i % 8).toNat
  have hs : shr .u8 (bt a (i / 8)) (7 - i % 8) = bt a (i / 8) / 2 ^ (7 - i % 8).toNat := by
    unfold shr; rw [Nat.min_eq_left (by simp only [IntKind.bits]; omega)]
  unfold spec_l10Bit.f
  rw [e1, e2, e3, e4, hs, if_pos (by omega), if_pos (by omega), if_pos (by omega)]
  have e5 : wrap64 (bt a (i / 8) / 2 ^ (7 - i % 8).toNat) = bt a (i / 8) / 2 ^ (7 - i % 8).toNat := by unfold wrap64; omega
  rw [e5, and_one _ hq.1 (by omega)]
  rfl

theorem impl_bit (a : ByteArray) (ha : a.size = 4) (i : Int) (h0 : 0 ≤ i) (h1 : i < 32) : impl_bitOf.f a i = some (bitAt a i) := by
  have e1 : wrap64 (Int.tdiv i 8) = i / 8 := by rw [Int.tdiv_eq_ediv_of_nonneg h0]; unfold wrap64; omega
  have e2 : Int.tmod i 8 = i % 8 := Int.tmod_eq_emod_of_nonneg h0
  have e3 : wrap64 (7 - i % 8) = 7 - i % 8 := by unfold wrap64; omega
  have hb := bt_range a (i / 8)
  have hq := quot_range _ hb.1 hb.2 (7 - i % 8).toNat
  have e5 : wrap64 (bt a (i / 8)) = bt a (i / 8) := by unfold wrap64; omega
  have hs : shr .i64 (bt a (i / 8)) (7 - i % 8) = bt a (i / 8) / 2 ^ (7 - i % 8).toNat := by
    unfold shr; rw [Nat.min_eq_left (by simp only [IntKind.bits]; omega)]
  unfold impl_bitOf.f
  rw [e1, e2, e3, e5, hs, if_pos (by omega), if_pos (by omega), if_pos (by omega), and_one _ hq.1 (by omega)]
  rfl

def bitN (s : ByteArray) (i : Nat) : Nat := (s.data.toList.getD (i / 8) 0).toNat / 2 ^ (7 - i % 8) % 2
theorem bitlt : ∀ (w x y : Nat), x < y → y < 2 ^ w → ∃ q, q < w ∧ x / 2 ^ (w - 1 - q) % 2 = 0 ∧ y / 2 ^ (w - 1 - q) % 2 = 1 ∧ ∀ j, j < q → x / 2 ^ (w - 1 - j) % 2 = y / 2 ^ (w - 1 - j) % 2
  | 0, x, y, h, hy => by simp at hy; omega
  | w + 1, x, y, h, hy => by
    have half : ∀ (z m : Nat), z / 2 / 2 ^ m = z / 2 ^ (m + 1) := fun z m => by rw [Nat.div_div_eq_div_mul, Nat.pow_succ, Nat.mul_comm]
    rcases Nat.lt_or_ge (x / 2) (y / 2) with h1 | h1
    · obtain ⟨q, hq, a, b, c⟩ := bitlt w (x / 2) (y / 2) h1 (by rw [Nat.pow_succ] at hy; omega)
      refine ⟨q, by omega, ?_, ?_, fun j hj => ?_⟩
      · rw [half, show w - 1 - q + 1 = w + 1 - 1 - q by omega] at a; exact a
      · rw [half, show w - 1 - q + 1 = w + 1 - 1 - q by omega] at b; exact b
      · have := c j hj
        rw [half, half, show w - 1 - j + 1 = w + 1 - 1 - j by omega] at this; exact this
    · have e : x / 2 = y / 2 := by omega
      refine ⟨w, by omega, ?_, ?_, fun j hj => ?_⟩
      · rw [show w + 1 - 1 - w = 0 by omega, Nat.pow_zero, Nat.div_one]; omega
      · rw [show w + 1 - 1 - w = 0 by omega, Nat.pow_zero, Nat.div_one]; omega
      · rw [show w + 1 - 1 - j = (w - 1 - j) + 1 by omega, ← half, ← half, e]
theorem lexFirst : ∀ (x y : List UInt8), x.length = y.length → x < y → ∃ p, p < x.length ∧ (x.getD p 0).toNat < (y.getD p 0).toNat ∧ ∀ j, j < p → x.getD j 0 = y.getD j 0
  | [], [], _, h => absurd h (List.lt_irrefl _)
  | [], _ :: _, hl, _ => by simp at hl
  | _ :: _, [], hl, _ => by simp at hl
  | a :: x, b :: y, hl, h => by
    rcases List.cons_lt_cons_iff.1 h with h1 | ⟨rfl, h1⟩
    · exact ⟨0, by simp, h1, fun j hj => by omega⟩
    · obtain ⟨p, hp, h2, h3⟩ := lexFirst x y (by simpa using hl) h1
      refine ⟨p + 1, by simpa using hp, by simpa using h2, fun j hj => ?_⟩
      cases j with
      | zero => rfl
      | succ j => simpa using h3 j (by omega)
theorem bit_at (s : ByteArray) (p q : Nat) (hq : q < 8) : bitN s (8 * p + q) = (s.data.toList.getD p 0).toNat / 2 ^ (7 - q) % 2 := by
  unfold bitN
  rw [show (8 * p + q) / 8 = p by omega, show (8 * p + q) % 8 = q by omega]
theorem key_lt (a b : ByteArray) (ha : a.size = 4) (hb : b.size = 4) (h : a.data.toList < b.data.toList) :
    ∃ i, i < 32 ∧ bitN a i = 0 ∧ bitN b i = 1 ∧ ∀ j, j < i → bitN a j = bitN b j := by
  have la : a.data.toList.length = 4 := ha
  have lb : b.data.toList.length = 4 := hb
  obtain ⟨p, hp, h1, h2⟩ := lexFirst _ _ (by omega) h
  obtain ⟨q, hq, b1, b2, b3⟩ := bitlt 8 _ _ h1 (UInt8.toNat_lt _)
  refine ⟨8 * p + q, by omega, by rw [bit_at _ _ _ hq]; exact b1, by rw [bit_at _ _ _ hq]; exact b2, fun j hj => ?_⟩
  have ej : j = 8 * (j / 8) + j % 8 := by omega
  rw [ej, bit_at _ _ _ (by omega), bit_at _ _ _ (by omega)]
  by_cases e : j / 8 = p
  · rw [e]; exact b3 _ (by omega)
  · rw [h2 _ (by omega)]
/-- The first bit in which two keys differ. -/
def firstBit (a b : ByteArray) : Nat := ((List.range 32).find? fun i => bitN a i != bitN b i).getD 0
theorem firstBit_of (a b : ByteArray) (i : Nat) (hi : i < 32) (h : bitN a i ≠ bitN b i) (hj : ∀ j, j < i → bitN a j = bitN b j) : firstBit a b = i := by
  unfold firstBit
  have : (List.range 32).find? (fun i => bitN a i != bitN b i) = some i := by
    rw [List.find?_eq_some_iff_getElem]
    refine ⟨by simpa using h, i, by simpa using hi, by simp, fun j hlt => ?_⟩
    simp [hj j hlt]
  rw [this]; rfl
/-- Rising keys of four bytes. -/
structure Keys (ks : List ByteArray) : Prop where
  up : ks.Pairwise fun a b => a.data.toList < b.data.toList
  four : ∀ k ∈ ks, k.size = 4
theorem Keys.take {ks : List ByteArray} (h : Keys ks) (n : Nat) : Keys (ks.take n) := ⟨h.up.sublist (List.take_sublist _ _), fun k hk => h.four k (List.mem_of_mem_take hk)⟩
theorem Keys.drop {ks : List ByteArray} (h : Keys ks) (n : Nat) : Keys (ks.drop n) := ⟨h.up.sublist (List.drop_sublist _ _), fun k hk => h.four k (List.mem_of_mem_drop hk)⟩
def headK (ks : List ByteArray) : ByteArray := ks.getD 0 ByteArray.empty
def lastK (ks : List ByteArray) : ByteArray := ks.getD (ks.length - 1) ByteArray.empty
/-- How many keys lead on the side of the zero. -/
def cutN (bit : Nat) (ks : List ByteArray) : Nat := (ks.takeWhile fun k => bitN k bit == 0).length
theorem cutN_le (bit : Nat) (ks : List ByteArray) : cutN bit ks ≤ ks.length := (List.takeWhile_sublist _).length_le
theorem Keys.ends {ks : List ByteArray} (h : Keys ks) (h2 : 2 ≤ ks.length) :
    firstBit (headK ks) (lastK ks) < 32 ∧ bitN (headK ks) (firstBit (headK ks) (lastK ks)) = 0 ∧ bitN (lastK ks) (firstBit (headK ks) (lastK ks)) = 1 ∧ ∀ j, j < firstBit (headK ks) (lastK ks) → bitN (headK ks) j = bitN (lastK ks) j := by
  have e0 : headK ks = ks[0] := by simp [headK, List.getD_eq_getElem?_getD, show 0 < ks.length by omega]
  have e1 : lastK ks = ks[ks.length - 1] := by simp [lastK, List.getD_eq_getElem?_getD, show ks.length - 1 < ks.length by omega]
  have hlt : (headK ks).data.toList < (lastK ks).data.toList := by
    rw [e0, e1]
    exact List.pairwise_iff_getElem.1 h.up 0 (ks.length - 1) (by omega) (by omega) (by omega)
  obtain ⟨i, hi, b0, b1, hj⟩ := key_lt (headK ks) (lastK ks) (h.four _ (by rw [e0]; exact List.getElem_mem _)) (h.four _ (by rw [e1]; exact List.getElem_mem _)) hlt
  have e := firstBit_of _ _ i hi (by omega) hj
  rw [e]
  exact ⟨hi, b0, b1, hj⟩
theorem takeWhile_pos {α : Type} (p : α → Bool) (l : List α) (h : 0 < l.length) (hp : p l[0] = true) : 0 < (l.takeWhile p).length := by
  cases l with
  | nil => simp at h
  | cons a l => simp at hp; simp [hp]
theorem takeWhile_short {α : Type} (p : α → Bool) : ∀ (l : List α) (i : Nat) (h : i < l.length), p l[i] = false → (l.takeWhile p).length ≤ i
  | [], i, h, _ => by simp at h
  | a :: l, 0, h, hp => by simp at hp; simp [hp]
  | a :: l, i + 1, h, hp => by
    by_cases e : p a = true
    · have := takeWhile_short p l i (by simpa using h) (by simpa using hp)
      rw [List.takeWhile_cons_of_pos e]
      simp only [List.length_cons]
      omega
    · rw [List.takeWhile_cons_of_neg e]; simp
theorem Keys.cut {ks : List ByteArray} (h : Keys ks) (h2 : 2 ≤ ks.length) : 1 ≤ cutN (firstBit (headK ks) (lastK ks)) ks ∧ cutN (firstBit (headK ks) (lastK ks)) ks < ks.length := by
  obtain ⟨_, b0, b1, _⟩ := h.ends h2
  have e0 : headK ks = ks[0] := by simp [headK, List.getD_eq_getElem?_getD, show 0 < ks.length by omega]
  have e1 : lastK ks = ks[ks.length - 1] := by simp [lastK, List.getD_eq_getElem?_getD, show ks.length - 1 < ks.length by omega]
  generalize firstBit (headK ks) (lastK ks) = bit at b0 b1
  rw [e0] at b0
  rw [e1] at b1
  refine ⟨takeWhile_pos _ ks (by omega) (by simpa using b0), ?_⟩
  have := takeWhile_short (fun k => bitN k bit == 0) ks (ks.length - 1) (by omega) (by simp [b1])
  unfold cutN
  omega
/-- The forks of rising keys, from a place on. -/
def T (pl : ByteArray → List Int) : Nat → List ByteArray → Nat → List S74
  | 0, _, _ => []
  | f + 1, ks, off =>
    if ks.length = 0 then [] else if ks.length = 1 then [⟨headK ks, pl (headK ks), 0, 0, 0⟩] else
      ⟨⟨#[]⟩, [], (firstBit (headK ks) (lastK ks) : Nat), (off + 1 : Nat), (off + 1 + (T pl f (ks.take (cutN (firstBit (headK ks) (lastK ks)) ks)) (off + 1)).length : Nat)⟩ ::
        (T pl f (ks.take (cutN (firstBit (headK ks) (lastK ks)) ks)) (off + 1) ++ T pl f (ks.drop (cutN (firstBit (headK ks) (lastK ks)) ks)) (off + 1 + (T pl f (ks.take (cutN (firstBit (headK ks) (lastK ks)) ks)) (off + 1)).length))
theorem T_succ (pl : ByteArray → List Int) (f : Nat) (ks : List ByteArray) (off : Nat) : T pl (f + 1) ks off = if ks.length = 0 then [] else if ks.length = 1 then [⟨headK ks, pl (headK ks), 0, 0, 0⟩] else
      ⟨⟨#[]⟩, [], (firstBit (headK ks) (lastK ks) : Nat), (off + 1 : Nat), (off + 1 + (T pl f (ks.take (cutN (firstBit (headK ks) (lastK ks)) ks)) (off + 1)).length : Nat)⟩ ::
        (T pl f (ks.take (cutN (firstBit (headK ks) (lastK ks)) ks)) (off + 1) ++ T pl f (ks.drop (cutN (firstBit (headK ks) (lastK ks)) ks)) (off + 1 + (T pl f (ks.take (cutN (firstBit (headK ks) (lastK ks)) ks)) (off + 1)).length)) := rfl
theorem T_more (pl : ByteArray → List Int) : ∀ (f : Nat) (ks : List ByteArray) (off : Nat), Keys ks → ks.length ≤ f → T pl (f + 1) ks off = T pl f ks off
  | 0, ks, off, hk, hl => by rw [T_succ, if_pos (by omega)]; rfl
  | f + 1, ks, off, hk, hl => by
    rw [T_succ pl (f + 1) ks off, T_succ pl f ks off]
    by_cases h0 : ks.length = 0
    · rw [if_pos h0, if_pos h0]
    · by_cases h1 : ks.length = 1
      · rw [if_neg h0, if_neg h0, if_pos h1, if_pos h1]
      · rw [if_neg h0, if_neg h0, if_neg h1, if_neg h1]
        obtain ⟨c1, c2⟩ := hk.cut (by omega)
        rw [T_more pl f _ (off + 1) (hk.take _) (by rw [List.length_take]; omega)]
        rw [T_more pl f _ _ (hk.drop _) (by rw [List.length_drop]; omega)]
theorem T_any (pl : ByteArray → List Int) (ks : List ByteArray) (off : Nat) (hk : Keys ks) : ∀ d, T pl (ks.length + d) ks off = T pl ks.length ks off
  | 0 => rfl
  | d + 1 => by rw [← Nat.add_assoc, T_more pl _ ks off hk (by omega)]; exact T_any pl ks off hk d
/-- The forks of rising keys. -/
def tr (pl : ByteArray → List Int) (ks : List ByteArray) (off : Nat) : List S74 := T pl ks.length ks off
theorem T_tr (pl : ByteArray → List Int) (ks : List ByteArray) (off f : Nat) (hk : Keys ks) (hf : ks.length ≤ f) : T pl f ks off = tr pl ks off := by
  have := T_any pl ks off hk (f - ks.length)
  rwa [show ks.length + (f - ks.length) = f by omega] at this
def bitOf2 (ks : List ByteArray) : Nat := firstBit (headK ks) (lastK ks)
def cut2 (ks : List ByteArray) : Nat := cutN (bitOf2 ks) ks
theorem tr_nil (pl : ByteArray → List Int) (off : Nat) : tr pl [] off = [] := rfl
theorem tr_one (pl : ByteArray → List Int) (k : ByteArray) (off : Nat) : tr pl [k] off = [⟨k, pl k, 0, 0, 0⟩] := rfl
theorem tr_fork (pl : ByteArray → List Int) (ks : List ByteArray) (off : Nat) (hk : Keys ks) (h2 : 2 ≤ ks.length) :
    tr pl ks off = ⟨⟨#[]⟩, [], (bitOf2 ks : Nat), (off + 1 : Nat), (off + 1 + (tr pl (ks.take (cut2 ks)) (off + 1)).length : Nat)⟩ ::
      (tr pl (ks.take (cut2 ks)) (off + 1) ++ tr pl (ks.drop (cut2 ks)) (off + 1 + (tr pl (ks.take (cut2 ks)) (off + 1)).length)) := by
  have hc : 1 ≤ cut2 ks ∧ cut2 ks < ks.length := hk.cut h2
  obtain ⟨c1, c2⟩ := hc
  obtain ⟨n, hn⟩ : ∃ n, ks.length = n + 1 := ⟨ks.length - 1, by omega⟩
  have e1 := T_tr pl (ks.take (cut2 ks)) (off + 1) n (hk.take _) (by rw [List.length_take]; omega)
  have e2 := T_tr pl (ks.drop (cut2 ks)) (off + 1 + (tr pl (ks.take (cut2 ks)) (off + 1)).length) n (hk.drop _) (by rw [List.length_drop]; omega)
  conv => lhs; unfold tr
  rw [hn, T_succ pl n ks off, if_neg (by omega), if_neg (by omega)]
  show (⟨⟨#[]⟩, [], (bitOf2 ks : Nat), (off + 1 : Nat), (off + 1 + (T pl n (ks.take (cut2 ks)) (off + 1)).length : Nat)⟩ : S74) :: (T pl n (ks.take (cut2 ks)) (off + 1) ++ T pl n (ks.drop (cut2 ks)) (off + 1 + (T pl n (ks.take (cut2 ks)) (off + 1)).length)) = _
  rw [e1, e2]

theorem bitAt_N (a : ByteArray) (ha : a.size = 4) (i : Nat) (hi : i < 32) : bitAt a (i : Int) = ((bitN a i : Nat) : Int) := by
  unfold bitAt bitN bt
  have h1 : ((i : Int) / 8).toNat = i / 8 := by omega
  have h2 : (7 - (i : Int) % 8).toNat = 7 - i % 8 := by omega
  rw [h1, h2, dif_pos (show i / 8 < a.size by omega)]
  have e : a.data.toList.getD (i / 8) 0 = a[i / 8]'(by omega) := by
    have hl : i / 8 < a.data.toList.length := by show i / 8 < a.data.size; have : a.data.size = 4 := ha; omega
    rw [List.getD_eq_getElem?_getD, List.getElem?_eq_getElem hl]
    rfl
  rw [e, Int.natCast_emod, Int.natCast_ediv, Int.natCast_pow]
  rfl
theorem specBit (a : ByteArray) (ha : a.size = 4) (i : Nat) (hi : i < 32) : spec_l10Bit.f a (i : Int) = some ((bitN a i : Nat) : Int) := by rw [spec_bit a ha _ (by omega) (by omega), bitAt_N a ha i hi]
theorem implBit (a : ByteArray) (ha : a.size = 4) (i : Nat) (hi : i < 32) : impl_bitOf.f a (i : Int) = some ((bitN a i : Nat) : Int) := by rw [impl_bit a ha _ (by omega) (by omega), bitAt_N a ha i hi]
theorem bitN_two (a : ByteArray) (i : Nat) : bitN a i < 2 := Nat.mod_lt _ (by decide)
theorem unlikeBoth (a b : ByteArray) (ha : a.size = 4) (hb : b.size = 4) (i : Nat) (hi : i < 32) (hd : bitN a i ≠ bitN b i) (hj : ∀ j, j < i → bitN a j = bitN b j) (d : Nat) : ∀ (k j : Nat), j + d = i → d < k → spec_l10Unlike.l0 k a b (j : Int) = some (i : Int) ∧ impl_firstUnlike.l0 k a b (j : Int) = some (i : Int) := by
  induction d with
  | zero =>
    intro k j h hk
    obtain ⟨k, rfl⟩ : ∃ m, k = m + 1 := ⟨k - 1, by omega⟩
    obtain rfl : j = i := by omega
    simp only [spec_l10Unlike.l0, impl_firstUnlike.l0]
    rw [specBit a ha j hi, specBit b hb j hi, implBit a ha j hi, implBit b hb j hi]
    simp only [Option.bind_some]
    rw [if_neg (by omega), if_neg (by omega)]
    exact ⟨rfl, rfl⟩
  | succ d ih =>
    intro k j h hk
    obtain ⟨k, rfl⟩ : ∃ m, k = m + 1 := ⟨k - 1, by omega⟩
    simp only [spec_l10Unlike.l0, impl_firstUnlike.l0]
    rw [specBit a ha j (by omega), specBit b hb j (by omega), implBit a ha j (by omega), implBit b hb j (by omega)]
    simp only [Option.bind_some]
    have e := hj j (by omega)
    rw [if_pos (by omega), if_pos (by omega), w64 (by omega) (by omega)]
    have := ih k (j + 1) (by omega) (by omega)
    rwa [Int.natCast_add] at this
theorem unlikeS (a b : ByteArray) (ha : a.size = 4) (hb : b.size = 4) (i : Nat) (hi : i < 32) (hd : bitN a i ≠ bitN b i) (hj : ∀ j, j < i → bitN a j = bitN b j) : Ev (fun k => spec_l10Unlike.f k a b) (i : Int) :=
  Ev.of (fun k => spec_l10Unlike.mono a b k) (k := i + 1) (unlikeBoth a b ha hb i hi hd hj i (i + 1) 0 (by omega) (by omega)).1
theorem unlikeI (a b : ByteArray) (ha : a.size = 4) (hb : b.size = 4) (i : Nat) (hi : i < 32) (hd : bitN a i ≠ bitN b i) (hj : ∀ j, j < i → bitN a j = bitN b j) : Ev (fun k => impl_firstUnlike.f k a b) (i : Int) :=
  Ev.of (fun k => impl_firstUnlike.mono a b k) (k := i + 1) (unlikeBoth a b ha hb i hi hd hj i (i + 1) 0 (by omega) (by omega)).2

theorem tr_len (pl : ByteArray → List Int) : ∀ (n : Nat) (ks : List ByteArray) (off : Nat), ks.length = n → Keys ks → 1 ≤ n → (tr pl ks off).length + 1 = 2 * n := by
  intro n
  induction n using Nat.strongRecOn with
  | _ n ih =>
    intro ks off hl hk hn
    by_cases h1 : n = 1
    · obtain ⟨k, rfl⟩ : ∃ k, ks = [k] := by
        match ks, hl with
        | [k], _ => exact ⟨k, rfl⟩
        | [], h => simp at h; omega
        | _ :: _ :: _, h => simp at h; omega
      rw [tr_one]; simp [h1]
    · obtain ⟨c1, c2⟩ : 1 ≤ cut2 ks ∧ cut2 ks < ks.length := hk.cut (by omega)
      rw [tr_fork pl ks off hk (by omega), List.length_cons, List.length_append]
      have e1 := ih (cut2 ks) (by omega) (ks.take (cut2 ks)) (off + 1) (by rw [List.length_take]; omega) (hk.take _) c1
      have e2 := ih (ks.length - cut2 ks) (by omega) (ks.drop (cut2 ks)) (off + 1 + (tr pl (ks.take (cut2 ks)) (off + 1)).length) (by rw [List.length_drop]) (hk.drop _) (by omega)
      omega
theorem cut_at (ks : List ByteArray) (bit : Nat) (j : Nat) (hj : j < cutN bit ks) : ∃ h : j < ks.length, bitN ks[j] bit = 0 := by
  have h := Nat.lt_of_lt_of_le hj (cutN_le bit ks)
  refine ⟨h, ?_⟩
  have := List.takeWhile_prefix (l := ks) (fun k => bitN k bit == 0)
  have h2 := this.getElem hj
  have h3 : (ks.takeWhile fun k => bitN k bit == 0)[j] ∈ ks.takeWhile fun k => bitN k bit == 0 := List.getElem_mem hj
  have h4 := List.all_eq_true.1 (List.all_takeWhile (l := ks) (p := fun k => bitN k bit == 0)) _ h3
  rw [h2] at h4
  simpa using h4
theorem cut_end (ks : List ByteArray) (bit : Nat) (h : cutN bit ks < ks.length) : bitN (ks[cutN bit ks]) bit = 1 := by
  have h2 : ¬ (bitN (ks[cutN bit ks]) bit == 0) = true := by
    intro hc
    have : ∀ (l : List ByteArray) (h : (l.takeWhile fun k => bitN k bit == 0).length < l.length), ¬ (bitN (l[(l.takeWhile fun k => bitN k bit == 0).length]) bit == 0) = true := by
      intro l
      induction l with
      | nil => intro h; simp at h
      | cons a l ih =>
        intro h hc
        by_cases e : (bitN a bit == 0) = true
        · simp only [List.takeWhile_cons, e, if_true, List.length_cons] at h
          simp only [List.takeWhile_cons, e, if_true, List.length_cons, List.getElem_cons_succ] at hc
          exact ih (by omega) hc
        · simp only [List.takeWhile_cons, e] at hc
          exact e hc
    exact this ks h hc
  have := bitN_two (ks[cutN bit ks]) bit
  simp at h2
  omega
theorem rdK (ks : List ByteArray) (i : Nat) (h : i < ks.length) : rdOf ByteArray.empty ks (i : Int) = ks[i] := by simp [rdOf, List.getD_eq_getElem?_getD, List.getElem?_eq_getElem h]
theorem headK_of (ks : List ByteArray) (h : 0 < ks.length) : headK ks = ks[0] := by simp [headK, List.getD_eq_getElem?_getD, h]
theorem lastK_of (ks : List ByteArray) (h : 0 < ks.length) : lastK ks = ks[ks.length - 1] := by simp [lastK, List.getD_eq_getElem?_getD, show ks.length - 1 < ks.length by omega]
/-- The reference counts the keys on the side of the zero. -/
theorem cnt (ks : List ByteArray) (hk : Keys ks) (bit : Nat) (hb : bit < 32) (hc : cutN bit ks < ks.length) (hm : ks.length < 4000000000) (d : Nat) : ∀ (k j : Nat), j + d = cutN bit ks → d < k → bd_cnt k ks (bit : Int) (j : Int) = some ((cutN bit ks : Nat) : Int) := by
  induction d with
  | zero =>
    intro k j h hd
    obtain ⟨k, rfl⟩ : ∃ m, k = m + 1 := ⟨k - 1, by omega⟩
    obtain rfl : j = cutN bit ks := by omega
    rw [bd_cnt, if_pos (by omega), rdK _ _ hc, specBit _ (hk.four _ (List.getElem_mem _)) _ hb, Option.bind_some, cut_end ks bit hc, if_neg (by decide)]
  | succ d ih =>
    intro k j h hd
    obtain ⟨k, rfl⟩ : ∃ m, k = m + 1 := ⟨k - 1, by omega⟩
    obtain ⟨hj, hz⟩ := cut_at ks bit j (by omega)
    rw [bd_cnt, if_pos (by omega), rdK _ _ hj, specBit _ (hk.four _ (List.getElem_mem _)) _ hb, Option.bind_some, hz, if_pos (show ((0 : Nat) : Int) = 0 from rfl), w64 (by omega) (by omega)]
    have := ih k (j + 1) (by omega) (by omega)
    rwa [Int.natCast_add] at this
theorem ends_bits {ks : List ByteArray} (hk : Keys ks) (h2 : 2 ≤ ks.length) : bitOf2 ks < 32 ∧ bitN (headK ks) (bitOf2 ks) ≠ bitN (lastK ks) (bitOf2 ks) ∧ ∀ j, j < bitOf2 ks → bitN (headK ks) j = bitN (lastK ks) j := by
  obtain ⟨a, b, c, d⟩ := hk.ends h2
  exact ⟨a, by show bitN (headK ks) (firstBit (headK ks) (lastK ks)) ≠ bitN (lastK ks) (firstBit (headK ks) (lastK ks)); omega, d⟩
/-- What both builders do behind the left part: the fork's other place is filled in. -/
theorem fill (F L : List S74) (b a : Int) (x : S74) (hx : x = ⟨⟨#[]⟩, [], b, a, 0⟩) :
    ((F ++ [x] ++ L).set F.length { (rd_T74 (F ++ [x] ++ L) (F.length : Int)) with f4 := ((F ++ [x] ++ L).length : Int) }) = F ++ [⟨⟨#[]⟩, [], b, a, ((F.length + 1 + L.length : Nat) : Int)⟩] ++ L := by
  have e : rd_T74 (F ++ [x] ++ L) (F.length : Int) = x := by simp [rd_T74]
  rw [e, hx]
  simp
  omega
/-- The reference's builder. -/
theorem specBuild (l : List S51) (pl : ByteArray → List Int) : ∀ (n : Nat) (ks : List ByteArray) (F : List S74), ks.length = n → Keys ks → (∀ k ∈ ks, Ev (fun m => bd_pl m k l []) (pl k)) → F.length + 2 * n < 1000000000 → Ev (fun k => spec_l10Build.f k l ks F) (F ++ tr pl ks F.length) := by
  intro n
  induction n using Nat.strongRecOn with
  | _ n ih =>
    intro ks F hl hk hp hb
    by_cases h0 : n = 0
    · obtain rfl : ks = [] := List.eq_nil_of_length_eq_zero (by omega)
      rw [tr_nil, List.append_nil]
      exact Ev.step (fun k => by rw [spec_l10Build.f, if_pos (by simp)]) (Ev.now _)
    by_cases h1 : n = 1
    · obtain ⟨k, rfl⟩ : ∃ k, ks = [k] := by
        match ks, hl with
        | [k], _ => exact ⟨k, rfl⟩
        | [], h => simp at h; omega
        | _ :: _ :: _, h => simp at h; omega
      rw [tr_one]
      have e : rdOf ByteArray.empty [k] 0 = k := rfl
      exact Ev.step (fun m => by rw [spec_l10Build.f, if_neg (by simp), if_pos (by simp), e]) (Ev.bind (hp k (by simp)) (by simp only [show F.length < 1099511627776 by omega, if_true]; exact Ev.now _))
    · obtain ⟨c1, c2⟩ : 1 ≤ cut2 ks ∧ cut2 ks < ks.length := hk.cut (by omega)
      obtain ⟨hbit, hne, hlt⟩ := ends_bits hk (by omega)
      have e0 : rdOf ByteArray.empty ks 0 = headK ks := by rw [headK_of ks (by omega)]; exact rdK ks 0 (by omega)
      have e1 : rdOf ByteArray.empty ks ((ks.length : Int) - 1) = lastK ks := by rw [lastK_of ks (by omega), show (ks.length : Int) - 1 = ((ks.length - 1 : Nat) : Int) by omega]; exact rdK ks _ (by omega)
      have h4 : ∀ i (h : i < ks.length), ks[i].size = 4 := fun i h => hk.four _ (List.getElem_mem _)
      have hu := unlikeS (headK ks) (lastK ks) (by rw [headK_of ks (by omega)]; exact h4 _ _) (by rw [lastK_of ks (by omega)]; exact h4 _ _) (bitOf2 ks) hbit hne hlt
      have ec : cut2 ks = cutN (bitOf2 ks) ks := rfl
      have hc : Ev (fun m => bd_cnt m ks ((bitOf2 ks : Nat) : Int) 0) ((cut2 ks : Nat) : Int) := Ev.of (fun m => bd_cnt_mono m ks _ _) (k := cut2 ks + 1) (cnt ks hk (bitOf2 ks) hbit c2 (by omega) (cut2 ks) (cut2 ks + 1) 0 (by omega) (by omega))
      obtain ⟨x, hx⟩ : ∃ x : S74, x = ⟨⟨#[]⟩, [], ((bitOf2 ks : Nat) : Int), (F.length : Int) + 1, 0⟩ := ⟨_, rfl⟩
      have i1 := ih (cut2 ks) (by omega) (ks.take (cut2 ks)) (F ++ [x]) (by rw [List.length_take]; omega) (hk.take _) (fun k hk' => hp k (List.mem_of_mem_take hk')) (by rw [List.length_append, List.length_singleton]; omega)
      rw [List.length_append, List.length_singleton] at i1
      obtain ⟨L, hL⟩ : ∃ L, L = tr pl (ks.take (cut2 ks)) (F.length + 1) := ⟨_, rfl⟩
      rw [← hL] at i1
      have hLl : L.length + 1 = 2 * cut2 ks := by rw [hL]; exact tr_len pl (cut2 ks) (ks.take (cut2 ks)) (F.length + 1) (by rw [List.length_take]; omega) (hk.take _) c1
      obtain ⟨G, hG⟩ : ∃ G, G = F ++ [(⟨⟨#[]⟩, [], ((bitOf2 ks : Nat) : Int), ((F.length + 1 : Nat) : Int), ((F.length + 1 + L.length : Nat) : Int)⟩ : S74)] ++ L := ⟨_, rfl⟩
      have ea : (F.length : Int) + 1 = ((F.length + 1 : Nat) : Int) := by omega
      have hGl : G.length = F.length + 1 + L.length := by rw [hG, List.length_append, List.length_append, List.length_singleton]
      have i2 := ih (n - cut2 ks) (by omega) (ks.drop (cut2 ks)) G (by rw [List.length_drop]; omega) (hk.drop _) (fun k hk' => hp k (List.mem_of_mem_drop hk')) (by rw [hGl]; omega)
      have ht : F ++ tr pl ks F.length = G ++ tr pl (ks.drop (cut2 ks)) G.length := by
        rw [tr_fork pl ks F.length hk (by omega), ← hL, hGl, hG]
        simp
      rw [ht]
      refine Ev.step (fun k => by rw [spec_l10Build.f, if_neg (by omega), if_neg (by omega), e0, e1]) (Ev.bind hu (Ev.bind hc ?_))
      rw [Int.toNat_natCast]
      simp only [show (0 : Int) ≤ ((cut2 ks : Nat) : Int) ∧ ((cut2 ks : Nat) : Int) ≤ (ks.length : Int) ∧ F.length < 1099511627776 from ⟨by omega, by omega, by omega⟩, and_self, if_true, ← hx]
      refine Ev.bind i1 ?_
      have hlen : F.length < (F ++ [x] ++ L).length := by rw [List.length_append, List.length_append, List.length_singleton]; omega
      simp only [hlen, if_true, fill F L _ _ x hx]
      rw [ea, ← hG]
      exact i2

/-- Pairs by their keys. -/
def flat (pl : ByteArray → List Int) (ks : List ByteArray) : List S51 := ks.flatMap fun k => (pl k).map fun a => ⟨k, a⟩
theorem flat_cons (pl : ByteArray → List Int) (k : ByteArray) (ks : List ByteArray) : flat pl (k :: ks) = ((pl k).map fun a => (⟨k, a⟩ : S51)) ++ flat pl ks := rfl
theorem flat_append (pl : ByteArray → List Int) (a b : List ByteArray) : flat pl (a ++ b) = flat pl a ++ flat pl b := by simp [flat]
theorem flat_mem (pl : ByteArray → List Int) (ks : List ByteArray) (x : S51) : x ∈ flat pl ks ↔ x.f0 ∈ ks ∧ x.f1 ∈ pl x.f0 := by
  unfold flat
  rw [List.mem_flatMap]
  constructor
  · rintro ⟨k, hk, hx⟩
    obtain ⟨a, ha, rfl⟩ := List.mem_map.1 hx
    exact ⟨hk, ha⟩
  · rintro ⟨hk, ha⟩
    exact ⟨x.f0, hk, List.mem_map.2 ⟨x.f1, ha, rfl⟩⟩
theorem flat_head (pl : ByteArray → List Int) (k : ByteArray) (ks : List ByteArray) (h : pl k ≠ []) : ∃ a t, flat pl (k :: ks) = ⟨k, a⟩ :: t := by
  obtain ⟨a, m, e⟩ := List.exists_cons_of_ne_nil h
  exact ⟨a, m.map (fun a => ⟨k, a⟩) ++ flat pl ks, by rw [flat_cons, e]; rfl⟩
theorem flat_last (pl : ByteArray → List Int) : ∀ (ks : List ByteArray), ks ≠ [] → (∀ k ∈ ks, pl k ≠ []) → ∃ a, (flat pl ks).getLast? = some ⟨lastK ks, a⟩
  | [], h, _ => absurd rfl h
  | [k], _, h => by
    have h1 := h k (by simp)
    rw [flat_cons, show flat pl [] = [] from rfl, List.append_nil, List.getLast?_map, List.getLast?_eq_some_getLast h1]
    exact ⟨_, rfl⟩
  | k :: k2 :: ks, _, h => by
    obtain ⟨a, ha⟩ := flat_last pl (k2 :: ks) (by simp) (fun x hx => h x (List.mem_cons_of_mem _ hx))
    refine ⟨a, ?_⟩
    rw [flat_cons, List.getLast?_append, ha, show lastK (k :: k2 :: ks) = lastK (k2 :: ks) from by simp [lastK]]
    rfl
theorem grIx (bit : Int) (y : S51) (B : List S51) (hy : impl_bitOf.f y.f0 bit = some 1) : ∀ (A : List S51) (i : Int), (∀ x ∈ A, impl_bitOf.f x.f0 bit = some 0) → gr_ix bit (A ++ y :: B) i = some (i + A.length)
  | [], i, _ => by rw [List.nil_append, gr_ix, hy, Option.bind_some, if_pos rfl]; simp
  | x :: A, i, h => by
    rw [List.cons_append, gr_ix, h x (by simp), Option.bind_some, if_neg (by decide), grIx bit y B hy A (i + 1) (fun z hz => h z (List.mem_cons_of_mem _ hz))]
    simp; omega
theorem rdLast (s : List S51) (x : S51) (h : s.getLast? = some x) : rd_T51 s ((s.length : Int) - 1) = x := by
  rw [List.getLast?_eq_getElem?] at h
  unfold rd_T51
  rw [List.getD_eq_getElem?_getD, show ((s.length : Int) - 1).toNat = s.length - 1 by omega, h]
  rfl
/-- The program's builder. -/
theorem implGrown (pl : ByteArray → List Int) : ∀ (n : Nat) (ks : List ByteArray) (F : List S74), ks.length = n → Keys ks → (∀ k ∈ ks, pl k ≠ []) → F.length + 2 * n < 1000000000 → (flat pl ks).length < 1000000000 → Ev (fun k => impl_grown.f k F (flat pl ks)) (F ++ tr pl ks F.length) := by
  intro n
  induction n using Nat.strongRecOn with
  | _ n ih =>
    intro ks F hl hk hp hb hs
    by_cases h0 : n = 0
    · obtain rfl : ks = [] := List.eq_nil_of_length_eq_zero (by omega)
      rw [tr_nil, List.append_nil]
      exact Ev.step (fun k => by rw [impl_grown.f, if_pos (by simp [flat])]) (Ev.now _)
    have hne0 : ks ≠ [] := by rintro rfl; simp at hl; omega
    obtain ⟨k0, ks0, rfl⟩ := List.exists_cons_of_ne_nil hne0
    obtain ⟨a0, t0, e0⟩ := flat_head pl k0 ks0 (hp k0 (by simp))
    obtain ⟨a1, e1⟩ := flat_last pl (k0 :: ks0) hne0 hp
    have r0 : (rd_T51 (flat pl (k0 :: ks0)) 0).f0 = k0 := by rw [e0]; rfl
    have r1 : (rd_T51 (flat pl (k0 :: ks0)) (((flat pl (k0 :: ks0)).length : Int) - 1)).f0 = lastK (k0 :: ks0) := by rw [rdLast _ _ e1]
    have hpos : ¬ ((flat pl (k0 :: ks0)).length : Int) = 0 := by rw [e0]; simp; omega
    by_cases h1 : n = 1
    · obtain rfl : ks0 = [] := List.eq_nil_of_length_eq_zero (by simp at hl; omega)
      rw [tr_one]
      have em : (flat pl [k0]).map (fun x => x.f1) = pl k0 := by
        rw [flat_cons, show flat pl [] = [] from rfl, List.append_nil, List.map_map]
        exact List.map_id _
      refine Ev.step (f := fun _ => some (F ++ [⟨k0, pl k0, 0, 0, 0⟩])) (fun m => ?_) (Ev.now _)
      rw [impl_grown.f, if_neg hpos, r0, r1, show lastK [k0] = k0 from rfl, if_pos rfl, if_pos ⟨by omega, by omega⟩, em]
    · generalize hks : k0 :: ks0 = ks at *
      obtain ⟨c1, c2⟩ : 1 ≤ cut2 ks ∧ cut2 ks < ks.length := hk.cut (by omega)
      obtain ⟨hbit, hne, hlt⟩ := ends_bits hk (by omega)
      have ec : cut2 ks = cutN (bitOf2 ks) ks := rfl
      have h4 : ∀ i (h : i < ks.length), ks[i].size = 4 := fun i h => hk.four _ (List.getElem_mem _)
      have eh : k0 = headK ks := by rw [← hks]; rfl
      have hu := unlikeI (headK ks) (lastK ks) (by rw [headK_of ks (by omega)]; exact h4 _ _) (by rw [lastK_of ks (by omega)]; exact h4 _ _) (bitOf2 ks) hbit hne hlt
      have hkne : ¬ (headK ks).toList = (lastK ks).toList := by
        intro e
        rw [ByteArray.toList_eq, ByteArray.toList_eq] at e
        apply hne
        unfold bitN
        rw [e]
      -- the two parts
      obtain ⟨A, hA⟩ : ∃ A, A = flat pl (ks.take (cut2 ks)) := ⟨_, rfl⟩
      obtain ⟨B, hB⟩ : ∃ B, B = flat pl (ks.drop (cut2 ks)) := ⟨_, rfl⟩
      have hAB : flat pl ks = A ++ B := by rw [hA, hB, ← flat_append, List.take_append_drop]
      have hdc := List.drop_eq_getElem_cons c2
      obtain ⟨a2, t2, e2⟩ := flat_head pl ks[cut2 ks] (ks.drop (cut2 ks + 1)) (hp _ (List.getElem_mem _))
      rw [← hdc, ← hB] at e2
      have hy : impl_bitOf.f ks[cut2 ks] ((bitOf2 ks : Nat) : Int) = some 1 := by
        rw [implBit _ (h4 _ _) _ hbit]
        have := cut_end ks (bitOf2 ks) c2
        rw [show bitN (ks[cut2 ks]) (bitOf2 ks) = 1 from this]; rfl
      have hAx : ∀ x ∈ A, impl_bitOf.f x.f0 ((bitOf2 ks : Nat) : Int) = some 0 := by
        intro x hx
        rw [hA, flat_mem] at hx
        obtain ⟨j, hj, hje⟩ := List.mem_iff_getElem.1 hx.1
        rw [List.length_take] at hj
        rw [List.getElem_take] at hje
        obtain ⟨hjl, hz⟩ := cut_at ks (bitOf2 ks) j (by omega)
        rw [← hje, implBit _ (h4 _ _) _ hbit, hz]; rfl
      have hix : gr_ix ((bitOf2 ks : Nat) : Int) (flat pl ks) 0 = some ((A.length : Nat) : Int) := by
        rw [hAB, e2, grIx _ ⟨ks[cut2 ks], a2⟩ t2 hy A 0 hAx]; simp
      obtain ⟨x, hx⟩ : ∃ x : S74, x = ⟨⟨#[]⟩, [], ((bitOf2 ks : Nat) : Int), (F.length : Int) + 1, 0⟩ := ⟨_, rfl⟩
      have hABl : (flat pl ks).length = A.length + B.length := by rw [hAB, List.length_append]
      have i1 := ih (cut2 ks) (by omega) (ks.take (cut2 ks)) (F ++ [x]) (by rw [List.length_take]; omega) (hk.take _) (fun k hk' => hp k (List.mem_of_mem_take hk')) (by rw [List.length_append, List.length_singleton]; omega) (by rw [← hA]; omega)
      rw [List.length_append, List.length_singleton, ← hA] at i1
      obtain ⟨L, hL⟩ : ∃ L, L = tr pl (ks.take (cut2 ks)) (F.length + 1) := ⟨_, rfl⟩
      rw [← hL] at i1
      have hLl : L.length + 1 = 2 * cut2 ks := by rw [hL]; exact tr_len pl (cut2 ks) (ks.take (cut2 ks)) (F.length + 1) (by rw [List.length_take]; omega) (hk.take _) c1
      obtain ⟨G, hG⟩ : ∃ G, G = F ++ [(⟨⟨#[]⟩, [], ((bitOf2 ks : Nat) : Int), ((F.length + 1 : Nat) : Int), ((F.length + 1 + L.length : Nat) : Int)⟩ : S74)] ++ L := ⟨_, rfl⟩
      have ea : (F.length : Int) + 1 = ((F.length + 1 : Nat) : Int) := by omega
      have hGl : G.length = F.length + 1 + L.length := by rw [hG, List.length_append, List.length_append, List.length_singleton]
      have i2 := ih (n - cut2 ks) (by omega) (ks.drop (cut2 ks)) G (by rw [List.length_drop]; omega) (hk.drop _) (fun k hk' => hp k (List.mem_of_mem_drop hk')) (by rw [hGl]; omega) (by rw [← hB]; omega)
      rw [← hB] at i2
      have ht : F ++ tr pl ks F.length = G ++ tr pl (ks.drop (cut2 ks)) G.length := by
        rw [tr_fork pl ks F.length hk (by omega), ← hL, hGl, hG]
        simp
      rw [ht]
      refine Ev.step (fun k => by rw [impl_grown.f, if_neg hpos, r0, r1, eh, if_neg hkne]) (Ev.bind hu (Ev.bind (g := fun _ => gr_ix ((bitOf2 ks : Nat) : Int) (flat pl ks) 0) ⟨0, fun _ _ => hix⟩ ?_))
      rw [Int.toNat_natCast]
      simp only [show (0 : Int) ≤ ((A.length : Nat) : Int) ∧ ((A.length : Nat) : Int) ≤ ((A ++ B).length : Int) ∧ F.length < 1099511627776 from ⟨by omega, by rw [List.length_append]; omega, by omega⟩, and_self, if_true, ← hx, hAB, List.take_left, List.drop_left]
      refine Ev.bind i1 ?_
      have hlen : F.length < (F ++ [x] ++ L).length := by rw [List.length_append, List.length_append, List.length_singleton]; omega
      simp only [hlen, if_true, fill F L _ _ x hx]
      rw [ea, ← hG]
      exact i2

theorem less_eq : ∀ (x y : List UInt8), Op.bytesLess x y = decide (x < y)
  | [], [] => by simp [Op.bytesLess]
  | _ :: _, [] => by simp [Op.bytesLess]
  | [], _ :: _ => by simp [Op.bytesLess]
  | a :: x, b :: y => by
    rw [Op.bytesLess, less_eq x y]
    simp only [List.cons_lt_cons_iff]
    by_cases h1 : a < b <;> by_cases h2 : a = b <;> by_cases h3 : x < y <;> simp [h1, h2, h3]
theorem lex_lt_of {a b : List UInt8} (h : ¬ a < b) (hne : ¬ a = b) : b < a := by
  rcases List.le_total a b with h1 | h1
  · exact absurd (Std.lt_of_le_of_ne h1 hne) h
  · exact Std.lt_of_le_of_ne h1 (Ne.symm hne)
/-- The texts of a list of strings. -/
def tl (l : List ByteArray) : List (List UInt8) := l.map ByteArray.toList
theorem tl_rd (l : List ByteArray) (i : Int) (h0 : 0 ≤ i) (h1 : i < l.length) : (tl l)[i.toNat]? = some (rdOf ByteArray.empty l i).toList := by
  have hi : i.toNat < l.length := by omega
  simp [tl, rdOf, List.getD_eq_getElem?_getD, hi]

theorem insert_sorted (L : List (List UInt8)) (i : Nat) (s : List UInt8) (hs : L.Pairwise (· < ·)) (hlt : ∀ a ∈ L.take i, a < s) (hgt : ∀ a ∈ L.drop i, s < a) :
    (L.take i ++ [s] ++ L.drop i).Pairwise (· < ·) ∧ s ∉ L ∧ (L.take i ++ [s] ++ L.drop i).Perm (s :: L) := by
  have hsplit : L.take i ++ L.drop i = L := List.take_append_drop i L
  refine ⟨?_, ?_, ?_⟩
  · rw [← hsplit, List.pairwise_append] at hs
    rw [List.append_assoc, List.pairwise_append]
    refine ⟨hs.1, ?_, ?_⟩
    · rw [List.singleton_append, List.pairwise_cons]; exact ⟨hgt, hs.2.1⟩
    · intro a ha b hb
      rw [List.singleton_append, List.mem_cons] at hb
      rcases hb with rfl | hb
      · exact hlt a ha
      · exact hs.2.2 a ha b hb
  · intro hm
    rw [← hsplit, List.mem_append] at hm
    rcases hm with hm | hm
    · exact List.lt_irrefl s (hlt s hm)
    · exact List.lt_irrefl s (hgt s hm)
  · rw [List.append_assoc, List.singleton_append]
    refine List.perm_middle.trans ?_
    rw [hsplit]
/-- Putting a text to its place in a rising list. -/
theorem put_l0 (x : List ByteArray) (s : ByteArray) (hx : x.length < 4000000000) (hs : (tl x).Pairwise (· < ·)) (d : Nat) : ∀ (k : Nat) (i : Int), 0 ≤ i → i ≤ x.length → (x.length : Int) - i = d → d < k → (∀ a ∈ (tl x).take i.toNat, a < s.toList) →
    ∃ r, spec_l10Put.l0 k x s i = some r ∧ (tl r).Pairwise (· < ·) ∧ (s.toList ∈ tl x → tl r = tl x) ∧ (s.toList ∉ tl x → (tl r).Perm (s.toList :: tl x)) := by
  have build : ∀ i : Int, 0 ≤ i → i ≤ x.length → (∀ a ∈ (tl x).take i.toNat, a < s.toList) → (∀ a ∈ (tl x).drop i.toNat, s.toList < a) →
      (tl (([] ++ x.take i.toNat ++ [s]) ++ x.drop i.toNat)).Pairwise (· < ·) ∧ (s.toList ∈ tl x → tl (([] ++ x.take i.toNat ++ [s]) ++ x.drop i.toNat) = tl x) ∧ (s.toList ∉ tl x → (tl (([] ++ x.take i.toNat ++ [s]) ++ x.drop i.toNat)).Perm (s.toList :: tl x)) := by
    intro i h0 hi hlt hgt
    have e : tl (([] ++ x.take i.toNat ++ [s]) ++ x.drop i.toNat) = (tl x).take i.toNat ++ [s.toList] ++ (tl x).drop i.toNat := by simp [tl, List.map_take, List.map_drop]
    rw [e]
    obtain ⟨h1, h2, h3⟩ := insert_sorted (tl x) i.toNat s.toList hs hlt hgt
    exact ⟨h1, fun h => absurd h h2, fun _ => h3⟩
  induction d with
  | zero =>
    intro k i h0 hi hd hk hlt
    obtain ⟨k, rfl⟩ : ∃ m, k = m + 1 := ⟨k - 1, by omega⟩
    have hgt : ∀ a ∈ (tl x).drop i.toNat, s.toList < a := by
      rw [List.drop_of_length_le (by simp [tl]; omega)]; intro a ha; cases ha
    obtain ⟨h1, h2, h3⟩ := build i h0 hi hlt hgt
    refine ⟨_, ?_, h1, h2, h3⟩
    simp only [spec_l10Put.l0, Option.bind_some]
    rw [if_neg (by omega), if_pos h0, if_pos hi, if_pos (by simp; omega), if_pos (by simp; omega), if_pos (by simp; omega)]
  | succ d ih =>
    intro k i h0 hi hd hk hlt
    obtain ⟨k, rfl⟩ : ∃ m, k = m + 1 := ⟨k - 1, by omega⟩
    have hrd := tl_rd x i h0 (by omega)
    simp only [spec_l10Put.l0, Option.bind_some]
    rw [if_pos (by omega), if_pos h0, w64 (by omega) (by omega), less_eq]
    by_cases h1 : (rdOf ByteArray.empty x i).toList < s.toList
    · rw [if_pos (by simpa using h1)]
      refine ih k (i + 1) (by omega) (by omega) (by omega) (by omega) (fun a ha => ?_)
      rw [show (i + 1).toNat = i.toNat + 1 by omega, List.take_add_one, hrd] at ha
      rcases List.mem_append.1 ha with ha | ha
      · exact hlt a ha
      · simp at ha; rw [ha]; exact h1
    · rw [if_neg (by simpa using h1)]
      by_cases h2 : (rdOf ByteArray.empty x i).toList = s.toList
      · rw [if_pos h2]
        have hm : s.toList ∈ tl x := by rw [← h2]; exact List.mem_of_getElem? hrd
        exact ⟨x, rfl, hs, fun _ => rfl, fun h => absurd hm h⟩
      · rw [if_neg h2]
        have hlt2 := lex_lt_of h1 h2
        have hgt : ∀ a ∈ (tl x).drop i.toNat, s.toList < a := by
          have hd2 : (tl x).drop i.toNat = (rdOf ByteArray.empty x i).toList :: (tl x).drop (i.toNat + 1) := by
            obtain ⟨hlt3, he⟩ := List.getElem?_eq_some_iff.1 hrd
            rw [← he]; exact List.drop_eq_getElem_cons hlt3
          intro a ha
          have hp : ((tl x).drop i.toNat).Pairwise (· < ·) := hs.sublist (List.drop_sublist _ _)
          rw [hd2] at ha hp
          rcases List.mem_cons.1 ha with rfl | ha
          · exact hlt2
          · exact List.lt_trans hlt2 ((List.pairwise_cons.1 hp).1 a ha)
        obtain ⟨h3, h4, h5⟩ := build i h0 hi hlt hgt
        refine ⟨_, ?_, h3, h4, h5⟩
        rw [if_pos hi, if_pos (by simp; omega), if_pos (by simp; omega), if_pos (by simp; omega)]
theorem put (x : List ByteArray) (s : ByteArray) (hx : x.length < 4000000000) (hs : (tl x).Pairwise (· < ·)) :
    ∃ r, Ev (fun k => spec_l10Put.f k x s) r ∧ (tl r).Pairwise (· < ·) ∧ (s.toList ∈ tl x → tl r = tl x) ∧ (s.toList ∉ tl x → (tl r).Perm (s.toList :: tl x)) := by
  obtain ⟨r, h1, h2⟩ := put_l0 x s hx hs x.length (x.length + 1) 0 (by omega) (by omega) (by omega) (by omega) (by simp)
  exact ⟨r, Ev.of (fun k => spec_l10Put.mono x s k) h1, h2⟩

theorem contains_l0 (x : List ByteArray) (s : ByteArray) (hx : x.length < 4000000000) (d : Nat) : ∀ (k : Nat) (i : Int), 0 ≤ i → i ≤ x.length → (x.length : Int) - i = d → d < k →
    ∃ r : Int, slices_Index_string_string.l0 k x s x.length i = some r ∧ (decide (r ≥ 0) = decide (s.toList ∈ (tl x).drop i.toNat)) := by
  induction d with
  | zero =>
    intro k i h0 hi hd hk
    obtain ⟨k, rfl⟩ : ∃ m, k = m + 1 := ⟨k - 1, by omega⟩
    refine ⟨-1, by simp only [slices_Index_string_string.l0]; rw [if_neg (by omega)], ?_⟩
    rw [List.drop_of_length_le (by simp [tl]; omega)]; simp
  | succ d ih =>
    intro k i h0 hi hd hk
    obtain ⟨k, rfl⟩ : ∃ m, k = m + 1 := ⟨k - 1, by omega⟩
    have hrd := tl_rd x i h0 (by omega)
    have hd2 : (tl x).drop i.toNat = (rdOf ByteArray.empty x i).toList :: (tl x).drop (i.toNat + 1) := by
      obtain ⟨hlt3, he⟩ := List.getElem?_eq_some_iff.1 hrd
      rw [← he]; exact List.drop_eq_getElem_cons hlt3
    simp only [slices_Index_string_string.l0]
    rw [if_pos (by omega), if_pos h0, if_pos (by omega), w64 (by omega) (by omega), hd2]
    by_cases h : s.toList = (rdOf ByteArray.empty x i).toList
    · exact ⟨i, by rw [if_pos h], by rw [h]; simp; omega⟩
    · rw [if_neg h]
      obtain ⟨r, h1, h2⟩ := ih k (i + 1) (by omega) (by omega) (by omega) (by omega)
      refine ⟨r, h1, ?_⟩
      rw [h2, show (i + 1).toNat = i.toNat + 1 by omega]
      simp [h]
theorem contains (x : List ByteArray) (s : ByteArray) (hx : x.length < 4000000000) : Ev (fun k => slices_Contains_string_string.f k x s) (decide (s.toList ∈ tl x)) := by
  obtain ⟨r, h1, h2⟩ := contains_l0 x s hx x.length (x.length + 1) 0 (by omega) (by omega) (by omega) (by omega)
  rw [show (tl x).drop (0 : Int).toNat = tl x by simp] at h2
  unfold slices_Contains_string_string.f
  rw [← h2]
  exact Ev.bind (Ev.of (fun k => slices_Index_string_string.mono x s k) h1) (Ev.now _)
/-- Is a pair among others? -/
def among (m : List S51) (a : ByteArray) (b : Int) : Bool := m.any fun y => a.toList == y.f0.toList && b == y.f1
theorem among_drop (m : List S51) (a : ByteArray) (b : Int) (i : Int) (h0 : 0 ≤ i) (h1 : i < m.length) : among (m.drop i.toNat) a b = (((a.toList == (rd_T51 m i).f0.toList) && (b == (rd_T51 m i).f1)) || among (m.drop (i + 1).toNat) a b) := by
  have hi : i.toNat < m.length := by omega
  have e : rd_T51 m i = m[i.toNat] := by simp [rd_T51, List.getD_eq_getElem?_getD, hi]
  unfold among
  rw [List.drop_eq_getElem_cons hi, show (i + 1).toNat = i.toNat + 1 by omega, List.any_cons, e]
theorem pairIn_l0 (m : List S51) (a : ByteArray) (b : Int) (hm : m.length < 4000000000) (d : Nat) : ∀ (k : Nat) (i : Int), 0 ≤ i → i ≤ m.length → (m.length : Int) - i = d → d < k →
    ∃ r : Int, impl_Pair_98.l0 k m m.length i a b = some r ∧ decide (r ≥ 0) = among (m.drop i.toNat) a b := by
  induction d with
  | zero =>
    intro k i h0 hi hd hk
    obtain ⟨k, rfl⟩ : ∃ m, k = m + 1 := ⟨k - 1, by omega⟩
    refine ⟨-1, by simp only [impl_Pair_98.l0]; rw [if_neg (by omega)], ?_⟩
    rw [List.drop_of_length_le (by omega)]; simp [among]
  | succ d ih =>
    intro k i h0 hi hd hk
    obtain ⟨k, rfl⟩ : ∃ m, k = m + 1 := ⟨k - 1, by omega⟩
    simp only [impl_Pair_98.l0]
    rw [if_pos (by omega), if_pos h0, if_pos (by omega), w64 (by omega) (by omega), among_drop m a b i h0 (by omega)]
    by_cases h : ((a.toList == (rd_T51 m i).f0.toList) && (b == (rd_T51 m i).f1)) = true
    · exact ⟨i, by rw [if_pos h], by rw [h]; simp; omega⟩
    · rw [if_neg h]
      obtain ⟨r, h1, h2⟩ := ih k (i + 1) (by omega) (by omega) (by omega) (by omega)
      refine ⟨r, h1, ?_⟩
      rw [h2]
      simp only [Bool.not_eq_true] at h
      rw [h]; simp
theorem pairIn (m : List S51) (a : ByteArray) (b : Int) (hm : m.length < 4000000000) : Ev (fun k => impl_Pair_87.f k m a b) (among m a b) := by
  obtain ⟨r, h1, h2⟩ := pairIn_l0 m a b hm m.length (m.length + 1) 0 (by omega) (by omega) (by omega) (by omega)
  rw [show m.drop (0 : Int).toNat = m by simp] at h2
  unfold impl_Pair_87.f
  rw [← h2]
  exact Ev.bind (Ev.of (fun k => impl_Pair_98.mono m a b k) h1) (Ev.now _)
/-- The reference's inner loop. -/
theorem inner (l : List S51) (kt : List ByteArray) (i : Int) (m : List S51) (a : ByteArray) (b : Int) (hm : m.length < 4000000000) (r : Bool)
    (hr : among m a b = true → r = false) (hn : among m a b = false → Ev (fun k => (spec_l10Put.f k kt a).bind fun t => spec_GoodPairs.l0 k l t l l.length (wrap64 (i + 1))) r) (d : Nat) :
    ∀ j : Int, 0 ≤ j → j ≤ m.length → (m.length : Int) - j = d → among (m.take j.toNat) a b = false → Ev (fun k => spec_GoodPairs.l1 k l kt l l.length i m m.length j a b) r := by
  have hsplit : ∀ n : Nat, among m a b = (among (m.take n) a b || among (m.drop n) a b) := fun n => by
    unfold among; rw [← List.any_append, List.take_append_drop]
  induction d with
  | zero =>
    intro j h0 hj hd hno
    refine Ev.step (fun k => by rw [spec_GoodPairs.l1, if_neg (by omega)]) (hn ?_)
    rw [hsplit j.toNat, hno, List.drop_of_length_le (by omega)]; rfl
  | succ d ih =>
    intro j h0 hj hd hno
    have had := among_drop m a b j h0 (by omega)
    by_cases h : ((a.toList == (rd_T51 m j).f0.toList) && (b == (rd_T51 m j).f1)) = true
    · have hf : among m a b = true := by rw [hsplit j.toNat, had, h]; simp
      rw [hr hf]
      exact Ev.step (fun k => by rw [spec_GoodPairs.l1, if_pos (by omega), if_pos h0, if_pos (by omega), if_pos h]) (Ev.now _)
    · have hw : wrap64 (j + 1) = j + 1 := w64 (by omega) (by omega)
      refine Ev.step (fun k => by rw [spec_GoodPairs.l1, if_pos (by omega), if_pos h0, if_pos (by omega), if_neg h, hw]) (ih (j + 1) (by omega) (by omega) (by omega) ?_)
      have hi : j.toNat < m.length := by omega
      rw [show (j + 1).toNat = j.toNat + 1 by omega, List.take_add_one]
      unfold among at hno ⊢
      rw [List.any_append, hno]
      simp only [Bool.not_eq_true] at h
      simpa [rd_T51, List.getD_eq_getElem?_getD, hi] using h
/-- Both checks of a list of pairs give one answer. -/
theorem pairs_l0 (l : List S51) (hl : l.length < 2000000000) (d : Nat) : ∀ (i : Int) (kt ks : List ByteArray), 0 ≤ i → i ≤ l.length → (l.length : Int) - i = d → (tl kt).Pairwise (· < ·) → (tl ks).Perm (tl kt) → (kt.length : Int) ≤ i →
    ∃ b : Bool, Ev (fun k => spec_GoodPairs.l0 k l kt l l.length i) b ∧ Ev (fun k => impl_arePairs.l0 k l ks l l.length i) b := by
  induction d with
  | zero =>
    intro i kt ks h0 hi hd hs hp hkl
    have hlen : ks.length = kt.length := by have := hp.length_eq; simpa [tl] using this
    by_cases h : (l.length : Int) ≤ 60
    · refine ⟨decide ((kt.length : Int) ≤ 20), Ev.step (fun k => by rw [spec_GoodPairs.l0, if_neg (by omega), if_pos h]) (Ev.now _), Ev.step (fun k => by rw [impl_arePairs.l0, if_neg (by omega), if_pos h, hlen]) (Ev.now _)⟩
    · exact ⟨false, Ev.step (fun k => by rw [spec_GoodPairs.l0, if_neg (by omega), if_neg h]) (Ev.now _), Ev.step (fun k => by rw [impl_arePairs.l0, if_neg (by omega), if_neg h]) (Ev.now _)⟩
  | succ d ih =>
    intro i kt ks h0 hi hd hs hp hkl
    have hlen : ks.length = kt.length := by have := hp.length_eq; simpa [tl] using this
    have hw : wrap64 (i + 1) = i + 1 := w64 (by omega) (by omega)
    generalize hq : rd_T51 l i = q
    have badS : Ev (fun k => spec_GoodPairs.j1 k l kt i l l.length i true q.f0 q.f1) false := Ev.step (fun k => by rw [spec_GoodPairs.j1, if_pos rfl]) (Ev.now _)
    have badI : Ev (fun k => impl_arePairs.j1 k l ks l l.length i true q.f0 q.f1) false := Ev.step (fun k => by rw [impl_arePairs.j1, if_pos rfl]) (Ev.now _)
    by_cases h4 : (q.f0.size : Int) = 4
    · by_cases ha : q.f1 ≥ 0 ∧ q.f1 ≤ 10000
      · have hsS : ∀ b, Ev (fun k => spec_GoodPairs.j1 k l kt i l l.length i false q.f0 q.f1) b → Ev (fun k => spec_GoodPairs.l0 k l kt l l.length i) b := by
          intro b hb
          refine Ev.step (fun k => by rw [spec_GoodPairs.l0, if_pos (by omega), if_pos h0, if_pos (by omega), hq, if_pos h4, spec_l1In.f, if_pos ha.1, decide_eq_true ha.2]; rfl) hb
        have hsI : ∀ b, Ev (fun k => impl_arePairs.j1 k l ks l l.length i (among (l.take i.toNat) q.f0 q.f1) q.f0 q.f1) b → Ev (fun k => impl_arePairs.l0 k l ks l l.length i) b := by
          intro b hb
          refine Ev.step (fun k => by rw [impl_arePairs.l0, if_pos (by omega), if_pos h0, if_pos (by omega), hq, if_pos h4, impl_within.f, if_pos ha.1, decide_eq_true ha.2]) ?_
          simp only [Option.bind_some, if_true, if_pos hi]
          exact Ev.bind (pairIn (l.take i.toNat) q.f0 q.f1 (by simp; omega)) hb
        have hj1 : ∀ r : Bool, (among (l.take i.toNat) q.f0 q.f1 = true → r = false) → (among (l.take i.toNat) q.f0 q.f1 = false → Ev (fun k => (spec_l10Put.f k kt q.f0).bind fun t => spec_GoodPairs.l0 k l t l l.length (wrap64 (i + 1))) r) →
            Ev (fun k => spec_GoodPairs.j1 k l kt i l l.length i false q.f0 q.f1) r := by
          intro r hr hn
          refine Ev.step (fun k => by rw [spec_GoodPairs.j1, if_neg (by simp), if_pos h0, if_pos hi]) ?_
          simp only [Option.bind_some]
          exact inner l kt i (l.take i.toNat) q.f0 q.f1 (by simp; omega) r hr hn (l.take i.toNat).length 0 (by omega) (by omega) (by omega) (by simp [among])
        cases hin : among (l.take i.toNat) q.f0 q.f1 with
        | true => exact ⟨false, hsS _ (hj1 false (fun _ => rfl) (fun h => by rw [hin] at h; cases h)), hsI _ (by rw [hin]; exact badI)⟩
        | false =>
          obtain ⟨kt', hput, hs', hmem, hnew⟩ := put kt q.f0 (by omega) hs
          have hc := contains ks q.f0 (by omega)
          have hmi : q.f0.toList ∈ tl ks ↔ q.f0.toList ∈ tl kt := hp.mem_iff
          by_cases hk : q.f0.toList ∈ tl kt
          · have hkt' : kt'.length = kt.length := by have := congrArg List.length (hmem hk); simpa [tl] using this
            obtain ⟨b, h1, h2⟩ := ih (i + 1) kt' ks (by omega) (by omega) (by omega) hs' (by rw [hmem hk]; exact hp) (by omega)
            refine ⟨b, hsS _ (hj1 b (fun h => by rw [hin] at h; cases h) (fun _ => Ev.bind hput (by rw [hw]; exact h1))), hsI _ ?_⟩
            rw [hin]
            refine Ev.step (fun k => by rw [impl_arePairs.j1, if_neg (by simp)]) (Ev.bind hc ?_)
            simp only [decide_eq_true (hmi.2 hk), if_true, hw]
            exact h2
          · have hkt' : kt'.length = kt.length + 1 := by have := (hnew hk).length_eq; simpa [tl] using this
            obtain ⟨b, h1, h2⟩ := ih (i + 1) kt' (ks ++ [q.f0]) (by omega) (by omega) (by omega) hs' (by
              have e : tl (ks ++ [q.f0]) = tl ks ++ [q.f0.toList] := by simp [tl]
              rw [e]
              exact (List.perm_append_singleton _ _).trans ((hp.cons _).trans (hnew hk).symm)) (by omega)
            refine ⟨b, hsS _ (hj1 b (fun h => by rw [hin] at h; cases h) (fun _ => Ev.bind hput (by rw [hw]; exact h1))), hsI _ ?_⟩
            rw [hin]
            refine Ev.step (fun k => by rw [impl_arePairs.j1, if_neg (by simp)]) (Ev.bind hc ?_)
            simp only [decide_eq_false (fun h => hk (hmi.1 h)), Bool.false_eq_true, if_false, hw]
            simp only [if_pos (show ks.length < 8796093022208 by omega)]
            exact h2
      · have hf : (if q.f1 ≥ 0 then some (decide (q.f1 ≤ 10000)) else some false) = some false := by
          split
          · rw [decide_eq_false (fun h => ha ⟨by assumption, h⟩)]
          · rfl
        refine ⟨false, Ev.step (fun k => by rw [spec_GoodPairs.l0, if_pos (by omega), if_pos h0, if_pos (by omega), hq, if_pos h4, spec_l1In.f, hf]; rfl) badS, Ev.step (fun k => by rw [impl_arePairs.l0, if_pos (by omega), if_pos h0, if_pos (by omega), hq, if_pos h4, impl_within.f, hf, Option.bind_some, if_neg (by simp)]) badI⟩
    · exact ⟨false, Ev.step (fun k => by rw [spec_GoodPairs.l0, if_pos (by omega), if_pos h0, if_pos (by omega), hq, if_neg h4]) badS, Ev.step (fun k => by rw [impl_arePairs.l0, if_pos (by omega), if_pos h0, if_pos (by omega), hq, if_neg h4]) badI⟩
theorem goodPairs (l : List S51) (hl : l.length < 2000000000) : ∃ b, Ev (fun k => spec_GoodPairs.f k l) b ∧ Ev (fun k => impl_arePairs.f k l) b :=
  pairs_l0 l hl l.length 0 [] [] (by omega) (by omega) (by omega) (by simp [tl]) (by simp [tl]) (by simp)

theorem good_inner (l : List S51) (kt : List ByteArray) (i : Int) (m : List S51) (hm : m.length < 4000000000) (a : ByteArray) (b : Int) : ∀ (k : Nat) (j : Int), 0 ≤ j → j ≤ m.length → spec_GoodPairs.l1 k l kt l l.length i m m.length j a b = some true →
    among (m.drop j.toNat) a b = false ∧ ∃ k' kt', k' < k ∧ spec_l10Put.f k' kt a = some kt' ∧ spec_GoodPairs.l0 k' l kt' l l.length (wrap64 (i + 1)) = some true := by
  intro k
  induction k with
  | zero => intro j _ _ h; simp [spec_GoodPairs.l1] at h
  | succ k ih =>
    intro j h0 h1 h
    rw [spec_GoodPairs.l1] at h
    by_cases hj : j < (m.length : Int)
    · rw [if_pos hj, if_pos h0, if_pos hj] at h
      by_cases he : (a.toList == (rd_T51 m j).f0.toList && (b == (rd_T51 m j).f1)) = true
      · rw [if_pos he] at h; cases h
      · rw [if_neg he, w64 (by omega) (by omega)] at h
        obtain ⟨h2, k', kt', hk, h3⟩ := ih (j + 1) (by omega) (by omega) h
        refine ⟨?_, k', kt', by omega, h3⟩
        rw [among_drop m a b j h0 hj, h2, Bool.or_false]
        simpa using he
    · rw [if_neg hj] at h
      obtain ⟨kt', hp, h⟩ := Option.bind_eq_some_iff.1 h
      refine ⟨?_, k, kt', by omega, hp, h⟩
      rw [List.drop_of_length_le (by omega)]; rfl
/-- What a good list of pairs is. -/
theorem good_true (l : List S51) (hl : l.length < 2000000000) : ∀ (k : Nat) (i : Int) (kt : List ByteArray), 0 ≤ i → i ≤ l.length → spec_GoodPairs.l0 k l kt l l.length i = some true →
    l.length ≤ 60 ∧ (∀ j : Int, i ≤ j → j < l.length → (rd_T51 l j).f0.size = 4 ∧ 0 ≤ (rd_T51 l j).f1 ∧ (rd_T51 l j).f1 ≤ 10000 ∧ among (l.take j.toNat) (rd_T51 l j).f0 (rd_T51 l j).f1 = false) ∧ ∃ ks, Ev (fun k => spec_l10Keys.l0 k kt l l.length i) ks ∧ ks.length ≤ 20 := by
  intro k
  induction k using Nat.strongRecOn with
  | _ k ih =>
    intro i kt h0 h1 h
    cases k with
    | zero => simp [spec_GoodPairs.l0] at h
    | succ k =>
      rw [spec_GoodPairs.l0] at h
      by_cases hi : i < (l.length : Int)
      · rw [if_pos hi, if_pos h0, if_pos hi] at h
        generalize hq : rd_T51 l i = q at h
        have nb : ∀ k, spec_GoodPairs.j1 k l kt i l l.length i true q.f0 q.f1 = some true → False := by
          intro k h
          cases k with
          | zero => simp [spec_GoodPairs.j1] at h
          | succ k => rw [spec_GoodPairs.j1, if_pos rfl] at h; cases h
        by_cases h4 : (q.f0.size : Int) = 4
        · rw [if_pos h4] at h
          obtain ⟨t, ht, h⟩ := Option.bind_eq_some_iff.1 h
          cases t with
          | false => exact absurd h (nb k)
          | true =>
            have hr : 0 ≤ q.f1 ∧ q.f1 ≤ 10000 := by
              unfold spec_l1In.f at ht
              by_cases hge : q.f1 ≥ 0
              · rw [if_pos hge] at ht
                have := of_decide_eq_true (Option.some.inj ht)
                omega
              · rw [if_neg hge] at ht; cases ht
            cases k with
            | zero => simp [spec_GoodPairs.j1] at h
            | succ k =>
              rw [spec_GoodPairs.j1, if_neg (by decide), if_pos h0, if_pos h1, Option.bind_some] at h
              obtain ⟨ha, k', kt', hk', hp, h⟩ := good_inner l kt i (l.take i.toNat) (by rw [List.length_take]; omega) q.f0 q.f1 k 0 (by omega) (by omega) h
              rw [w64 (by omega) (by omega)] at h
              obtain ⟨g1, g2, ks, g3, g4⟩ := ih k' (by omega) (i + 1) kt' (by omega) (by omega) h
              refine ⟨g1, fun j hj1 hj2 => ?_, ks, ?_, g4⟩
              · by_cases e : j = i
                · subst e
                  rw [hq]
                  exact ⟨by omega, hr.1, hr.2, by simpa using ha⟩
                · exact g2 j (by omega) hj2
              · refine Ev.step (fun k => by rw [spec_l10Keys.l0, if_pos hi, if_pos h0, if_pos hi, hq, w64 (by omega) (by omega)]) (Ev.bind (Ev.of (fun k => spec_l10Put.mono kt q.f0 k) hp) g3)
        · rw [if_neg h4] at h
          exact absurd h (nb k)
      · rw [if_neg hi] at h
        by_cases h60 : (l.length : Int) ≤ 60
        · rw [if_pos h60] at h
          have := of_decide_eq_true (Option.some.inj h)
          refine ⟨by omega, fun j _ _ => by omega, kt, Ev.step (fun k => by rw [spec_l10Keys.l0, if_neg hi]) (Ev.now _), by omega⟩
        · rw [if_neg h60] at h; cases h

theorem Ev.uniq {α : Type} {g : Nat → Option α} {a b : α} (h : Ev g a) (k : Ev g b) : a = b := by
  obtain ⟨m, hm⟩ := h
  obtain ⟨n, hn⟩ := k
  have h1 := hm (max m n) (Nat.le_max_left _ _)
  rw [hn (max m n) (Nat.le_max_right _ _)] at h1
  exact (Option.some.inj h1).symm
theorem rdP (l : List S51) (i : Int) (h0 : 0 ≤ i) (h1 : i < l.length) : rd_T51 l i = l[i.toNat]'(by omega) := by simp [rd_T51, List.getD_eq_getElem?_getD, List.getElem?_eq_getElem (show i.toNat < l.length by omega)]
/-- The keys of pairs, rising. -/
theorem keysOf (l : List S51) (hl : l.length < 2000000000) (d : Nat) : ∀ (i : Int) (kt : List ByteArray), 0 ≤ i → i ≤ l.length → (l.length : Int) - i = d → (tl kt).Pairwise (· < ·) → (kt.length : Int) ≤ i →
    ∃ ks, Ev (fun k => spec_l10Keys.l0 k kt l l.length i) ks ∧ (tl ks).Pairwise (· < ·) ∧ ∀ s, s ∈ tl ks ↔ s ∈ tl kt ∨ ∃ x ∈ l.drop i.toNat, x.f0.toList = s := by
  induction d with
  | zero =>
    intro i kt h0 h1 hd hs hk
    refine ⟨kt, Ev.step (fun k => by rw [spec_l10Keys.l0, if_neg (by omega)]) (Ev.now _), hs, fun s => ?_⟩
    rw [List.drop_of_length_le (by omega)]; simp
  | succ d ih =>
    intro i kt h0 h1 hd hs hk
    have hi : i < (l.length : Int) := by omega
    obtain ⟨r, hr, hrs, hin, hout⟩ := put kt (rd_T51 l i).f0 (by omega) hs
    have hmem : ∀ s, s ∈ tl r ↔ s ∈ tl kt ∨ s = (rd_T51 l i).f0.toList := by
      intro s
      by_cases h : (rd_T51 l i).f0.toList ∈ tl kt
      · rw [hin h]; exact ⟨.inl, fun h2 => h2.elim id (fun e => e ▸ h)⟩
      · rw [(hout h).mem_iff, List.mem_cons]; exact Or.comm
    have hlen : r.length ≤ kt.length + 1 := by
      by_cases h : (rd_T51 l i).f0.toList ∈ tl kt
      · have := congrArg List.length (hin h); simp [tl] at this; omega
      · have := (hout h).length_eq; simp [tl] at this; omega
    obtain ⟨ks, e1, e2, e3⟩ := ih (i + 1) r (by omega) (by omega) (by omega) hrs (by omega)
    refine ⟨ks, Ev.step (fun k => by rw [spec_l10Keys.l0, if_pos hi, if_pos h0, if_pos hi, w64 (by omega) (by omega)]) (Ev.bind hr e1), e2, fun s => ?_⟩
    rw [e3, hmem, List.drop_eq_getElem_cons (show i.toNat < l.length by omega), show (i + 1).toNat = i.toNat + 1 by omega]
    rw [rdP l i h0 hi]
    simp only [List.mem_cons, exists_eq_or_imp]
    constructor
    · rintro ((h | h) | h)
      · exact .inl h
      · exact .inr (.inl h.symm)
      · exact .inr (.inr h)
    · rintro (h | h | h)
      · exact .inl (.inl h)
      · exact .inl (.inr h.symm)
      · exact .inr h
/-- The places of a key. -/
theorem placesOf (key : ByteArray) : ∀ (l : List S51) (acc : List Int), acc.length + l.length < 2000000000 → acc.Pairwise (· < ·) →
    ∃ r, Ev (fun k => bd_pl k key l acc) r ∧ r.Pairwise (· < ·) ∧ ∀ a, a ∈ r ↔ a ∈ acc ∨ ∃ x ∈ l, x.f0.toList = key.toList ∧ x.f1 = a
  | [], acc, _, hs => ⟨acc, Ev.now _, hs, fun a => by simp⟩
  | x :: l, acc, hb, hs => by
    simp only [List.length_cons] at hb
    by_cases h : x.f0.toList = key.toList
    · obtain ⟨r, hr, hrs, hm, hlen⟩ := putInt acc x.f1 (by omega) hs
      obtain ⟨r2, e1, e2, e3⟩ := placesOf key l r (by omega) hrs
      refine ⟨r2, ?_, e2, fun a => ?_⟩
      · have := Ev.bind hr e1
        exact Ev.congr (fun k => by rw [bd_pl, if_pos h]) this
      · rw [e3, hm]
        simp only [List.mem_cons, exists_eq_or_imp, h, true_and]
        constructor
        · rintro ((h | h) | h)
          · exact .inl h
          · exact .inr (.inl h.symm)
          · exact .inr (.inr h)
        · rintro (h | h | h)
          · exact .inl (.inl h)
          · exact .inl (.inr h.symm)
          · exact .inr h
    · obtain ⟨r2, e1, e2, e3⟩ := placesOf key l acc (by omega) hs
      refine ⟨r2, Ev.congr (fun k => by rw [bd_pl, if_neg h]) e1, e2, fun a => ?_⟩
      rw [e3]
      simp only [List.mem_cons, exists_eq_or_imp, h, false_and, false_or]
/-- Two lists in one strict order, with the same members, are one. -/
theorem sorted_ext {α : Type} {R : α → α → Prop} (hi : ∀ a, ¬ R a a) (ht : ∀ a b, R a b → R b a → False) : ∀ (a b : List α), a.Pairwise R → b.Pairwise R → (∀ x, x ∈ a ↔ x ∈ b) → a = b
  | [], [], _, _, _ => rfl
  | [], y :: b, _, _, h => absurd ((h y).2 (by simp)) (by simp)
  | x :: a, [], _, _, h => absurd ((h x).1 (by simp)) (by simp)
  | x :: a, y :: b, ha, hb, h => by
    have hx := List.pairwise_cons.1 ha
    have hy := List.pairwise_cons.1 hb
    have e : x = y := by
      rcases List.mem_cons.1 ((h x).1 (by simp)) with e | e
      · exact e
      · rcases List.mem_cons.1 ((h y).2 (by simp)) with e2 | e2
        · exact e2.symm
        · exact (ht _ _ (hx.1 y e2) (hy.1 x e)).elim
    subst e
    rw [sorted_ext hi ht a b hx.2 hy.2 (fun z => ?_)]
    constructor
    · intro hz
      rcases List.mem_cons.1 ((h z).1 (List.mem_cons_of_mem _ hz)) with e | e
      · subst e; exact absurd (hx.1 z hz) (hi z)
      · exact e
    · intro hz
      rcases List.mem_cons.1 ((h z).2 (List.mem_cons_of_mem _ hz)) with e | e
      · subst e; exact absurd (hy.1 z hz) (hi z)
      · exact e
theorem flat_sorted (pl : ByteArray → List Int) : ∀ (ks : List ByteArray), ks.Pairwise (fun a b => a.data.toList < b.data.toList) → (∀ k ∈ ks, (pl k).Pairwise (· < ·)) → (flat pl ks).Pairwise LtP
  | [], _, _ => List.Pairwise.nil
  | k :: ks, hk, hp => by
    have h := List.pairwise_cons.1 hk
    rw [flat_cons, List.pairwise_append]
    refine ⟨?_, flat_sorted pl ks h.2 (fun x hx => hp x (List.mem_cons_of_mem _ hx)), ?_⟩
    · rw [List.pairwise_map]
      exact (hp k (by simp)).imp (fun h => .inr ⟨rfl, h⟩)
    · intro x hx y hy
      obtain ⟨a, _, rfl⟩ := List.mem_map.1 hx
      exact .inl (h.1 _ ((flat_mem pl ks y).1 hy).1)
theorem sortP_mem (l : List S51) (x : S51) : x ∈ sortP l ↔ x ∈ l := (List.mergeSort_perm l _).mem_iff
theorem sortP_sorted (l : List S51) (hn : l.Pairwise (· ≠ ·)) : (sortP l).Pairwise LtP := by
  have h1 : (sortP l).Pairwise fun x y => (!(ltOf cfP) y x) = true := List.pairwise_mergeSort (fun a b c h k => by
    simp only [Bool.not_eq_true'] at h k ⊢
    rw [ltP_false] at h k ⊢
    intro h2
    rcases LtP.tri a b with e | e | e
    · exact k (h2.trans e)
    · subst e; exact k h2
    · exact h e) (fun a b => by
    cases h : ltOf cfP b a with
    | false => rfl
    | true =>
      have h3 : ltOf cfP a b = false := by
        rw [ltP_false]
        exact fun h2 => LtP.irrefl a (h2.trans ((ltP_iff _ _).1 h))
      simp [h3]) l
  have h2 : (sortP l).Pairwise (· ≠ ·) := (List.mergeSort_perm l _).symm.pairwise hn (fun h => Ne.symm h)
  refine (h1.and h2).imp (fun h => ?_)
  have h3 := h.1
  simp only [Bool.not_eq_true'] at h3
  rw [ltP_false] at h3
  rename_i a b
  rcases LtP.tri a b with e | e | e
  · exact e
  · exact absurd e h.2
  · exact absurd e h3

theorem good_nodup (l : List S51) (h : ∀ j : Int, 0 ≤ j → j < l.length → among (l.take j.toNat) (rd_T51 l j).f0 (rd_T51 l j).f1 = false) : l.Pairwise (· ≠ ·) := by
  rw [List.pairwise_iff_getElem]
  intro i j hi hj hij e
  have := h j (by omega) (by omega)
  rw [Int.toNat_natCast] at this
  unfold among at this
  rw [List.any_eq_false] at this
  have hm : l[i] ∈ l.take j := by
    rw [List.mem_iff_getElem]
    exact ⟨i, by rw [List.length_take]; omega, by rw [List.getElem_take]⟩
  apply this _ hm
  have e2 : rd_T51 l (j : Int) = l[j] := by rw [rdP l j (by omega) (by omega)]; simp
  rw [e2, ← e]
  simp
/-- The tree of good pairs: both programs build the same one. -/
structure Tree (l : List S51) (ks : List ByteArray) (pl : ByteArray → List Int) : Prop where
  keys : Keys ks
  few : ks.length ≤ 20
  full : ∀ k ∈ ks, pl k ≠ []
  rising : ∀ k ∈ ks, (pl k).Pairwise (· < ·)
  mem : ∀ x, x ∈ l ↔ x ∈ flat pl ks
  short : l.length ≤ 60
  flat_len : (flat pl ks).length ≤ 60
  range : ∀ x ∈ l, 0 ≤ x.f1 ∧ x.f1 ≤ 10000
  spec : Ev (fun k => spec_l10Index.f k l) (tr pl ks 0)
  impl : Ev (fun k => impl_indexOf.f k l) (tr pl ks 0)
theorem index_both (l : List S51) (hl : l.length < 2000000000) (k : Nat) (hg : spec_GoodPairs.f k l = some true) : ∃ ks pl, Tree l ks pl := by
  obtain ⟨h60, hall, ks, hks, h20⟩ := good_true l hl k 0 [] (by omega) (by omega) hg
  obtain ⟨ks2, e1, e2, e3⟩ := keysOf l hl l.length 0 [] (by omega) (by omega) (by omega) (by simp [tl]) (by simp)
  obtain rfl := Ev.uniq hks e1
  have hnd := good_nodup l (fun j h0 h1 => (hall j h0 h1).2.2.2)
  have hx : ∀ x ∈ l, x.f0.size = 4 ∧ 0 ≤ x.f1 ∧ x.f1 ≤ 10000 := by
    intro x hx
    obtain ⟨j, hj, rfl⟩ := List.mem_iff_getElem.1 hx
    have := hall j (by omega) (by omega)
    rw [rdP l j (by omega) (by omega)] at this
    simp only [Int.toNat_natCast] at this
    exact ⟨this.1, this.2.1, this.2.2.1⟩
  have hkm : ∀ s : List UInt8, s ∈ tl ks ↔ ∃ x ∈ l, x.f0.toList = s := by
    intro s; rw [e3]; simp [tl]
  have hback : ∀ key ∈ ks, ∃ x ∈ l, x.f0 = key := by
    intro key hkey
    obtain ⟨x, hxl, hxe⟩ := (hkm key.toList).1 (List.mem_map.2 ⟨key, hkey, rfl⟩)
    refine ⟨x, hxl, ?_⟩
    rw [ByteArray.toList_eq, ByteArray.toList_eq] at hxe
    exact ByteArray.ext (Array.toList_inj.1 hxe)
  have hkeys : Keys ks := by
    refine ⟨?_, fun key hkey => ?_⟩
    · unfold tl at e2
      rw [List.pairwise_map] at e2
      exact e2.imp (fun h => by rwa [ByteArray.toList_eq, ByteArray.toList_eq] at h)
    · obtain ⟨x, hxl, rfl⟩ := hback key hkey
      exact (hx x hxl).1
  have hpl : ∀ key, ∃ r, Ev (fun k => bd_pl k key l []) r ∧ r.Pairwise (· < ·) ∧ ∀ a, a ∈ r ↔ ∃ x ∈ l, x.f0.toList = key.toList ∧ x.f1 = a := by
    intro key
    obtain ⟨r, h1, h2, h3⟩ := placesOf key l [] (by simp; omega) List.Pairwise.nil
    exact ⟨r, h1, h2, fun a => by rw [h3]; simp⟩
  obtain ⟨pl, hp⟩ := Classical.axiomOfChoice hpl
  have hfull : ∀ k ∈ ks, pl k ≠ [] := by
    intro key hkey e
    obtain ⟨x, hxl, rfl⟩ := hback key hkey
    have := ((hp x.f0).2.2 x.f1).2 ⟨x, hxl, rfl, rfl⟩
    rw [e] at this; cases this
  have hmem : ∀ x, x ∈ l ↔ x ∈ flat pl ks := by
    intro x
    rw [flat_mem, (hp x.f0).2.2]
    constructor
    · intro h
      refine ⟨?_, x, h, rfl, rfl⟩
      have := (hkm x.f0.toList).2 ⟨x, h, rfl⟩
      obtain ⟨key, hkey, e⟩ := List.mem_map.1 this
      rw [ByteArray.toList_eq, ByteArray.toList_eq] at e
      rwa [ByteArray.ext (Array.toList_inj.1 e)] at hkey
    · rintro ⟨_, y, hy, e1, e2⟩
      rw [ByteArray.toList_eq, ByteArray.toList_eq] at e1
      have e3 : y.f0 = x.f0 := ByteArray.ext (Array.toList_inj.1 e1)
      have : x = y := by
        obtain ⟨a, b⟩ := x
        obtain ⟨a', b'⟩ := y
        simp only at e2 e3
        rw [e2, e3]
      rwa [this]
  have hsort : sortP l = flat pl ks := sorted_ext LtP.irrefl (fun a b h k => LtP.irrefl a (h.trans k)) _ _ (sortP_sorted l hnd) (flat_sorted pl ks hkeys.up (fun k _ => (hp k).2.1)) (fun x => by rw [sortP_mem, hmem])
  have hfl : (flat pl ks).length ≤ 60 := by rw [← hsort, sortP_length]; exact h60
  refine ⟨ks, pl, hkeys, h20, hfull, fun k _ => (hp k).2.1, hmem, h60, hfl, fun x hxl => (hx x hxl).2, ?_, ?_⟩
  · unfold spec_l10Index.f
    refine Ev.bind (f := fun k ks => spec_l10Build.f k l ks []) (a := ks) hks ?_
    · have := specBuild l pl ks.length ks [] rfl hkeys (fun k _ => (hp k).1) (by simp; omega)
      simpa using this
  · unfold impl_indexOf.f
    simp only [show l.length < 1000000000000 by omega, if_true, hsort]
    have := implGrown pl ks.length ks [] rfl hkeys hfull (by simp; omega) (by omega)
    simpa using this
/-- What is in the tree: forks without places, and the leaves of the keys. -/
theorem tr_mem (pl : ByteArray → List Int) : ∀ (n : Nat) (ks : List ByteArray) (off : Nat), ks.length = n → Keys ks → ∀ x ∈ tr pl ks off, (x.f0 = ⟨#[]⟩ ∧ x.f1 = []) ∨ (x.f0 ∈ ks ∧ x = ⟨x.f0, pl x.f0, 0, 0, 0⟩) := by
  intro n
  induction n using Nat.strongRecOn with
  | _ n ih =>
    intro ks off hl hk x hx
    by_cases h0 : n = 0
    · obtain rfl : ks = [] := List.eq_nil_of_length_eq_zero (by omega)
      rw [tr_nil] at hx; cases hx
    by_cases h1 : n = 1
    · obtain ⟨k, rfl⟩ : ∃ k, ks = [k] := by
        match ks, hl with
        | [k], _ => exact ⟨k, rfl⟩
        | [], h => simp at h; omega
        | _ :: _ :: _, h => simp at h; omega
      rw [tr_one, List.mem_singleton] at hx
      subst hx
      exact .inr ⟨by simp, rfl⟩
    · obtain ⟨c1, c2⟩ : 1 ≤ cut2 ks ∧ cut2 ks < ks.length := hk.cut (by omega)
      rw [tr_fork pl ks off hk (by omega), List.mem_cons, List.mem_append] at hx
      rcases hx with rfl | hx | hx
      · exact .inl ⟨rfl, rfl⟩
      · rcases ih (cut2 ks) (by omega) (ks.take (cut2 ks)) (off + 1) (by rw [List.length_take]; omega) (hk.take _) x hx with h | ⟨h, e⟩
        · exact .inl h
        · exact .inr ⟨List.mem_of_mem_take h, e⟩
      · rcases ih (ks.length - cut2 ks) (by omega) (ks.drop (cut2 ks)) _ (by rw [List.length_drop]) (hk.drop _) x hx with h | ⟨h, e⟩
        · exact .inl h
        · exact .inr ⟨List.mem_of_mem_drop h, e⟩
theorem flat_len_mem (pl : ByteArray → List Int) : ∀ (ks : List ByteArray) (k : ByteArray), k ∈ ks → (pl k).length ≤ (flat pl ks).length
  | a :: ks, k, h => by
    rw [flat_cons, List.length_append, List.length_map]
    rcases List.mem_cons.1 h with rfl | h
    · omega
    · have := flat_len_mem pl ks k h; omega
theorem tr_places {l : List S51} {ks : List ByteArray} {pl : ByteArray → List Int} (h : Tree l ks pl) (x : S74) (hx : x ∈ tr pl ks 0) : x.f1.length < 4000000000 := by
  rcases tr_mem pl ks.length ks 0 rfl h.keys x hx with ⟨_, e⟩ | ⟨hm, e⟩
  · rw [e]; simp
  · have h1 := flat_len_mem pl ks x.f0 hm
    have h2 := h.flat_len
    have h3 : x.f1 = pl x.f0 := by rw [e]
    rw [h3]; omega
theorem tr_small {l : List S51} {ks : List ByteArray} {pl : ByteArray → List Int} (h : Tree l ks pl) (x : S74) (hx : x ∈ tr pl ks 0) : x.f1.length ≤ 1048576 := by
  rcases tr_mem pl ks.length ks 0 rfl h.keys x hx with ⟨_, e⟩ | ⟨hm, e⟩
  · rw [e]; simp
  · have h1 := flat_len_mem pl ks x.f0 hm
    have h2 := h.flat_len
    have h3 : x.f1 = pl x.f0 := by rw [e]
    rw [h3]; omega
theorem tree_len {l : List S51} {ks : List ByteArray} {pl : ByteArray → List Int} (h : Tree l ks pl) : (tr pl ks 0).length ≤ 39 := by
  rcases Nat.eq_zero_or_pos ks.length with e | e
  · obtain rfl : ks = [] := List.eq_nil_of_length_eq_zero e
    simp [tr_nil]
  · have := tr_len pl ks.length ks 0 rfl h.keys e
    have := h.few
    omega
theorem tr_sixty {l : List S51} {ks : List ByteArray} {pl : ByteArray → List Int} (h : Tree l ks pl) (x : S74) (hx : x ∈ tr pl ks 0) : x.f1.length ≤ 60 := by
  rcases tr_mem pl ks.length ks 0 rfl h.keys x hx with ⟨_, e⟩ | ⟨hm, e⟩
  · rw [e]; simp
  · have h1 := flat_len_mem pl ks x.f0 hm
    have h2 := h.flat_len
    have h3 : x.f1 = pl x.f0 := by rw [e]
    rw [h3]; omega

/-- The pairs of forks. -/
def pairsF (l : List S74) : List S51 := l.flatMap fun x => x.f1.map fun a => ⟨x.f0, a⟩
theorem rdF (l : List S74) (i : Int) (h0 : 0 ≤ i) (h1 : i < l.length) : rd_T74 l i = l[i.toNat]'(by omega) := by simp [rd_T74, List.getD_eq_getElem?_getD, List.getElem?_eq_getElem (show i.toNat < l.length by omega)]
theorem rdI (l : List Int) (i : Int) (h0 : 0 ≤ i) (h1 : i < l.length) : rd l i = l[i.toNat]'(by omega) := by simp [rd, List.getD_eq_getElem?_getD, List.getElem?_eq_getElem (show i.toNat < l.length by omega)]
theorem pairsF_cons (x : S74) (l : List S74) : pairsF (x :: l) = (x.f1.map fun a => (⟨x.f0, a⟩ : S51)) ++ pairsF l := rfl
theorem pairsS_inner (f : List S74) (i : Int) (x : S74) (r : List S51) (hx : x.f1.length < 4000000000) (d : Nat) : ∀ (j : Int) (acc : List S51), 0 ≤ j → j ≤ x.f1.length → (x.f1.length : Int) - j = d → acc.length + d < 5000000000000 →
    Ev (fun k => spec_l10Pairs.l0 k (acc ++ (x.f1.drop j.toNat).map fun a => ⟨x.f0, a⟩) f f.length (wrap64 (i + 1))) r →
    Ev (fun k => spec_l10Pairs.l1 k acc f f.length i x.f1 x.f1.length j x.f0 x.f1 x.f2 x.f3 x.f4) r := by
  induction d with
  | zero =>
    intro j acc h0 h1 hd hb h
    rw [List.drop_of_length_le (by omega)] at h
    simp only [List.map_nil, List.append_nil] at h
    exact Ev.step (fun k => by rw [spec_l10Pairs.l1, if_neg (by omega)]) h
  | succ d ih =>
    intro j acc h0 h1 hd hb h
    refine Ev.step (fun k => by rw [spec_l10Pairs.l1, if_pos (by omega), if_pos h0, if_pos (by omega), if_pos (by omega), w64 (n := j + 1) (by omega) (by omega)]) (ih (j + 1) _ (by omega) (by omega) (by omega) (by simp; omega) ?_)
    rw [List.drop_eq_getElem_cons (show j.toNat < x.f1.length by omega)] at h
    rw [rdI x.f1 j h0 (by omega), show (j + 1).toNat = j.toNat + 1 by omega, List.append_assoc]
    exact h
theorem pairsS_l0 (f : List S74) (hf : f.length < 2000000000) (hs : ∀ x ∈ f, x.f1.length ≤ 1048576) (d : Nat) : ∀ (i : Int) (acc : List S51), 0 ≤ i → i ≤ f.length → (f.length : Int) - i = d → acc.length + (pairsF (f.drop i.toNat)).length < 4000000000 →
    Ev (fun k => spec_l10Pairs.l0 k acc f f.length i) (acc ++ pairsF (f.drop i.toNat)) := by
  induction d with
  | zero =>
    intro i acc h0 h1 hd hb
    rw [List.drop_of_length_le (by omega)]
    exact Ev.step (fun k => by rw [spec_l10Pairs.l0, if_neg (by omega)]) (by simp [pairsF]; exact Ev.now _)
  | succ d ih =>
    intro i acc h0 h1 hd hb
    have hi : i.toNat < f.length := by omega
    have hz := hs _ (List.getElem_mem hi)
    rw [List.drop_eq_getElem_cons hi, pairsF_cons] at hb ⊢
    rw [List.length_append, List.length_map] at hb
    refine Ev.step (fun k => by rw [spec_l10Pairs.l0, if_pos (by omega), if_pos h0, if_pos (by omega), rdF f i h0 (by omega)]) (pairsS_inner f i f[i.toNat] _ (by omega) f[i.toNat].f1.length 0 acc (by omega) (by omega) (by omega) (by omega) ?_)
    rw [w64 (by omega) (by omega), ← List.append_assoc, show i.toNat + 1 = (i + 1).toNat by omega]
    exact ih (i + 1) _ (by omega) (by omega) (by omega) (by rw [List.length_append, List.length_map, show (i + 1).toNat = i.toNat + 1 by omega]; simp; omega)
theorem pairsI_inner (f : List S74) (i : Int) (x : S74) (r : List S51) (hx : x.f1.length < 4000000000) (d : Nat) : ∀ (j : Int) (acc : List S51), 0 ≤ j → j ≤ x.f1.length → (x.f1.length : Int) - j = d → acc.length + d < 5000000000000 →
    Ev (fun k => impl_pairsIn.l0 k (acc ++ (x.f1.drop j.toNat).map fun a => ⟨x.f0, a⟩) f f.length (wrap64 (i + 1))) r →
    Ev (fun k => impl_pairsIn.l1 k acc f f.length i x.f1 x.f1.length j x.f0 x.f1 x.f2 x.f3 x.f4) r := by
  induction d with
  | zero =>
    intro j acc h0 h1 hd hb h
    rw [List.drop_of_length_le (by omega)] at h
    simp only [List.map_nil, List.append_nil] at h
    exact Ev.step (fun k => by rw [impl_pairsIn.l1, if_neg (by omega)]) h
  | succ d ih =>
    intro j acc h0 h1 hd hb h
    refine Ev.step (fun k => by rw [impl_pairsIn.l1, if_pos (by omega), if_pos h0, if_pos (by omega), if_pos (by omega), w64 (n := j + 1) (by omega) (by omega)]) (ih (j + 1) _ (by omega) (by omega) (by omega) (by simp; omega) ?_)
    rw [List.drop_eq_getElem_cons (show j.toNat < x.f1.length by omega)] at h
    rw [rdI x.f1 j h0 (by omega), show (j + 1).toNat = j.toNat + 1 by omega, List.append_assoc]
    exact h
theorem pairsI_l0 (f : List S74) (hf : f.length < 2000000000) (hs : ∀ x ∈ f, x.f1.length ≤ 1048576) (d : Nat) : ∀ (i : Int) (acc : List S51), 0 ≤ i → i ≤ f.length → (f.length : Int) - i = d → acc.length + (pairsF (f.drop i.toNat)).length < 4000000000 →
    Ev (fun k => impl_pairsIn.l0 k acc f f.length i) (acc ++ pairsF (f.drop i.toNat)) := by
  induction d with
  | zero =>
    intro i acc h0 h1 hd hb
    rw [List.drop_of_length_le (by omega)]
    exact Ev.step (fun k => by rw [impl_pairsIn.l0, if_neg (by omega)]) (by simp [pairsF]; exact Ev.now _)
  | succ d ih =>
    intro i acc h0 h1 hd hb
    have hi : i.toNat < f.length := by omega
    have hz := hs _ (List.getElem_mem hi)
    rw [List.drop_eq_getElem_cons hi, pairsF_cons] at hb ⊢
    rw [List.length_append, List.length_map] at hb
    refine Ev.step (fun k => by rw [impl_pairsIn.l0, if_pos (by omega), if_pos h0, if_pos (by omega), rdF f i h0 (by omega)]) (pairsI_inner f i f[i.toNat] _ (by omega) f[i.toNat].f1.length 0 acc (by omega) (by omega) (by omega) (by omega) ?_)
    rw [w64 (by omega) (by omega), ← List.append_assoc, show i.toNat + 1 = (i + 1).toNat by omega]
    exact ih (i + 1) _ (by omega) (by omega) (by omega) (by rw [List.length_append, List.length_map, show (i + 1).toNat = i.toNat + 1 by omega]; simp; omega)
theorem pairsBoth (f : List S74) (hf : f.length < 2000000000) (hs : ∀ x ∈ f, x.f1.length ≤ 1048576) (hp : (pairsF f).length < 2000000000) : Ev (fun k => spec_l10Pairs.f k f) (pairsF f) ∧ Ev (fun k => impl_pairsIn.f k f) (pairsF f) := by
  have h1 := pairsS_l0 f hf hs f.length 0 [] (by omega) (by omega) (by omega) (by simp; omega)
  have h2 := pairsI_l0 f hf hs f.length 0 [] (by omega) (by omega) (by omega) (by simp; omega)
  simp only [List.nil_append, Int.toNat_zero, List.drop_zero] at h1 h2
  exact ⟨h1, h2⟩
/-! Two lists of forks compared. -/
theorem intsEq_l0 (a b : List Int) (hl : a.length = b.length) (ha : a.length < 4000000000) (d : Nat) : ∀ (i : Int), 0 ≤ i → i ≤ a.length → (a.length : Int) - i = d → Ev (fun k => slices_Equal_int_int.l0 k a b a.length i) (decide (a.drop i.toNat = b.drop i.toNat)) := by
  induction d with
  | zero =>
    intro i h0 h1 hd
    rw [List.drop_of_length_le (by omega), List.drop_of_length_le (by omega)]
    exact Ev.step (fun k => by rw [slices_Equal_int_int.l0, if_neg (by omega)]) (by simp; exact Ev.now _)
  | succ d ih =>
    intro i h0 h1 hd
    rw [List.drop_eq_getElem_cons (show i.toNat < a.length by omega), List.drop_eq_getElem_cons (show i.toNat < b.length by omega)]
    by_cases h : a[i.toNat]'(by omega) = b[i.toNat]'(by omega)
    · refine Ev.step (fun k => by rw [slices_Equal_int_int.l0, if_pos (by omega), if_pos h0, if_pos (by omega), if_pos (by omega), rdI a i h0 (by omega), rdI b i h0 (by omega), if_pos h, w64 (by omega) (by omega)]) ?_
      have := ih (i + 1) (by omega) (by omega) (by omega)
      rw [show (i + 1).toNat = i.toNat + 1 by omega] at this
      rw [decide_eq_decide.2 (show (a[i.toNat]'(by omega) :: List.drop (i.toNat + 1) a = b[i.toNat]'(by omega) :: List.drop (i.toNat + 1) b) ↔ List.drop (i.toNat + 1) a = List.drop (i.toNat + 1) b from by rw [List.cons.injEq]; exact and_iff_right h)]
      exact this
    · refine Ev.step (fun k => by rw [slices_Equal_int_int.l0, if_pos (by omega), if_pos h0, if_pos (by omega), if_pos (by omega), rdI a i h0 (by omega), rdI b i h0 (by omega), if_neg h]) ?_
      rw [decide_eq_false (fun e => h (List.cons.inj e).1)]
      exact Ev.now _
theorem intsEq (a b : List Int) (ha : a.length < 4000000000) : Ev (fun k => slices_Equal_int_int.f k a b) (decide (a = b)) := by
  unfold slices_Equal_int_int.f
  by_cases h : (a.length : Int) = (b.length : Int)
  · simp only [h, if_true]
    have := intsEq_l0 a b (by omega) ha a.length 0 (by omega) (by omega) (by omega)
    rw [h] at this
    simpa using this
  · simp only [h, if_false]
    have : ¬ a = b := fun e => h (by rw [e])
    simp [this]; exact Ev.now _
def sameFork (x y : S74) : Bool := x.f0.toList == y.f0.toList && (decide (x.f1 = y.f1) && (x.f2 == y.f2 && (x.f3 == y.f3 && x.f4 == y.f4)))
def sameF : List S74 → List S74 → Bool
  | x :: a, y :: b => sameFork x y && sameF a b
  | _, _ => true
theorem sameFork_eq (x y : S74) : sameFork x y = true ↔ x = y := by
  unfold sameFork
  obtain ⟨⟨⟨a⟩⟩, b, c, d, e⟩ := x
  obtain ⟨⟨⟨a'⟩⟩, b', c', d', e'⟩ := y
  simp only [Bool.and_eq_true, beq_iff_eq, decide_eq_true_eq, ByteArray.toList_eq]
  constructor
  · rintro ⟨h1, h2, h3, h4, h5⟩
    subst h1; subst h2; subst h3; subst h4; subst h5; rfl
  · intro h
    injection h with h1 h2 h3 h4 h5
    injection h1 with h1
    injection h1 with h1
    exact ⟨h1, h2, h3, h4, h5⟩
theorem sameFork_comm (x y : S74) : sameFork x y = sameFork y x := by
  rw [Bool.eq_iff_iff, sameFork_eq, sameFork_eq]
  exact eq_comm
theorem sameF_comm : ∀ a b, sameF a b = sameF b a
  | x :: a, y :: b => by rw [sameF, sameF, sameFork_comm, sameF_comm a b]
  | [], [] => rfl
  | [], _ :: _ => rfl
  | _ :: _, [] => rfl
theorem sameF_eq : ∀ a b : List S74, a.length = b.length → (sameF a b = true ↔ a = b)
  | x :: a, y :: b, h => by rw [sameF, Bool.and_eq_true, sameFork_eq, sameF_eq a b (by simpa using h), List.cons.injEq]
  | [], [], _ => by simp [sameF]
  | [], _ :: _, h => by simp at h
  | _ :: _, [], h => by simp at h
theorem isIndex1 (x y : S74) (hx : x.f1.length < 4000000000) : Ev (fun k => impl_isIndex_1.f k x.f0 x.f1 x.f2 x.f3 x.f4 y.f0 y.f1 y.f2 y.f3 y.f4) (sameFork x y) := by
  unfold impl_isIndex_1.f sameFork
  by_cases h0 : x.f0.toList = y.f0.toList
  · simp only [h0, if_true]
    refine Ev.bind (intsEq x.f1 y.f1 hx) ?_
    by_cases h1 : x.f1 = y.f1
    · simp only [h1, decide_true, if_true]
      by_cases h2 : x.f2 = y.f2
      · simp only [h2, if_true]
        by_cases h3 : x.f3 = y.f3
        · simp only [h3, if_true, beq_self_eq_true, Bool.true_and]; exact Ev.now _
        · simp only [h3, if_false, beq_self_eq_true, Bool.true_and, beq_false_of_ne h3, Bool.false_and]; exact Ev.now _
      · simp only [h2, if_false, beq_self_eq_true, Bool.true_and, beq_false_of_ne h2, Bool.false_and]; exact Ev.now _
    · simp only [h1, decide_false, Bool.false_and, Bool.and_false, Bool.false_eq_true, if_false]; exact Ev.now _
  · simp only [h0, if_false, beq_false_of_ne h0, Bool.false_and]; exact Ev.now _
theorem equalF : ∀ (a b : List S74), (∀ x ∈ a, x.f1.length < 4000000000) → Ev (fun k => impl_Fork.l k a b) (sameF a b)
  | x :: a, y :: b, h => by
    refine Ev.congr (fun k => by rw [impl_Fork.l]) (Ev.bind (isIndex1 x y (h x (by simp))) ?_)
    rw [sameF]
    cases sameFork x y with
    | false => simp; exact Ev.now _
    | true => simp; exact equalF a b (fun z hz => h z (List.mem_cons_of_mem _ hz))
  | [], b, _ => ⟨0, fun k _ => by cases b <;> rfl⟩
  | x :: a, [], _ => ⟨0, fun k _ => rfl⟩
theorem sameS_inner (T f : List S74) (i : Int) (a : List Int) (y : S74) (hl : a.length = y.f1.length) (ha : a.length < 4000000000) (r : Bool) (hr : Ev (fun k => spec_l10Same.l0 k T f f.length (wrap64 (i + 1))) r) (d : Nat) : ∀ (j : Int), 0 ≤ j → j ≤ a.length → (a.length : Int) - j = d →
    Ev (fun k => spec_l10Same.l1 k T f f.length i a a.length j y.f0 y.f1 y.f2 y.f3 y.f4) (decide (a.drop j.toNat = y.f1.drop j.toNat) && r) := by
  induction d with
  | zero =>
    intro j h0 h1 hd
    rw [List.drop_of_length_le (by omega), List.drop_of_length_le (by omega)]
    exact Ev.step (fun k => by rw [spec_l10Same.l1, if_neg (by omega)]) (by simpa using hr)
  | succ d ih =>
    intro j h0 h1 hd
    rw [List.drop_eq_getElem_cons (show j.toNat < a.length by omega), List.drop_eq_getElem_cons (show j.toNat < y.f1.length by omega)]
    by_cases h : a[j.toNat]'(by omega) = y.f1[j.toNat]'(by omega)
    · refine Ev.step (fun k => by rw [spec_l10Same.l1, if_pos (by omega), if_pos h0, if_pos (by omega), if_pos (by omega), rdI a j h0 (by omega), rdI y.f1 j h0 (by omega), if_pos h.symm, w64 (n := j + 1) (by omega) (by omega)]) ?_
      have := ih (j + 1) (by omega) (by omega) (by omega)
      rw [show (j + 1).toNat = j.toNat + 1 by omega] at this
      rw [decide_eq_decide.2 (show (a[j.toNat]'(by omega) :: List.drop (j.toNat + 1) a = y.f1[j.toNat]'(by omega) :: List.drop (j.toNat + 1) y.f1) ↔ List.drop (j.toNat + 1) a = List.drop (j.toNat + 1) y.f1 from by rw [List.cons.injEq]; exact and_iff_right h)]
      exact this
    · refine Ev.step (fun k => by rw [spec_l10Same.l1, if_pos (by omega), if_pos h0, if_pos (by omega), if_pos (by omega), rdI a j h0 (by omega), rdI y.f1 j h0 (by omega), if_neg (Ne.symm h)]) ?_
      rw [decide_eq_false (fun e => h (List.cons.inj e).1), Bool.false_and]
      exact Ev.now _
theorem sameS_l0 (T f : List S74) (hl : f.length = T.length) (hf : f.length < 2000000000) (hs : ∀ x ∈ f, x.f1.length < 4000000000) (d : Nat) : ∀ (i : Int), 0 ≤ i → i ≤ f.length → (f.length : Int) - i = d → Ev (fun k => spec_l10Same.l0 k T f f.length i) (sameF (f.drop i.toNat) (T.drop i.toNat)) := by
  induction d with
  | zero =>
    intro i h0 h1 hd
    rw [List.drop_of_length_le (by omega), List.drop_of_length_le (by omega)]
    exact Ev.step (fun k => by rw [spec_l10Same.l0, if_neg (by omega)]; rfl) (Ev.now _)
  | succ d ih =>
    intro i h0 h1 hd
    have hi : i.toNat < f.length := by omega
    rw [List.drop_eq_getElem_cons hi, List.drop_eq_getElem_cons (show i.toNat < T.length by omega), sameF]
    have hz := hs _ (List.getElem_mem hi)
    have hn := ih (i + 1) (by omega) (by omega) (by omega)
    rw [show (i + 1).toNat = i.toNat + 1 by omega] at hn
    have ex := rdF f i h0 (by omega)
    have ey := rdF T i h0 (by omega)
    generalize f[i.toNat]'hi = x at *
    generalize T[i.toNat]'(by omega) = y at *
    have hbad : ∀ a0 a1 a2 a3 a4 b0 b1 b2 b3 b4, Ev (fun k => spec_l10Same.j1 k T f f.length i true a0 a1 a2 a3 a4 b0 b1 b2 b3 b4) false := fun _ _ _ _ _ _ _ _ _ _ => Ev.step (fun k => by rw [spec_l10Same.j1, if_pos rfl]) (Ev.now _)
    unfold sameFork
    by_cases c0 : x.f0.toList = y.f0.toList
    · by_cases c2 : x.f2 = y.f2
      · by_cases c3 : x.f3 = y.f3
        · by_cases c4 : x.f4 = y.f4
          · refine Ev.step (fun k => by rw [spec_l10Same.l0, if_pos (by omega), if_pos h0, if_pos (by omega), if_pos (by omega), ex, ey, if_pos c0, if_pos c2, if_pos c3, if_pos c4]) ?_
            by_cases cl : x.f1.length = y.f1.length
            · have cb : (x.f1.length != y.f1.length) = false := by rw [cl]; exact bne_self_eq_false _
              refine Ev.step (fun k => by rw [spec_l10Same.j1, cb, if_neg (by decide)]) ?_
              have := sameS_inner T f i x.f1 y cl hz _ (by rw [w64 (by omega) (by omega)]; exact hn) x.f1.length 0 (by omega) (by omega) (by omega)
              simpa [c0, c2, c3, c4] using this
            · have cb : (x.f1.length != y.f1.length) = true := bne_iff_ne.2 cl
              rw [cb]
              have : decide (x.f1 = y.f1) = false := decide_eq_false (fun e => cl (by rw [e]))
              rw [this, Bool.false_and, Bool.and_false, Bool.false_and]
              exact hbad _ _ _ _ _ _ _ _ _ _
          · refine Ev.step (fun k => by rw [spec_l10Same.l0, if_pos (by omega), if_pos h0, if_pos (by omega), if_pos (by omega), ex, ey, if_pos c0, if_pos c2, if_pos c3, if_neg c4]) ?_
            rw [beq_false_of_ne c4]; simp only [Bool.and_false, Bool.false_and]; exact hbad _ _ _ _ _ _ _ _ _ _
        · refine Ev.step (fun k => by rw [spec_l10Same.l0, if_pos (by omega), if_pos h0, if_pos (by omega), if_pos (by omega), ex, ey, if_pos c0, if_pos c2, if_neg c3]) ?_
          rw [beq_false_of_ne c3]; simp only [Bool.and_false, Bool.false_and]; exact hbad _ _ _ _ _ _ _ _ _ _
      · refine Ev.step (fun k => by rw [spec_l10Same.l0, if_pos (by omega), if_pos h0, if_pos (by omega), if_pos (by omega), ex, ey, if_pos c0, if_neg c2]) ?_
        rw [beq_false_of_ne c2]; simp only [Bool.and_false, Bool.false_and]; exact hbad _ _ _ _ _ _ _ _ _ _
    · refine Ev.step (fun k => by rw [spec_l10Same.l0, if_pos (by omega), if_pos h0, if_pos (by omega), if_pos (by omega), ex, ey, if_neg c0]) ?_
      rw [beq_false_of_ne c0]; simp only [Bool.false_and]; exact hbad _ _ _ _ _ _ _ _ _ _

/-- Both programs hold the same lists of forks to be good: those that are the tree of their pairs. -/
theorem goodIndex (f : List S74) (hf : f.length ≤ 1048576) (hs : ∀ x ∈ f, x.f1.length ≤ 1048576) (hp : (pairsF f).length ≤ 1048576) :
    ∃ b, Ev (fun k => spec_GoodIndex.f k f) b ∧ Ev (fun k => impl_isIndex.f k f) b ∧ (b = true → ∃ ks pl, Tree (pairsF f) ks pl ∧ f = tr pl ks 0) := by
  obtain ⟨p1, p2⟩ := pairsBoth f (by omega) hs (by omega)
  obtain ⟨b0, g1, g2⟩ := goodPairs (pairsF f) (by omega)
  unfold spec_GoodIndex.f impl_isIndex.f
  cases b0 with
  | false =>
    refine ⟨false, Ev.bind p1 (Ev.bind g1 (Ev.now _)), Ev.bind p2 ?_, fun h => by cases h⟩
    by_cases h : (f.length : Int) ≤ 40
    · simp only [h, if_true]; exact Ev.bind g2 (Ev.now _)
    · simp only [h, if_false]; exact Ev.now _
  | true =>
    obtain ⟨k0, hk0⟩ := Ev.rounds g1
    obtain ⟨ks, pl, ht⟩ := index_both (pairsF f) (by omega) k0 hk0
    have hl := tree_len ht
    by_cases he : f.length = (tr pl ks 0).length
    · refine ⟨sameF f (tr pl ks 0), Ev.bind p1 (Ev.bind g1 ?_), Ev.bind p2 ?_, fun h => ⟨ks, pl, ht, (sameF_eq _ _ he).1 h⟩⟩
      · simp only [if_true]
        refine Ev.bind ht.spec (Ev.bind (a := sameF f (tr pl ks 0)) ?_ (Ev.now _))
        unfold spec_l10Same.f
        simp only [show (f.length : Int) = ((tr pl ks 0).length : Int) by omega, if_true]
        have := sameS_l0 (tr pl ks 0) f he (by omega) (fun x hx => by have := hs x hx; omega) f.length 0 (by omega) (by omega) (by omega)
        simpa [he] using this
      · simp only [show (f.length : Int) ≤ 40 by omega, if_true]
        refine Ev.bind g2 ?_
        simp only [if_true]
        refine Ev.bind ht.impl (Ev.bind (a := sameF f (tr pl ks 0)) ?_ (Ev.now _))
        unfold impl_Fork.f
        simp only [show ((tr pl ks 0).length : Int) = (f.length : Int) by omega, if_true]
        rw [sameF_comm]
        have hfl : (flat pl ks).length ≤ 60 := ht.flat_len
        exact equalF (tr pl ks 0) f (fun x hx => tr_places ht x hx)
    · have hne : ¬ (f.length : Int) = ((tr pl ks 0).length : Int) := by omega
      refine ⟨false, Ev.bind p1 (Ev.bind g1 ?_), Ev.bind p2 ?_, fun h => by cases h⟩
      · simp only [if_true]
        refine Ev.bind ht.spec (Ev.bind (a := false) ?_ (Ev.now _))
        unfold spec_l10Same.f
        simp only [hne, if_false]
        exact Ev.now _
      · by_cases h : (f.length : Int) ≤ 40
        · simp only [h, if_true]
          refine Ev.bind g2 ?_
          simp only [if_true]
          refine Ev.bind ht.impl (Ev.bind (a := false) ?_ (Ev.now _))
          unfold impl_Fork.f
          simp only [show ¬ ((tr pl ks 0).length : Int) = (f.length : Int) by omega, if_true, if_false]
          exact Ev.now _
        · simp only [h, if_false]; exact Ev.now _

/-! Keys of four bytes as numbers: their order, and their bits. -/
def numK (s : ByteArray) : Nat := (((s.data.toList.getD 0 0).toNat * 256 + (s.data.toList.getD 1 0).toNat) * 256 + (s.data.toList.getD 2 0).toNat) * 256 + (s.data.toList.getD 3 0).toNat
theorem numK_lt (s : ByteArray) : numK s < 4294967296 := by
  unfold numK
  have h0 := UInt8.toNat_lt (s.data.toList.getD 0 0)
  have h1 := UInt8.toNat_lt (s.data.toList.getD 1 0)
  have h2 := UInt8.toNat_lt (s.data.toList.getD 2 0)
  have h3 := UInt8.toNat_lt (s.data.toList.getD 3 0)
  omega
theorem four_list (s : ByteArray) (h : s.size = 4) : ∃ a b c d, s.data.toList = [a, b, c, d] := by
  have hl : s.data.toList.length = 4 := h
  match hs : s.data.toList, hl with
  | [a, b, c, d], _ => exact ⟨a, b, c, d, rfl⟩
theorem numK_of (s : ByteArray) {a b c d : UInt8} (h : s.data.toList = [a, b, c, d]) : numK s = ((a.toNat * 256 + b.toNat) * 256 + c.toNat) * 256 + d.toNat := by unfold numK; rw [h]; rfl
theorem numK_mono (x y : ByteArray) (hx : x.size = 4) (hy : y.size = 4) (h : x.data.toList < y.data.toList) : numK x < numK y := by
  obtain ⟨a, b, c, d, ex⟩ := four_list x hx
  obtain ⟨a', b', c', d', ey⟩ := four_list y hy
  rw [numK_of x ex, numK_of y ey]
  rw [ex, ey] at h
  have q1 := UInt8.toNat_lt b; have q2 := UInt8.toNat_lt c; have q3 := UInt8.toNat_lt d
  have r1 := UInt8.toNat_lt b'; have r2 := UInt8.toNat_lt c'; have r3 := UInt8.toNat_lt d'
  rcases List.cons_lt_cons_iff.1 h with g0 | ⟨e0, g0⟩
  · have := UInt8.lt_iff_toNat_lt.1 g0; omega
  rcases List.cons_lt_cons_iff.1 g0 with g1 | ⟨e1, g1⟩
  · have := UInt8.lt_iff_toNat_lt.1 g1; rw [e0]; omega
  rcases List.cons_lt_cons_iff.1 g1 with g2 | ⟨e2, g2⟩
  · have := UInt8.lt_iff_toNat_lt.1 g2; rw [e0, e1]; omega
  rcases List.cons_lt_cons_iff.1 g2 with g3 | ⟨e3, g3⟩
  · have := UInt8.lt_iff_toNat_lt.1 g3; rw [e0, e1, e2]; omega
  · exact absurd g3 (List.lt_irrefl _)
theorem bitN_num (s : ByteArray) (hs : s.size = 4) (i : Nat) (hi : i < 32) : bitN s i = numK s / 2 ^ (31 - i) % 2 := by
  obtain ⟨a, b, c, d, e⟩ := four_list s hs
  have ha := UInt8.toNat_lt a; have hb := UInt8.toNat_lt b; have hc := UInt8.toNat_lt c; have hd := UInt8.toNat_lt d
  rw [numK_of s e]
  unfold bitN
  rw [e]
  rcases (by omega : i < 8 ∨ (8 ≤ i ∧ i < 16) ∨ (16 ≤ i ∧ i < 24) ∨ 24 ≤ i) with h | ⟨h, h'⟩ | ⟨h, h'⟩ | h
  · rw [show i / 8 = 0 by omega]; show a.toNat / 2 ^ (7 - i % 8) % 2 = _
    rcases (by omega : i = 0 ∨ i = 1 ∨ i = 2 ∨ i = 3 ∨ i = 4 ∨ i = 5 ∨ i = 6 ∨ i = 7) with rfl | rfl | rfl | rfl | rfl | rfl | rfl | rfl <;> simp only [Nat.reduceMod, Nat.reduceSub, Nat.reducePow] <;> omega
  · rw [show i / 8 = 1 by omega]; show b.toNat / 2 ^ (7 - i % 8) % 2 = _
    rcases (by omega : i = 8 ∨ i = 9 ∨ i = 10 ∨ i = 11 ∨ i = 12 ∨ i = 13 ∨ i = 14 ∨ i = 15) with rfl | rfl | rfl | rfl | rfl | rfl | rfl | rfl <;> simp only [Nat.reduceMod, Nat.reduceSub, Nat.reducePow] <;> omega
  · rw [show i / 8 = 2 by omega]; show c.toNat / 2 ^ (7 - i % 8) % 2 = _
    rcases (by omega : i = 16 ∨ i = 17 ∨ i = 18 ∨ i = 19 ∨ i = 20 ∨ i = 21 ∨ i = 22 ∨ i = 23) with rfl | rfl | rfl | rfl | rfl | rfl | rfl | rfl <;> simp only [Nat.reduceMod, Nat.reduceSub, Nat.reducePow] <;> omega
  · rw [show i / 8 = 3 by omega]; show d.toNat / 2 ^ (7 - i % 8) % 2 = _
    rcases (by omega : i = 24 ∨ i = 25 ∨ i = 26 ∨ i = 27 ∨ i = 28 ∨ i = 29 ∨ i = 30 ∨ i = 31) with rfl | rfl | rfl | rfl | rfl | rfl | rfl | rfl <;> simp only [Nat.reduceMod, Nat.reduceSub, Nat.reducePow] <;> omega
theorem top_step (x t : Nat) (ht : t < 32) : x / 2 ^ (32 - (t + 1)) = 2 * (x / 2 ^ (32 - t)) + x / 2 ^ (31 - t) % 2 := by
  rw [show 32 - t = (31 - t) + 1 by omega, show 32 - (t + 1) = 31 - t by omega, Nat.pow_succ, ← Nat.div_div_eq_div_mul]
  omega
theorem top_eq (x y : Nat) (hx : x < 4294967296) (hy : y < 4294967296) : ∀ t, t ≤ 32 → (∀ j, j < t → x / 2 ^ (31 - j) % 2 = y / 2 ^ (31 - j) % 2) → x / 2 ^ (32 - t) = y / 2 ^ (32 - t)
  | 0, _, _ => by rw [Nat.div_eq_of_lt (by simpa using hx), Nat.div_eq_of_lt (by simpa using hy)]
  | t + 1, ht, h => by
    rw [top_step x t (by omega), top_step y t (by omega), top_eq x y hx hy t (by omega) (fun j hj => h j (by omega)), h t (by omega)]
theorem top_back (x y : Nat) : ∀ t, t ≤ 32 → x / 2 ^ (32 - t) = y / 2 ^ (32 - t) → ∀ j, j < t → x / 2 ^ (31 - j) % 2 = y / 2 ^ (31 - j) % 2
  | 0, _, _, j, hj => by omega
  | t + 1, ht, h, j, hj => by
    rw [top_step x t (by omega), top_step y t (by omega)] at h
    by_cases e : j = t
    · subst e; omega
    · exact top_back x y t (by omega) (by omega) j (by omega)
theorem Keys.le {ks : List ByteArray} (h : Keys ks) (i j : Nat) (hi : i ≤ j) (hj : j < ks.length) : numK (ks[i]'(by omega)) ≤ numK ks[j] := by
  by_cases e : i = j
  · subst e; exact Nat.le_refl _
  · exact Nat.le_of_lt (numK_mono _ _ (h.four _ (List.getElem_mem _)) (h.four _ (List.getElem_mem _)) (List.pairwise_iff_getElem.1 h.up i j (by omega) hj (by omega)))
/-- Keys of one tree share their bits ahead of the fork's; behind it, those on the side of the zero have 0 there, the others 1. -/
theorem Keys.share {ks : List ByteArray} (h : Keys ks) (h2 : 2 ≤ ks.length) (k : ByteArray) (hk : k ∈ ks) : ∀ j, j < bitOf2 ks → bitN k j = bitN (headK ks) j := by
  obtain ⟨hb, b0, b1, hj⟩ := h.ends h2
  have e0 : headK ks = ks[0] := by simp [headK, List.getD_eq_getElem?_getD, show 0 < ks.length by omega]
  have e1 : lastK ks = ks[ks.length - 1] := by simp [lastK, List.getD_eq_getElem?_getD, show ks.length - 1 < ks.length by omega]
  have f0 : (headK ks).size = 4 := by rw [e0]; exact h.four _ (List.getElem_mem _)
  have f1 : (lastK ks).size = 4 := by rw [e1]; exact h.four _ (List.getElem_mem _)
  have fk := h.four k hk
  obtain ⟨i, hi, rfl⟩ := List.mem_iff_getElem.1 hk
  have l0 := h.le 0 i (by omega) hi
  have l1 := h.le i (ks.length - 1) (by omega) (by omega)
  rw [← e0] at l0
  rw [← e1] at l1
  have ht := top_eq (numK (headK ks)) (numK (lastK ks)) (numK_lt _) (numK_lt _) (bitOf2 ks) (Nat.le_of_lt hb) (fun j hjb => by
    rw [← bitN_num _ f0 j (by unfold bitOf2 at hjb; omega), ← bitN_num _ f1 j (by unfold bitOf2 at hjb; omega)]; exact hj j hjb)
  have m0 := Nat.div_le_div_right (c := 2 ^ (32 - bitOf2 ks)) l0
  have m1 := Nat.div_le_div_right (c := 2 ^ (32 - bitOf2 ks)) l1
  intro j hjb
  rw [bitN_num _ fk j (by unfold bitOf2 at hjb; omega), bitN_num _ f0 j (by unfold bitOf2 at hjb; omega)]
  exact top_back _ _ (bitOf2 ks) (Nat.le_of_lt hb) (by omega) j hjb
theorem takeWhile_mem {α : Type} (p : α → Bool) : ∀ (l : List α) (x : α), x ∈ l.takeWhile p → p x = true
  | a :: l, x, h => by
    by_cases e : p a = true
    · rw [List.takeWhile_cons_of_pos e] at h
      rcases List.mem_cons.1 h with rfl | h
      · exact e
      · exact takeWhile_mem p l x h
    · rw [List.takeWhile_cons_of_neg e] at h; cases h
theorem take_takeWhile {α : Type} (p : α → Bool) : ∀ (l : List α), l.take (l.takeWhile p).length = l.takeWhile p
  | [] => rfl
  | a :: l => by
    by_cases e : p a = true
    · rw [List.takeWhile_cons_of_pos e, List.length_cons, List.take_succ_cons, take_takeWhile p l]
    · rw [List.takeWhile_cons_of_neg e]; rfl
theorem at_takeWhile {α : Type} (p : α → Bool) : ∀ (l : List α) (h : (l.takeWhile p).length < l.length), p (l[(l.takeWhile p).length]'h) = false
  | a :: l, h => by
    by_cases e : p a = true
    · have e2 := List.takeWhile_cons_of_pos (l := l) e
      have := at_takeWhile p l (by rw [e2] at h; simpa using h)
      simp only [e2, List.length_cons, List.getElem_cons_succ]
      exact this
    · have e2 := List.takeWhile_cons_of_neg (l := l) e
      simp only [e2, List.length_nil, List.getElem_cons_zero]
      simpa using e
theorem Keys.zero {ks : List ByteArray} (h : Keys ks) (k : ByteArray) (hk : k ∈ ks.take (cut2 ks)) : bitN k (bitOf2 ks) = 0 := by
  unfold cut2 cutN at hk
  rw [take_takeWhile] at hk
  simpa using takeWhile_mem _ _ _ hk
theorem Keys.one {ks : List ByteArray} (h : Keys ks) (h2 : 2 ≤ ks.length) (k : ByteArray) (hk : k ∈ ks.drop (cut2 ks)) : bitN k (bitOf2 ks) = 1 := by
  obtain ⟨hb, b0, b1, hj⟩ := h.ends h2
  obtain ⟨c1, c2⟩ : 1 ≤ cut2 ks ∧ cut2 ks < ks.length := h.cut h2
  have hc := at_takeWhile (fun k => bitN k (bitOf2 ks) == 0) ks c2
  have hm : ks[cut2 ks] ∈ ks := List.getElem_mem _
  obtain ⟨i, hi, rfl⟩ := List.mem_iff_getElem.1 hk
  rw [List.length_drop] at hi
  rw [List.getElem_drop] at hk ⊢
  have hle := h.le (cut2 ks) (cut2 ks + i) (by omega) (by omega)
  have hm2 : ks[cut2 ks + i]'(by omega) ∈ ks := List.getElem_mem _
  have s1 := h.share h2 _ hm
  have s2 := h.share h2 _ hm2
  have q1 := h.four _ hm
  have q2 := h.four _ hm2
  have hbt : bitOf2 ks < 32 := hb
  have t1 := top_eq (numK ks[cut2 ks]) (numK (ks[cut2 ks + i]'(by omega))) (numK_lt _) (numK_lt _) (bitOf2 ks) (Nat.le_of_lt hbt) (fun j hjb => by
    rw [← bitN_num _ q1 j (by omega), ← bitN_num _ q2 j (by omega), s1 j hjb, s2 j hjb])
  have d1 := Nat.div_le_div_right (c := 2 ^ (32 - (bitOf2 ks + 1))) hle
  rw [top_step _ _ hbt, top_step _ _ hbt, t1] at d1
  have hc1 : bitN ks[cut2 ks] (bitOf2 ks) ≠ 0 := by
    intro e
    have hc2 : (bitN ks[cut2 ks] (bitOf2 ks) == 0) = false := hc
    rw [e] at hc2; cases hc2
  rw [bitN_num _ q1 _ hbt] at hc1
  rw [bitN_num _ q2 _ hbt]
  omega

theorem rdAt (A : List S74) (x : S74) (R : List S74) : rd_T74 (A ++ x :: R) (A.length : Int) = x := by
  rw [rdF _ _ (by omega) (by simp only [List.length_append, List.length_cons]; omega)]
  simp
theorem key_ne (k : ByteArray) (h : k.size = 4) : ¬ k.toList = [] := by
  intro e
  rw [ByteArray.toList_eq] at e
  obtain ⟨a, b, c, d, e2⟩ := four_list k h
  rw [e2] at e; cases e
theorem bytes_eq_iff (a b : ByteArray) : a.toList = b.toList ↔ a = b := by
  rw [ByteArray.toList_eq, ByteArray.toList_eq]
  exact ⟨fun e => ByteArray.ext (Array.toList_inj.1 e), fun e => by rw [e]⟩
theorem tr_empty {l : List S51} {ks : List ByteArray} {pl : ByteArray → List Int} (ht : Tree l ks pl) : (tr pl ks 0).length = 0 ↔ ks = [] := by
  constructor
  · intro h
    rcases Nat.eq_zero_or_pos ks.length with e | e
    · exact List.eq_nil_of_length_eq_zero e
    · have := tr_len pl ks.length ks 0 rfl ht.keys e; omega
  · rintro rfl; rw [tr_nil]; rfl

/-- The search in the tree of rising keys, from the place where it begins: both programs come to one leaf. -/
theorem find_both (pl : ByteArray → List Int) (F : List S74) (key : ByteArray) (hk4 : key.size = 4) (hF : F.length < 2000000000) (hpl : ∀ x ∈ F, x.f1.length < 4000000000) : ∀ (n : Nat) (ks : List ByteArray) (A B : List S74) (looks : Int) (b : Nat), ks.length = n → 1 ≤ n → Keys ks → F = A ++ tr pl ks A.length ++ B →
    b ≤ 32 → (∀ k ∈ ks, ∀ k' ∈ ks, ∀ j, j < b → bitN k j = bitN k' j) → 0 ≤ looks → looks ≤ b →
    ∃ kf ∈ ks, ∃ m : Nat, m + b ≤ 32 ∧ (key ∈ ks → kf = key) ∧ Ev (fun k => impl_FindKey.l0 k F key A.length looks) (if kf.toList = key.toList then pl kf else [], looks + m, true) := by
  intro n
  induction n using Nat.strongRecOn with
  | _ n ih =>
    intro ks A B looks b hn h1 hk hFe hb32 hsh hl0 hlb
    by_cases e1 : n = 1
    · obtain ⟨kf, rfl⟩ : ∃ k, ks = [k] := by
        match ks, hn with
        | [k], _ => exact ⟨k, rfl⟩
        | [], h => simp at h; omega
        | _ :: _ :: _, h => simp at h; omega
      rw [tr_one, List.append_assoc, List.singleton_append] at hFe
      have hrd : rd_T74 F (A.length : Int) = ⟨kf, pl kf, 0, 0, 0⟩ := by rw [hFe]; exact rdAt A _ B
      have hlt : (A.length : Int) < (F.length : Int) := by rw [hFe]; simp only [List.length_append, List.length_cons]; omega
      have hne := key_ne kf (hk.four kf (by simp))
      have hpk : (pl kf).length < 4000000000 := hpl ⟨kf, pl kf, 0, 0, 0⟩ (by rw [hFe]; simp)
      refine ⟨kf, by simp, 0, by omega, fun h => (List.mem_singleton.1 h).symm, ?_⟩
      · refine Ev.step (fun k => by rw [impl_FindKey.l0, if_pos (by omega), if_pos hlt, hrd, if_neg hne]) ?_
        by_cases he : kf.toList = key.toList
        · simp only [he, if_true, slices_Clone_int_int.f, show (pl kf).length < 1000000000000 from by omega, Option.bind_some, Int.natCast_zero, Int.add_zero]
          exact Ev.now _
        · simp only [he, if_false, Int.natCast_zero, Int.add_zero]; exact Ev.now _
    · obtain ⟨c1, c2⟩ : 1 ≤ cut2 ks ∧ cut2 ks < ks.length := hk.cut (by omega)
      obtain ⟨hbt, b0, b1, hj⟩ := hk.ends (show 2 ≤ ks.length by omega)
      have hbt : bitOf2 ks < 32 := hbt
      have hbb : b ≤ bitOf2 ks := by
        rcases Nat.lt_or_ge (bitOf2 ks) b with h | h
        · have m0 : headK ks ∈ ks := by
            have : headK ks = ks[0] := by simp [headK, List.getD_eq_getElem?_getD, show 0 < ks.length by omega]
            rw [this]; exact List.getElem_mem _
          have m1 : lastK ks ∈ ks := by
            have : lastK ks = ks[ks.length - 1] := by simp [lastK, List.getD_eq_getElem?_getD, show ks.length - 1 < ks.length by omega]
            rw [this]; exact List.getElem_mem _
          have := hsh _ m0 _ m1 _ h
          unfold bitOf2 at this
          omega
        · exact h
      rw [tr_fork pl ks A.length hk (by omega)] at hFe
      have hrd : rd_T74 F (A.length : Int) = ⟨⟨#[]⟩, [], (bitOf2 ks : Nat), (A.length + 1 : Nat), (A.length + 1 + (tr pl (ks.take (cut2 ks)) (A.length + 1)).length : Nat)⟩ := by rw [hFe, List.append_assoc, List.cons_append]; exact rdAt A _ _
      have hlt : (A.length : Int) < (F.length : Int) := by rw [hFe]; simp only [List.length_append, List.length_cons]; omega
      have hnil : (⟨#[]⟩ : ByteArray).toList = ([] : List UInt8) := by rw [ByteArray.toList_eq]
      have hwl : wrap64 (looks + 1) = looks + 1 := w64 (by omega) (by omega)
      have hshare : ∀ k ∈ ks, ∀ k' ∈ ks, ∀ j, j < bitOf2 ks → bitN k j = bitN k' j := fun k hkm k' hkm' j hjb => (hk.share (by omega) k hkm j hjb).trans (hk.share (by omega) k' hkm' j hjb).symm
      have hk01 := bitN_two key (bitOf2 ks)
      by_cases hz : bitN key (bitOf2 ks) = 0
      · -- the side of the zero
        obtain ⟨kf, hkf, m, hm, hin, s2⟩ := ih (cut2 ks) (by omega) (ks.take (cut2 ks)) (A ++ [⟨⟨#[]⟩, [], (bitOf2 ks : Nat), (A.length + 1 : Nat), (A.length + 1 + (tr pl (ks.take (cut2 ks)) (A.length + 1)).length : Nat)⟩]) (tr pl (ks.drop (cut2 ks)) (A.length + 1 + (tr pl (ks.take (cut2 ks)) (A.length + 1)).length) ++ B) (looks + 1) (bitOf2 ks + 1)
          (by rw [List.length_take]; omega) c1 (hk.take _) (by rw [hFe]; simp) (by omega) (fun k hkm k' hkm' j hjb => by
            by_cases ej : j = bitOf2 ks
            · subst ej; rw [hk.zero k hkm, hk.zero k' hkm']
            · exact hshare k (List.mem_of_mem_take hkm) k' (List.mem_of_mem_take hkm') j (by omega)) (by omega) (by omega)
        rw [List.length_append, List.length_singleton] at s2
        refine ⟨kf, List.mem_of_mem_take hkf, m + 1, by omega, fun hmem => ?_, ?_⟩
        · rw [← List.take_append_drop (cut2 ks) ks, List.mem_append] at hmem
          rcases hmem with h | h
          · exact hin h
          · have := hk.one (by omega) key h; omega
        · refine Ev.step (fun k => by rw [impl_FindKey.l0, if_pos (by omega), if_pos hlt, hrd, if_pos hnil, implBit key hk4 _ hbt, Option.bind_some, hz, if_neg (by decide), hwl]) ?_
          rw [show looks + ((m + 1 : Nat) : Int) = looks + 1 + (m : Int) by omega]
          exact s2
      · have hz1 : bitN key (bitOf2 ks) = 1 := by omega
        obtain ⟨kf, hkf, m, hm, hin, s2⟩ := ih (ks.length - cut2 ks) (by omega) (ks.drop (cut2 ks)) (A ++ ⟨⟨#[]⟩, [], (bitOf2 ks : Nat), (A.length + 1 : Nat), (A.length + 1 + (tr pl (ks.take (cut2 ks)) (A.length + 1)).length : Nat)⟩ :: tr pl (ks.take (cut2 ks)) (A.length + 1)) B (looks + 1) (bitOf2 ks + 1)
          (by rw [List.length_drop]) (by omega) (hk.drop _) (by
            rw [hFe]
            have : (A ++ (⟨⟨#[]⟩, [], (bitOf2 ks : Nat), (A.length + 1 : Nat), (A.length + 1 + (tr pl (ks.take (cut2 ks)) (A.length + 1)).length : Nat)⟩ : S74) :: tr pl (ks.take (cut2 ks)) (A.length + 1)).length = A.length + 1 + (tr pl (ks.take (cut2 ks)) (A.length + 1)).length := by
              rw [List.length_append, List.length_cons]; omega
            rw [this]; simp) (by omega) (fun k hkm k' hkm' j hjb => by
            by_cases ej : j = bitOf2 ks
            · subst ej; rw [hk.one (by omega) k hkm, hk.one (by omega) k' hkm']
            · exact hshare k (List.mem_of_mem_drop hkm) k' (List.mem_of_mem_drop hkm') j (by omega)) (by omega) (by omega)
        rw [List.length_append, List.length_cons, show A.length + ((tr pl (ks.take (cut2 ks)) (A.length + 1)).length + 1) = A.length + 1 + (tr pl (ks.take (cut2 ks)) (A.length + 1)).length by omega] at s2
        refine ⟨kf, List.mem_of_mem_drop hkf, m + 1, by omega, fun hmem => ?_, ?_⟩
        · rw [← List.take_append_drop (cut2 ks) ks, List.mem_append] at hmem
          rcases hmem with h | h
          · have := hk.zero key h; omega
          · exact hin h
        · refine Ev.step (fun k => by rw [impl_FindKey.l0, if_pos (by omega), if_pos hlt, hrd, if_pos hnil, implBit key hk4 _ hbt, Option.bind_some, hz1, if_pos (by rfl), hwl]) ?_
          rw [show looks + ((m + 1 : Nat) : Int) = looks + 1 + (m : Int) by omega]
          exact s2
/-- .. in a whole tree. -/
theorem find_treeI {l : List S51} {ks : List ByteArray} {pl : ByteArray → List Int} (ht : Tree l ks pl) (key : ByteArray) (hk4 : key.size = 4) (hne : ks ≠ []) :
    ∃ kf ∈ ks, ∃ m : Nat, m ≤ 32 ∧ (key ∈ ks → kf = key) ∧ Ev (fun k => impl_FindKey.l0 k (tr pl ks 0) key 0 0) (if kf.toList = key.toList then pl kf else [], (m : Int), true) := by
  have hl := tree_len ht
  obtain ⟨kf, h1, m, h2, h3, h5⟩ := find_both pl (tr pl ks 0) key hk4 (by omega) (fun x hx => tr_places ht x hx) ks.length ks [] [] 0 0 rfl (by have := List.length_pos_iff.2 hne; omega) ht.keys (by simp) (by omega) (fun _ _ _ _ j hj => by omega) (by omega) (by omega)
  refine ⟨kf, h1, m, by omega, h3, ?_⟩
  simpa using h5

theorem pairsF_append (a b : List S74) : pairsF (a ++ b) = pairsF a ++ pairsF b := by simp [pairsF]
/-- The pairs of a tree are those that it was built of, in their order. -/
theorem tr_pairs (pl : ByteArray → List Int) : ∀ (n : Nat) (ks : List ByteArray) (off : Nat), ks.length = n → Keys ks → pairsF (tr pl ks off) = flat pl ks := by
  intro n
  induction n using Nat.strongRecOn with
  | _ n ih =>
    intro ks off hl hk
    by_cases h0 : n = 0
    · obtain rfl : ks = [] := List.eq_nil_of_length_eq_zero (by omega)
      rw [tr_nil]; rfl
    by_cases h1 : n = 1
    · obtain ⟨k, rfl⟩ : ∃ k, ks = [k] := by
        match ks, hl with
        | [k], _ => exact ⟨k, rfl⟩
        | [], h => simp at h; omega
        | _ :: _ :: _, h => simp at h; omega
      rw [tr_one, pairsF_cons, flat_cons]
      rfl
    · obtain ⟨c1, c2⟩ : 1 ≤ cut2 ks ∧ cut2 ks < ks.length := hk.cut (by omega)
      rw [tr_fork pl ks off hk (by omega), pairsF_cons, pairsF_append, ih (cut2 ks) (by omega) _ _ (by rw [List.length_take]; omega) (hk.take _), ih (ks.length - cut2 ks) (by omega) _ _ (by rw [List.length_drop]) (hk.drop _), ← flat_append, List.take_append_drop]
      rfl
theorem tr_congr (pl pl' : ByteArray → List Int) : ∀ (n : Nat) (ks : List ByteArray) (off : Nat), ks.length = n → Keys ks → (∀ k ∈ ks, pl k = pl' k) → tr pl ks off = tr pl' ks off := by
  intro n
  induction n using Nat.strongRecOn with
  | _ n ih =>
    intro ks off hl hk he
    by_cases h0 : n = 0
    · obtain rfl : ks = [] := List.eq_nil_of_length_eq_zero (by omega)
      rw [tr_nil, tr_nil]
    by_cases h1 : n = 1
    · obtain ⟨k, rfl⟩ : ∃ k, ks = [k] := by
        match ks, hl with
        | [k], _ => exact ⟨k, rfl⟩
        | [], h => simp at h; omega
        | _ :: _ :: _, h => simp at h; omega
      rw [tr_one, tr_one, he k (by simp)]
    · obtain ⟨c1, c2⟩ : 1 ≤ cut2 ks ∧ cut2 ks < ks.length := hk.cut (by omega)
      rw [tr_fork pl ks off hk (by omega), tr_fork pl' ks off hk (by omega), ih (cut2 ks) (by omega) (ks.take (cut2 ks)) (off + 1) (by rw [List.length_take]; omega) (hk.take _) (fun k h => he k (List.mem_of_mem_take h)), ih (ks.length - cut2 ks) (by omega) (ks.drop (cut2 ks)) _ (by rw [List.length_drop]) (hk.drop _) (fun k h => he k (List.mem_of_mem_drop h))]
theorem Tree.key_iff {l : List S51} {ks : List ByteArray} {pl : ByteArray → List Int} (h : Tree l ks pl) (k : ByteArray) : k ∈ ks ↔ ∃ x ∈ l, x.f0 = k := by
  constructor
  · intro hk
    obtain ⟨a, ha⟩ := List.exists_mem_of_ne_nil _ (h.full k hk)
    exact ⟨⟨k, a⟩, (h.mem _).2 ((flat_mem _ _ _).2 ⟨hk, ha⟩), rfl⟩
  · rintro ⟨x, hx, rfl⟩
    exact ((flat_mem _ _ _).1 ((h.mem x).1 hx)).1
/-- One tree for the same pairs in whatever order. -/
theorem tree_uniq {l l' : List S51} {ks ks' : List ByteArray} {pl pl' : ByteArray → List Int} (h : Tree l ks pl) (h' : Tree l' ks' pl') (hm : ∀ x, x ∈ l' ↔ x ∈ l) : ks' = ks ∧ tr pl' ks' 0 = tr pl ks 0 := by
  have hks : ks' = ks := by
    refine sorted_ext (R := fun a b : ByteArray => a.data.toList < b.data.toList) (fun a => List.lt_irrefl _) (fun a b h1 h2 => List.lt_irrefl _ (List.lt_trans h1 h2)) _ _ h'.keys.up h.keys.up (fun k => ?_)
    rw [h'.key_iff, h.key_iff]
    exact ⟨fun ⟨x, hx, e⟩ => ⟨x, (hm x).1 hx, e⟩, fun ⟨x, hx, e⟩ => ⟨x, (hm x).2 hx, e⟩⟩
  subst hks
  refine ⟨rfl, tr_congr _ _ _ _ _ rfl h.keys (fun k hk => ?_)⟩
  refine sorted_ext (R := fun a b : Int => a < b) (fun a => Int.lt_irrefl a) (fun a b h1 h2 => by omega) _ _ (h'.rising k hk) (h.rising k hk) (fun a => ?_)
  have e1 := h'.mem ⟨k, a⟩
  have e2 := h.mem ⟨k, a⟩
  rw [flat_mem] at e1 e2
  have e3 := hm ⟨k, a⟩
  constructor
  · intro ha; exact (e2.1 (e3.1 (e1.2 ⟨hk, ha⟩))).2
  · intro ha; exact (e1.1 (e3.2 (e2.2 ⟨hk, ha⟩))).2
/-- Pairs that are good in whatever order: both checks say so. -/
theorem good_back (ks : List ByteArray) (hks : Keys ks) (h20 : ks.length ≤ 20) (l : List S51) (hl : l.length ≤ 60) (hx : ∀ x ∈ l, x.f0.size = 4 ∧ 0 ≤ x.f1 ∧ x.f1 ≤ 10000) (hn : l.Pairwise (· ≠ ·)) (hk : ∀ k, k ∈ ks ↔ ∃ x ∈ l, x.f0 = k) (d : Nat) :
    ∀ (i : Int) (kt : List ByteArray), 0 ≤ i → i ≤ l.length → (l.length : Int) - i = d → (tl kt).Pairwise (· < ·) → (∀ s, s ∈ tl kt ↔ ∃ x ∈ l.take i.toNat, x.f0.toList = s) → (kt.length : Int) ≤ i → Ev (fun k => spec_GoodPairs.l0 k l kt l l.length i) true := by
  induction d with
  | zero =>
    intro i kt h0 hi hd hs hm hkl
    have e : tl kt = tl ks := by
      refine sorted_ext (R := fun a b : List UInt8 => a < b) (fun a => List.lt_irrefl _) (fun a b h1 h2 => List.lt_irrefl _ (List.lt_trans h1 h2)) _ _ hs ?_ (fun s => ?_)
      · unfold tl; rw [List.pairwise_map]
        exact hks.up.imp (fun h => by rwa [ByteArray.toList_eq, ByteArray.toList_eq])
      · rw [hm, List.take_of_length_le (by omega)]
        unfold tl
        rw [List.mem_map]
        constructor
        · rintro ⟨x, hx, rfl⟩; exact ⟨x.f0, (hk _).2 ⟨x, hx, rfl⟩, rfl⟩
        · rintro ⟨k, hk', rfl⟩
          obtain ⟨x, hx, rfl⟩ := (hk k).1 hk'
          exact ⟨x, hx, rfl⟩
    have hlen : kt.length = ks.length := by have := congrArg List.length e; simpa [tl] using this
    refine Ev.step (fun k => by rw [spec_GoodPairs.l0, if_neg (by omega), if_pos (by omega)]) ?_
    rw [decide_eq_true (show (kt.length : Int) ≤ 20 by omega)]
    exact Ev.now _
  | succ d ih =>
    intro i kt h0 hi hd hs hm hkl
    have hw : wrap64 (i + 1) = i + 1 := w64 (by omega) (by omega)
    have hil : i.toNat < l.length := by omega
    have hq : rd_T51 l i = l[i.toNat] := rdP l i h0 (by omega)
    obtain ⟨q1, q2, q3⟩ := hx _ (List.getElem_mem hil)
    refine Ev.step (fun k => by rw [spec_GoodPairs.l0, if_pos (by omega), if_pos h0, if_pos (by omega), hq, if_pos (by omega), spec_l1In.f, if_pos q2, decide_eq_true q3]) ?_
    simp only [Option.bind_some, Bool.not_true]
    refine Ev.step (fun k => by rw [spec_GoodPairs.j1, if_neg (by decide), if_pos h0, if_pos hi]) ?_
    simp only [Option.bind_some]
    have hno : among (l.take i.toNat) l[i.toNat].f0 l[i.toNat].f1 = false := by
      unfold among
      rw [List.any_eq_false]
      intro y hy e
      simp only [Bool.and_eq_true, beq_iff_eq] at e
      obtain ⟨j, hj, rfl⟩ := List.mem_iff_getElem.1 hy
      rw [List.length_take] at hj
      rw [List.getElem_take] at e
      have hne := List.pairwise_iff_getElem.1 hn j i.toNat (by omega) hil (by omega)
      apply hne
      have e1 := (bytes_eq_iff _ _).1 e.1
      generalize l[j]'(by omega) = u at e e1 ⊢
      generalize l[i.toNat] = v at e e1 ⊢
      obtain ⟨a, b⟩ := u
      obtain ⟨a', b'⟩ := v
      simp only at e e1
      rw [e1, e.2]
    refine inner l kt i (l.take i.toNat) _ _ (by rw [List.length_take]; omega) true (fun h => by rw [hno] at h; cases h) (fun _ => ?_) (l.take i.toNat).length 0 (by omega) (by omega) (by omega) (by simp [among])
    obtain ⟨kt', hput, hs', hmem, hnew⟩ := put kt l[i.toNat].f0 (by omega) hs
    refine Ev.bind hput ?_
    rw [hw]
    have htk : ∀ s, (∃ x ∈ l.take (i + 1).toNat, x.f0.toList = s) ↔ (∃ x ∈ l.take i.toNat, x.f0.toList = s) ∨ l[i.toNat].f0.toList = s := by
      intro s
      rw [show (i + 1).toNat = i.toNat + 1 by omega, List.take_add_one, List.getElem?_eq_getElem hil]
      constructor
      · rintro ⟨x, hx, e⟩
        rcases List.mem_append.1 hx with h | h
        · exact .inl ⟨x, h, e⟩
        · have h' : x = l[i.toNat] := by simpa using h
          rw [h'] at e; exact .inr e
      · rintro (⟨x, h, e⟩ | e)
        · exact ⟨x, List.mem_append_left _ h, e⟩
        · exact ⟨l[i.toNat], List.mem_append_right _ (by simp), e⟩
    by_cases hin : l[i.toNat].f0.toList ∈ tl kt
    · have e := hmem hin
      refine ih (i + 1) kt' (by omega) (by omega) (by omega) hs' (fun s => ?_) (by have := congrArg List.length e; simp [tl] at this; omega)
      rw [htk, e, hm]
      constructor
      · intro h; exact .inl h
      · rintro (h | rfl)
        · exact h
        · exact (hm _).1 hin
    · have e := hnew hin
      refine ih (i + 1) kt' (by omega) (by omega) (by omega) hs' (fun s => ?_) (by have := e.length_eq; simp [tl] at this; omega)
      rw [htk, e.mem_iff, List.mem_cons, hm]
      constructor
      · rintro (rfl | h)
        · exact .inr rfl
        · exact .inl h
      · rintro (h | rfl)
        · exact .inr h
        · exact .inl rfl
/-- A list of the same pairs as a good one's, each once: it is good, and its tree is the same. -/
theorem tree_of {l l' : List S51} {ks : List ByteArray} {pl : ByteArray → List Int} (h : Tree l ks pl) (hl : l'.length ≤ 60) (hm : ∀ x, x ∈ l' ↔ x ∈ l) (hn : l'.Pairwise (· ≠ ·)) :
    Ev (fun k => spec_GoodPairs.f k l') true ∧ Ev (fun k => impl_arePairs.f k l') true ∧ ∃ ks' pl', Tree l' ks' pl' ∧ tr pl' ks' 0 = tr pl ks 0 := by
  have hx : ∀ x ∈ l', x.f0.size = 4 ∧ 0 ≤ x.f1 ∧ x.f1 ≤ 10000 := fun x hx => by
    have h1 := (hm x).1 hx
    exact ⟨h.keys.four _ ((h.key_iff _).2 ⟨x, h1, rfl⟩), h.range x h1⟩
  have hg : Ev (fun k => spec_GoodPairs.f k l') true := good_back ks h.keys h.few l' hl hx hn (fun k => by
    rw [h.key_iff]; exact ⟨fun ⟨x, hx, e⟩ => ⟨x, (hm x).2 hx, e⟩, fun ⟨x, hx, e⟩ => ⟨x, (hm x).1 hx, e⟩⟩) l'.length 0 [] (by omega) (by omega) (by omega) (by simp [tl]) (by simp [tl]) (by simp)
  obtain ⟨b, g1, g2⟩ := goodPairs l' (by omega)
  obtain rfl := Ev.uniq g1 hg
  obtain ⟨k0, hk0⟩ := Ev.rounds g1
  obtain ⟨ks', pl', ht⟩ := index_both l' (by omega) k0 hk0
  exact ⟨hg, g2, ks', pl', ht, (tree_uniq h ht hm).2⟩
theorem LtP.ne {a b : S51} (h : LtP a b) : a ≠ b := fun e => LtP.irrefl b (by rw [e] at h; exact h)
/-- A tree is a good index. -/
theorem tree_index {l : List S51} {ks : List ByteArray} {pl : ByteArray → List Int} (h : Tree l ks pl) : Ev (fun k => spec_GoodIndex.f k (tr pl ks 0)) true ∧ Ev (fun k => impl_isIndex.f k (tr pl ks 0)) true := by
  have hp := tr_pairs pl ks.length ks 0 rfl h.keys
  have hlen := tree_len h
  have hfl := h.flat_len
  have hsm : ∀ x ∈ tr pl ks 0, x.f1.length ≤ 1048576 := fun x hx => tr_small h x hx
  obtain ⟨b, g1, g2, _⟩ := goodIndex (tr pl ks 0) (by omega) hsm (by rw [hp]; omega)
  have hs : Ev (fun k => spec_GoodIndex.f k (tr pl ks 0)) true := by
    obtain ⟨p1, _⟩ := pairsBoth (tr pl ks 0) (by omega) hsm (by rw [hp]; omega)
    rw [hp] at p1
    obtain ⟨q1, _, ks', pl', ht', he⟩ := tree_of h (l' := flat pl ks) hfl (fun x => (h.mem x).symm) ((flat_sorted pl ks h.keys.up h.rising).imp LtP.ne)
    unfold spec_GoodIndex.f
    refine Ev.bind p1 (Ev.bind q1 ?_)
    simp only [if_true]
    have hsp := ht'.spec
    rw [he] at hsp
    refine Ev.bind hsp (Ev.bind (a := true) ?_ (Ev.now _))
    unfold spec_l10Same.f
    simp only [if_true]
    have := sameS_l0 (tr pl ks 0) (tr pl ks 0) rfl (by omega) (fun x hx => by have := hsm x hx; omega) (tr pl ks 0).length 0 (by omega) (by omega) (by omega)
    rwa [(sameF_eq _ _ rfl).2 rfl] at this
  exact ⟨hs, by rwa [Ev.uniq g1 hs] at g2⟩
/-- Every pair of a tree is found by its key. -/
theorem find_pair {l : List S51} {ks : List ByteArray} {pl : ByteArray → List Int} (h : Tree l ks pl) (key : ByteArray) (hk : key ∈ ks) : ∃ m : Int, m ≤ 32 ∧ Ev (fun k => impl_FindKey.f k (tr pl ks 0) key) (pl key, m, true) := by
  have h4 := h.keys.four key hk
  have hne : ks ≠ [] := fun e => by rw [e] at hk; cases hk
  have hz : ¬ ((tr pl ks 0).length : Int) = 0 := fun e => hne ((tr_empty h).1 (by omega))
  obtain ⟨kf, hkf, m, hm, hin, s2⟩ := find_treeI h key h4 hne
  obtain rfl := hin hk
  have g2 := (tree_index h).2
  have g2' := g2
  have hb : ((kf.size : Int) != 4) = false := by rw [h4]; rfl
  rw [if_pos rfl] at s2
  refine ⟨m, by omega, ?_⟩
  unfold impl_FindKey.f
  refine Ev.bind g2' ?_
  simp only [if_true, hb]
  exact Ev.step (fun k => by rw [impl_FindKey.j0, if_neg (by decide), if_neg hz]) s2

theorem sameInts_l0 (a : List Int) (ha : a.length < 1000000000000) (d : List Int) : ∀ (p : List Int), a = p ++ d → ∀ k, d.length < k → laws_sameInts.l0 k a a a.length p.length = some true := by
  induction d with
  | nil => intro p h k hk; obtain ⟨k, rfl⟩ : ∃ m, k = m + 1 := ⟨k - 1, by simp at hk; omega⟩
           rw [laws_sameInts.l0, if_neg (by rw [h]; simp)]
  | cons x d ih =>
    intro p h k hk
    obtain ⟨k, rfl⟩ : ∃ m, k = m + 1 := ⟨k - 1, by simp at hk; omega⟩
    have hl : a.length = p.length + (d.length + 1) := by rw [h]; simp
    have := ih (p ++ [x]) (by rw [h]; simp) k (by simp at hk; omega)
    simp only [List.length_append, List.length_cons, List.length_nil] at this
    rw [laws_sameInts.l0, if_pos (by omega), if_pos (by omega), if_pos (by omega), if_pos (by omega), if_pos rfl, w64 (by omega) (by omega)]
    exact this
theorem sameInts_self (a : List Int) (ha : a.length < 1000000000000) : Ev (fun k => laws_sameInts.f k a a) true :=
  ⟨a.length + 1, fun k hk => by show laws_sameInts.f k a a = some true; unfold laws_sameInts.f; rw [if_pos rfl]; exact sameInts_l0 a ha a [] rfl k (by omega)⟩

theorem sameForks_l0 (f : List S74) (hf : f.length < 2000000000) (hs : ∀ x ∈ f, x.f1.length < 1000000000) (d : Nat) : ∀ (i : Int), 0 ≤ i → i ≤ f.length → (f.length : Int) - i = d → Ev (fun k => laws_sameForks.l0 k f f f.length i) true := by
  induction d with
  | zero => intro i h0 h1 hd; exact Ev.step (fun k => by rw [laws_sameForks.l0, if_neg (by omega)]) (Ev.now _)
  | succ d ih =>
    intro i h0 h1 hd
    have hi : i.toNat < f.length := by omega
    have hz := hs _ (List.getElem_mem hi)
    have he := rdF f i h0 (by omega)
    refine Ev.step (fun k => by rw [laws_sameForks.l0, if_pos (by omega), if_pos h0, if_pos (by omega), if_pos (by omega), if_pos rfl, if_pos rfl, if_pos rfl, if_pos rfl, he]) (Ev.bind (sameInts_self _ (by omega)) ?_)
    simp only [if_true, w64 (n := i + 1) (by omega) (by omega)]
    exact ih (i + 1) (by omega) (by omega) (by omega)
theorem sameForks_self (f : List S74) (hf : f.length < 2000000000) (hs : ∀ x ∈ f, x.f1.length < 1000000000) : Ev (fun k => laws_sameForks.f k f f) true := by
  unfold laws_sameForks.f
  simp only [if_true]
  exact sameForks_l0 f hf hs f.length 0 (by omega) (by omega) (by omega)

theorem has_l0 (l : List Int) (a : Int) (hl : l.length < 2000000000) (d : Nat) : ∀ (i : Int), 0 ≤ i → i ≤ l.length → (l.length : Int) - i = d → Ev (fun k => laws_has.l0 k a l l.length i) (decide (a ∈ l.drop i.toNat)) := by
  induction d with
  | zero =>
    intro i h0 h1 hd
    rw [List.drop_of_length_le (by omega), show decide (a ∈ ([] : List Int)) = false from by simp]
    exact Ev.step (fun k => by rw [laws_has.l0, if_neg (by omega)]) (Ev.now _)
  | succ d ih =>
    intro i h0 h1 hd
    have hi : i.toNat < l.length := by omega
    have e : rd l i = l[i.toNat] := by simp [rd, List.getD_eq_getElem?_getD, hi]
    rw [List.drop_eq_getElem_cons hi]
    by_cases h : l[i.toNat] = a
    · rw [decide_eq_true (by rw [h]; simp)]
      exact Ev.step (fun k => by rw [laws_has.l0, if_pos (by omega), if_pos h0, if_pos (by omega), e, if_pos h]) (Ev.now _)
    · have := ih (i + 1) (by omega) (by omega) (by omega)
      rw [show (i + 1).toNat = i.toNat + 1 by omega] at this
      rw [show decide (a ∈ l[i.toNat] :: List.drop (i.toNat + 1) l) = decide (a ∈ List.drop (i.toNat + 1) l) from by
        rw [decide_eq_decide, List.mem_cons]; exact ⟨fun q => q.resolve_left (fun e => h e.symm), .inr⟩]
      exact Ev.step (fun k => by rw [laws_has.l0, if_pos (by omega), if_pos h0, if_pos (by omega), e, if_neg h, w64 (n := i + 1) (by omega) (by omega)]) this
theorem has_is (l : List Int) (a : Int) (hl : l.length < 2000000000) : Ev (fun k => laws_has.f k l a) (decide (a ∈ l)) := by
  have := has_l0 l a hl l.length 0 (by omega) (by omega) (by omega)
  unfold laws_has.f
  simpa using this

/-! The reader of choices: it never fails, and tells numbers in their ranges. -/
def Bytes8 (l : List Int) : Prop := ∀ x ∈ l, 0 ≤ x ∧ x ≤ 255
theorem bytes_of_wf {l : List Int} (h : ∀ x ∈ l, (Lit.int .u8 x).wf = true) : Bytes8 l := fun x hx => by
  have := h x hx
  simpa [Lit.wf, IntKind.min, IntKind.max, IntKind.signed, IntKind.bits] using this
theorem bytes_rd {l : List Int} (h : Bytes8 l) (i : Int) (h0 : 0 ≤ i) (h1 : i < l.length) : 0 ≤ rd l i ∧ rd l i ≤ 255 := by
  have hi : i.toNat < l.length := by omega
  have : rd l i = l[i.toNat] := by simp [rd, List.getD_eq_getElem?_getD, hi]
  rw [this]; exact h _ (List.getElem_mem hi)
theorem and255 (x : Int) (h0 : 0 ≤ x) (h1 : x < 18446744073709551616) : Go.bits .and .u64 x 255 = x % 256 := by
  have h := bits_mask .u64 64 (by decide) (fun n h₀ h₁ => by simp [IntKind.wrap, IntKind.bits, IntKind.signed]; omega) 8 (by decide) x h0 (by omega)
  simpa using h
theorem u64_range (x : Int) : 0 ≤ IntKind.u64.wrap x ∧ IntKind.u64.wrap x < 18446744073709551616 := by simp [IntKind.wrap, IntKind.bits, IntKind.signed]; omega
theorem cur_next (l : List Int) (hl : Bytes8 l) (at_ s : Int) (h0 : 0 ≤ at_) (h1 : at_ < 4611686018427387904) : ∃ r s', spec_l1Cur_next.f l at_ s = some (r, at_ + 1, s') ∧ 0 ≤ r ∧ r ≤ 255 := by
  have hw : wrap64 (at_ + 1) = at_ + 1 := w64 (by omega) (by omega)
  have hseed : ∀ x : Int, 0 ≤ wrap64 (Go.bits .and .u64 (IntKind.u64.wrap x / 1099511627776) 255) ∧ wrap64 (Go.bits .and .u64 (IntKind.u64.wrap x / 1099511627776) 255) ≤ 255 := fun x => by
    have hx := u64_range x
    rw [and255 _ (by omega) (by omega), w64 (by omega) (by omega)]; omega
  unfold spec_l1Cur_next.f
  rw [hw]
  by_cases hlt : at_ < (l.length : Int)
  · have hb := bytes_rd hl at_ h0 hlt
    rw [if_pos hlt, if_pos h0]
    split
    · exact ⟨_, _, rfl, by rw [w64 (by omega) (by omega)]; exact hb.1, by rw [w64 (by omega) (by omega)]; exact hb.2⟩
    · exact ⟨_, _, rfl, (hseed _).1, (hseed _).2⟩
  · rw [if_neg hlt]
    split
    · exact ⟨_, _, rfl, by omega, by omega⟩
    · exact ⟨_, _, rfl, (hseed _).1, (hseed _).2⟩
theorem cur_pick (l : List Int) (hl : Bytes8 l) (at_ s n : Int) (h0 : 0 ≤ at_) (h1 : at_ < 2305843009213693952) (hn : n < 4611686018427387904) : ∃ r a' s', spec_l1Cur_pick.f l at_ s n = some (r, a', s') ∧ at_ ≤ a' ∧ a' ≤ at_ + 2 ∧ 0 ≤ r ∧ (1 ≤ n → r < n) := by
  unfold spec_l1Cur_pick.f
  by_cases hs : n ≤ 1
  · rw [if_pos hs]; exact ⟨0, at_, s, rfl, by omega, by omega, by omega, by omega⟩
  rw [if_neg hs]
  obtain ⟨r, s', h, hr0, hr1⟩ := cur_next l hl at_ s h0 (by omega)
  rw [h]
  simp only [Option.bind_some]
  by_cases hb : n > 200
  · obtain ⟨r2, s2, h2, h3, h4⟩ := cur_next l hl (at_ + 1) s' (by omega) (by omega)
    rw [if_pos hb, h2]
    simp only [Option.bind_some]
    rw [if_neg (by omega), w64 (n := r * 256) (by omega) (by omega), w64 (by omega) (by omega), Int.tmod_eq_emod_of_nonneg (by omega)]
    exact ⟨_, _, _, rfl, by omega, by omega, Int.emod_nonneg _ (by omega), fun _ => Int.emod_lt_of_pos _ (by omega)⟩
  · rw [if_neg hb, if_neg (by omega), Int.tmod_eq_emod_of_nonneg (by omega)]
    exact ⟨_, _, _, rfl, by omega, by omega, Int.emod_nonneg _ (by omega), fun _ => Int.emod_lt_of_pos _ (by omega)⟩
theorem cur_one (l : List Int) (hl : Bytes8 l) (at_ s n : Int) (h0 : 0 ≤ at_) (h1 : at_ < 2305843009213693952) (hn : n < 4611686018427387904) : ∃ b a' s', spec_l1Cur_one.f l at_ s n = some (b, a', s') ∧ at_ ≤ a' ∧ a' ≤ at_ + 2 := by
  obtain ⟨r, a', s', h, h2, h3, _⟩ := cur_pick l hl at_ s n h0 h1 hn
  unfold spec_l1Cur_one.f
  rw [h]
  exact ⟨_, _, _, rfl, h2, h3⟩

theorem cur_among (l : List Int) (hl : Bytes8 l) (at_ s : Int) (m : List Int) (hm : 1 ≤ m.length) (hm2 : m.length < 4000000000) (h0 : 0 ≤ at_) (h1 : at_ < 2305843009213693952) : ∃ r a' s', spec_l1Cur_among.f l at_ s m = some (r, a', s') ∧ at_ ≤ a' ∧ a' ≤ at_ + 2 ∧ r ∈ m := by
  obtain ⟨r, a', s', h, h2, h3, h4, h5⟩ := cur_pick l hl at_ s m.length h0 h1 (by omega)
  have h5 := h5 (by omega)
  unfold spec_l1Cur_among.f
  rw [h]
  simp only [Option.bind_some]
  rw [if_pos h4, if_pos h5]
  refine ⟨_, _, _, rfl, h2, h3, ?_⟩
  have hi : r.toNat < m.length := by omega
  have : rd m r = m[r.toNat] := by simp [rd, List.getD_eq_getElem?_getD, hi]
  rw [this]; exact List.getElem_mem hi

theorem cur_of (l : List Int) (hl : Bytes8 l) (at_ s : Int) (m : List ByteArray) (hm : 1 ≤ m.length) (hm2 : m.length < 4000000000) (h0 : 0 ≤ at_) (h1 : at_ < 2305843009213693952) : ∃ r a' s', spec_l1Cur_of.f l at_ s m = some (r, a', s') ∧ at_ ≤ a' ∧ a' ≤ at_ + 2 ∧ r ∈ m := by
  obtain ⟨r, a', s', h2, h3, h4, h5, h6⟩ := cur_pick l hl at_ s m.length h0 h1 (by omega)
  have h7 := h6 (by omega)
  refine ⟨rdOf ByteArray.empty m r, a', s', ?_, h3, h4, ?_⟩
  · unfold spec_l1Cur_of.f
    rw [h2, Option.bind_some, if_pos h5, if_pos h7]
  · have hr : r.toNat < m.length := by omega
    have : rdOf ByteArray.empty m r = m[r.toNat] := by simp [rdOf, List.getD_eq_getElem?_getD, hr]
    rw [this]; exact List.getElem_mem _
theorem cur_key10 (l : List Int) (hl : Bytes8 l) (at_ s : Int) (h0 : 0 ≤ at_) (h1 : at_ < 2305843009213693952) : ∃ r a' s', spec_l1Cur_key10.f l at_ s = some (r, a', s') ∧ at_ ≤ a' ∧ a' ≤ at_ + 2 ∧ r.size = 4 := by
  obtain ⟨r, a', s', h2, h3, h4, h5⟩ := cur_of l hl at_ s ([(⟨#[97, 97, 97, 97]⟩ : ByteArray), (⟨#[97, 97, 97, 98]⟩ : ByteArray), (⟨#[97, 97, 98, 97]⟩ : ByteArray), (⟨#[97, 98, 99, 100]⟩ : ByteArray), (⟨#[98, 0, 0, 0]⟩ : ByteArray), (⟨#[255, 255, 255, 255]⟩ : ByteArray), (⟨#[0, 0, 0, 0]⟩ : ByteArray), (⟨#[122, 122, 48, 48]⟩ : ByteArray), (⟨#[128, 97, 97, 97]⟩ : ByteArray)] : List ByteArray) (by decide) (by decide) h0 h1
  refine ⟨r, a', s', by unfold spec_l1Cur_key10.f; rw [h2]; rfl, h3, h4, ?_⟩
  simp only [List.mem_cons, List.not_mem_nil, or_false] at h5
  rcases h5 with rfl | rfl | rfl | rfl | rfl | rfl | rfl | rfl | rfl <;> rfl
theorem pairs10_l1 (m : List S51) (n : Int) (l : List Int) (at_ s : Int) (a : ByteArray) (b : Int) (hm : m.length < 2000000000) (d : Nat) : ∀ (has : Bool) (j : Int), 0 ≤ j → j ≤ m.length → (m.length : Int) - j = d →
    ∃ has', ∀ r, Ev (fun k => spec_l1Cur_pairs10.l1 k m n has' m m.length m.length l at_ s a b) r → Ev (fun k => spec_l1Cur_pairs10.l1 k m n has m m.length j l at_ s a b) r := by
  induction d with
  | zero => intro has j h0 h1 hd; obtain rfl : j = m.length := (by omega); exact ⟨has, fun r h => h⟩
  | succ d ih =>
    intro has j h0 h1 hd
    have hw : wrap64 (j + 1) = j + 1 := w64 (by omega) (by omega)
    by_cases hh : has = true
    · obtain ⟨h', e⟩ := ih true (j + 1) (by omega) (by omega) (by omega)
      exact ⟨h', fun r h => Ev.step (fun k => by rw [spec_l1Cur_pairs10.l1, if_pos (by omega), if_pos h0, if_pos (by omega), if_pos hh, hw]) (e r h)⟩
    · obtain ⟨h', e⟩ := ih (a.toList == (rd_T51 m j).f0.toList && (b == (rd_T51 m j).f1)) (j + 1) (by omega) (by omega) (by omega)
      exact ⟨h', fun r h => Ev.step (fun k => by rw [spec_l1Cur_pairs10.l1, if_pos (by omega), if_pos h0, if_pos (by omega), if_neg hh, hw]) (e r h)⟩
theorem pairs10_j2 (l : List Int) (hl : Bytes8 l) (m : List S51) (hm : 0 < m.length) (fl : Bool) (at_ s : Int) (h0 : 0 ≤ at_) (h1 : at_ < 1000000000000) :
    ∃ r a' s', Ev (fun k => spec_l1Cur_pairs10.j2 k m fl l at_ s) (r, a', s') ∧ at_ ≤ a' ∧ a' ≤ at_ + 4 ∧ r.length = m.length := by
  cases fl with
  | false => exact ⟨m, at_, s, Ev.step (fun k => by rw [spec_l1Cur_pairs10.j2, if_neg (by decide)]) (Ev.now _), by omega, by omega, rfl⟩
  | true =>
    obtain ⟨r1, a1, s1, e1, b1, b2, _⟩ := cur_of l hl at_ s ([(⟨#[]⟩ : ByteArray), (⟨#[97, 98, 99]⟩ : ByteArray), (⟨#[97, 97, 97, 97]⟩ : ByteArray)] : List ByteArray) (by decide) (by decide) h0 (by omega)
    obtain ⟨r2, a2, s2, e2, b3, b4, _⟩ := cur_among l hl a1 s1 ([(-1), 10000, 10001] : List Int) (by decide) (by decide) (by omega) (by omega)
    exact ⟨_, a2, s2, Ev.step (fun k => by rw [spec_l1Cur_pairs10.j2, if_pos rfl, e1, Option.bind_some, e2, Option.bind_some, if_pos (by omega)]) (Ev.now _), by omega, by omega, by simp⟩
theorem pairs10_l0 (l : List Int) (hl : Bytes8 l) (d : Nat) : ∀ (m : List S51) (n at_ s : Int), n = d → m.length + d ≤ 100 → 0 ≤ at_ → at_ + 10 * d < 1000000000 →
    ∃ r a' s', Ev (fun k => spec_l1Cur_pairs10.l0 k m n l at_ s) (r, a', s') ∧ at_ ≤ a' ∧ a' ≤ at_ + 10 * d + 10 ∧ r.length ≤ m.length + d := by
  induction d with
  | zero =>
    intro m n at_ s hn hm h0 h1
    by_cases hz : (m.length : Int) > 0
    · obtain ⟨fl, a1, s1, e1, b1, b2⟩ := cur_one l hl at_ s 30 h0 (by omega) (by omega)
      obtain ⟨r, a2, s2, e2, b3, b4, b5⟩ := pairs10_j2 l hl m (by omega) fl a1 s1 (by omega) (by omega)
      exact ⟨r, a2, s2, Ev.step (fun k => by rw [spec_l1Cur_pairs10.l0, if_neg (by omega), if_pos hz, e1, Option.bind_some]) e2, by omega, by omega, by omega⟩
    · exact ⟨m, at_, s, Ev.step (fun k => by rw [spec_l1Cur_pairs10.l0, if_neg (by omega), if_neg hz]) (Ev.step (fun k => by rw [spec_l1Cur_pairs10.j2, if_neg (by decide)]) (Ev.now _)), by omega, by omega, by omega⟩
  | succ d ih =>
    intro m n at_ s hn hm h0 h1
    obtain ⟨key, a1, s1, e1, b1, b2, _⟩ := cur_key10 l hl at_ s h0 (by omega)
    obtain ⟨x, a2, s2, e2, b3, b4, _, _⟩ := cur_pick l hl a1 s1 12 (by omega) (by omega) (by omega)
    obtain ⟨has, hh⟩ := pairs10_l1 m n l a2 s2 key x (by omega) m.length false 0 (by omega) (by omega) (by omega)
    have hw : wrap64 (n - 1) = n - 1 := w64 (by omega) (by omega)
    have hstep : ∀ r, Ev (fun k => spec_l1Cur_pairs10.l1 k m n has m m.length m.length l a2 s2 key x) r → Ev (fun k => spec_l1Cur_pairs10.l0 k m n l at_ s) r := fun r h =>
      Ev.step (fun k => by rw [spec_l1Cur_pairs10.l0, if_pos (by omega), e1, Option.bind_some, e2, Option.bind_some]) (hh r h)
    have hmore : ∀ at3 s3, a2 ≤ at3 → at3 ≤ a2 + 2 → ∃ r a' s', Ev (fun k => spec_l1Cur_pairs10.l0 k (m ++ [⟨key, x⟩]) (n - 1) l at3 s3) (r, a', s') ∧ at3 ≤ a' ∧ a' ≤ at3 + 10 * d + 10 ∧ r.length ≤ m.length + 1 + d := fun at3 s3 z1 z2 => by
      have := ih (m ++ [⟨key, x⟩]) (n - 1) at3 s3 (by omega) (by simp; omega) (by omega) (by omega)
      simpa using this
    cases has with
    | false =>
      obtain ⟨r, a', s', e3, c1, c2, c3⟩ := hmore a2 s2 (by omega) (by omega)
      exact ⟨r, a', s', hstep _ (Ev.step (fun k => by rw [spec_l1Cur_pairs10.l1, if_neg (by omega), if_neg (by decide), if_pos (by omega), hw]) e3), by omega, by omega, by omega⟩
    | true =>
      obtain ⟨fl, a3, s3, e3, b5, b6⟩ := cur_one l hl a2 s2 30 (by omega) (by omega) (by omega)
      cases fl with
      | true =>
        obtain ⟨r, a', s', e4, c1, c2, c3⟩ := hmore a3 s3 (by omega) (by omega)
        exact ⟨r, a', s', hstep _ (Ev.step (fun k => by rw [spec_l1Cur_pairs10.l1, if_neg (by omega), if_pos rfl, e3, Option.bind_some, if_pos (show (true, a3, s3).1 = true from rfl), if_pos (by omega), hw]) e4), by omega, by omega, by omega⟩
      | false =>
        obtain ⟨r, a', s', e4, c1, c2, c3⟩ := ih m (n - 1) a3 s3 (by omega) (by omega) (by omega) (by omega)
        exact ⟨r, a', s', hstep _ (Ev.step (fun k => by rw [spec_l1Cur_pairs10.l1, if_neg (by omega), if_pos rfl, e3, Option.bind_some, if_neg (show ¬ ((false, a3, s3).1 = true) from Bool.false_ne_true), hw]) e4), by omega, by omega, by omega⟩
theorem cur_pairs10 (l : List Int) (hl : Bytes8 l) (at_ s : Int) (h0 : 0 ≤ at_) (h1 : at_ < 1000) :
    ∃ r a' s', Ev (fun k => spec_l1Cur_pairs10.f k l at_ s) (r, a', s') ∧ at_ ≤ a' ∧ a' ≤ at_ + 200 ∧ r.length ≤ 10 := by
  obtain ⟨n, a1, s1, e1, b1, b2, b3, b4⟩ := cur_pick l hl at_ s 10 h0 (by omega) (by omega)
  have b5 := b4 (by omega)
  obtain ⟨r, a', s', e2, c1, c2, c3⟩ := pairs10_l0 l hl n.toNat [] n a1 s1 (by omega) (by simp; omega) (by omega) (by omega)
  refine ⟨r, a', s', ?_, by omega, by omega, by simp at c3; omega⟩
  unfold spec_l1Cur_pairs10.f
  simp only [e1, Option.bind_some]
  exact e2
theorem pairsF_bound (M : Nat) : ∀ (f : List S74), (∀ x ∈ f, x.f1.length ≤ M) → (pairsF f).length ≤ f.length * M
  | [], _ => by simp [pairsF]
  | x :: f, h => by
    have h1 := h x (by simp)
    have h2 := pairsF_bound M f (fun y hy => h y (List.mem_cons_of_mem _ hy))
    rw [pairsF_cons, List.length_append, List.length_map, List.length_cons, Nat.succ_mul]
    omega

/-- Both programs' IndexOf, with the tree. -/
theorem indexOfBoth2 (l : List S51) (hl : l.length < 2000000000) : ∃ g b, Ev (fun k => spec_GoodPairs.f k l) b ∧ Ev (fun k => impl_arePairs.f k l) b ∧ Ev (fun k => spec_IndexOf.f k l) (g, b) ∧ Ev (fun k => impl_IndexOf.f k l) (g, b) ∧ g.length ≤ 39 ∧ (∀ x ∈ g, x.f1.length ≤ 60) ∧ (b = true → ∃ ks pl, Tree l ks pl ∧ g = tr pl ks 0) := by
  obtain ⟨b0, g1, g2⟩ := goodPairs l (by omega)
  unfold spec_IndexOf.f impl_IndexOf.f
  cases b0 with
  | false =>
    refine ⟨[], false, g1, g2, Ev.bind g1 ?_, Ev.bind g2 ?_, by simp, by simp, fun h => by cases h⟩
    · simp only [Bool.false_eq_true, if_false]; exact Ev.now _
    · simp only [Bool.false_eq_true, if_false]; exact Ev.now _
  | true =>
    obtain ⟨k0, hk0⟩ := Ev.rounds g1
    obtain ⟨ks, pl, ht⟩ := index_both l (by omega) k0 hk0
    refine ⟨tr pl ks 0, true, g1, g2, Ev.bind g1 ?_, Ev.bind g2 ?_, tree_len ht, fun x hx => ?_, fun _ => ⟨ks, pl, ht, rfl⟩⟩
    · simp only [if_true]; exact Ev.bind ht.spec (Ev.now _)
    · simp only [if_true]; exact Ev.bind ht.impl (Ev.now _)
    · exact tr_sixty ht x hx
theorem cur_index10 (l : List Int) (hl : Bytes8 l) (at_ s : Int) (h0 : 0 ≤ at_) (h1 : at_ < 1000) :
    ∃ g a' s', Ev (fun k => spec_l1Cur_index10.f k l at_ s) (g, a', s') ∧ at_ ≤ a' ∧ a' ≤ at_ + 204 ∧ g.length ≤ 39 ∧ (∀ x ∈ g, x.f1.length ≤ 60) := by
  obtain ⟨r, a1, s1, e1, b1, b2, b3⟩ := cur_pairs10 l hl at_ s h0 h1
  obtain ⟨g, b, _, _, hs, _, hg1, hg2, _⟩ := indexOfBoth2 r (by omega)
  unfold spec_l1Cur_index10.f
  by_cases hz : (g.length : Int) > 0
  · obtain ⟨fl, a2, s2, e2, c1, c2⟩ := cur_one l hl a1 s1 20 (by omega) (by omega) (by omega)
    cases fl with
    | false =>
      refine ⟨g, a2, s2, Ev.bind e1 (Ev.bind hs ?_), by omega, by omega, hg1, hg2⟩
      simp only [hz, if_true, e2, Option.bind_some, Bool.false_eq_true, if_false]
      exact Ev.now _
    | true =>
      obtain ⟨n, a3, s3, e3, d1, d2, d3, d4⟩ := cur_pick l hl a2 s2 g.length (by omega) (by omega) (by omega)
      have d5 := d4 (by omega)
      refine ⟨g.set n.toNat ⟨(rd_T74 g n).f0, (rd_T74 g n).f1, wrap64 ((rd_T74 g n).f2 + 1), (rd_T74 g n).f3, (rd_T74 g n).f4⟩, a3, s3, Ev.bind e1 (Ev.bind hs ?_), by omega, by omega, ?_, ?_⟩
      · simp only [hz, if_true, e2, Option.bind_some, e3, d3, d5]
        exact Ev.now _
      · rw [List.length_set]; exact hg1
      · intro x hx
        rcases List.mem_or_eq_of_mem_set hx with hx | rfl
        · exact hg2 x hx
        · show (rd_T74 g n).f1.length ≤ 60
          rw [rdF g n d3 d5]
          exact hg2 _ (List.getElem_mem _)
  · refine ⟨g, a1, s1, Ev.bind e1 (Ev.bind hs ?_), by omega, by omega, hg1, hg2⟩
    simp only [hz, if_false]
    exact Ev.now _

theorem putBoth2 (f : List S74) (hf : f.length ≤ 1048576) (hs : ∀ x ∈ f, x.f1.length ≤ 1048576) (hp : (pairsF f).length ≤ 1048576) (s : ByteArray) (a : Int) :
    ∃ g b, Ev (fun k => spec_PutPair.f k f s a) (g, b) ∧ Ev (fun k => impl_PutPair.f k f s a) (g, b) ∧ g.length ≤ 39 ∧ (∀ x ∈ g, x.f1.length ≤ 60) ∧ (b = true → ∃ l ks pl, Tree l ks pl ∧ g = tr pl ks 0 ∧ ⟨s, a⟩ ∈ l) := by
  obtain ⟨b, g1, g2, _⟩ := goodIndex f hf hs hp
  obtain ⟨p1, p2⟩ := pairsBoth f (by omega) hs (by omega)
  unfold spec_PutPair.f impl_PutPair.f
  cases b with
  | false =>
    refine ⟨[], false, Ev.bind g1 ?_, Ev.bind g2 ?_, by simp, by simp, fun h => by cases h⟩
    · simp only [Bool.false_eq_true, if_false]; exact Ev.now _
    · simp only [Bool.false_eq_true, if_false]; exact Ev.now _
  | true =>
    have hlen : (pairsF f).length + ([⟨s, a⟩] : List S51).length < 5864062014805 := by simp; omega
    obtain ⟨b0, q1, q2⟩ := goodPairs (pairsF f ++ [⟨s, a⟩]) (by simp; omega)
    cases b0 with
    | false =>
      refine ⟨[], false, Ev.bind g1 ?_, Ev.bind g2 ?_, by simp, by simp, fun h => by cases h⟩
      · simp only [if_true]
        refine Ev.bind p1 ?_
        simp only [Option.bind_some, hlen, if_true]
        refine Ev.bind q1 ?_
        simp only [Bool.false_eq_true, if_false]; exact Ev.now _
      · simp only [if_true]
        refine Ev.bind p2 ?_
        simp only [Option.bind_some, hlen, if_true]
        refine Ev.bind q2 ?_
        simp only [Bool.false_eq_true, if_false]; exact Ev.now _
    | true =>
      obtain ⟨k0, hk0⟩ := Ev.rounds q1
      obtain ⟨ks, pl, ht⟩ := index_both (pairsF f ++ [⟨s, a⟩]) (by simp; omega) k0 hk0
      refine ⟨tr pl ks 0, true, Ev.bind g1 ?_, Ev.bind g2 ?_, tree_len ht, fun x hx => tr_sixty ht x hx, fun _ => ⟨_, ks, pl, ht, rfl, by simp⟩⟩
      · simp only [if_true]
        refine Ev.bind p1 ?_
        simp only [Option.bind_some, hlen, if_true]
        refine Ev.bind q1 ?_
        simp only [if_true]; exact Ev.bind ht.spec (Ev.now _)
      · simp only [if_true]
        refine Ev.bind p2 ?_
        simp only [Option.bind_some, hlen, if_true]
        refine Ev.bind q2 ?_
        simp only [if_true]; exact Ev.bind ht.impl (Ev.now _)
theorem drawIndexOf (l : List Int) (hl : Bytes8 l) : ∃ r, Ev (fun k => spec_DrawIndexOf.f k l) r ∧ r.length ≤ 10 := by
  obtain ⟨r, a', s', e, _, _, h⟩ := cur_pairs10 l hl 0 0 (by omega) (by omega)
  exact ⟨r, by unfold spec_DrawIndexOf.f spec_DrawGoodPairs.f; exact Ev.bind (Ev.bind e (Ev.now _)) (Ev.now _), h⟩
theorem drawPutPair (l : List Int) (hl : Bytes8 l) : ∃ g s a, Ev (fun k => spec_DrawPutPair.f k l) (g, s, a) ∧ g.length ≤ 1048576 ∧ (∀ x ∈ g, x.f1.length ≤ 1048576) ∧ (pairsF g).length ≤ 1048576 ∧ True := by
  obtain ⟨g, a1, s1, e1, b1, b2, h1, h2⟩ := cur_index10 l hl 0 0 (by omega) (by omega)
  obtain ⟨key, a2, s2, e2, b3, b4, _⟩ := cur_key10 l hl a1 s1 (by omega) (by omega)
  obtain ⟨x, a3, s3, e3, b5, b6, _, _⟩ := cur_pick l hl a2 s2 12 (by omega) (by omega) (by omega)
  have h3 := pairsF_bound 60 g h2
  have h4 : g.length * 60 ≤ 39 * 60 := Nat.mul_le_mul_right _ h1
  refine ⟨g, key, x, ?_, by omega, fun x hx => by have := h2 x hx; omega, by omega, trivial⟩
  unfold spec_DrawPutPair.f
  refine Ev.bind e1 ?_
  simp only [e2, Option.bind_some, e3]
  exact Ev.now _

theorem drawn_pair_l3 (l1 : List Int) (l : List S51) (f : List S74) (p : List Int) (i a : Int) (n c : Int) (x99 : List S51) (x126 : List Int) (y128 x127 : Int) (key : ByteArray) (b : Int) (r : Bool) (hl : l.length < 2000000000)
    (hend : Ev (fun k => laws_FnIndex.l3 k l1 l f p i a true x99 n c x126 x127 y128 l l.length l.length key b) r) (d : Nat) : ∀ (j : Int) (fl : Bool), 0 ≤ j → j ≤ l.length → (l.length : Int) - j = d → (fl = true ∨ ∃ y ∈ l.drop j.toNat, y.f0.toList = key.toList ∧ y.f1 = a) →
    Ev (fun k => laws_FnIndex.l3 k l1 l f p i a fl x99 n c x126 x127 y128 l l.length j key b) r := by
  induction d with
  | zero =>
    intro j fl h0 h1 hd hor
    obtain rfl : j = l.length := by omega
    rcases hor with rfl | ⟨y, hy, _⟩
    · exact hend
    · rw [List.drop_of_length_le (by omega)] at hy; cases hy
  | succ d ih =>
    intro j fl h0 h1 hd hor
    have hj : j.toNat < l.length := by omega
    have hw : wrap64 (j + 1) = j + 1 := w64 (by omega) (by omega)
    have hrd : rd_T51 l j = l[j.toNat] := rdP l j h0 (by omega)
    have he : (j + 1).toNat = j.toNat + 1 := by omega
    by_cases hf : fl = true
    · exact Ev.step (fun k => by rw [laws_FnIndex.l3, if_pos (by omega), if_pos h0, if_pos (by omega), if_pos hf, hw]) (ih (j + 1) true (by omega) (by omega) (by omega) (.inl rfl))
    · have hor2 : ∃ y ∈ l.drop j.toNat, y.f0.toList = key.toList ∧ y.f1 = a := hor.resolve_left hf
      rw [List.drop_eq_getElem_cons hj] at hor2
      obtain ⟨y, hy, h2, h3⟩ := hor2
      by_cases hk : l[j.toNat].f0.toList = key.toList
      · refine Ev.step (fun k => by rw [laws_FnIndex.l3, if_pos (by omega), if_pos h0, if_pos (by omega), if_neg hf, hrd, if_pos hk, hw]) (ih (j + 1) _ (by omega) (by omega) (by omega) ?_)
        rcases List.mem_cons.1 hy with rfl | hy
        · left; rw [beq_iff_eq]; exact h3
        · right; rw [he]; exact ⟨y, hy, h2, h3⟩
      · refine Ev.step (fun k => by rw [laws_FnIndex.l3, if_pos (by omega), if_pos h0, if_pos (by omega), if_neg hf, hrd, if_neg hk, hw]) (ih (j + 1) false (by omega) (by omega) (by omega) (.inr ?_))
        rcases List.mem_cons.1 hy with rfl | hy
        · exact absurd h2 hk
        · rw [he]; exact ⟨y, hy, h2, h3⟩
/-- The places of a key, one by one: each is a pair's, and they rise. -/
theorem drawn_pair_l2 (l1 : List Int) (l : List S51) (f : List S74) (p : List Int) (x99 : List S51) (n c : Int) (key : ByteArray) (b : Int) (r : Bool) (hl : l.length < 2000000000) (hp : p.length < 2000000000)
    (hall : ∀ a ∈ p, ∃ y ∈ l, y.f0.toList = key.toList ∧ y.f1 = a) (hup : p.Pairwise (· < ·)) (hend : Ev (fun k => laws_FnIndex.l1 k l1 l f x99 n (wrap64 (c + 1))) r) (d : Nat) : ∀ (i : Int), 0 ≤ i → i ≤ p.length → (p.length : Int) - i = d →
    Ev (fun k => laws_FnIndex.l2 k l1 l f p x99 n c p p.length i key b) r := by
  induction d with
  | zero => intro i h0 h1 hd; exact Ev.step (fun k => by rw [laws_FnIndex.l2, if_neg (by omega)]) hend
  | succ d ih =>
    intro i h0 h1 hd
    have hi : i.toNat < p.length := by omega
    have hrd : rd p i = p[i.toNat] := rdI p i h0 (by omega)
    have hw : wrap64 (i + 1) = i + 1 := w64 (by omega) (by omega)
    have hn := ih (i + 1) (by omega) (by omega) (by omega)
    refine Ev.step (fun k => by rw [laws_FnIndex.l2, if_pos (by omega), if_pos h0, if_pos (by omega), hrd]) ?_
    refine drawn_pair_l3 l1 l f p i p[i.toNat] n c x99 p i p.length key b r hl ?_ l.length 0 false (by omega) (by omega) (by omega) (.inr (by simpa using hall _ (List.getElem_mem hi)))
    by_cases hz : i > 0
    · have hw1 : wrap64 (i - 1) = i - 1 := w64 (by omega) (by omega)
      have hrd1 : rd p (i - 1) = p[(i - 1).toNat]'(by omega) := rdI p (i - 1) (by omega) (by omega)
      have hlt := List.pairwise_iff_getElem.1 hup (i - 1).toNat i.toNat (by omega) hi (by omega)
      exact Ev.step (fun k => by rw [laws_FnIndex.l3, if_neg (by omega), if_pos rfl, if_pos hz, hw1, if_pos (by omega), if_pos (by omega), hrd1, if_neg (by omega), hw]) hn
    · exact Ev.step (fun k => by rw [laws_FnIndex.l3, if_neg (by omega), if_pos rfl, if_neg hz, hw]) hn
/-- Every pair is found. -/
theorem drawn_pair_l1 (l1 : List Int) (l : List S51) (ks : List ByteArray) (pl : ByteArray → List Int) (ht : Tree l ks pl) (hj7 : Ev (fun k => laws_FnIndex.j7 k l1) true) (d : Nat) : ∀ (j : Int), 0 ≤ j → j ≤ l.length → (l.length : Int) - j = d →
    Ev (fun k => laws_FnIndex.l1 k l1 l (tr pl ks 0) l l.length j) true := by
  have hl := ht.short
  induction d with
  | zero => intro j h0 h1 hd; exact Ev.step (fun k => by rw [laws_FnIndex.l1, if_neg (by omega)]) hj7
  | succ d ih =>
    intro j h0 h1 hd
    have hj : j.toNat < l.length := by omega
    have hrd : rd_T51 l j = l[j.toNat] := rdP l j h0 (by omega)
    have hn := ih (j + 1) (by omega) (by omega) (by omega)
    have hmem : l[j.toNat] ∈ l := List.getElem_mem hj
    generalize l[j.toNat] = x at hrd hmem
    have hfl := (flat_mem _ _ _).1 ((ht.mem x).1 hmem)
    obtain ⟨m, hm, hfind⟩ := find_pair ht x.f0 hfl.1
    have hlen : (pl x.f0).length ≤ 60 := Nat.le_trans (flat_len_mem pl ks x.f0 hfl.1) ht.flat_len
    refine Ev.step (fun k => by rw [laws_FnIndex.l1, if_pos (by omega), if_pos h0, if_pos (by omega), hrd]) (Ev.bind hfind ?_)
    simp only [if_true]
    refine Ev.bind (has_is (pl x.f0) x.f1 (by omega)) ?_
    simp only [decide_eq_true hfl.2, if_true]
    rw [decide_eq_false (show ¬ m > 32 by omega)]
    refine Ev.step (fun k => by rw [laws_FnIndex.j4, if_neg (by decide)]) ?_
    refine drawn_pair_l2 l1 l (tr pl ks 0) (pl x.f0) l l.length j x.f0 x.f1 true (by omega) (by omega) (fun a ha => ?_) (ht.rising _ hfl.1) (by rw [w64 (by omega) (by omega)]; exact hn) (pl x.f0).length 0 (by omega) (by omega) (by omega)
    exact ⟨⟨x.f0, a⟩, (ht.mem _).2 ((flat_mem _ _ _).2 ⟨hfl.1, ha⟩), rfl, rfl⟩
theorem drawn_put (l1 : List Int) (h1 : Bytes8 l1) : Ev (fun k => laws_FnIndex.j7 k l1) true := by
  obtain ⟨g, s, a, hd, hg1, hg2, hg3, hs4⟩ := drawPutPair l1 h1
  refine Ev.step (fun k => by rw [laws_FnIndex.j7]) (Ev.bind hd ?_)
  obtain ⟨h, b, hs, hi, hh1, hh2, ho⟩ := putBoth2 g hg1 hg2 hg3 s a
  obtain ⟨c, c1, c2, _⟩ := goodIndex g hg1 hg2 hg3
  have c3 : Ev (fun k => impl_GoodIndex.f k g) c := by unfold impl_GoodIndex.f; exact Ev.bind c2 (Ev.now _)
  refine Ev.bind hi (Ev.bind hs ?_)
  simp only [bne_self_eq_false, Bool.false_eq_true, if_false]
  refine Ev.bind (sameForks_self h (by omega) (fun x hx => by have := hh2 x hx; omega)) ?_
  simp only [if_true]
  refine Ev.bind c3 (Ev.bind c1 ?_)
  simp only [bne_self_eq_false]
  refine Ev.step (fun k => by rw [laws_FnIndex.j8, if_neg (by decide)]) ?_
  cases b with
  | false => simp only [Bool.false_eq_true, if_false]; exact Ev.now _
  | true =>
    obtain ⟨l, ks, pl, ht, rfl, hin⟩ := ho rfl
    have hfl := (flat_mem _ _ _).1 ((ht.mem _).1 hin)
    obtain ⟨m, hm, hfind⟩ := find_pair ht s hfl.1
    have hlen : (pl s).length ≤ 60 := Nat.le_trans (flat_len_mem pl ks s hfl.1) ht.flat_len
    simp only [if_true]
    refine Ev.bind hfind ?_
    simp only [if_true]
    refine Ev.bind (has_is (pl s) a (by omega)) ?_
    rw [decide_eq_true hfl.2]
    exact Ev.now _
/-- The pairs from the last to the first. -/
theorem drawn_turn (l1 : List Int) (l : List S51) (f : List S74) (hl : l.length < 2000000000) (r : Bool) (hend : Ev (fun k => laws_FnIndex.l0 k l1 l f l.reverse (-1)) r) (d : Nat) : ∀ (i : Int) (acc : List S51), i + 1 = d → i < l.length → acc = (l.drop (i + 1).toNat).reverse →
    Ev (fun k => laws_FnIndex.l0 k l1 l f acc i) r := by
  induction d with
  | zero =>
    intro i acc hd hi he
    obtain rfl : i = -1 := by omega
    rw [he]
    simpa using hend
  | succ d ih =>
    intro i acc hd hi he
    have hj : i.toNat < l.length := by omega
    have hrd : rd_T51 l i = l[i.toNat] := rdP l i (by omega) hi
    have hw : wrap64 (i - 1) = i - 1 := w64 (by omega) (by omega)
    have hal : acc.length < 5864062014805 := by rw [he]; simp; omega
    refine Ev.step (fun k => by rw [laws_FnIndex.l0, if_pos (by omega), if_pos (by omega), if_pos hi, if_pos hal, hw, hrd]) (ih (i - 1) _ (by omega) (by omega) ?_)
    rw [he, show (i - 1 + 1).toNat = i.toNat by omega, List.drop_eq_getElem_cons hj, List.reverse_cons, show (i + 1).toNat = i.toNat + 1 by omega]
theorem FnIndex : laws_FnIndex.Pure := by
  intro l0 l1 _ hs0 hb0 _ hs1 hb1
  apply Ev.rounds (g := fun k => laws_FnIndex.f k l0 l1)
  unfold laws_FnIndex.f
  by_cases hz : wrap64 ((l0.length : Int) + (l1.length : Int)) > 1048576
  · simp only [hz, if_true]; exact Ev.now _
  simp only [hz, if_false]
  obtain ⟨l, hd, hll⟩ := drawIndexOf l0 (bytes_of_wf hb0)
  have hj7 := drawn_put l1 (bytes_of_wf hb1)
  obtain ⟨f, b, g1, g2, hs, hi, hf1, hf2, ho⟩ := indexOfBoth2 l (by omega)
  refine Ev.bind hd (Ev.bind hi (Ev.bind hs ?_))
  simp only [bne_self_eq_false, Bool.false_eq_true, if_false]
  refine Ev.bind (sameForks_self f (by omega) (fun x hx => by have := hf2 x hx; omega)) ?_
  simp only [if_true]
  refine Ev.bind (a := b) (by unfold impl_GoodPairs.f; exact Ev.bind g2 (Ev.now _)) ?_
  simp only [bne_self_eq_false]
  refine Ev.step (fun k => by rw [laws_FnIndex.j0, if_neg (by decide)]) ?_
  cases b with
  | false => simp only [Bool.false_eq_true, if_false]; exact hj7
  | true =>
    obtain ⟨ks, pl, ht, rfl⟩ := ho rfl
    simp only [if_true]
    rw [w64 (n := (l.length : Int) - 1) (by omega) (by omega)]
    refine drawn_turn l1 l (tr pl ks 0) (by omega) true ?_ l.length ((l.length : Int) - 1) [] (by omega) (by omega) (by simp)
    have hnd : l.Pairwise (· ≠ ·) := by
      obtain ⟨k0, hk0⟩ := Ev.rounds g1
      exact good_nodup l (fun j h0 h1 => ((good_true l (by omega) k0 0 [] (by omega) (by omega) hk0).2.1 j h0 h1).2.2.2)
    obtain ⟨q1, q2, ks', pl', ht', he⟩ := tree_of ht (l' := l.reverse) (by rw [List.length_reverse]; exact ht.short) (fun x => List.mem_reverse) (by rw [List.pairwise_reverse]; exact hnd.imp (fun h => h.symm))
    refine Ev.step (fun k => by rw [laws_FnIndex.l0, if_neg (by decide)]) ?_
    refine Ev.bind (a := (tr pl ks 0, true)) ?_ ?_
    · unfold impl_IndexOf.f
      refine Ev.bind q2 ?_
      simp only [if_true]
      rw [← he]
      exact Ev.bind ht'.impl (Ev.now _)
    · refine Ev.bind (a := true) (by unfold impl_GoodIndex.f; exact Ev.bind (tree_index ht).2 (Ev.now _)) ?_
      simp only [if_true]
      refine Ev.bind (sameForks_self (tr pl ks 0) (by omega) (fun x hx => by have := hf2 x hx; omega)) ?_
      simp only [Bool.not_true]
      refine Ev.step (fun k => by rw [laws_FnIndex.j2, if_neg (by decide)]) ?_
      exact drawn_pair_l1 l1 l ks pl ht hj7 l.length 0 (by omega) (by omega) (by omega)

end Go.Proofs.Ytkkphbjemnifiaa.Pure
