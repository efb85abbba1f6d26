/-
The pure statement of FnExactGoodEdge is proved: for every edge the program's GoodEdge and the reference's GoodEdge give one answer, and the edge is not changed.
Conditions: the edge's list and its strings are ones that Go can hold. None besides.
-/
import Derived.Test.YtanebapjclkikaaPFnExactGoodEdgex3
import Derived.Test.YtanebapjclkikaaPreFnExactGoodEdge
set_option linter.unusedVariables false
set_option linter.unusedSimpArgs false
namespace Go.Proofs.Ytanebapjclkikaa.Pure
open Go.RowKit Go.Proofs.Ytanebapjclkikaa.PFnExactGoodEdge Go.Proofs.YtanebapjclkikaaW.PrintWords Go.Proofs.YtanebapjclkikaaW.PrintLast Go.Proofs.YtanebapjclkikaaW.PrintMore

theorem w64 {n : Int} (h0 : -9223372036854775808 ≤ n) (h1 : n ≤ 9223372036854775807) : wrap64 n = n := by unfold wrap64; omega
theorem rd_set (l : List Int) (i j v : Int) (h0 : 0 ≤ i) (h1 : i < l.length) (hj : 0 ≤ j) : rd (l.set i.toNat v) j = if j = i then v else rd l j := by
  unfold rd
  rw [List.getD_eq_getElem?_getD, List.getD_eq_getElem?_getD, List.getElem?_set]
  by_cases e : j = i
  · subst e; rw [if_pos rfl, if_pos (by omega), if_pos rfl]; rfl
  · rw [if_neg (by omega), if_neg e]
theorem rdOf_set {α : Type} (d : α) (l : List α) (i j : Int) (v : α) (h0 : 0 ≤ i) (h1 : i < l.length) (hj : 0 ≤ j) : rdOf d (l.set i.toNat v) j = if j = i then v else rdOf d l j := by
  unfold rdOf
  rw [List.getD_eq_getElem?_getD, List.getD_eq_getElem?_getD, List.getElem?_set]
  by_cases e : j = i
  · subst e; rw [if_pos rfl, if_pos (by omega), if_pos rfl]; rfl
  · rw [if_neg (by omega), if_neg e]

/-! Counting bits, by bytes. -/
theorem and_byte (n m : Nat) : n &&& m = (n % 256 &&& m % 256) + 256 * (n / 256 &&& m / 256) := by
  have h1 : (n &&& m) % 2 ^ 8 = (n % 2 ^ 8) &&& (m % 2 ^ 8) := Nat.and_mod_two_pow
  have h2 : (n &&& m) / 2 ^ 8 = (n / 2 ^ 8) &&& (m / 2 ^ 8) := Nat.and_div_two_pow
  have h3 := Nat.mod_add_div (n &&& m) (2 ^ 8)
  rw [h1, h2] at h3
  exact h3.symm
theorem and3 (n m : Nat) (hn : n < 16777216) : n &&& m = (n % 256 &&& m % 256) + 256 * (n / 256 % 256 &&& m / 256 % 256) + 65536 * (n / 65536 % 256 &&& m / 65536 % 256) := by
  have h := and_byte n m
  have h2 := and_byte (n / 256) (m / 256)
  have h3 := and_byte (n / 256 / 256) (m / 256 / 256)
  have e : n / 256 / 256 / 256 = 0 := by omega
  rw [e, Nat.zero_and] at h3
  have e1 : n / 256 / 256 = n / 65536 := by omega
  have e2 : m / 256 / 256 = m / 65536 := by omega
  rw [e1, e2] at h2 h3
  omega
def ta (d : Nat) : Nat := (d / 2 &&& 85) + (d &&& 85)
def tb (d : Nat) : Nat := (d / 4 &&& 51) + (d &&& 51)
def pc8 (d : Nat) : Nat := d % 2 + d / 2 % 2 + d / 4 % 2 + d / 8 % 2 + d / 16 % 2 + d / 32 % 2 + d / 64 % 2 + d / 128 % 2
theorem ta_tab : ∀ d, d < 256 → ∀ e, e < 2 → ((d / 2 + 128 * e) &&& 85) + (d &&& 85) = ta d ∧ ta d < 256 := by decide +kernel
theorem tb_tab : ∀ d, d < 256 → ∀ e, e < 4 → ((d / 4 + 64 * e) &&& 51) + (d &&& 51) = tb d := by decide +kernel
theorem tc_tab : ∀ d, d < 256 → tb (ta d) % 16 ≤ 4 ∧ tb (ta d) / 16 ≤ 4 ∧ (tb (ta d) + tb (ta d) / 16) % 16 = pc8 d := by decide +kernel
theorem and15 (n : Nat) : n &&& 15 = n % 16 := Nat.and_two_pow_sub_one_eq_mod n 4
theorem stepA (d0 d1 d2 : Nat) (h0 : d0 < 256) (h1 : d1 < 256) (h2 : d2 < 256) (n : Nat) (hn : n = d0 + 256 * d1 + 65536 * d2) :
    (n / 2 &&& 6148914691236517205) + (n &&& 6148914691236517205) = ta d0 + 256 * ta d1 + 65536 * ta d2 := by
  rw [and3 n _ (by omega), and3 (n / 2) _ (by omega)]
  have a0 := (ta_tab d0 h0 (d1 % 2) (by omega)).1
  have a1 := (ta_tab d1 h1 (d2 % 2) (by omega)).1
  have a2 := (ta_tab d2 h2 0 (by omega)).1
  rw [show n % 256 = d0 by omega, show n / 256 % 256 = d1 by omega, show n / 65536 % 256 = d2 by omega, show n / 2 % 256 = d0 / 2 + 128 * (d1 % 2) by omega, show n / 2 / 256 % 256 = d1 / 2 + 128 * (d2 % 2) by omega, show n / 2 / 65536 % 256 = d2 / 2 + 128 * 0 by omega]
  simp only [Nat.reduceMod, Nat.reduceDiv]
  omega
theorem stepB (d0 d1 d2 : Nat) (h0 : d0 < 256) (h1 : d1 < 256) (h2 : d2 < 256) (n : Nat) (hn : n = d0 + 256 * d1 + 65536 * d2) :
    (n / 4 &&& 3689348814741910323) + (n &&& 3689348814741910323) = tb d0 + 256 * tb d1 + 65536 * tb d2 := by
  rw [and3 n _ (by omega), and3 (n / 4) _ (by omega)]
  have a0 := tb_tab d0 h0 (d1 % 4) (by omega)
  have a1 := tb_tab d1 h1 (d2 % 4) (by omega)
  have a2 := tb_tab d2 h2 0 (by omega)
  rw [show n % 256 = d0 by omega, show n / 256 % 256 = d1 by omega, show n / 65536 % 256 = d2 by omega, show n / 4 % 256 = d0 / 4 + 64 * (d1 % 4) by omega, show n / 4 / 256 % 256 = d1 / 4 + 64 * (d2 % 4) by omega, show n / 4 / 65536 % 256 = d2 / 4 + 64 * 0 by omega]
  simp only [Nat.reduceMod, Nat.reduceDiv]
  omega
theorem bytes3 (c0 c1 c2 : Nat) (h0 : c0 < 256) (h1 : c1 < 256) (h2 : c2 < 256) : (c0 + 256 * c1 + 65536 * c2) % 256 = c0 ∧ (c0 + 256 * c1 + 65536 * c2) / 256 % 256 = c1 ∧ (c0 + 256 * c1 + 65536 * c2) / 65536 % 256 = c2 := by omega
theorem stepC (d0 d1 d2 : Nat) (h0 : d0 % 16 ≤ 4 ∧ d0 / 16 ≤ 4) (h1 : d1 % 16 ≤ 4 ∧ d1 / 16 ≤ 4) (h2 : d2 % 16 ≤ 4 ∧ d2 / 16 ≤ 4) (n : Nat) (hn : n = d0 + 256 * d1 + 65536 * d2) :
    (n / 16 + n) &&& 1085102592571150095 = (d0 + d0 / 16) % 16 + 256 * ((d1 + d1 / 16) % 16) + 65536 * ((d2 + d2 / 16) % 16) := by
  have q : n / 16 = d0 / 16 + 16 * d1 + 4096 * d2 := by omega
  have q2 : n / 16 + n = (d0 + d0 / 16 + 16 * (d1 % 16)) + 256 * (d1 + d1 / 16 + 16 * (d2 % 16)) + 65536 * (d2 + d2 / 16) := by omega
  rw [and3 (n / 16 + n) _ (by omega), q2]
  clear q q2 hn
  obtain ⟨c0, g0⟩ : ∃ c, c = d0 + d0 / 16 + 16 * (d1 % 16) := ⟨_, rfl⟩
  obtain ⟨c1, g1⟩ : ∃ c, c = d1 + d1 / 16 + 16 * (d2 % 16) := ⟨_, rfl⟩
  obtain ⟨c2, g2⟩ : ∃ c, c = d2 + d2 / 16 := ⟨_, rfl⟩
  have b0 : c0 < 256 := by omega
  have b1 : c1 < 256 := by omega
  have b2 : c2 < 256 := by omega
  have m0 : c0 % 16 = (d0 + d0 / 16) % 16 := by omega
  have m1 : c1 % 16 = (d1 + d1 / 16) % 16 := by omega
  rw [← g0, ← g1, ← g2, ← m0, ← m1]
  obtain ⟨u0, u1, u2⟩ := bytes3 c0 c1 c2 b0 b1 b2
  rw [u0, u1, u2]
  simp only [Nat.reduceMod, Nat.reduceDiv, and15, m0, m1, g2]
theorem and64 (a b : Nat) (ha : a < 18446744073709551616) (hb : b < 18446744073709551616) : Go.bits .and .u64 (a : Int) (b : Int) = ((a &&& b : Nat) : Int) :=
  (bits_nat .u64 64 (by decide) (fun n h₀ h₁ => by simp [IntKind.wrap, IntKind.bits, IntKind.signed]; omega) a b ha hb).1
theorem u64n (a : Nat) (h : a < 18446744073709551616) : IntKind.u64.wrap (a : Int) = (a : Int) := by simp [IntKind.wrap, IntKind.bits, IntKind.signed]; omega
def ones (n : Nat) : Nat := pc8 (n % 256) + pc8 (n / 256 % 256) + pc8 (n / 65536)
theorem pc8_le (d : Nat) : pc8 d ≤ 8 := by unfold pc8; omega
theorem ones64 (n : Nat) (hn : n < 16777216) : bits_OnesCount64.f (n : Int) = some ((ones n : Nat) : Int) := by
  obtain ⟨d0, e0⟩ : ∃ d, d = n % 256 := ⟨_, rfl⟩
  obtain ⟨d1, e1⟩ : ∃ d, d = n / 256 % 256 := ⟨_, rfl⟩
  obtain ⟨d2, e2⟩ : ∃ d, d = n / 65536 := ⟨_, rfl⟩
  have A := stepA d0 d1 d2 (by omega) (by omega) (by omega) n (by omega)
  have t0 := (ta_tab d0 (by omega) 0 (by omega)).2
  have t1 := (ta_tab d1 (by omega) 0 (by omega)).2
  have t2 := (ta_tab d2 (by omega) 0 (by omega)).2
  have B := stepB (ta d0) (ta d1) (ta d2) t0 t1 t2 _ rfl
  have c0 := tc_tab d0 (by omega)
  have c1 := tc_tab d1 (by omega)
  have c2 := tc_tab d2 (by omega)
  have C := stepC (tb (ta d0)) (tb (ta d1)) (tb (ta d2)) ⟨c0.1, c0.2.1⟩ ⟨c1.1, c1.2.1⟩ ⟨c2.1, c2.2.1⟩ _ rfl
  rw [c0.2.2, c1.2.2, c2.2.2] at C
  have p0 := pc8_le d0
  have p1 := pc8_le d1
  have p2 := pc8_le d2
  obtain ⟨x, hx⟩ : ∃ x, x = ta d0 + 256 * ta d1 + 65536 * ta d2 := ⟨_, rfl⟩
  obtain ⟨y, hy⟩ : ∃ y, y = tb (ta d0) + 256 * tb (ta d1) + 65536 * tb (ta d2) := ⟨_, rfl⟩
  rw [← hx] at A B
  rw [← hy] at B C
  have hxb : x < 16777216 := by omega
  have hyb : y < 16777216 := by omega
  have q1 : Go.bits .and .u64 ((n : Int) / 2) 6148914691236517205 = ((n / 2 &&& 6148914691236517205 : Nat) : Int) := and64 (n / 2) 6148914691236517205 (by omega) (by omega)
  have q2 : Go.bits .and .u64 (n : Int) 6148914691236517205 = ((n &&& 6148914691236517205 : Nat) : Int) := and64 n 6148914691236517205 (by omega) (by omega)
  have q3 : IntKind.u64.wrap (((n / 2 &&& 6148914691236517205 : Nat) : Int) + ((n &&& 6148914691236517205 : Nat) : Int)) = (x : Int) := by
    rw [← Int.natCast_add, A]; exact u64n x (by omega)
  have q4 : Go.bits .and .u64 ((x : Int) / 4) 3689348814741910323 = ((x / 4 &&& 3689348814741910323 : Nat) : Int) := and64 (x / 4) 3689348814741910323 (by omega) (by omega)
  have q5 : Go.bits .and .u64 (x : Int) 3689348814741910323 = ((x &&& 3689348814741910323 : Nat) : Int) := and64 x 3689348814741910323 (by omega) (by omega)
  have q6 : IntKind.u64.wrap (((x / 4 &&& 3689348814741910323 : Nat) : Int) + ((x &&& 3689348814741910323 : Nat) : Int)) = (y : Int) := by
    rw [← Int.natCast_add, B]; exact u64n y (by omega)
  have q7 : IntKind.u64.wrap ((y : Int) / 16 + (y : Int)) = ((y / 16 + y : Nat) : Int) := by
    rw [show (y : Int) / 16 + (y : Int) = ((y / 16 + y : Nat) : Int) by omega]; exact u64n _ (by omega)
  have q8 : Go.bits .and .u64 ((y / 16 + y : Nat) : Int) 1085102592571150095 = ((pc8 d0 + 256 * pc8 d1 + 65536 * pc8 d2 : Nat) : Int) := by
    rw [← C]; exact and64 (y / 16 + y) 1085102592571150095 (by omega) (by omega)
  obtain ⟨z, hz⟩ : ∃ z, z = pc8 d0 + 256 * pc8 d1 + 65536 * pc8 d2 := ⟨_, rfl⟩
  rw [← hz] at q8
  have q9 : IntKind.u64.wrap ((z : Int) + (z : Int) / 256) = ((z + z / 256 : Nat) : Int) := by
    rw [show (z : Int) + (z : Int) / 256 = ((z + z / 256 : Nat) : Int) by omega]; exact u64n _ (by omega)
  obtain ⟨z1, hz1⟩ : ∃ u, u = z + z / 256 := ⟨_, rfl⟩
  rw [← hz1] at q9
  have q10 : IntKind.u64.wrap ((z1 : Int) + (z1 : Int) / 65536) = ((z1 + z1 / 65536 : Nat) : Int) := by
    rw [show (z1 : Int) + (z1 : Int) / 65536 = ((z1 + z1 / 65536 : Nat) : Int) by omega]; exact u64n _ (by omega)
  obtain ⟨z2, hz2⟩ : ∃ u, u = z1 + z1 / 65536 := ⟨_, rfl⟩
  rw [← hz2] at q10
  have q11 : IntKind.u64.wrap ((z2 : Int) + (z2 : Int) / 4294967296) = (z2 : Int) := by
    rw [show (z2 : Int) / 4294967296 = 0 by omega, Int.add_zero]; exact u64n _ (by omega)
  have q12 : Go.bits .and .i64 (wrap64 (z2 : Int)) 127 = ((ones n : Nat) : Int) := by
    rw [w64 (by omega) (by omega)]
    have h := bits_mask .i64 40 (by decide) (fun n h₀ h₁ => by rw [IntKind.wrap_i64]; omega) 7 (by decide) (z2 : Int) (by omega) (by omega)
    rw [show (127 : Int) = 2 ^ 7 - 1 by decide, h]
    unfold ones
    rw [← e0, ← e1, ← e2]
    have r1 : z / 256 = pc8 d1 + 256 * pc8 d2 := by omega
    have r2 : z1 = pc8 d0 + pc8 d1 + 256 * (pc8 d1 + pc8 d2) + 65536 * pc8 d2 := by omega
    have r3 : z1 / 65536 = pc8 d2 := by omega
    have r4 : z2 = pc8 d0 + pc8 d1 + pc8 d2 + 128 * (2 * (pc8 d1 + pc8 d2) + 512 * pc8 d2) := by omega
    rw [r4]
    clear h hz2 hz1 hz q1 q2 q3 q4 q5 q6 q7 q8 q9 q10 q11
    omega
  unfold bits_OnesCount64.f
  simp only [q1, q2, q3, q4, q5, q6, q7, q8, q9, q10, q11, q12]
theorem onesCount (a : Int) (h0 : 0 ≤ a) (h1 : a ≤ 1000000) : bits_OnesCount.f (IntKind.u64.wrap a) = some ((ones a.toNat : Nat) : Int) := by
  obtain ⟨n, rfl⟩ : ∃ n : Nat, a = (n : Int) := ⟨a.toNat, by omega⟩
  unfold bits_OnesCount.f
  rw [u64n n (by omega), ones64 n (by omega)]; rfl

theorem eqStrs_l0 (l : List ByteArray) (hl : l.length < 4611686018427387904) (d : Nat) : ∀ (k : Nat) (i : Int), 0 ≤ i → (l.length : Int) - i = d → d < k → laws_eqStringS.l0 k l l i = some true := by
  induction d with
  | zero => intro k i h0 hd hk; obtain ⟨k, rfl⟩ : ∃ m, k = m + 1 := ⟨k - 1, by omega⟩; simp only [laws_eqStringS.l0]; rw [if_neg (by omega)]
  | succ d ih =>
    intro k i h0 hd hk
    obtain ⟨k, rfl⟩ : ∃ m, k = m + 1 := ⟨k - 1, by omega⟩
    simp only [laws_eqStringS.l0, if_true]
    rw [if_pos (by omega), if_pos h0, if_pos (by omega), w64 (by omega) (by omega)]
    exact ih k (i + 1) (by omega) (by omega) (by omega)
theorem eqStrs (l : List ByteArray) (hl : l.length < 4611686018427387904) : Ev (fun k => laws_eqStringS.f k l l) true :=
  ⟨l.length + 1, fun k hk => by simp only [laws_eqStringS.f, if_true]; exact eqStrs_l0 l hl l.length k 0 (by omega) (by omega) (by omega)⟩

theorem toStrs_l0 (l : List ByteArray) (hl : l.length < 4611686018427387904) (d : Nat) : ∀ (k : Nat) (m : List ByteArray) (i : Int), 0 ≤ i → i ≤ l.length → (l.length : Int) - i = d → d < k → m.length = l.length → m.take i.toNat = l.take i.toNat → laws_toStringS.l0 k l m i = some l := by
  induction d with
  | zero =>
    intro k m i h0 hi hd hk hm hj
    obtain ⟨k, rfl⟩ : ∃ m, k = m + 1 := ⟨k - 1, by omega⟩
    simp only [laws_toStringS.l0]
    rw [if_neg (by omega)]
    rw [List.take_of_length_le (by omega), List.take_of_length_le (by omega)] at hj
    rw [hj]
  | succ d ih =>
    intro k m i h0 hi hd hk hm hj
    obtain ⟨k, rfl⟩ : ∃ m, k = m + 1 := ⟨k - 1, by omega⟩
    simp only [laws_toStringS.l0]
    rw [if_pos (by omega), if_pos h0, if_pos (by omega), w64 (by omega) (by omega)]
    refine ih k _ (i + 1) (by omega) (by omega) (by omega) (by omega) (by simpa using hm) ?_
    have hi' : i.toNat < l.length := by omega
    have hi2 : i.toNat < m.length := by omega
    rw [show (i + 1).toNat = i.toNat + 1 by omega]
    apply List.ext_getElem?
    intro j
    by_cases hlt : j < i.toNat
    · have h1 := congrArg (fun l => l[j]?) hj
      simp only [List.getElem?_take, hlt, if_true] at h1
      rw [List.getElem?_take, List.getElem?_take, if_pos (by omega), if_pos (by omega), List.getElem?_set, if_neg (by omega), h1]
    · by_cases he : j = i.toNat
      · subst he
        rw [List.getElem?_take, List.getElem?_take, if_pos (by omega), if_pos (by omega), List.getElem?_set, if_pos rfl, if_pos hi2]
        simp [rdOf, List.getD_eq_getElem?_getD, hi']
      · rw [List.getElem?_take, List.getElem?_take, if_neg (by omega), if_neg (by omega)]
theorem toStrs (l : List ByteArray) (hl : l.length ≤ 17592186044416) : Ev (fun k => laws_toStringS.f k l) l :=
  ⟨l.length + 1, fun k hk => by
    simp only [laws_toStringS.f]
    rw [if_pos (by omega), if_pos (by omega)]
    exact toStrs_l0 l (by omega) l.length k _ 0 (by omega) (by omega) (by omega) (by omega) (by simp) (by simp)⟩
theorem szStrs_l0 (l : List ByteArray) (hl : l.length < 4611686018427387904) (hs : ∀ x ∈ l, x.size ≤ 140737488351232) (d : Nat) : ∀ (k : Nat) (n i : Int), 0 ≤ n → n ≤ 1048576 → 0 ≤ i → i ≤ l.length → (l.length : Int) - i = d → d < k → ∃ r, laws_szStringS.l0 k l n i = some r ∧ r ≤ n := by
  induction d with
  | zero =>
    intro k n i hn hn2 h0 hi hd hk
    obtain ⟨k, rfl⟩ : ∃ m, k = m + 1 := ⟨k - 1, by omega⟩
    exact ⟨n, by simp only [laws_szStringS.l0]; rw [if_neg (by omega)], by omega⟩
  | succ d ih =>
    intro k n i hn hn2 h0 hi hd hk
    obtain ⟨k, rfl⟩ : ∃ m, k = m + 1 := ⟨k - 1, by omega⟩
    have hm : rdOf ByteArray.empty l i ∈ l := by
      have hi' : i.toNat < l.length := by omega
      simp [rdOf, List.getD_eq_getElem?_getD, hi']
    have hz := hs _ hm
    simp only [laws_szStringS.l0]
    rw [if_pos (by omega), if_pos h0, w64 (n := i + 1) (by omega) (by omega), w64 (n := n - _) (by omega) (by omega)]
    split
    · exact ⟨-1, rfl, by omega⟩
    · obtain ⟨r, h1, h2⟩ := ih k (n - ((rdOf ByteArray.empty l i).size : Int)) (i + 1) (by omega) (by omega) (by omega) (by omega) (by omega) (by omega)
      exact ⟨r, h1, by omega⟩
theorem szStrs (l : List ByteArray) (hl : l.length * 16 ≤ 140737488351232) (hs : ∀ x ∈ l, x.size ≤ 140737488351232) (m : Int) (hm0 : 0 ≤ m) (hm : m ≤ 1048576) :
    ∃ r, Ev (fun k => laws_szStringS.f k l m) r ∧ r ≤ m ∧ (¬ r < 0 → l.length ≤ 1048576) := by
  unfold laws_szStringS.f
  have hw : wrap64 (m - (l.length : Int)) = m - l.length := w64 (by omega) (by omega)
  rw [hw]
  by_cases h : m - (l.length : Int) < 0
  · simp only [h, if_true]; exact ⟨-1, Ev.now _, by omega, fun h => absurd (by decide) h⟩
  · simp only [h, if_false]
    obtain ⟨r, hr, hr2⟩ := szStrs_l0 l (by omega) hs l.length (l.length + 1) (m - l.length) 0 (by omega) (by omega) (by omega) (by omega) (by omega) (by omega)
    exact ⟨r, Ev.of (fun k => laws_szStringS.mono_l k l _ 0) hr, by omega, fun _ => by omega⟩

def cnt : Nat → Nat → Nat
  | 0, _ => 0
  | d + 1, a => a / 2 ^ d % 2 + cnt d a
theorem bits_lo (a : Nat) : a % 256 % 2 = a % 2 ∧ a % 256 / 2 % 2 = a / 2 % 2 ∧ a % 256 / 4 % 2 = a / 4 % 2 ∧ a % 256 / 8 % 2 = a / 8 % 2 ∧ a % 256 / 16 % 2 = a / 16 % 2 ∧ a % 256 / 32 % 2 = a / 32 % 2 ∧ a % 256 / 64 % 2 = a / 64 % 2 ∧ a % 256 / 128 % 2 = a / 128 % 2 := by
  refine ⟨?_, ?_, ?_, ?_, ?_, ?_, ?_, ?_⟩ <;> omega
theorem bits_mid (a : Nat) : a / 256 % 256 % 2 = a / 256 % 2 ∧ a / 256 % 256 / 2 % 2 = a / 512 % 2 ∧ a / 256 % 256 / 4 % 2 = a / 1024 % 2 ∧ a / 256 % 256 / 8 % 2 = a / 2048 % 2 ∧ a / 256 % 256 / 16 % 2 = a / 4096 % 2 ∧ a / 256 % 256 / 32 % 2 = a / 8192 % 2 ∧ a / 256 % 256 / 64 % 2 = a / 16384 % 2 ∧ a / 256 % 256 / 128 % 2 = a / 32768 % 2 := by
  refine ⟨?_, ?_, ?_, ?_, ?_, ?_, ?_, ?_⟩ <;> omega
theorem bits_hi (a : Nat) (ha : a < 2097152) : a / 65536 / 2 % 2 = a / 131072 % 2 ∧ a / 65536 / 4 % 2 = a / 262144 % 2 ∧ a / 65536 / 8 % 2 = a / 524288 % 2 ∧ a / 65536 / 16 % 2 = a / 1048576 % 2 ∧ a / 65536 / 32 % 2 = 0 ∧ a / 65536 / 64 % 2 = 0 ∧ a / 65536 / 128 % 2 = 0 := by
  refine ⟨?_, ?_, ?_, ?_, ?_, ?_, ?_⟩ <;> omega
theorem cnt_ones (a : Nat) (ha : a < 2097152) : cnt 21 a = ones a := by
  obtain ⟨b0, b1, b2, b3, b4, b5, b6, b7⟩ := bits_lo a
  obtain ⟨c0, c1, c2, c3, c4, c5, c6, c7⟩ := bits_mid a
  obtain ⟨d1, d2, d3, d4, d5, d6, d7⟩ := bits_hi a ha
  unfold ones pc8
  rw [b0, b1, b2, b3, b4, b5, b6, b7, c0, c1, c2, c3, c4, c5, c6, c7, d1, d2, d3, d4, d5, d6, d7]
  simp only [cnt, Nat.reducePow, Nat.div_one]
  clear b0 b1 b2 b3 b4 b5 b6 b7 c0 c1 c2 c3 c4 c5 c6 c7 d1 d2 d3 d4 d5 d6 d7
  generalize a % 2 = x0, a / 2 % 2 = x1, a / 4 % 2 = x2, a / 8 % 2 = x3, a / 16 % 2 = x4, a / 32 % 2 = x5, a / 64 % 2 = x6, a / 128 % 2 = x7, a / 256 % 2 = x8, a / 512 % 2 = x9, a / 1024 % 2 = x10, a / 2048 % 2 = x11, a / 4096 % 2 = x12, a / 8192 % 2 = x13, a / 16384 % 2 = x14, a / 32768 % 2 = x15, a / 65536 % 2 = x16, a / 131072 % 2 = x17, a / 262144 % 2 = x18, a / 524288 % 2 = x19, a / 1048576 % 2 = x20
  omega
theorem and_bit (a d : Nat) (ha : a < 2097152) (hd : d < 21) : Go.bits .and .i64 (a : Int) ((2 ^ d : Nat) : Int) = ((a / 2 ^ d % 2 * 2 ^ d : Nat) : Int) := by
  have hp : 2 ^ d < 2 ^ 21 := Nat.pow_lt_pow_right (by decide) hd
  have h := (bits_nat .i64 40 (by decide) (fun n h₀ h₁ => by rw [IntKind.wrap_i64]; omega) a (2 ^ d) (by omega) (by omega)).1
  rw [h]
  congr 1
  have ht : a.testBit d = decide (a / 2 ^ d % 2 = 1) := Nat.testBit_eq_decide_div_mod_eq
  apply Nat.eq_of_testBit_eq
  intro i
  rw [Nat.testBit_and, Nat.testBit_two_pow]
  rcases Nat.mod_two_eq_zero_or_one (a / 2 ^ d) with e | e <;> rw [e] at ht ⊢
  · rw [Nat.zero_mul, Nat.zero_testBit]
    by_cases hi : d = i
    · subst hi; rw [ht]; simp
    · simp [hi]
  · rw [Nat.one_mul, Nat.testBit_two_pow]
    by_cases hi : d = i
    · subst hi; rw [ht]; simp
    · simp [hi]
theorem parts_len (a : Nat) (ha : a < 2097152) : ∀ (d k : Nat) (l : List Int), d ≤ 21 → d < k → l.length + d < 100 → ∃ r, spec_l9Parts.l0 k (a : Int) l (if d = 0 then 0 else ((2 ^ (d - 1) : Nat) : Int)) = some r ∧ r.length = l.length + cnt d a := by
  intro d
  induction d with
  | zero =>
    intro k l hd hk hl
    obtain ⟨k, rfl⟩ : ∃ m, k = m + 1 := ⟨k - 1, by omega⟩
    exact ⟨l, by rw [if_pos rfl, spec_l9Parts.l0, if_neg (by omega)], by simp [cnt]⟩
  | succ d ih =>
    intro k l hd hk hl
    obtain ⟨k, rfl⟩ : ∃ m, k = m + 1 := ⟨k - 1, by omega⟩
    rw [if_neg (by omega), Nat.add_sub_cancel]
    have hpos : 0 < 2 ^ d := Nat.two_pow_pos d
    have hp : 2 ^ d < 2 ^ 21 := Nat.pow_lt_pow_right (by decide) (by omega)
    have hnext : wrap64 (Int.tdiv ((2 ^ d : Nat) : Int) 2) = (if d = 0 then 0 else ((2 ^ (d - 1) : Nat) : Int)) := by
      rw [Int.tdiv_eq_ediv_of_nonneg (by omega), w64 (by omega) (by omega)]
      cases d with
      | zero => rfl
      | succ d => rw [if_neg (by omega), Nat.add_sub_cancel, Nat.pow_succ]; omega
    have hb := and_bit a d ha (by omega)
    rw [spec_l9Parts.l0, if_pos (by omega), hb, hnext]
    rcases Nat.mod_two_eq_zero_or_one (a / 2 ^ d) with e | e
    · obtain ⟨r, h1, h2⟩ := ih k l (by omega) (by omega) (by omega)
      refine ⟨r, ?_, ?_⟩
      · rw [e, Nat.zero_mul, if_pos (by rfl)]; exact h1
      · rw [h2, cnt, e]; omega
    · obtain ⟨r, h1, h2⟩ := ih k (l ++ [((2 ^ d : Nat) : Int)]) (by omega) (by omega) (by simp; omega)
      refine ⟨r, ?_, ?_⟩
      · rw [e, Nat.one_mul, if_neg (by omega), if_pos (by omega)]; exact h1
      · rw [h2, cnt, e]; simp; omega
theorem parts_ones (a : Int) (h0 : 0 ≤ a) (h1 : a ≤ 1000000) : ∃ r, Ev (fun k => spec_l9Parts.f k a) r ∧ r.length = ones a.toNat := by
  obtain ⟨n, rfl⟩ : ∃ n : Nat, a = (n : Int) := ⟨a.toNat, by omega⟩
  obtain ⟨r, h, h2⟩ := parts_len n (by omega) 21 22 [] (by omega) (by omega) (by simp)
  refine ⟨r, Ev.of (fun k => spec_l9Parts.mono _ k) h, ?_⟩
  rw [h2, cnt_ones n (by omega)]; simp
def good (d : ByteArray) : Bool := (d.size : Int) == 32
theorem spec_edge (a : Int) (l : List ByteArray) (hl : l.length < 4611686018427387904) (d : Nat) : ∀ i : Int, 0 ≤ i → i ≤ l.length → (l.length : Int) - i = d →
    Ev (fun k => spec_GoodEdge.l0 k l l.length i a l) ((l.drop i.toNat).all good && (decide (0 ≤ a ∧ a ≤ 1000000) && decide (l.length = ones a.toNat))) := by
  induction d with
  | zero =>
    intro i h0 hi hd
    refine Ev.step (fun k => by rw [spec_GoodEdge.l0, if_neg (by omega)]) ?_
    rw [List.drop_eq_nil_of_le (by omega), List.all_nil, Bool.true_and]
    unfold spec_l1In.f
    by_cases h2 : a ≥ 0
    · by_cases h3 : a ≤ 1000000
      · rw [if_pos h2, decide_eq_true h3, decide_eq_true (show 0 ≤ a ∧ a ≤ 1000000 from ⟨h2, h3⟩), Bool.true_and]
        simp only [Option.bind_some, if_true]
        obtain ⟨r, hr, hr2⟩ := parts_ones a h2 h3
        refine Ev.bind hr ?_
        have e : ((l.length : Int) == (r.length : Int)) = decide (l.length = ones a.toNat) := by
          rw [hr2]
          by_cases h : l.length = ones a.toNat
          · rw [decide_eq_true h, h]; exact beq_self_eq_true _
          · rw [decide_eq_false h]; exact beq_eq_false_iff_ne.mpr (by omega)
        rw [e]; exact Ev.now _
      · rw [if_pos h2, decide_eq_false h3, decide_eq_false (by omega), Bool.false_and]
        simp only [Option.bind_some, Bool.false_eq_true, if_false]; exact Ev.now _
    · rw [if_neg h2, decide_eq_false (by omega), Bool.false_and]
      simp only [Option.bind_some, Bool.false_eq_true, if_false]; exact Ev.now _
  | succ d ih =>
    intro i h0 hi hd
    have hi' : i.toNat < l.length := by omega
    have hdr : l.drop i.toNat = l[i.toNat] :: l.drop (i + 1).toNat := by
      rw [show (i + 1).toNat = i.toNat + 1 by omega]; exact List.drop_eq_getElem_cons hi'
    have hr : rdOf ByteArray.empty l i = l[i.toNat] := by simp [rdOf, List.getD_eq_getElem?_getD, hi']
    rw [hdr, List.all_cons, ← hr]
    by_cases hg : ((rdOf ByteArray.empty l i).size : Int) = 32
    · refine Ev.step (fun k => by rw [spec_GoodEdge.l0, if_pos (by omega), if_pos h0, if_pos (by omega), if_pos hg, w64 (by omega) (by omega)]) ?_
      have : good (rdOf ByteArray.empty l i) = true := by unfold good; rw [hg]; rfl
      rw [this, Bool.true_and]
      exact ih (i + 1) (by omega) (by omega) (by omega)
    · refine Ev.step (fun k => by rw [spec_GoodEdge.l0, if_pos (by omega), if_pos h0, if_pos (by omega), if_neg hg]) ?_
      have : good (rdOf ByteArray.empty l i) = false := by unfold good; exact beq_eq_false_iff_ne.mpr hg
      rw [this, Bool.false_and, Bool.false_and]
      exact Ev.now _
theorem containsFunc (l : List ByteArray) : slices_ContainsFunc_string_string.f l 103 = some (l.any fun d => !good d) := by
  have h : ∃ p : ByteArray → Bool, ∀ x, impl_isEdge_1.f x = some (p x) := ⟨fun d => !good d, fun x => rfl⟩
  unfold slices_ContainsFunc_string_string.f
  rw [if_pos rfl, dif_pos h]
  have e : h.choose = fun d => !good d := by
    funext x
    have h1 := h.choose_spec x
    exact (Option.some.inj h1).symm
  rw [e]
theorem impl_edge (a : Int) (l : List ByteArray) : impl_isEdge.f a l = some (l.all good && (decide (0 ≤ a ∧ a ≤ 1000000) && decide (l.length = ones a.toNat))) := by
  unfold impl_isEdge.f impl_within.f
  by_cases h2 : a ≥ 0
  · by_cases h3 : a ≤ 1000000
    · rw [if_pos h2, decide_eq_true h3, decide_eq_true (show 0 ≤ a ∧ a ≤ 1000000 from ⟨h2, h3⟩), Bool.true_and]
      simp only [Option.bind_some, if_true, onesCount a h2 h3, containsFunc]
      by_cases h : l.length = ones a.toNat
      · rw [if_pos (by omega), decide_eq_true h, Bool.and_true, ← List.not_all_eq_any_not, Bool.not_not]
      · rw [if_neg (by omega), decide_eq_false h, Bool.and_false]
    · rw [if_pos h2, decide_eq_false h3, decide_eq_false (by omega), Bool.false_and, Bool.and_false]
      simp only [Option.bind_some, Bool.false_eq_true, if_false]
  · rw [if_neg h2, decide_eq_false (by omega), Bool.false_and, Bool.and_false]
    simp only [Option.bind_some, Bool.false_eq_true, if_false]
theorem FnExactGoodEdge : laws_FnExactGoodEdge.Pure := by
  intro a l ⟨_, hl, hf⟩
  replace hl : l.length * 16 ≤ 140737488351232 := hl
  replace hf : ∀ y ∈ l, y.size ≤ 140737488351232 := hf
  obtain ⟨n, hn, _, hlen⟩ := szStrs l hl hf 1048576 (by omega) (by omega)
  have hn2 : ∃ m, Ev (fun k => laws_szEdge.f k a l 1048576) m := by
    unfold laws_szEdge.f
    by_cases h : n < 0
    · exact ⟨-1, Ev.bind hn (by simp only [h, if_true]; exact Ev.now _)⟩
    · exact ⟨n, Ev.bind hn (by simp only [h, if_false]; exact Ev.now _)⟩
  obtain ⟨m, hm⟩ := hn2
  have ht : Ev (fun k => laws_toEdge.f k a l) (a, l) := by
    unfold laws_toEdge.f
    exact Ev.bind (toStrs l (by omega)) (Ev.now _)
  have he : Ev (fun k => laws_eqEdge.f k a l a l) true := by
    unfold laws_eqEdge.f
    simp only [if_true]
    refine Ev.bind (eqStrs l (by omega)) ?_
    simp only [if_true]; exact Ev.now _
  have hs := spec_edge a l (by omega) l.length 0 (by omega) (by omega) (by omega)
  rw [Int.toNat_zero, List.drop_zero] at hs
  have hs2 : Ev (fun k => spec_GoodEdge.f k a l) (l.all good && (decide (0 ≤ a ∧ a ≤ 1000000) && decide (l.length = ones a.toNat))) := hs
  have hi : impl_GoodEdge.f a l = some (l.all good && (decide (0 ≤ a ∧ a ≤ 1000000) && decide (l.length = ones a.toNat))) := by unfold impl_GoodEdge.f; rw [impl_edge]; rfl
  apply Ev.rounds (g := fun k => laws_FnExactGoodEdge.f k a l)
  unfold laws_FnExactGoodEdge.f
  refine Ev.bind hm ?_
  by_cases h : m < 0
  · simp only [h, if_true]; exact Ev.now _
  simp only [h, if_false]
  refine Ev.bind ht (Ev.bind hs2 (Ev.bind ht ?_))
  simp only [hi, Option.bind_some, bne_self_eq_false, Bool.false_eq_true, if_false]
  refine Ev.bind ht (Ev.bind he ?_)
  simp only [if_true]; exact Ev.now _

end Go.Proofs.Ytanebapjclkikaa.Pure
