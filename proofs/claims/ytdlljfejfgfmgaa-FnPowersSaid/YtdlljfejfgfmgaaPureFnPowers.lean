/-
The pure statement of FnPowers is proved: for drawn numbers, a number to the prime less one is 1, powers add up, inverses are inverses, and the greatest common divisor is a sum of both; the program and the reference agree on all of it.
Conditions: the two arguments are lists of bytes that Go can hold. None besides.
-/
import Derived.Test.YtdlljfejfgfmgaaPFnPowersx6
set_option linter.unusedVariables false
set_option linter.unusedSimpArgs false
namespace Go.Proofs.Ytdlljfejfgfmgaa.Pure
open Go.RowKit Go.Proofs.Ytdlljfejfgfmgaa.PFnPowers Go.Proofs.YtdlljfejfgfmgaaW.PrintWords Go.Proofs.YtdlljfejfgfmgaaW.PrintLast Go.Proofs.YtdlljfejfgfmgaaW.PrintMore

/-! Numbers modulo a prime with a generator. -/
/-- g's powers, one behind the other: each new, at last all of 1 to p - 1, and then 1. -/
def scan (p g : Nat) : Nat → Nat → Nat → Bool
  | 0, cur, mask => cur == 1 && mask == 2 ^ p - 2
  | n + 1, cur, mask =>
    match mask.testBit cur with
    | true => false
    | false =>
      match cur * g % p, mask ||| (1 <<< cur) with
      | 0, _ => false
      | _, 0 => false
      | c + 1, m + 1 => scan p g n (c + 1) (m + 1)
structure Cert (p g : Nat) : Prop where
  two : 2 ≤ p
  distinct : ∀ i, i < p - 1 → ∀ j, j < i → g ^ j % p ≠ g ^ i % p
  back : g ^ (p - 1) % p = 1
  all : ∀ a, 0 < a → a < p → ∃ i, i < p - 1 ∧ g ^ i % p = a
theorem bits_all (p a : Nat) (h0 : 0 < a) (h1 : a < p) : (2 ^ p - 2).testBit a = true := by
  obtain ⟨b, rfl⟩ : ∃ b, a = b + 1 := ⟨a - 1, by omega⟩
  obtain ⟨q, rfl⟩ : ∃ q, p = q + 1 := ⟨p - 1, by omega⟩
  have hq : 0 < 2 ^ q := Nat.two_pow_pos q
  rw [Nat.testBit_succ, show (2 ^ (q + 1) - 2) / 2 = 2 ^ q - 1 by rw [Nat.pow_succ]; omega, Nat.testBit_two_pow_sub_one]
  simp; omega
theorem scan_spec (p g : Nat) (hp : 2 ≤ p) (n : Nat) : ∀ (t cur mask : Nat), n + t = p - 1 → cur = g ^ t % p → (∀ a, mask.testBit a = true ↔ ∃ i, i < t ∧ g ^ i % p = a) → scan p g n cur mask = true →
    (∀ i, t ≤ i → i < p - 1 → ∀ j, j < i → g ^ j % p ≠ g ^ i % p) ∧ g ^ (p - 1) % p = 1 ∧ ∀ a, 0 < a → a < p → ∃ i, i < p - 1 ∧ g ^ i % p = a := by
  induction n with
  | zero =>
    intro t cur mask hn hc hm hs
    simp only [scan, Bool.and_eq_true, beq_iff_eq] at hs
    obtain rfl : t = p - 1 := by omega
    refine ⟨fun i h1 h2 => by omega, by rw [← hc]; exact hs.1, fun a h0 h1 => ?_⟩
    exact (hm a).1 (by rw [hs.2]; exact bits_all p a h0 h1)
  | succ n ih =>
    intro t cur mask hn hc hm hs
    unfold scan at hs
    cases hb : mask.testBit cur with
    | true => rw [hb] at hs; simp at hs
    | false =>
      rw [hb] at hs
      have hnew : ∀ a, (mask ||| (1 <<< cur)).testBit a = true ↔ ∃ i, i < t + 1 ∧ g ^ i % p = a := by
        intro a
        rw [Nat.testBit_or, Nat.one_shiftLeft, Nat.testBit_two_pow]
        simp only [Bool.or_eq_true, decide_eq_true_eq, hm a]
        constructor
        · rintro (⟨i, h1, h2⟩ | h)
          · exact ⟨i, by omega, h2⟩
          · exact ⟨t, by omega, by rw [← hc]; exact h⟩
        · rintro ⟨i, h1, h2⟩
          by_cases e : i = t
          · subst e; exact .inr (by rw [hc]; exact h2)
          · exact .inl ⟨i, by omega, h2⟩
      have hcur : cur * g % p = g ^ (t + 1) % p := by rw [hc, Nat.pow_succ, Nat.mod_mul_mod]
      have hs' : scan p g n (cur * g % p) (mask ||| (1 <<< cur)) = true := by
        generalize cur * g % p = x at hs ⊢
        generalize mask ||| (1 <<< cur) = y at hs ⊢
        cases x with
        | zero => simp at hs
        | succ x => cases y with
          | zero => simp at hs
          | succ y => simpa using hs
      obtain ⟨h1, h2, h3⟩ := ih (t + 1) _ _ (by omega) hcur hnew hs'
      refine ⟨fun i hi hi2 j hj => ?_, h2, h3⟩
      by_cases e : i = t
      · subst e
        intro he
        have : mask.testBit cur = true := (hm cur).2 ⟨j, hj, by rw [hc]; exact he⟩
        rw [hb] at this; cases this
      · exact h1 i (by omega) hi2 j hj
theorem cert_of {p g : Nat} (hp : 2 ≤ p) (h : scan p g (p - 1) 1 0 = true) : Cert p g := by
  obtain ⟨h1, h2, h3⟩ := scan_spec p g hp (p - 1) 0 1 0 (by omega) (by rw [Nat.pow_zero, Nat.mod_eq_of_lt hp]) (by simp) h
  exact ⟨hp, fun i hi j hj => h1 i (by omega) hi j hj, h2, h3⟩
theorem cert3 : Cert 3 2 := cert_of (by decide) (by decide +kernel)
theorem cert5 : Cert 5 2 := cert_of (by decide) (by decide +kernel)
theorem cert7 : Cert 7 3 := cert_of (by decide) (by decide +kernel)
theorem cert13 : Cert 13 2 := cert_of (by decide) (by decide +kernel)
theorem cert17 : Cert 17 3 := cert_of (by decide) (by decide +kernel)
theorem cert101 : Cert 101 2 := cert_of (by decide) (by decide +kernel)
theorem cert1009 : Cert 1009 11 := cert_of (by decide) (by decide +kernel)
theorem cert1013 : Cert 1013 3 := cert_of (by decide) (by decide +kernel)
theorem cert7919 : Cert 7919 7 := cert_of (by decide) (by decide +kernel)
theorem cert10007 : Cert 10007 5 := cert_of (by decide) (by decide +kernel)

section
variable {p g : Nat}
theorem pow_mul_mod (a n m : Nat) : a ^ (n * m) % p = (a ^ n % p) ^ m % p := by rw [Nat.pow_mul, ← Nat.pow_mod]
theorem pow_mod_base (a n : Nat) : (a % p) ^ n % p = a ^ n % p := (Nat.pow_mod a n p).symm
theorem Cert.one_mod (c : Cert p g) : 1 % p = 1 := Nat.mod_eq_of_lt c.two
theorem Cert.period (c : Cert p g) (i k : Nat) : g ^ (i + (p - 1) * k) % p = g ^ i % p := by
  rw [Nat.pow_add, Nat.mul_mod, pow_mul_mod, c.back, Nat.one_pow, c.one_mod, Nat.mul_one, Nat.mod_mod]
theorem Cert.ne_zero (c : Cert p g) (n : Nat) : g ^ n % p ≠ 0 := by
  intro h
  have hp := c.two
  have e : g ^ (n + ((p - 1) * (n + 1) - n)) % p = 0 := by rw [Nat.pow_add, Nat.mul_mod, h, Nat.zero_mul, Nat.zero_mod]
  have hle : n ≤ (p - 1) * (n + 1) := Nat.le_trans (Nat.le_succ n) (Nat.le_mul_of_pos_left _ (by omega))
  rw [show n + ((p - 1) * (n + 1) - n) = 0 + (p - 1) * (n + 1) by omega, c.period, Nat.pow_zero, c.one_mod] at e
  exact absurd e (by decide)
theorem Cert.mod_exp (c : Cert p g) (k : Nat) : g ^ (k % (p - 1)) % p = g ^ k % p := by
  have := c.period (k % (p - 1)) (k / (p - 1))
  rw [Nat.mod_add_div] at this
  exact this.symm
theorem Cert.eq_exp (c : Cert p g) {i j : Nat} (h : g ^ i % p = g ^ j % p) : i % (p - 1) = j % (p - 1) := by
  have hp := c.two
  have hi := Nat.mod_lt i (show 0 < p - 1 by omega)
  have hj := Nat.mod_lt j (show 0 < p - 1 by omega)
  rw [← c.mod_exp i, ← c.mod_exp j] at h
  rcases Nat.lt_trichotomy (i % (p - 1)) (j % (p - 1)) with h1 | h1 | h1
  · exact absurd h (c.distinct _ hj _ h1)
  · exact h1
  · exact absurd h.symm (c.distinct _ hi _ h1)
theorem Cert.one_iff (c : Cert p g) (k : Nat) : g ^ k % p = 1 ↔ (p - 1) ∣ k := by
  constructor
  · intro h
    have := c.eq_exp (i := k) (j := 0) (by rw [h, Nat.pow_zero, c.one_mod])
    rw [Nat.zero_mod] at this
    exact Nat.dvd_of_mod_eq_zero this
  · rintro ⟨m, rfl⟩
    have := c.period 0 m
    rw [Nat.zero_add, Nat.pow_zero, c.one_mod] at this
    exact this
/-- Fermat. -/
theorem Cert.fermat (c : Cert p g) {a : Nat} (h0 : 0 < a) (h1 : a < p) : a ^ (p - 1) % p = 1 := by
  obtain ⟨i, _, rfl⟩ := c.all a h0 h1
  rw [pow_mod_base, ← Nat.pow_mul, Nat.mul_comm]
  exact (c.one_iff _).2 ⟨i, rfl⟩
theorem Cert.minus (c : Cert p g) (hp3 : 3 ≤ p) {h : Nat} (hh : p - 1 = 2 * h) : g ^ h % p = p - 1 := by
  obtain ⟨j, hj, e⟩ := c.all (p - 1) (by omega) (by omega)
  have hsq : (p - 1) * (p - 1) % p = 1 := by
    obtain ⟨q, rfl⟩ : ∃ q, p = q + 2 := ⟨p - 2, by omega⟩
    rw [show (q + 2 - 1) * (q + 2 - 1) = 1 + (q + 2) * q by
      rw [show q + 2 - 1 = q + 1 by omega, Nat.add_mul, Nat.mul_add, Nat.add_mul]; omega]
    rw [Nat.add_mul_mod_self_left]; exact Nat.mod_eq_of_lt (by omega)
  have h2 : g ^ (j + j) % p = 1 := by rw [Nat.pow_add, Nat.mul_mod, e]; exact hsq
  obtain ⟨m, hm⟩ := (c.one_iff _).1 h2
  have : m = 0 ∨ m = 1 ∨ 2 ≤ m := by omega
  rcases this with rfl | rfl | hm2
  · have : j = 0 := by omega
    subst this
    rw [Nat.pow_zero, c.one_mod] at e; omega
  · have : j = h := by omega
    rw [← this]; exact e
  · have : (p - 1) * 2 ≤ (p - 1) * m := Nat.mul_le_mul_left _ hm2
    omega
/-- Euler. -/
theorem Cert.half (c : Cert p g) (hp3 : 3 ≤ p) {h : Nat} (hh : p - 1 = 2 * h) (i : Nat) : (g ^ i % p) ^ h % p = if i % 2 = 0 then 1 else p - 1 := by
  rw [pow_mod_base, ← Nat.pow_mul]
  split
  · rename_i hi
    refine (c.one_iff _).2 ⟨i / 2, ?_⟩
    have : i = 2 * (i / 2) := by omega
    rw [hh]
    calc i * h = 2 * (i / 2) * h := by rw [← this]
      _ = 2 * h * (i / 2) := by rw [Nat.mul_assoc, Nat.mul_comm (i / 2) h, ← Nat.mul_assoc]
  · have e : i * h = h + (p - 1) * (i / 2) := by
      have : i = 2 * (i / 2) + 1 := by omega
      rw [hh]
      calc i * h = (2 * (i / 2) + 1) * h := by rw [← this]
        _ = h + 2 * h * (i / 2) := by rw [Nat.add_mul, Nat.one_mul, Nat.add_comm, Nat.mul_assoc, Nat.mul_comm (i / 2) h, ← Nat.mul_assoc]
    rw [e, c.period]; exact c.minus hp3 hh
theorem Cert.half_values (c : Cert p g) (hp3 : 3 ≤ p) {h : Nat} (hh : p - 1 = 2 * h) {a : Nat} (h0 : 0 < a) (h1 : a < p) : a ^ h % p = 1 ∨ a ^ h % p = p - 1 := by
  obtain ⟨i, _, rfl⟩ := c.all a h0 h1
  rw [c.half hp3 hh]
  split
  · exact .inl rfl
  · exact .inr rfl
theorem Cert.root_of (c : Cert p g) (hp3 : 3 ≤ p) {h : Nat} (hh : p - 1 = 2 * h) {a : Nat} (h0 : 0 < a) (h1 : a < p) (e : a ^ h % p = 1) : ∃ x, x < p ∧ x * x % p = a := by
  obtain ⟨i, _, rfl⟩ := c.all a h0 h1
  rw [c.half hp3 hh] at e
  by_cases hi : i % 2 = 0
  · refine ⟨g ^ (i / 2) % p, Nat.mod_lt _ (by omega), ?_⟩
    rw [← Nat.mul_mod, ← Nat.pow_add, show i / 2 + i / 2 = i by omega]
  · rw [if_neg hi] at e; omega
theorem Cert.of_root (c : Cert p g) {h : Nat} (hh : p - 1 = 2 * h) {a x : Nat} (h0 : 0 < a) (hx : x < p) (e : x * x % p = a) : a ^ h % p = 1 := by
  have hx0 : 0 < x := by
    rcases Nat.eq_zero_or_pos x with rfl | h
    · simp at e; omega
    · exact h
  rw [← e, pow_mod_base, Nat.mul_pow, ← Nat.pow_add, show h + h = p - 1 by omega]
  exact c.fermat hx0 hx
theorem half_mul (a b h : Nat) : (a * b % p) ^ h % p = (a ^ h % p) * (b ^ h % p) % p := by
  rw [pow_mod_base, Nat.mul_pow, Nat.mul_mod]
/-- The order of a number: the least exponent with 1. -/
theorem Cert.order (c : Cert p g) {a : Nat} (h0 : 0 < a) (h1 : a < p) : ∃ o, 0 < o ∧ o ≤ p - 1 ∧ a ^ o % p = 1 ∧ (∀ k, 0 < k → k < o → a ^ k % p ≠ 1) ∧ (p - 1) % o = 0 := by
  have hf := c.fermat h0 h1
  have hp := c.two
  have hex : ∀ n, 0 < n → a ^ n % p = 1 → ∃ o, 0 < o ∧ o ≤ n ∧ a ^ o % p = 1 ∧ ∀ k, 0 < k → k < o → a ^ k % p ≠ 1 := by
    intro n
    induction n using Nat.strongRecOn with
    | _ n ih =>
      intro hn he
      by_cases hk : ∃ k, 0 < k ∧ k < n ∧ a ^ k % p = 1
      · obtain ⟨k, h2, h3, h4⟩ := hk
        obtain ⟨o, h5, h6, h7⟩ := ih k h3 h2 h4
        exact ⟨o, h5, by omega, h7⟩
      · exact ⟨n, hn, Nat.le_refl _, he, fun k h2 h3 h4 => hk ⟨k, h2, h3, h4⟩⟩
  obtain ⟨o, ho, hle, he, hmin⟩ := hex (p - 1) (by omega) hf
  refine ⟨o, ho, hle, he, hmin, ?_⟩
  rcases Nat.eq_zero_or_pos ((p - 1) % o) with h | h
  · exact h
  · exfalso
    refine hmin _ h (Nat.mod_lt _ ho) ?_
    have e := hf
    rw [← Nat.mod_add_div (p - 1) o, Nat.pow_add, Nat.mul_mod, pow_mul_mod, he, Nat.one_pow, c.one_mod, Nat.mul_one, Nat.mod_mod] at e
    exact e
end

theorem w64 {n : Int} (h0 : -9223372036854775808 ≤ n) (h1 : n ≤ 9223372036854775807) : wrap64 n = n := by unfold wrap64; omega
theorem rd_set (l : List Int) (i j v : Int) (h0 : 0 ≤ i) (h1 : i < l.length) (hj : 0 ≤ j) : rd (l.set i.toNat v) j = if j = i then v else rd l j := by
  unfold rd
  rw [List.getD_eq_getElem?_getD, List.getD_eq_getElem?_getD, List.getElem?_set]
  by_cases e : j = i
  · subst e; rw [if_pos rfl, if_pos (by omega), if_pos rfl]; rfl
  · rw [if_neg (by omega), if_neg e]
theorem rdOf_set {α : Type} (d : α) (l : List α) (i j : Int) (v : α) (h0 : 0 ≤ i) (h1 : i < l.length) (hj : 0 ≤ j) : rdOf d (l.set i.toNat v) j = if j = i then v else rdOf d l j := by
  unfold rdOf
  rw [List.getD_eq_getElem?_getD, List.getD_eq_getElem?_getD, List.getElem?_set]
  by_cases e : j = i
  · subst e; rw [if_pos rfl, if_pos (by omega), if_pos rfl]; rfl
  · rw [if_neg (by omega), if_neg e]

theorem powerMod_l0 : ∀ (k : Nat) (a b c d : Int), impl_powerMod.l0 k a b c d = spec_l4Power.l0 k a b c d
  | 0, _, _, _, _ => rfl
  | k + 1, a, b, c, d => by simp only [impl_powerMod.l0, spec_l4Power.l0, powerMod_l0 k]
theorem powerMod_f (k : Nat) (a b c : Int) : impl_powerMod.f k a b c = spec_l4Power.f k a b c := by unfold impl_powerMod.f spec_l4Power.f; rw [powerMod_l0]
theorem tmod_nat (a b : Nat) : Int.tmod (a : Int) (b : Int) = ((a % b : Nat) : Int) := by
  rw [Int.tmod_eq_emod_of_nonneg (Int.natCast_nonneg a)]; exact (Int.natCast_emod a b).symm
theorem wrap_mul (x y p : Nat) (hx : x < p) (hy : y < p) (hp : p ≤ 100000) : wrap64 ((x : Int) * (y : Int)) = ((x * y : Nat) : Int) := by
  have h1 : x * y ≤ 100000 * 100000 := Nat.mul_le_mul (by omega) (by omega)
  rw [← Int.natCast_mul]
  exact w64 (by omega) (by omega)
theorem power_val (p : Nat) (hp0 : 0 < p) (hp : p ≤ 100000) : ∀ (n k a b d : Nat), a < p → d < p → b < 2 ^ n → b < 4611686018427387904 → n < k → spec_l4Power.l0 k (a : Int) (b : Int) (p : Int) (d : Int) = some (((d * a ^ b % p : Nat)) : Int) := by
  intro n
  induction n with
  | zero =>
    intro k a b d ha hd h1 _ hk
    obtain ⟨k, rfl⟩ : ∃ m, k = m + 1 := ⟨k - 1, by omega⟩
    obtain rfl : b = 0 := by simpa using h1
    simp only [spec_l4Power.l0]
    rw [if_neg (by simp), Nat.pow_zero, Nat.mul_one, Nat.mod_eq_of_lt hd]
  | succ n ih =>
    intro k a b d ha hd h1 hb hk
    obtain ⟨k, rfl⟩ : ∃ m, k = m + 1 := ⟨k - 1, by omega⟩
    have hc : ¬ (p : Int) = 0 := by omega
    have haa : a * a % p < p := Nat.mod_lt _ hp0
    have e1 : Int.tmod (wrap64 ((a : Int) * (a : Int))) (p : Int) = ((a * a % p : Nat) : Int) := by rw [wrap_mul a a p ha ha hp, tmod_nat]
    have e2 : Int.tmod (wrap64 ((d : Int) * (a : Int))) (p : Int) = ((d * a % p : Nat) : Int) := by rw [wrap_mul d a p hd ha hp, tmod_nat]
    have e3 : wrap64 (Int.tdiv (b : Int) 2) = ((b / 2 : Nat) : Int) := by
      rw [Int.tdiv_eq_ediv_of_nonneg (by omega), w64 (by omega) (by omega)]; omega
    have e4 : Int.tmod (b : Int) 2 = ((b % 2 : Nat) : Int) := tmod_nat b 2
    have h2 : b / 2 < 2 ^ n := by rw [Nat.pow_succ] at h1; omega
    have hpow : ∀ x : Nat, x * (a * a % p) ^ (b / 2) % p = x * a ^ (2 * (b / 2)) % p := fun x => by
      rw [Nat.mul_mod, ← Nat.pow_mod, Nat.pow_mul, Nat.pow_two, ← Nat.mul_mod]
    simp only [spec_l4Power.l0, e1, e2, e3, e4, if_neg hc]
    by_cases hz : b = 0
    · subst hz
      rw [if_neg (by simp), Nat.pow_zero, Nat.mul_one, Nat.mod_eq_of_lt hd]
    · rw [if_pos (by omega)]
      by_cases ho : b % 2 = 1
      · rw [if_pos (by omega), ih k (a * a % p) (b / 2) (d * a % p) haa (Nat.mod_lt _ hp0) h2 (by omega) (by omega)]
        congr 2
        rw [hpow, Nat.mod_mul_mod, Nat.mul_assoc, show a * a ^ (2 * (b / 2)) = a ^ b by
          rw [Nat.mul_comm, ← Nat.pow_succ]; congr 1; omega]
      · rw [if_neg (by omega), ih k (a * a % p) (b / 2) d haa hd h2 (by omega) (by omega)]
        congr 2
        rw [hpow, show 2 * (b / 2) = b by omega]
/-- The power of a number modulo p, as both compute it. -/
theorem power_ev (p a b : Nat) (hp : 2 ≤ p) (hp2 : p ≤ 100000) (ha : a < p) (hb : b < 4611686018427387904) : Ev (fun k => spec_l4Power.f k (a : Int) (b : Int) (p : Int)) ((a ^ b % p : Nat) : Int) ∧ Ev (fun k => impl_powerMod.f k (a : Int) (b : Int) (p : Int)) ((a ^ b % p : Nat) : Int) := by
  have h : ∀ k, 62 < k → spec_l4Power.f k (a : Int) (b : Int) (p : Int) = some ((a ^ b % p : Nat) : Int) := fun k hk => by
    have := power_val p (by omega) hp2 62 k a b 1 ha (by omega) (by omega) hb hk
    rw [Nat.one_mul] at this
    exact this
  exact ⟨⟨63, fun k hk => h k (by omega)⟩, ⟨63, fun k hk => (powerMod_f k _ _ _).trans (h k (by omega))⟩⟩

/-! The reader of choices: it never fails, and tells numbers in their ranges. -/
def Bytes8 (l : List Int) : Prop := ∀ x ∈ l, 0 ≤ x ∧ x ≤ 255
theorem bytes_of_wf {l : List Int} (h : ∀ x ∈ l, (Lit.int .u8 x).wf = true) : Bytes8 l := fun x hx => by
  have := h x hx
  simpa [Lit.wf, IntKind.min, IntKind.max, IntKind.signed, IntKind.bits] using this
theorem bytes_rd {l : List Int} (h : Bytes8 l) (i : Int) (h0 : 0 ≤ i) (h1 : i < l.length) : 0 ≤ rd l i ∧ rd l i ≤ 255 := by
  have hi : i.toNat < l.length := by omega
  have : rd l i = l[i.toNat] := by simp [rd, List.getD_eq_getElem?_getD, hi]
  rw [this]; exact h _ (List.getElem_mem hi)
theorem and255 (x : Int) (h0 : 0 ≤ x) (h1 : x < 18446744073709551616) : Go.bits .and .u64 x 255 = x % 256 := by
  have h := bits_mask .u64 64 (by decide) (fun n h₀ h₁ => by simp [IntKind.wrap, IntKind.bits, IntKind.signed]; omega) 8 (by decide) x h0 (by omega)
  simpa using h
theorem u64_range (x : Int) : 0 ≤ IntKind.u64.wrap x ∧ IntKind.u64.wrap x < 18446744073709551616 := by simp [IntKind.wrap, IntKind.bits, IntKind.signed]; omega
theorem cur_next (l : List Int) (hl : Bytes8 l) (at_ s : Int) (h0 : 0 ≤ at_) (h1 : at_ < 4611686018427387904) : ∃ r s', spec_l1Cur_next.f l at_ s = some (r, at_ + 1, s') ∧ 0 ≤ r ∧ r ≤ 255 := by
  have hw : wrap64 (at_ + 1) = at_ + 1 := w64 (by omega) (by omega)
  have hseed : ∀ x : Int, 0 ≤ wrap64 (Go.bits .and .u64 (IntKind.u64.wrap x / 1099511627776) 255) ∧ wrap64 (Go.bits .and .u64 (IntKind.u64.wrap x / 1099511627776) 255) ≤ 255 := fun x => by
    have hx := u64_range x
    rw [and255 _ (by omega) (by omega), w64 (by omega) (by omega)]; omega
  unfold spec_l1Cur_next.f
  rw [hw]
  by_cases hlt : at_ < (l.length : Int)
  · have hb := bytes_rd hl at_ h0 hlt
    rw [if_pos hlt, if_pos h0]
    split
    · exact ⟨_, _, rfl, by rw [w64 (by omega) (by omega)]; exact hb.1, by rw [w64 (by omega) (by omega)]; exact hb.2⟩
    · exact ⟨_, _, rfl, (hseed _).1, (hseed _).2⟩
  · rw [if_neg hlt]
    split
    · exact ⟨_, _, rfl, by omega, by omega⟩
    · exact ⟨_, _, rfl, (hseed _).1, (hseed _).2⟩
theorem cur_pick (l : List Int) (hl : Bytes8 l) (at_ s n : Int) (h0 : 0 ≤ at_) (h1 : at_ < 2305843009213693952) (hn : n < 4611686018427387904) : ∃ r a' s', spec_l1Cur_pick.f l at_ s n = some (r, a', s') ∧ at_ ≤ a' ∧ a' ≤ at_ + 2 ∧ 0 ≤ r ∧ (1 ≤ n → r < n) := by
  unfold spec_l1Cur_pick.f
  by_cases hs : n ≤ 1
  · rw [if_pos hs]; exact ⟨0, at_, s, rfl, by omega, by omega, by omega, by omega⟩
  rw [if_neg hs]
  obtain ⟨r, s', h, hr0, hr1⟩ := cur_next l hl at_ s h0 (by omega)
  rw [h]
  simp only [Option.bind_some]
  by_cases hb : n > 200
  · obtain ⟨r2, s2, h2, h3, h4⟩ := cur_next l hl (at_ + 1) s' (by omega) (by omega)
    rw [if_pos hb, h2]
    simp only [Option.bind_some]
    rw [if_neg (by omega), w64 (n := r * 256) (by omega) (by omega), w64 (by omega) (by omega), Int.tmod_eq_emod_of_nonneg (by omega)]
    exact ⟨_, _, _, rfl, by omega, by omega, Int.emod_nonneg _ (by omega), fun _ => Int.emod_lt_of_pos _ (by omega)⟩
  · rw [if_neg hb, if_neg (by omega), Int.tmod_eq_emod_of_nonneg (by omega)]
    exact ⟨_, _, _, rfl, by omega, by omega, Int.emod_nonneg _ (by omega), fun _ => Int.emod_lt_of_pos _ (by omega)⟩
theorem cur_one (l : List Int) (hl : Bytes8 l) (at_ s n : Int) (h0 : 0 ≤ at_) (h1 : at_ < 2305843009213693952) (hn : n < 4611686018427387904) : ∃ b a' s', spec_l1Cur_one.f l at_ s n = some (b, a', s') ∧ at_ ≤ a' ∧ a' ≤ at_ + 2 := by
  obtain ⟨r, a', s', h, h2, h3, _⟩ := cur_pick l hl at_ s n h0 h1 hn
  unfold spec_l1Cur_one.f
  rw [h]
  exact ⟨_, _, _, rfl, h2, h3⟩

theorem cur_among (l : List Int) (hl : Bytes8 l) (at_ s : Int) (m : List Int) (hm : 1 ≤ m.length) (hm2 : m.length < 4000000000) (h0 : 0 ≤ at_) (h1 : at_ < 2305843009213693952) : ∃ r a' s', spec_l1Cur_among.f l at_ s m = some (r, a', s') ∧ at_ ≤ a' ∧ a' ≤ at_ + 2 ∧ r ∈ m := by
  obtain ⟨r, a', s', h, h2, h3, h4, h5⟩ := cur_pick l hl at_ s m.length h0 h1 (by omega)
  have h5 := h5 (by omega)
  unfold spec_l1Cur_among.f
  rw [h]
  simp only [Option.bind_some]
  rw [if_pos h4, if_pos h5]
  refine ⟨_, _, _, rfl, h2, h3, ?_⟩
  have hi : r.toNat < m.length := by omega
  have : rd m r = m[r.toNat] := by simp [rd, List.getD_eq_getElem?_getD, hi]
  rw [this]; exact List.getElem_mem hi

def drawn : List Int := [0, 1, 2, 4, 9, 10007, 10009, 3, 5, 7, 13, 17, 101, 1009, 1013, 7919]
theorem cur_prime (l : List Int) (hl : Bytes8 l) (at_ s : Int) (h0 : 0 ≤ at_) (h1 : at_ < 1000000) : ∃ p a' s', spec_l1Cur_prime.f l at_ s = some (p, a', s') ∧ at_ ≤ a' ∧ a' ≤ at_ + 4 ∧ p ∈ drawn := by
  unfold spec_l1Cur_prime.f
  obtain ⟨b, a', s', h, h2, h3⟩ := cur_one l hl at_ s 12 h0 (by omega) (by omega)
  rw [h]
  simp only [Option.bind_some]
  cases b with
  | true =>
    obtain ⟨p, a2, s2, h4, h5, h6, h7⟩ := cur_among l hl a' s' [0, 1, 2, 4, 9, 10007, 10009] (by decide) (by decide) (by omega) (by omega)
    rw [if_pos rfl, h4]
    exact ⟨p, a2, s2, rfl, by omega, by omega, by unfold drawn; simp at h7 ⊢; omega⟩
  | false =>
    obtain ⟨p, a2, s2, h4, h5, h6, h7⟩ := cur_among l hl a' s' [3, 5, 7, 13, 17, 101, 1009, 1013, 7919] (by decide) (by decide) (by omega) (by omega)
    rw [if_neg (by simp), h4]
    exact ⟨p, a2, s2, rfl, by omega, by omega, by unfold drawn; simp at h7 ⊢; omega⟩
theorem cur_below (l : List Int) (hl : Bytes8 l) (at_ s p : Int) (h0 : 0 ≤ at_) (h1 : at_ < 1000000) : ∃ a a' s', Ev (fun k => spec_l1Cur_below.f k l at_ s p) (a, a', s') ∧ at_ ≤ a' ∧ a' ≤ at_ + 8 := by
  have hj : ∀ (b : Bool) (at_ s : Int), 0 ≤ at_ → at_ < 2000000 → (p < 2 → b = true) → ∃ a a' s', Ev (fun k => spec_l1Cur_below.j0 k p b l at_ s) (a, a', s') ∧ at_ ≤ a' ∧ a' ≤ at_ + 6 := by
    intro b at_ s h0 h1 hp
    cases b with
    | true =>
      obtain ⟨r, a2, s2, h4, h5, h6, h7⟩ := cur_among l hl at_ s [(-1), 0, 1, p] (by simp) (by simp) (by omega) (by omega)
      exact ⟨r, a2, s2, Ev.step (fun k => by rw [spec_l1Cur_below.j0, if_pos rfl, h4]; rfl) (Ev.now _), by omega, by omega⟩
    | false =>
      have hp2 : ¬ p < 2 := fun h => by have := hp h; cases this
      obtain ⟨r, a2, s2, h4, h5, h6, h7, _⟩ := cur_pick l hl at_ s 256 (by omega) (by omega) (by omega)
      obtain ⟨r3, a3, s3, h8, h9, h10, h11, _⟩ := cur_pick l hl a2 s2 37 (by omega) (by omega) (by omega)
      exact ⟨_, a3, s3, Ev.step (fun k => by rw [spec_l1Cur_below.j0, if_neg (by simp), h4, Option.bind_some, h8, Option.bind_some, if_neg (by omega)]) (Ev.now _), by omega, by omega⟩
  unfold spec_l1Cur_below.f
  by_cases hp : p < 2
  · simp only [hp, if_true]
    obtain ⟨a, a', s', h2, h3, h4⟩ := hj true at_ s h0 (by omega) (fun _ => rfl)
    exact ⟨a, a', s', h2, h3, by omega⟩
  · simp only [hp, if_false]
    obtain ⟨b, a', s', h, h2, h3⟩ := cur_one l hl at_ s 20 h0 (by omega) (by omega)
    simp only [h, Option.bind_some]
    obtain ⟨a, a2, s2, h4, h5, h6⟩ := hj b a' s' (by omega) (by omega) (fun h => absurd h hp)
    exact ⟨a, a2, s2, h4, by omega, by omega⟩
theorem drawInverse (l : List Int) (hl : Bytes8 l) : ∃ a p, Ev (fun k => spec_DrawInverseMod.f k l) (a, p) ∧ p ∈ drawn := by
  unfold spec_DrawInverseMod.f
  obtain ⟨p, a', s', h, h2, h3, h4⟩ := cur_prime l hl 0 0 (by omega) (by omega)
  obtain ⟨a, a2, s2, h5, _⟩ := cur_below l hl a' s' p (by omega) (by omega)
  simp only [h, Option.bind_some]
  exact ⟨a, p, Ev.bind h5 (Ev.now _), h4⟩

/-! What the drawn moduli are. -/
structure Mod (p : Nat) : Prop where
  lo : 3 ≤ p
  hi : p ≤ 10007
  odd : p - 1 = 2 * ((p - 1) / 2)
  gen : ∃ g, Cert p g ∧ g < p
  isM : Ev (fun k => impl_isModulus.f k (p : Int)) true
  isP : Ev (fun k => spec_l4Prime.f k (p : Int)) true
theorem isM_of (p : Nat) (h1 : (p : Int) ≥ 3) (h2 : (p : Int) ≤ 10007) (h : impl_isPrime.f 110 (p : Int) = some true) : Ev (fun k => impl_isModulus.f k (p : Int)) true := by
  unfold impl_isModulus.f impl_within.f
  simp only [h1, h2, if_true, decide_true, Option.bind_some]
  exact Ev.bind (Ev.of (fun k => impl_isPrime.mono _ k) h) (Ev.now _)
theorem mod_of (p g : Nat) (c : Cert p g) (h1 : 3 ≤ p) (h2 : p ≤ 10007) (h3 : p - 1 = 2 * ((p - 1) / 2)) (hg : g < p) (h : impl_isPrime.f 110 (p : Int) = some true) (h' : spec_l4Prime.f 110 (p : Int) = some true) : Mod p :=
  ⟨h1, h2, h3, ⟨g, c, hg⟩, isM_of p (by omega) (by omega) h, Ev.of (fun k => spec_l4Prime.mono _ k) h'⟩
/-- A drawn number is a modulus, or both refuse it. -/
theorem drawn_mod (q : Int) (hq : q ∈ drawn) : (∃ p : Nat, q = (p : Int) ∧ Mod p) ∨ (Ev (fun k => impl_isModulus.f k q) false ∧ ∀ a, Ev (fun k => spec_l4Of.f k a q) false) := by
  have bad : ∀ q : Int, (q < 3 ∨ q > 10007) → (Ev (fun k => impl_isModulus.f k q) false ∧ ∀ a, Ev (fun k => spec_l4Of.f k a q) false) := by
    intro q h
    unfold impl_isModulus.f impl_within.f spec_l4Of.f spec_l1In.f
    by_cases h3 : q ≥ 3
    · have h4 : ¬ q ≤ 10007 := by omega
      simp only [h3, h4, if_true, decide_false, Option.bind_some, Bool.false_eq_true, if_false]; exact ⟨Ev.now _, fun _ => Ev.now _⟩
    · simp only [h3, if_false, Option.bind_some, Bool.false_eq_true]; exact ⟨Ev.now _, fun _ => Ev.now _⟩
  have comp : ∀ q : Int, q ≥ 3 → q ≤ 10007 → impl_isPrime.f 110 q = some false → spec_l4Prime.f 110 q = some false → (Ev (fun k => impl_isModulus.f k q) false ∧ ∀ a, Ev (fun k => spec_l4Of.f k a q) false) := by
    intro q h1 h2 h h'
    have e1 := Ev.of (fun k => impl_isPrime.mono q k) h
    have e2 := Ev.of (fun k => spec_l4Prime.mono q k) h'
    unfold impl_isModulus.f impl_within.f spec_l4Of.f spec_l1In.f
    simp only [h1, h2, if_true, decide_true, Option.bind_some]
    refine ⟨Ev.bind e1 (Ev.now _), fun a => ?_⟩
    split
    · simp only [Option.bind_some]
      split
      · exact Ev.bind e2 (Ev.now _)
      · exact Ev.now _
    · exact Ev.now _
  simp only [drawn, List.mem_cons, List.not_mem_nil, or_false] at hq
  rcases hq with rfl | rfl | rfl | rfl | rfl | rfl | rfl | rfl | rfl | rfl | rfl | rfl | rfl | rfl | rfl | rfl
  · exact .inr (bad 0 (by omega))
  · exact .inr (bad 1 (by omega))
  · exact .inr (bad 2 (by omega))
  · exact .inr (comp 4 (by omega) (by omega) (by decide +kernel) (by decide +kernel))
  · exact .inr (comp 9 (by omega) (by omega) (by decide +kernel) (by decide +kernel))
  · exact .inl ⟨10007, rfl, mod_of 10007 5 cert10007 (by omega) (by omega) (by omega) (by omega) (by decide +kernel) (by decide +kernel)⟩
  · exact .inr (bad 10009 (by omega))
  · exact .inl ⟨3, rfl, mod_of 3 2 cert3 (by omega) (by omega) (by omega) (by omega) (by decide +kernel) (by decide +kernel)⟩
  · exact .inl ⟨5, rfl, mod_of 5 2 cert5 (by omega) (by omega) (by omega) (by omega) (by decide +kernel) (by decide +kernel)⟩
  · exact .inl ⟨7, rfl, mod_of 7 3 cert7 (by omega) (by omega) (by omega) (by omega) (by decide +kernel) (by decide +kernel)⟩
  · exact .inl ⟨13, rfl, mod_of 13 2 cert13 (by omega) (by omega) (by omega) (by omega) (by decide +kernel) (by decide +kernel)⟩
  · exact .inl ⟨17, rfl, mod_of 17 3 cert17 (by omega) (by omega) (by omega) (by omega) (by decide +kernel) (by decide +kernel)⟩
  · exact .inl ⟨101, rfl, mod_of 101 2 cert101 (by omega) (by omega) (by omega) (by omega) (by decide +kernel) (by decide +kernel)⟩
  · exact .inl ⟨1009, rfl, mod_of 1009 11 cert1009 (by omega) (by omega) (by omega) (by omega) (by decide +kernel) (by decide +kernel)⟩
  · exact .inl ⟨1013, rfl, mod_of 1013 3 cert1013 (by omega) (by omega) (by omega) (by omega) (by decide +kernel) (by decide +kernel)⟩
  · exact .inl ⟨7919, rfl, mod_of 7919 7 cert7919 (by omega) (by omega) (by omega) (by omega) (by decide +kernel) (by decide +kernel)⟩
section
variable {p : Nat}
theorem Mod.of_in (m : Mod p) {a : Nat} (ha : a < p) : Ev (fun k => spec_l4Of.f k (a : Int) (p : Int)) true := by
  have h1 := m.lo; have h2 := m.hi
  unfold spec_l4Of.f spec_l1In.f
  rw [if_pos (show (p : Int) ≥ 3 by omega), decide_eq_true (show (p : Int) ≤ 10007 by omega)]
  simp only [Option.bind_some, if_true]
  rw [if_pos (show (a : Int) ≥ 0 by omega), w64 (by omega) (by omega), decide_eq_true (show (a : Int) ≤ (p : Int) - 1 by omega)]
  simp only [Option.bind_some, if_true]
  exact Ev.bind m.isP (Ev.now _)
theorem Mod.of_out (m : Mod p) {a : Int} (ha : ¬ (0 ≤ a ∧ a < p)) : Ev (fun k => spec_l4Of.f k a (p : Int)) false := by
  have h1 := m.lo; have h2 := m.hi
  unfold spec_l4Of.f spec_l1In.f
  rw [if_pos (show (p : Int) ≥ 3 by omega), decide_eq_true (show (p : Int) ≤ 10007 by omega)]
  simp only [Option.bind_some, if_true]
  by_cases h : a ≥ 0
  · rw [if_pos h, w64 (by omega) (by omega), decide_eq_false (show ¬ a ≤ (p : Int) - 1 by omega)]
    simp only [Option.bind_some, Bool.false_eq_true, if_false]; exact Ev.now _
  · rw [if_neg h]
    simp only [Option.bind_some, Bool.false_eq_true, if_false]; exact Ev.now _
theorem within_in (m : Mod p) {a lo : Nat} (hl : lo ≤ a) (ha : a < p) : impl_within.f (a : Int) (lo : Int) (wrap64 ((p : Int) - 1)) = some true := by
  have h1 := m.lo; have h2 := m.hi
  unfold impl_within.f
  rw [if_pos (by omega), w64 (by omega) (by omega), decide_eq_true (by omega)]
theorem within_out (m : Mod p) {a lo : Int} (ha : ¬ (lo ≤ a ∧ a < p)) : impl_within.f a lo (wrap64 ((p : Int) - 1)) = some false := by
  have h1 := m.lo; have h2 := m.hi
  unfold impl_within.f
  by_cases h : a ≥ lo
  · rw [if_pos h, w64 (by omega) (by omega), decide_eq_false (by omega)]
  · rw [if_neg h]
theorem Mod.halfInt (m : Mod p) : wrap64 (Int.tdiv (wrap64 ((p : Int) - 1)) 2) = (((p - 1) / 2 : Nat) : Int) := by
  have h1 := m.lo; have h2 := m.hi
  rw [w64 (n := (p : Int) - 1) (by omega) (by omega), Int.tdiv_eq_ediv_of_nonneg (by omega), w64 (by omega) (by omega)]; omega
theorem Mod.power (m : Mod p) {a b : Nat} (ha : a < p) (hb : b < 4611686018427387904) : Ev (fun k => spec_l4Power.f k (a : Int) (b : Int) (p : Int)) ((a ^ b % p : Nat) : Int) ∧ Ev (fun k => impl_powerMod.f k (a : Int) (b : Int) (p : Int)) ((a ^ b % p : Nat) : Int) := by
  have h1 := m.lo; have h2 := m.hi
  exact power_ev p a b (by omega) (by omega) ha hb
theorem Mod.powerImpl (m : Mod p) {a b : Nat} (ha : a < p) (hb : b ≤ 1000000000) : Ev (fun k => impl_PowerMod.f k (a : Int) (b : Int) (p : Int)) (((a ^ b % p : Nat) : Int), true) := by
  unfold impl_PowerMod.f
  refine Ev.bind m.isM ?_
  have := within_in m (Nat.zero_le a) ha
  rw [Int.natCast_zero] at this
  have h2 : impl_within.f (b : Int) 0 1000000000 = some true := by
    unfold impl_within.f; rw [if_pos (by omega), decide_eq_true (by omega)]
  simp only [if_true, this, h2, Option.bind_some]
  exact Ev.bind (m.power ha (by omega)).2 (Ev.now _)
end

theorem number_l0 (l : List Int) (hl : Bytes8 l) (hlen : l.length < 4611686018427387904) (d : Nat) : ∀ (k : Nat) (n i : Int), 0 ≤ n → n < 1000003 → 0 ≤ i → i ≤ l.length → (l.length : Int) - i = d → d < k → ∃ r, laws_numberOf.l0 k n l l.length i = some r ∧ 0 ≤ r ∧ r < 1000003 := by
  induction d with
  | zero =>
    intro k n i hn hn2 h0 hi hd hk
    obtain ⟨k, rfl⟩ : ∃ m, k = m + 1 := ⟨k - 1, by omega⟩
    exact ⟨n, by simp only [laws_numberOf.l0]; rw [if_neg (by omega)], hn, hn2⟩
  | succ d ih =>
    intro k n i hn hn2 h0 hi hd hk
    obtain ⟨k, rfl⟩ : ∃ m, k = m + 1 := ⟨k - 1, by omega⟩
    have hb := bytes_rd hl i h0 (by omega)
    simp only [laws_numberOf.l0]
    rw [if_pos (by omega), if_pos h0, if_pos (by omega), w64 (n := i + 1) (by omega) (by omega), w64 (n := 31 * n) (by omega) (by omega), w64 (n := rd l i) (by omega) (by omega), w64 (n := 31 * n + rd l i) (by omega) (by omega), Int.tmod_eq_emod_of_nonneg (by omega)]
    exact ih k _ (i + 1) (Int.emod_nonneg _ (by decide)) (Int.emod_lt_of_pos _ (by decide)) (by omega) (by omega) (by omega) (by omega)
theorem number (l : List Int) (hl : Bytes8 l) (hlen : l.length < 4611686018427387904) : ∃ r, Ev (fun k => laws_numberOf.f k l) r ∧ 0 ≤ r ∧ r < 1000003 := by
  obtain ⟨r, h, h2⟩ := number_l0 l hl hlen l.length (l.length + 1) 0 0 (by omega) (by omega) (by omega) (by omega) (by omega) (by omega)
  exact ⟨r, Ev.of (fun k => laws_numberOf.mono l k) h, h2⟩

/-! Euclid. -/
theorem implRound (r0 s0 t0 r1 s1 t1 q r2 s2 t2 : Int) (hr : ¬ r1 = 0) (hq : wrap64 (Int.tdiv r0 r1) = q) (h2 : wrap64 (r0 - wrap64 (q * r1)) = r2) (hs : wrap64 (s0 - wrap64 (q * s1)) = s2) (ht : wrap64 (t0 - wrap64 (q * t1)) = t2) {v : Int × Int × Int × Bool}
    (h : Ev (fun k => impl_BothEuclid.l0 k [r1, s1, t1] [r2, s2, t2]) v) : Ev (fun k => impl_BothEuclid.l0 k [r0, s0, t0] [r1, s1, t1]) v := by
  refine Ev.step (f := fun k => impl_BothEuclid.l1 k q [r0, s0, t0] [r1, s1, t1] 0) (fun k => by rw [impl_BothEuclid.l0, if_neg (show ¬ rd [r1, s1, t1] 0 = 0 from hr)]; exact congrArg (fun x => impl_BothEuclid.l1 k x [r0, s0, t0] [r1, s1, t1] 0) hq) ?_
  refine Ev.step (f := fun k => impl_BothEuclid.l1 k q [r1, s0, t0] [r2, s1, t1] 1) (fun k => by rw [impl_BothEuclid.l1, if_pos (by decide)]; exact congrArg (fun x => impl_BothEuclid.l1 k q [r1, s0, t0] [x, s1, t1] 1) h2) ?_
  refine Ev.step (f := fun k => impl_BothEuclid.l1 k q [r1, s1, t0] [r2, s2, t1] 2) (fun k => by rw [impl_BothEuclid.l1, if_pos (by decide)]; exact congrArg (fun x => impl_BothEuclid.l1 k q [r1, s1, t0] [r2, x, t1] 2) hs) ?_
  refine Ev.step (f := fun k => impl_BothEuclid.l1 k q [r1, s1, t1] [r2, s2, t2] 3) (fun k => by rw [impl_BothEuclid.l1, if_pos (by decide)]; exact congrArg (fun x => impl_BothEuclid.l1 k q [r1, s1, t1] [r2, s2, x] 3) ht) ?_
  exact Ev.step (fun k => by rw [impl_BothEuclid.l1, if_neg (by decide)]) h
theorem specRound (r0 s0 t0 r1 s1 t1 q r2 s2 t2 : Int) (hr : ¬ r1 = 0) (hq : wrap64 (Int.tdiv r0 r1) = q) (h2 : wrap64 (r0 - wrap64 (q * r1)) = r2) (hs : wrap64 (s0 - wrap64 (q * s1)) = s2) (ht : wrap64 (t0 - wrap64 (q * t1)) = t2) {v : Int × Int × Int × Bool}
    (h : Ev (fun k => spec_BothEuclid.l0 k [r1, s1, t1] [r2, s2, t2]) v) : Ev (fun k => spec_BothEuclid.l0 k [r0, s0, t0] [r1, s1, t1]) v := by
  have w1 : wrap64 (0 + 1) = 1 := w64 (by decide) (by decide)
  have w2 : wrap64 (1 + 1) = 2 := w64 (by decide) (by decide)
  have w3 : wrap64 (2 + 1) = 3 := w64 (by decide) (by decide)
  refine Ev.step (f := fun k => spec_BothEuclid.l1 k [r0, s0, t0] [r1, s1, t1] q [] 3 0) (fun k => by rw [spec_BothEuclid.l0, if_pos (by simp), if_neg (show ¬ rd [r1, s1, t1] 0 = 0 from hr), if_pos (by simp)]; exact congrArg (fun x => spec_BothEuclid.l1 k [r0, s0, t0] [r1, s1, t1] x [] 3 0) hq) ?_
  refine Ev.step (f := fun k => spec_BothEuclid.l1 k [r0, s0, t0] [r1, s1, t1] q [r2] 3 1) (fun k => by rw [spec_BothEuclid.l1, if_pos (by decide), if_pos (by decide), if_pos (by simp), if_pos (by simp), if_pos (by simp), w1]; exact congrArg (fun x => spec_BothEuclid.l1 k [r0, s0, t0] [r1, s1, t1] q [x] 3 1) h2) ?_
  refine Ev.step (f := fun k => spec_BothEuclid.l1 k [r0, s0, t0] [r1, s1, t1] q [r2, s2] 3 2) (fun k => by rw [spec_BothEuclid.l1, if_pos (by decide), if_pos (by decide), if_pos (by simp), if_pos (by simp), if_pos (by simp), w2]; exact congrArg (fun x => spec_BothEuclid.l1 k [r0, s0, t0] [r1, s1, t1] q [r2, x] 3 2) hs) ?_
  refine Ev.step (f := fun k => spec_BothEuclid.l1 k [r0, s0, t0] [r1, s1, t1] q [r2, s2, t2] 3 3) (fun k => by rw [spec_BothEuclid.l1, if_pos (by decide), if_pos (by decide), if_pos (by simp), if_pos (by simp), if_pos (by simp), w3]; exact congrArg (fun x => spec_BothEuclid.l1 k [r0, s0, t0] [r1, s1, t1] q [r2, s2, x] 3 3) ht) ?_
  exact Ev.step (fun k => by rw [spec_BothEuclid.l1, if_neg (by decide)]) h
structure Inv (a b e r0 s0 t0 r1 s1 t1 : Int) : Prop where
  e1 : e = 1 ∨ e = -1
  n0 : 0 ≤ r0
  n1 : 0 ≤ r1
  u0 : r0 ≤ 1000000
  u1 : r1 ≤ 1000000
  h0 : r0 = s0 * a + t0 * b
  h1 : r1 = s1 * a + t1 * b
  h3 : r1 * s0 - r0 * s1 = e * b
  h4 : r0 * t1 - r1 * t0 = e * a
  a0 : 0 ≤ e * s0
  a1 : e * s1 ≤ 0
  b0 : e * t0 ≤ 0
  b1 : 0 ≤ e * t1
  dv : ∀ d : Int, d ∣ r0 → d ∣ r1 → d ∣ a ∧ d ∣ b
theorem small (e x y : Int) (he : e = 1 ∨ e = -1) (h0 : 0 ≤ e * x) (h1 : e * x ≤ 1000000) : -1000000 ≤ x ∧ x ≤ 1000000 := by
  rcases he with rfl | rfl <;> omega
/-- One round. -/
theorem Inv.next {a b e r0 s0 t0 r1 s1 t1 : Int} (i : Inv a b e r0 s0 t0 r1 s1 t1) (ha : 0 ≤ a) (ha2 : a ≤ 1000000) (hb : 0 ≤ b) (hb2 : b ≤ 1000000) (hr : ¬ r1 = 0) :
    wrap64 (Int.tdiv r0 r1) = r0 / r1 ∧ wrap64 (r0 - wrap64 (r0 / r1 * r1)) = r0 - r0 / r1 * r1 ∧ wrap64 (s0 - wrap64 (r0 / r1 * s1)) = s0 - r0 / r1 * s1 ∧ wrap64 (t0 - wrap64 (r0 / r1 * t1)) = t0 - r0 / r1 * t1 ∧
    r0 - r0 / r1 * r1 < r1 ∧ Inv a b (-e) r1 s1 t1 (r0 - r0 / r1 * r1) (s0 - r0 / r1 * s1) (t0 - r0 / r1 * t1) := by
  obtain ⟨e1, n0, n1, u0, u1, h0, h1, h3, h4, a0, a1, b0, b1, dv⟩ := i
  have hq0 : 0 ≤ r0 / r1 := Int.ediv_nonneg n0 n1
  have hm0 : 0 ≤ r0 % r1 := Int.emod_nonneg _ hr
  have hm1 : r0 % r1 < r1 := Int.emod_lt_of_pos _ (by omega)
  have hm : r0 - r0 / r1 * r1 = r0 % r1 := by have := Int.mul_ediv_add_emod r0 r1; have h := Int.mul_comm r1 (r0 / r1); omega
  have hqle : r0 / r1 ≤ r0 := Int.ediv_le_self _ n0
  obtain ⟨q, hq⟩ : ∃ q, q = r0 / r1 := ⟨_, rfl⟩
  rw [← hq] at hq0 hm hqle ⊢
  have hn0 : 0 ≤ r0 - q * r1 := by omega
  have hn1 : r0 - q * r1 < r1 := by omega
  have sg : ∀ x y : Int, 0 ≤ x → y ≤ 0 → x * y ≤ 0 := fun x y hx hy => Int.mul_nonpos_of_nonneg_of_nonpos hx hy
  have qa : q * (e * s1) ≤ 0 := sg _ _ hq0 a1
  have qb : 0 ≤ q * (e * t1) := Int.mul_nonneg hq0 b1
  have ea : e * (s0 - q * s1) = e * s0 - q * (e * s1) := by grind
  have eb : e * (t0 - q * t1) = e * t0 - q * (e * t1) := by grind
  -- the new coefficients are small
  have k1 : r1 * (e * (s0 - q * s1)) + (r0 - q * r1) * (-(e * s1)) = b := by rcases e1 with rfl | rfl <;> grind
  have k2 : r1 * (-(e * (t0 - q * t1))) + (r0 - q * r1) * (e * t1) = a := by rcases e1 with rfl | rfl <;> grind
  have p1 : 0 ≤ (r0 - q * r1) * (-(e * s1)) := Int.mul_nonneg hn0 (by omega)
  have p2 : 0 ≤ (r0 - q * r1) * (e * t1) := Int.mul_nonneg hn0 b1
  have m1 : e * (s0 - q * s1) ≤ r1 * (e * (s0 - q * s1)) := by
    have : 0 ≤ e * (s0 - q * s1) := by omega
    have h := Int.mul_le_mul_of_nonneg_right (show (1 : Int) ≤ r1 by omega) this
    omega
  have m2 : -(e * (t0 - q * t1)) ≤ r1 * (-(e * (t0 - q * t1))) := by
    have : 0 ≤ -(e * (t0 - q * t1)) := by omega
    have h := Int.mul_le_mul_of_nonneg_right (show (1 : Int) ≤ r1 by omega) this
    omega
  have ss : -1000000 ≤ s0 - q * s1 ∧ s0 - q * s1 ≤ 1000000 ∧ -1000000 ≤ q * s1 ∧ q * s1 ≤ 1000000 := by
    have x1 : e * (q * s1) = q * (e * s1) := by grind
    rcases e1 with rfl | rfl <;> omega
  have tt : -1000000 ≤ t0 - q * t1 ∧ t0 - q * t1 ≤ 1000000 ∧ -1000000 ≤ q * t1 ∧ q * t1 ≤ 1000000 := by
    have x1 : e * (q * t1) = q * (e * t1) := by grind
    rcases e1 with rfl | rfl <;> omega
  refine ⟨?_, ?_, ?_, ?_, hn1, ?_⟩
  · rw [Int.tdiv_eq_ediv_of_nonneg n0, ← hq]; exact w64 (by omega) (by omega)
  · rw [w64 (n := q * r1) (by omega) (by omega)]; exact w64 (by omega) (by omega)
  · rw [w64 (n := q * s1) (by omega) (by omega)]; exact w64 (by omega) (by omega)
  · rw [w64 (n := q * t1) (by omega) (by omega)]; exact w64 (by omega) (by omega)
  · refine ⟨by omega, n1, hn0, u1, by omega, h1, by grind, by grind, by grind, ?_, ?_, ?_, ?_, ?_⟩
    · have : -e * s1 = -(e * s1) := by grind
      omega
    · have : -e * (s0 - q * s1) = -(e * (s0 - q * s1)) := by grind
      omega
    · have : -e * t1 = -(e * t1) := by grind
      omega
    · have : -e * (t0 - q * t1) = -(e * (t0 - q * t1)) := by grind
      omega
    · intro d hd1 hd2
      have : d ∣ r0 := by
        have h := Int.dvd_add hd2 (Int.dvd_trans hd1 (Int.dvd_mul_left q r1))
        rwa [show r0 - q * r1 + q * r1 = r0 by omega] at h
      exact dv d this hd1
theorem Inv.run {a b : Int} (ha : 0 ≤ a) (ha2 : a ≤ 1000000) (hb : 0 ≤ b) (hb2 : b ≤ 1000000) (hab : ¬ (a = 0 ∧ b = 0)) (n : Nat) : ∀ (e r0 s0 t0 r1 s1 t1 : Int), r1.toNat ≤ n → Inv a b e r0 s0 t0 r1 s1 t1 →
    ∃ g x y : Int, 1 ≤ g ∧ x * a + y * b = g ∧ g ∣ a ∧ g ∣ b ∧ g ≤ 1000000 ∧ Ev (fun k => impl_BothEuclid.l0 k [r0, s0, t0] [r1, s1, t1]) (g, x, y, true) ∧ Ev (fun k => spec_BothEuclid.l0 k [r0, s0, t0] [r1, s1, t1]) (g, x, y, true) := by
  have last : ∀ (e r0 s0 t0 s1 t1 : Int), Inv a b e r0 s0 t0 0 s1 t1 → ∃ g x y : Int, 1 ≤ g ∧ x * a + y * b = g ∧ g ∣ a ∧ g ∣ b ∧ g ≤ 1000000 ∧ Ev (fun k => impl_BothEuclid.l0 k [r0, s0, t0] [0, s1, t1]) (g, x, y, true) ∧ Ev (fun k => spec_BothEuclid.l0 k [r0, s0, t0] [0, s1, t1]) (g, x, y, true) := by
    intro e r0 s0 t0 s1 t1 i
    obtain ⟨d1, d2⟩ := i.dv r0 (Int.dvd_refl _) (Int.dvd_zero _)
    refine ⟨r0, s0, t0, ?_, i.h0.symm, d1, d2, i.u0, ?_, ?_⟩
    · rcases Int.lt_or_le r0 1 with h | h
      · exfalso
        have h0 : r0 = 0 := by have := i.n0; omega
        rw [h0] at d1 d2
        exact hab ⟨Int.zero_dvd.1 d1, Int.zero_dvd.1 d2⟩
      · exact h
    · exact Ev.step (fun k => by rw [impl_BothEuclid.l0, if_pos (show rd [0, s1, t1] 0 = 0 from rfl)]; rfl) (Ev.now _)
    · exact Ev.step (fun k => by rw [spec_BothEuclid.l0, if_pos (by simp), if_pos (show rd [0, s1, t1] 0 = 0 from rfl), if_pos (by simp), if_pos (by simp), if_pos (by simp)]; rfl) (Ev.now _)
  induction n with
  | zero =>
    intro e r0 s0 t0 r1 s1 t1 hn i
    obtain rfl : r1 = 0 := by have := i.n1; omega
    exact last e r0 s0 t0 s1 t1 i
  | succ n ih =>
    intro e r0 s0 t0 r1 s1 t1 hn i
    by_cases hr : r1 = 0
    · subst hr; exact last e r0 s0 t0 s1 t1 i
    · obtain ⟨q1, q2, q3, q4, q5, q6⟩ := i.next ha ha2 hb hb2 hr
      obtain ⟨g, x, y, z1, z2, z3, z4, z5, z6, z7⟩ := ih (-e) r1 s1 t1 _ _ _ (by have := i.n1; omega) q6
      exact ⟨g, x, y, z1, z2, z3, z4, z5, implRound r0 s0 t0 r1 s1 t1 _ _ _ _ hr q1 q2 q3 q4 z6, specRound r0 s0 t0 r1 s1 t1 _ _ _ _ hr q1 q2 q3 q4 z7⟩
theorem euclid {a b : Int} (ha : 0 ≤ a) (ha2 : a ≤ 1000000) (hb : 0 ≤ b) (hb2 : b ≤ 1000000) (hab : ¬ (a = 0 ∧ b = 0)) :
    ∃ g x y : Int, 1 ≤ g ∧ x * a + y * b = g ∧ g ∣ a ∧ g ∣ b ∧ g ≤ 1000000 ∧ Ev (fun k => impl_BothEuclid.l0 k [a, 1, 0] [b, 0, 1]) (g, x, y, true) ∧ Ev (fun k => spec_BothEuclid.l0 k [a, 1, 0] [b, 0, 1]) (g, x, y, true) :=
  Inv.run ha ha2 hb hb2 hab b.toNat 1 a 1 0 b 0 1 (Nat.le_refl _) ⟨.inl rfl, ha, hb, ha2, hb2, by omega, by omega, by omega, by omega, by omega, by omega, by omega, by omega, fun d h1 h2 => ⟨h1, h2⟩⟩
theorem within_of (a lo hi : Int) : impl_within.f a lo hi = some (decide (lo ≤ a ∧ a ≤ hi)) := by
  unfold impl_within.f
  by_cases h : a ≥ lo
  · rw [if_pos h]; congr 1; exact decide_eq_decide.mpr ⟨fun h2 => ⟨h, h2⟩, fun h2 => h2.2⟩
  · rw [if_neg h]; congr 1; exact (decide_eq_false (fun h2 => h h2.1)).symm
theorem in_of (a lo hi : Int) : spec_l1In.f a lo hi = some (decide (lo ≤ a ∧ a ≤ hi)) := by
  unfold spec_l1In.f
  by_cases h : a ≥ lo
  · rw [if_pos h]; congr 1; exact decide_eq_decide.mpr ⟨fun h2 => ⟨h, h2⟩, fun h2 => h2.2⟩
  · rw [if_neg h]; congr 1; exact (decide_eq_false (fun h2 => h h2.1)).symm
/-- What both return, and what it is. -/
theorem bothEuclid (c d : Int) : ∃ (g x y : Int) (b : Bool), Ev (fun k => impl_BothEuclid.f k c d) (g, x, y, b) ∧ Ev (fun k => spec_BothEuclid.f k c d) (g, x, y, b) ∧ (b = true → 1 ≤ g ∧ x * c + y * d = g ∧ g ∣ c ∧ g ∣ d ∧ g ≤ 1000000) := by
  have no : Ev (fun k => spec_BothEuclid.j0 k c d true) (0, 0, 0, false) := Ev.step (fun k => by rw [spec_BothEuclid.j0, if_pos rfl]) (Ev.now _)
  have yes : ∀ {v}, Ev (fun k => spec_BothEuclid.l0 k [c, 1, 0] [d, 0, 1]) v → Ev (fun k => spec_BothEuclid.j0 k c d false) v := fun h => Ev.step (fun k => by rw [spec_BothEuclid.j0, if_neg (by simp)]) h
  unfold impl_BothEuclid.f spec_BothEuclid.f
  simp only [within_of, in_of, Option.bind_some]
  by_cases hc : 0 ≤ c ∧ c ≤ 1000000
  · by_cases hd : 0 ≤ d ∧ d ≤ 1000000
    · simp only [decide_eq_true hc, decide_eq_true hd, if_true]
      by_cases hz : c = 0 ∧ d = 0
      · obtain ⟨rfl, rfl⟩ := hz
        refine ⟨0, 0, 0, false, ?_, ?_, fun h => by cases h⟩
        · simp only [if_true]; exact Ev.now _
        · simp only [if_true, beq_self_eq_true]; exact no
      · obtain ⟨g, x, y, z1, z2, z3, z4, z5, z6, z7⟩ := euclid hc.1 hc.2 hd.1 hd.2 hz
        refine ⟨g, x, y, true, ?_, ?_, fun _ => ⟨z1, z2, z3, z4, z5⟩⟩
        · by_cases h1 : c = 0
          · have h2 : ¬ d = 0 := fun h => hz ⟨h1, h⟩
            subst h1
            simp only [h2, if_true, if_false]; exact z6
          · simp only [h1, if_false]; exact z6
        · by_cases h1 : c = 0
          · have h2 : (d == 0) = false := beq_eq_false_iff_ne.mpr (fun h => hz ⟨h1, h⟩)
            subst h1
            simp only [if_true, h2]; exact yes z7
          · simp only [h1, if_false]; exact yes z7
    · refine ⟨0, 0, 0, false, ?_, ?_, fun h => by cases h⟩
      · simp only [decide_eq_true hc, decide_eq_false hd, if_true, Bool.false_eq_true, if_false]; exact Ev.now _
      · simp only [decide_eq_true hc, decide_eq_false hd, if_true, Bool.false_eq_true, if_false]; exact no
  · refine ⟨0, 0, 0, false, ?_, ?_, fun h => by cases h⟩
    · simp only [decide_eq_false hc, Bool.false_eq_true, if_false]; exact Ev.now _
    · simp only [decide_eq_false hc, Bool.false_eq_true, if_false]; exact no
/-! Primes. -/
theorem prime_same : ∀ (k : Nat) (n d : Int), impl_isPrime.l0 k n d = spec_l4Prime.l0 k n d
  | 0, _, _ => rfl
  | k + 1, n, d => by simp only [impl_isPrime.l0, spec_l4Prime.l0, prime_same k]
theorem prime_l0 (n : Int) (h1 : n ≤ 10007) (m : Nat) : ∀ d : Int, 2 ≤ d → d ≤ 101 → 101 - d = m → ∃ b, Ev (fun k => spec_l4Prime.l0 k n d) b := by
  induction m with
  | zero =>
    intro d h2 h3 hd
    obtain rfl : d = 101 := by omega
    exact ⟨_, Ev.step (fun k => by rw [spec_l4Prime.l0, w64 (by omega) (by omega), if_neg (by omega)]) (Ev.now _)⟩
  | succ m ih =>
    intro d h2 h3 hd
    have hb : d * d ≤ 101 * 101 := Int.mul_le_mul h3 h3 (by omega) (by omega)
    have hb0 : 0 ≤ d * d := Int.mul_nonneg (by omega) (by omega)
    have hw : wrap64 (d * d) = d * d := w64 (by omega) (by omega)
    by_cases h : d * d ≤ n
    · by_cases hm : Int.tmod n d = 0
      · exact ⟨false, Ev.step (fun k => by rw [spec_l4Prime.l0, hw, if_pos h, if_neg (by omega), if_pos hm]) (Ev.now _)⟩
      · obtain ⟨b, hb⟩ := ih (d + 1) (by omega) (by omega) (by omega)
        exact ⟨b, Ev.step (fun k => by rw [spec_l4Prime.l0, hw, if_pos h, if_neg (by omega), if_neg hm, w64 (n := d + 1) (by omega) (by omega)]) hb⟩
    · exact ⟨_, Ev.step (fun k => by rw [spec_l4Prime.l0, hw, if_neg h]) (Ev.now _)⟩
theorem isPrime_both (n : Int) : ∃ v, Ev (fun k => impl_IsPrime.f k n) v ∧ Ev (fun k => spec_IsPrime.f k n) v := by
  unfold impl_IsPrime.f spec_IsPrime.f
  simp only [within_of, in_of, Option.bind_some]
  by_cases h : 0 ≤ n ∧ n ≤ 10007
  · simp only [decide_eq_true h, if_true]
    obtain ⟨b, hb⟩ := prime_l0 n h.2 99 2 (by omega) (by omega) (by omega)
    have hb1 : Ev (fun k => spec_l4Prime.f k n) b := hb
    have hb2 : Ev (fun k => impl_isPrime.f k n) b := Ev.congr (fun k => by unfold impl_isPrime.f spec_l4Prime.f; exact prime_same k _ _) hb1
    exact ⟨(b, true), Ev.bind hb2 (Ev.now _), Ev.bind hb1 (Ev.now _)⟩
  · simp only [decide_eq_false h, Bool.false_eq_true, if_false]
    exact ⟨_, Ev.now _, Ev.now _⟩
/-! Inverses. -/
theorem Mod.inverse {p : Nat} (m : Mod p) {a : Nat} (h0 : 0 < a) (ha : a < p) : Ev (fun k => impl_InverseMod.f k (a : Int) (p : Int)) (((a ^ (p - 2) % p : Nat) : Int), true) ∧ Ev (fun k => spec_InverseMod.f k (a : Int) (p : Int)) (((a ^ (p - 2) % p : Nat) : Int), true) ∧ a * (a ^ (p - 2) % p) % p = 1 := by
  have h1 := m.lo; have h2 := m.hi
  have e : wrap64 ((p : Int) - 2) = ((p - 2 : Nat) : Int) := by rw [w64 (by omega) (by omega)]; omega
  have hp := m.power (a := a) (b := p - 2) ha (by omega)
  refine ⟨?_, ?_, ?_⟩
  · unfold impl_InverseMod.f
    refine Ev.bind m.isM ?_
    have := within_in m (show 1 ≤ a by omega) ha
    rw [Int.natCast_one] at this
    simp only [if_true, this, Option.bind_some, e]
    exact Ev.bind hp.2 (Ev.now _)
  · unfold spec_InverseMod.f spec_l4Inverse.f
    refine Ev.bind (m.of_in ha) ?_
    have h0' : ¬ (a : Int) = 0 := by omega
    simp only [if_true, h0', if_false, e]
    exact Ev.bind (Ev.bind hp.1 (Ev.now _)) (Ev.now _)
  · obtain ⟨g, c, _⟩ := m.gen
    have hf := c.fermat h0 ha
    rw [Nat.mul_mod, Nat.mod_mod, ← Nat.mul_mod, Nat.mul_comm, ← Nat.pow_succ, show (p - 2).succ = p - 1 by omega]
    exact hf
theorem inverse_both (a q : Int) (hq : q ∈ drawn) : ∃ (i : Int) (b : Bool), Ev (fun k => impl_InverseMod.f k a q) (i, b) ∧ Ev (fun k => spec_InverseMod.f k a q) (i, b) ∧ (b = true → ¬ q = 0 ∧ Int.tmod (wrap64 (a * i)) q = 1) := by
  rcases drawn_mod q hq with ⟨p, rfl, m⟩ | ⟨n1, n2⟩
  · have h1 := m.lo; have h2 := m.hi
    by_cases hin : 1 ≤ a ∧ a < p
    · obtain ⟨n, rfl⟩ : ∃ n : Nat, a = (n : Int) := ⟨a.toNat, by omega⟩
      have hn : n < p := by omega
      obtain ⟨i1, i2, i3⟩ := m.inverse (a := n) (by omega) hn
      refine ⟨_, true, i1, i2, fun _ => ⟨by omega, ?_⟩⟩
      rw [wrap_mul n _ p hn (Nat.mod_lt _ (by omega)) (by omega), tmod_nat, i3]; rfl
    · refine ⟨0, false, ?_, ?_, fun h => by cases h⟩
      · unfold impl_InverseMod.f
        refine Ev.bind m.isM ?_
        simp only [if_true, within_out m (a := a) (lo := 1) hin, Option.bind_some, Bool.false_eq_true, if_false]; exact Ev.now _
      · unfold spec_InverseMod.f
        by_cases h0 : a = 0
        · subst h0
          have := m.of_in (show 0 < p by omega)
          rw [Int.natCast_zero] at this
          refine Ev.bind this ?_
          simp only [if_true]; exact Ev.now _
        · refine Ev.bind (m.of_out (a := a) (by omega)) ?_
          simp only [Bool.false_eq_true, if_false]; exact Ev.now _
  · refine ⟨0, false, ?_, ?_, fun h => by cases h⟩
    · unfold impl_InverseMod.f
      refine Ev.bind n1 ?_
      simp only [Bool.false_eq_true, if_false]; exact Ev.now _
    · unfold spec_InverseMod.f
      refine Ev.bind (n2 a) ?_
      simp only [Bool.false_eq_true, if_false]; exact Ev.now _
/-! The law, from its end. -/
theorem wrap_sum (x y : Int) : wrap64 (wrap64 x + wrap64 y) = wrap64 (x + y) := by unfold wrap64; omega
theorem tail4 (l1 : List Int) (hb : Bytes8 l1) : Ev (fun k => laws_FnPowers.j4 k l1 false) true := by
  obtain ⟨r, a', s', h, h2, h3, h4, h5⟩ := cur_pick l1 hb 0 0 256 (by omega) (by omega) (by omega)
  obtain ⟨z, a2, s2, g1, g2, g3, g4⟩ := cur_among l1 hb a' s' [(-1), 0, 1, 2, 3, 4, 25, 91, 97, 9973, 10007, 10008, r] (by simp) (by simp) (by omega) (by omega)
  have hd : spec_DrawIsPrime.f l1 = some z := by unfold spec_DrawIsPrime.f; rw [h, Option.bind_some, g1]; rfl
  obtain ⟨v, v1, v2⟩ := isPrime_both z
  refine Ev.step (fun k => by rw [laws_FnPowers.j4, if_neg (by simp), hd, Option.bind_some]) ?_
  refine Ev.bind v1 (Ev.bind v2 ?_)
  simp only [beq_self_eq_true, if_true]
  exact Ev.now _
theorem tail2 (l1 : List Int) (hb : Bytes8 l1) : Ev (fun k => laws_FnPowers.j2 k l1 false) true := by
  have hd : ∃ c d, spec_DrawBothEuclid.f l1 = some (c, d) := by
    unfold spec_DrawBothEuclid.f
    obtain ⟨r, a', s', h, h2, h3, _⟩ := cur_pick l1 hb 0 0 256 (by omega) (by omega) (by omega)
    obtain ⟨r2, a2, s2, g, g2, g3, _⟩ := cur_pick l1 hb a' s' 256 (by omega) (by omega) (by omega)
    obtain ⟨r3, a3, s3, f, f2, f3, _⟩ := cur_pick l1 hb a2 s2 256 (by omega) (by omega) (by omega)
    rw [h, Option.bind_some, g, Option.bind_some, f, Option.bind_some, Option.bind_some]
    obtain ⟨c, a4, s4, u, u2, u3, _⟩ := cur_among l1 hb a3 s3 [(-1), 0, 1, 12, 18, 35, 1000000, 1000001, wrap64 (1 + (wrap64 (r * r2))), wrap64 (1 + r3)] (by simp) (by simp) (by omega) (by omega)
    obtain ⟨d, a5, s5, v, v2, v3, _⟩ := cur_among l1 hb a4 s4 [(-1), 0, 1, 12, 18, 35, 1000000, 1000001, wrap64 (1 + (wrap64 (r * r2))), wrap64 (1 + r3)] (by simp) (by simp) (by omega) (by omega)
    exact ⟨c, d, by rw [u, Option.bind_some, v]; rfl⟩
  obtain ⟨c, d, hd⟩ := hd
  obtain ⟨g, x, y, b, e1, e2, e3⟩ := bothEuclid c d
  refine Ev.step (fun k => by rw [laws_FnPowers.j2, if_neg (by simp), hd, Option.bind_some]) ?_
  refine Ev.bind e1 (Ev.bind e2 ?_)
  simp only [bne_self_eq_false, Bool.false_eq_true, if_false, if_true]
  refine Ev.step (fun k => by rw [laws_FnPowers.j3, if_neg (by simp)]) ?_
  cases b with
  | false => simp only [Bool.false_eq_true, if_false]; exact tail4 l1 hb
  | true =>
    obtain ⟨h1, h2, h3, h4, h5⟩ := e3 rfl
    have n1 : ¬ g < 1 := by omega
    have n2 : ¬ g = 0 := by omega
    have n3 : wrap64 (wrap64 (x * c) + wrap64 (y * d)) = g := by rw [wrap_sum, h2]; exact w64 (by omega) (by omega)
    have n4 : Int.tmod c g = 0 := Int.tmod_eq_zero_of_dvd h3
    have n5 : Int.tmod d g = 0 := Int.tmod_eq_zero_of_dvd h4
    simp only [if_true, n1, n2, n3, n4, n5, if_false, bne_self_eq_false]
    exact tail4 l1 hb
theorem tail1 (l1 : List Int) (hb : Bytes8 l1) : Ev (fun k => laws_FnPowers.j1 k l1) true := by
  obtain ⟨a, q, hd, hq⟩ := drawInverse l1 hb
  obtain ⟨i, b, e1, e2, e3⟩ := inverse_both a q hq
  refine Ev.step (fun k => by rw [laws_FnPowers.j1]) ?_
  refine Ev.bind hd (Ev.bind e1 (Ev.bind e2 ?_))
  simp only [bne_self_eq_false, Bool.false_eq_true, if_false, if_true]
  cases b with
  | false => simp only [Bool.false_eq_true, if_false]; exact tail2 l1 hb
  | true =>
    obtain ⟨h1, h2⟩ := e3 rfl
    simp only [if_true, h1, h2, if_false, bne_self_eq_false]
    exact tail2 l1 hb
theorem powerOut {p : Nat} (m : Mod p) {a : Nat} (ha : a < p) {b : Int} (hb : ¬ (0 ≤ b ∧ b ≤ 1000000000)) : Ev (fun k => impl_PowerMod.f k (a : Int) b (p : Int)) (0, false) := by
  unfold impl_PowerMod.f
  refine Ev.bind m.isM ?_
  have := within_in m (Nat.zero_le a) ha
  rw [Int.natCast_zero] at this
  simp only [if_true, this, Option.bind_some, within_of b, decide_eq_false hb, Bool.false_eq_true, if_false]
  exact Ev.now _
theorem powerSpec {p : Nat} (m : Mod p) {a : Nat} (ha : a < p) {b : Nat} (hb : b ≤ 1000000000) : Ev (fun k => spec_PowerMod.f k (a : Int) (b : Int) (p : Int)) (((a ^ b % p : Nat) : Int), true) := by
  unfold spec_PowerMod.f
  refine Ev.bind (m.of_in ha) ?_
  simp only [if_true, in_of, decide_eq_true (show (0 : Int) ≤ (b : Int) ∧ (b : Int) ≤ 1000000000 by omega), Option.bind_some]
  exact Ev.bind (m.power ha (by omega)).1 (Ev.now _)
theorem tail0 {p : Nat} (m : Mod p) (l1 : List Int) (hb : Bytes8 l1) (hlen : l1.length < 4611686018427387904) {a : Nat} (ha : a < p) {n : Nat} (hn : n ≤ 1000000000) : Ev (fun k => laws_FnPowers.j0 k l1 (a : Int) (n : Int) (p : Int) ((a ^ n % p : Nat) : Int) true false) true := by
  have h1 := m.lo; have h2 := m.hi
  obtain ⟨r, hr, hr0, hr1⟩ := number l1 hb hlen
  obtain ⟨c, rfl⟩ : ∃ c : Nat, r = (c : Int) := ⟨r.toNat, by omega⟩
  have e1 : Int.tmod (c : Int) 1000 = ((c % 1000 : Nat) : Int) := tmod_nat c 1000
  have hc : c % 1000 < 1000 := Nat.mod_lt _ (by decide)
  obtain ⟨j, hj⟩ : ∃ j, j = c % 1000 := ⟨_, rfl⟩
  rw [← hj] at e1 hc
  have e2 : wrap64 ((n : Int) + (j : Int)) = ((n + j : Nat) : Int) := by rw [w64 (by omega) (by omega)]; omega
  have e3 : wrap64 ((p : Int) - 1) = ((p - 1 : Nat) : Int) := by rw [w64 (by omega) (by omega)]; omega
  refine Ev.step (fun k => by rw [laws_FnPowers.j0]) ?_
  simp only [Bool.false_eq_true, if_false, if_true]
  refine Ev.bind hr ?_
  simp only [e1, e2, e3]
  refine Ev.bind (m.powerImpl ha (show j ≤ 1000000000 by omega)) ?_
  have last : Ev (fun k => if (a : Int) = 0 then (if ((a ^ (p - 1) % p : Nat) : Int) = 0 then laws_FnPowers.j1 k l1 else some false) else (if ((a ^ (p - 1) % p : Nat) : Int) = 1 then laws_FnPowers.j1 k l1 else some false)) true := by
    by_cases h0 : a = 0
    · have z1 : (a : Int) = 0 := by omega
      have z2 : ((a ^ (p - 1) % p : Nat) : Int) = 0 := by rw [h0, Nat.zero_pow (by omega), Nat.zero_mod]; rfl
      simp only [z1, z2, if_true]; exact tail1 l1 hb
    · have z1 : ¬ (a : Int) = 0 := by omega
      obtain ⟨g, cc, _⟩ := m.gen
      have z2 : ((a ^ (p - 1) % p : Nat) : Int) = 1 := by rw [cc.fermat (by omega) ha]; rfl
      simp only [z1, z2, if_true, if_false]; exact tail1 l1 hb
  have hp : ¬ (p : Int) = 0 := by omega
  by_cases hs : n + j ≤ 1000000000
  · refine Ev.bind (m.powerImpl ha hs) (Ev.bind (m.powerImpl ha (show p - 1 ≤ 1000000000 by omega)) ?_)
    have hm : ((a ^ (n + j) % p : Nat) : Int) = Int.tmod (wrap64 (((a ^ n % p : Nat) : Int) * ((a ^ j % p : Nat) : Int))) (p : Int) := by
      rw [wrap_mul (a ^ n % p) (a ^ j % p) p (Nat.mod_lt _ (by omega)) (Nat.mod_lt _ (by omega)) (by omega), tmod_nat, Nat.pow_add, Nat.mul_mod]
    simp only [if_true, hp, if_false, hm]
    exact last
  · refine Ev.bind (powerOut m ha (b := ((n + j : Nat) : Int)) (by omega)) (Ev.bind (m.powerImpl ha (show p - 1 ≤ 1000000000 by omega)) ?_)
    simp only [if_true, Bool.false_eq_true, if_false]
    exact last
theorem FnPowers : laws_FnPowers.Pure := by
  intro l0 l1 h0 _ hw0 h1 _ hw1
  have b0 := bytes_of_wf hw0
  have b1 := bytes_of_wf hw1
  have hlen : l1.length < 4611686018427387904 := by simp [maxLen] at h1; omega
  suffices hs : Ev (fun k => laws_FnPowers.f k l0 l1) true by
    obtain ⟨k, hk⟩ := hs
    exact ⟨k, hk k (Nat.le_refl k)⟩
  unfold laws_FnPowers.f
  by_cases hz : wrap64 ((l0.length : Int) + (l1.length : Int)) > 1048576
  · simp only [hz, if_true]; exact Ev.now _
  simp only [hz, if_false]
  have hd : ∃ a n q, Ev (fun k => spec_DrawPowerMod.f k l0) (a, n, q) ∧ q ∈ drawn := by
    unfold spec_DrawPowerMod.f
    obtain ⟨q, a', s', h, h2, h3, h4⟩ := cur_prime l0 b0 0 0 (by omega) (by omega)
    obtain ⟨a, a2, s2, g, g2, g3⟩ := cur_below l0 b0 a' s' q (by omega) (by omega)
    obtain ⟨n, a3, s3, f, f2, f3, _⟩ := cur_among l0 b0 a2 s2 [(-1), 0, 1, 2, wrap64 (q - 1), q, 1000, 1000000000, 1000000001] (by simp) (by simp) (by omega) (by omega)
    simp only [h, Option.bind_some]
    refine ⟨a, n, q, Ev.bind g ?_, h4⟩
    simp only [f, Option.bind_some]
    exact Ev.now _
  obtain ⟨a, n, q, hd, hq⟩ := hd
  refine Ev.bind hd ?_
  have two : (∃ p c j : Nat, q = (p : Int) ∧ a = (c : Int) ∧ n = (j : Int) ∧ Mod p ∧ c < p ∧ j ≤ 1000000000) ∨ (Ev (fun k => impl_PowerMod.f k a n q) (0, false) ∧ Ev (fun k => spec_PowerMod.f k a n q) (0, false)) := by
    rcases drawn_mod q hq with ⟨p, rfl, m⟩ | ⟨n1, n2⟩
    · have h1 := m.lo; have h2 := m.hi
      by_cases hin : 0 ≤ a ∧ a < p
      · obtain ⟨c, rfl⟩ : ∃ c : Nat, a = (c : Int) := ⟨a.toNat, by omega⟩
        have hc : c < p := by omega
        by_cases hn : 0 ≤ n ∧ n ≤ 1000000000
        · exact .inl ⟨p, c, n.toNat, rfl, rfl, by omega, m, hc, by omega⟩
        · refine .inr ⟨powerOut m hc hn, ?_⟩
          unfold spec_PowerMod.f
          refine Ev.bind (m.of_in hc) ?_
          simp only [if_true, in_of, decide_eq_false hn, Option.bind_some, Bool.false_eq_true, if_false]; exact Ev.now _
      · refine .inr ⟨?_, ?_⟩
        · unfold impl_PowerMod.f
          refine Ev.bind m.isM ?_
          simp only [if_true, within_out m (a := a) (lo := 0) hin, Option.bind_some, Bool.false_eq_true, if_false]; exact Ev.now _
        · unfold spec_PowerMod.f
          refine Ev.bind (m.of_out hin) ?_
          simp only [Bool.false_eq_true, if_false]; exact Ev.now _
    · refine .inr ⟨?_, ?_⟩
      · unfold impl_PowerMod.f
        refine Ev.bind n1 ?_
        simp only [Bool.false_eq_true, if_false]; exact Ev.now _
      · unfold spec_PowerMod.f
        refine Ev.bind (n2 a) ?_
        simp only [Bool.false_eq_true, if_false]; exact Ev.now _
  rcases two with ⟨p, c, j, rfl, rfl, rfl, m, hc, hj⟩ | ⟨g1, g2⟩
  · refine Ev.bind (m.powerImpl hc hj) (Ev.bind (powerSpec m hc hj) ?_)
    simp only [bne_self_eq_false, Bool.false_eq_true, if_false]
    exact tail0 m l1 b1 hlen hc hj
  · refine Ev.bind g1 (Ev.bind g2 ?_)
    simp only [bne_self_eq_false, Bool.false_eq_true, if_false]
    refine Ev.step (fun k => by rw [laws_FnPowers.j0]) ?_
    simp only [Bool.false_eq_true, if_false]
    exact tail1 l1 b1

end Go.Proofs.Ytdlljfejfgfmgaa.Pure
