/-
The pure statement of FnPoints is proved: for drawn curves, the number of points differs from the prime plus 1 by at most twice the root of the prime (looked through for the drawn primes), the order of a point divides it, so many times a point is the zero point, and points are told by their short forms; the program and the reference agree on all of it.
Conditions: the two arguments are lists of bytes that Go can hold. None besides.
-/
import Derived.Test.YtdlljfejfgfmgaaPFnPointsx13
set_option linter.unusedVariables false
set_option linter.unusedSimpArgs false
namespace Go.Proofs.Ytdlljfejfgfmgaa.Pure
open Go.RowKit Go.Proofs.Ytdlljfejfgfmgaa.PFnPoints Go.Proofs.YtdlljfejfgfmgaaW.PrintWords Go.Proofs.YtdlljfejfgfmgaaW.PrintLast Go.Proofs.YtdlljfejfgfmgaaW.PrintMore

/-! Numbers modulo a prime with a generator. -/
/-- g's powers, one behind the other: each new, at last all of 1 to p - 1, and then 1. -/
def scan (p g : Nat) : Nat → Nat → Nat → Bool
  | 0, cur, mask => cur == 1 && mask == 2 ^ p - 2
  | n + 1, cur, mask =>
    match mask.testBit cur with
    | true => false
    | false =>
      match cur * g % p, mask ||| (1 <<< cur) with
      | 0, _ => false
      | _, 0 => false
      | c + 1, m + 1 => scan p g n (c + 1) (m + 1)
structure Cert (p g : Nat) : Prop where
  two : 2 ≤ p
  distinct : ∀ i, i < p - 1 → ∀ j, j < i → g ^ j % p ≠ g ^ i % p
  back : g ^ (p - 1) % p = 1
  all : ∀ a, 0 < a → a < p → ∃ i, i < p - 1 ∧ g ^ i % p = a
theorem bits_all (p a : Nat) (h0 : 0 < a) (h1 : a < p) : (2 ^ p - 2).testBit a = true := by
  obtain ⟨b, rfl⟩ : ∃ b, a = b + 1 := ⟨a - 1, by omega⟩
  obtain ⟨q, rfl⟩ : ∃ q, p = q + 1 := ⟨p - 1, by omega⟩
  have hq : 0 < 2 ^ q := Nat.two_pow_pos q
  rw [Nat.testBit_succ, show (2 ^ (q + 1) - 2) / 2 = 2 ^ q - 1 by rw [Nat.pow_succ]; omega, Nat.testBit_two_pow_sub_one]
  simp; omega
theorem scan_spec (p g : Nat) (hp : 2 ≤ p) (n : Nat) : ∀ (t cur mask : Nat), n + t = p - 1 → cur = g ^ t % p → (∀ a, mask.testBit a = true ↔ ∃ i, i < t ∧ g ^ i % p = a) → scan p g n cur mask = true →
    (∀ i, t ≤ i → i < p - 1 → ∀ j, j < i → g ^ j % p ≠ g ^ i % p) ∧ g ^ (p - 1) % p = 1 ∧ ∀ a, 0 < a → a < p → ∃ i, i < p - 1 ∧ g ^ i % p = a := by
  induction n with
  | zero =>
    intro t cur mask hn hc hm hs
    simp only [scan, Bool.and_eq_true, beq_iff_eq] at hs
    obtain rfl : t = p - 1 := by omega
    refine ⟨fun i h1 h2 => by omega, by rw [← hc]; exact hs.1, fun a h0 h1 => ?_⟩
    exact (hm a).1 (by rw [hs.2]; exact bits_all p a h0 h1)
  | succ n ih =>
    intro t cur mask hn hc hm hs
    unfold scan at hs
    cases hb : mask.testBit cur with
    | true => rw [hb] at hs; simp at hs
    | false =>
      rw [hb] at hs
      have hnew : ∀ a, (mask ||| (1 <<< cur)).testBit a = true ↔ ∃ i, i < t + 1 ∧ g ^ i % p = a := by
        intro a
        rw [Nat.testBit_or, Nat.one_shiftLeft, Nat.testBit_two_pow]
        simp only [Bool.or_eq_true, decide_eq_true_eq, hm a]
        constructor
        · rintro (⟨i, h1, h2⟩ | h)
          · exact ⟨i, by omega, h2⟩
          · exact ⟨t, by omega, by rw [← hc]; exact h⟩
        · rintro ⟨i, h1, h2⟩
          by_cases e : i = t
          · subst e; exact .inr (by rw [hc]; exact h2)
          · exact .inl ⟨i, by omega, h2⟩
      have hcur : cur * g % p = g ^ (t + 1) % p := by rw [hc, Nat.pow_succ, Nat.mod_mul_mod]
      have hs' : scan p g n (cur * g % p) (mask ||| (1 <<< cur)) = true := by
        generalize cur * g % p = x at hs ⊢
        generalize mask ||| (1 <<< cur) = y at hs ⊢
        cases x with
        | zero => simp at hs
        | succ x => cases y with
          | zero => simp at hs
          | succ y => simpa using hs
      obtain ⟨h1, h2, h3⟩ := ih (t + 1) _ _ (by omega) hcur hnew hs'
      refine ⟨fun i hi hi2 j hj => ?_, h2, h3⟩
      by_cases e : i = t
      · subst e
        intro he
        have : mask.testBit cur = true := (hm cur).2 ⟨j, hj, by rw [hc]; exact he⟩
        rw [hb] at this; cases this
      · exact h1 i (by omega) hi2 j hj
theorem cert_of {p g : Nat} (hp : 2 ≤ p) (h : scan p g (p - 1) 1 0 = true) : Cert p g := by
  obtain ⟨h1, h2, h3⟩ := scan_spec p g hp (p - 1) 0 1 0 (by omega) (by rw [Nat.pow_zero, Nat.mod_eq_of_lt hp]) (by simp) h
  exact ⟨hp, fun i hi j hj => h1 i (by omega) hi j hj, h2, h3⟩
theorem cert3 : Cert 3 2 := cert_of (by decide) (by decide +kernel)
theorem cert5 : Cert 5 2 := cert_of (by decide) (by decide +kernel)
theorem cert7 : Cert 7 3 := cert_of (by decide) (by decide +kernel)
theorem cert13 : Cert 13 2 := cert_of (by decide) (by decide +kernel)
theorem cert17 : Cert 17 3 := cert_of (by decide) (by decide +kernel)
theorem cert101 : Cert 101 2 := cert_of (by decide) (by decide +kernel)
theorem cert1009 : Cert 1009 11 := cert_of (by decide) (by decide +kernel)
theorem cert1013 : Cert 1013 3 := cert_of (by decide) (by decide +kernel)
theorem cert7919 : Cert 7919 7 := cert_of (by decide) (by decide +kernel)
theorem cert10007 : Cert 10007 5 := cert_of (by decide) (by decide +kernel)

section
variable {p g : Nat}
theorem pow_mul_mod (a n m : Nat) : a ^ (n * m) % p = (a ^ n % p) ^ m % p := by rw [Nat.pow_mul, ← Nat.pow_mod]
theorem pow_mod_base (a n : Nat) : (a % p) ^ n % p = a ^ n % p := (Nat.pow_mod a n p).symm
theorem Cert.one_mod (c : Cert p g) : 1 % p = 1 := Nat.mod_eq_of_lt c.two
theorem Cert.period (c : Cert p g) (i k : Nat) : g ^ (i + (p - 1) * k) % p = g ^ i % p := by
  rw [Nat.pow_add, Nat.mul_mod, pow_mul_mod, c.back, Nat.one_pow, c.one_mod, Nat.mul_one, Nat.mod_mod]
theorem Cert.ne_zero (c : Cert p g) (n : Nat) : g ^ n % p ≠ 0 := by
  intro h
  have hp := c.two
  have e : g ^ (n + ((p - 1) * (n + 1) - n)) % p = 0 := by rw [Nat.pow_add, Nat.mul_mod, h, Nat.zero_mul, Nat.zero_mod]
  have hle : n ≤ (p - 1) * (n + 1) := Nat.le_trans (Nat.le_succ n) (Nat.le_mul_of_pos_left _ (by omega))
  rw [show n + ((p - 1) * (n + 1) - n) = 0 + (p - 1) * (n + 1) by omega, c.period, Nat.pow_zero, c.one_mod] at e
  exact absurd e (by decide)
theorem Cert.mod_exp (c : Cert p g) (k : Nat) : g ^ (k % (p - 1)) % p = g ^ k % p := by
  have := c.period (k % (p - 1)) (k / (p - 1))
  rw [Nat.mod_add_div] at this
  exact this.symm
theorem Cert.eq_exp (c : Cert p g) {i j : Nat} (h : g ^ i % p = g ^ j % p) : i % (p - 1) = j % (p - 1) := by
  have hp := c.two
  have hi := Nat.mod_lt i (show 0 < p - 1 by omega)
  have hj := Nat.mod_lt j (show 0 < p - 1 by omega)
  rw [← c.mod_exp i, ← c.mod_exp j] at h
  rcases Nat.lt_trichotomy (i % (p - 1)) (j % (p - 1)) with h1 | h1 | h1
  · exact absurd h (c.distinct _ hj _ h1)
  · exact h1
  · exact absurd h.symm (c.distinct _ hi _ h1)
theorem Cert.one_iff (c : Cert p g) (k : Nat) : g ^ k % p = 1 ↔ (p - 1) ∣ k := by
  constructor
  · intro h
    have := c.eq_exp (i := k) (j := 0) (by rw [h, Nat.pow_zero, c.one_mod])
    rw [Nat.zero_mod] at this
    exact Nat.dvd_of_mod_eq_zero this
  · rintro ⟨m, rfl⟩
    have := c.period 0 m
    rw [Nat.zero_add, Nat.pow_zero, c.one_mod] at this
    exact this
/-- Fermat. -/
theorem Cert.fermat (c : Cert p g) {a : Nat} (h0 : 0 < a) (h1 : a < p) : a ^ (p - 1) % p = 1 := by
  obtain ⟨i, _, rfl⟩ := c.all a h0 h1
  rw [pow_mod_base, ← Nat.pow_mul, Nat.mul_comm]
  exact (c.one_iff _).2 ⟨i, rfl⟩
theorem Cert.minus (c : Cert p g) (hp3 : 3 ≤ p) {h : Nat} (hh : p - 1 = 2 * h) : g ^ h % p = p - 1 := by
  obtain ⟨j, hj, e⟩ := c.all (p - 1) (by omega) (by omega)
  have hsq : (p - 1) * (p - 1) % p = 1 := by
    obtain ⟨q, rfl⟩ : ∃ q, p = q + 2 := ⟨p - 2, by omega⟩
    rw [show (q + 2 - 1) * (q + 2 - 1) = 1 + (q + 2) * q by
      rw [show q + 2 - 1 = q + 1 by omega, Nat.add_mul, Nat.mul_add, Nat.add_mul]; omega]
    rw [Nat.add_mul_mod_self_left]; exact Nat.mod_eq_of_lt (by omega)
  have h2 : g ^ (j + j) % p = 1 := by rw [Nat.pow_add, Nat.mul_mod, e]; exact hsq
  obtain ⟨m, hm⟩ := (c.one_iff _).1 h2
  have : m = 0 ∨ m = 1 ∨ 2 ≤ m := by omega
  rcases this with rfl | rfl | hm2
  · have : j = 0 := by omega
    subst this
    rw [Nat.pow_zero, c.one_mod] at e; omega
  · have : j = h := by omega
    rw [← this]; exact e
  · have : (p - 1) * 2 ≤ (p - 1) * m := Nat.mul_le_mul_left _ hm2
    omega
/-- Euler. -/
theorem Cert.half (c : Cert p g) (hp3 : 3 ≤ p) {h : Nat} (hh : p - 1 = 2 * h) (i : Nat) : (g ^ i % p) ^ h % p = if i % 2 = 0 then 1 else p - 1 := by
  rw [pow_mod_base, ← Nat.pow_mul]
  split
  · rename_i hi
    refine (c.one_iff _).2 ⟨i / 2, ?_⟩
    have : i = 2 * (i / 2) := by omega
    rw [hh]
    calc i * h = 2 * (i / 2) * h := by rw [← this]
      _ = 2 * h * (i / 2) := by rw [Nat.mul_assoc, Nat.mul_comm (i / 2) h, ← Nat.mul_assoc]
  · have e : i * h = h + (p - 1) * (i / 2) := by
      have : i = 2 * (i / 2) + 1 := by omega
      rw [hh]
      calc i * h = (2 * (i / 2) + 1) * h := by rw [← this]
        _ = h + 2 * h * (i / 2) := by rw [Nat.add_mul, Nat.one_mul, Nat.add_comm, Nat.mul_assoc, Nat.mul_comm (i / 2) h, ← Nat.mul_assoc]
    rw [e, c.period]; exact c.minus hp3 hh
theorem Cert.half_values (c : Cert p g) (hp3 : 3 ≤ p) {h : Nat} (hh : p - 1 = 2 * h) {a : Nat} (h0 : 0 < a) (h1 : a < p) : a ^ h % p = 1 ∨ a ^ h % p = p - 1 := by
  obtain ⟨i, _, rfl⟩ := c.all a h0 h1
  rw [c.half hp3 hh]
  split
  · exact .inl rfl
  · exact .inr rfl
theorem Cert.root_of (c : Cert p g) (hp3 : 3 ≤ p) {h : Nat} (hh : p - 1 = 2 * h) {a : Nat} (h0 : 0 < a) (h1 : a < p) (e : a ^ h % p = 1) : ∃ x, x < p ∧ x * x % p = a := by
  obtain ⟨i, _, rfl⟩ := c.all a h0 h1
  rw [c.half hp3 hh] at e
  by_cases hi : i % 2 = 0
  · refine ⟨g ^ (i / 2) % p, Nat.mod_lt _ (by omega), ?_⟩
    rw [← Nat.mul_mod, ← Nat.pow_add, show i / 2 + i / 2 = i by omega]
  · rw [if_neg hi] at e; omega
theorem Cert.of_root (c : Cert p g) {h : Nat} (hh : p - 1 = 2 * h) {a x : Nat} (h0 : 0 < a) (hx : x < p) (e : x * x % p = a) : a ^ h % p = 1 := by
  have hx0 : 0 < x := by
    rcases Nat.eq_zero_or_pos x with rfl | h
    · simp at e; omega
    · exact h
  rw [← e, pow_mod_base, Nat.mul_pow, ← Nat.pow_add, show h + h = p - 1 by omega]
  exact c.fermat hx0 hx
theorem half_mul (a b h : Nat) : (a * b % p) ^ h % p = (a ^ h % p) * (b ^ h % p) % p := by
  rw [pow_mod_base, Nat.mul_pow, Nat.mul_mod]
/-- The order of a number: the least exponent with 1. -/
theorem Cert.order (c : Cert p g) {a : Nat} (h0 : 0 < a) (h1 : a < p) : ∃ o, 0 < o ∧ o ≤ p - 1 ∧ a ^ o % p = 1 ∧ (∀ k, 0 < k → k < o → a ^ k % p ≠ 1) ∧ (p - 1) % o = 0 := by
  have hf := c.fermat h0 h1
  have hp := c.two
  have hex : ∀ n, 0 < n → a ^ n % p = 1 → ∃ o, 0 < o ∧ o ≤ n ∧ a ^ o % p = 1 ∧ ∀ k, 0 < k → k < o → a ^ k % p ≠ 1 := by
    intro n
    induction n using Nat.strongRecOn with
    | _ n ih =>
      intro hn he
      by_cases hk : ∃ k, 0 < k ∧ k < n ∧ a ^ k % p = 1
      · obtain ⟨k, h2, h3, h4⟩ := hk
        obtain ⟨o, h5, h6, h7⟩ := ih k h3 h2 h4
        exact ⟨o, h5, by omega, h7⟩
      · exact ⟨n, hn, Nat.le_refl _, he, fun k h2 h3 h4 => hk ⟨k, h2, h3, h4⟩⟩
  obtain ⟨o, ho, hle, he, hmin⟩ := hex (p - 1) (by omega) hf
  refine ⟨o, ho, hle, he, hmin, ?_⟩
  rcases Nat.eq_zero_or_pos ((p - 1) % o) with h | h
  · exact h
  · exfalso
    refine hmin _ h (Nat.mod_lt _ ho) ?_
    have e := hf
    rw [← Nat.mod_add_div (p - 1) o, Nat.pow_add, Nat.mul_mod, pow_mul_mod, he, Nat.one_pow, c.one_mod, Nat.mul_one, Nat.mod_mod] at e
    exact e
end

theorem w64 {n : Int} (h0 : -9223372036854775808 ≤ n) (h1 : n ≤ 9223372036854775807) : wrap64 n = n := by unfold wrap64; omega
theorem rd_set (l : List Int) (i j v : Int) (h0 : 0 ≤ i) (h1 : i < l.length) (hj : 0 ≤ j) : rd (l.set i.toNat v) j = if j = i then v else rd l j := by
  unfold rd
  rw [List.getD_eq_getElem?_getD, List.getD_eq_getElem?_getD, List.getElem?_set]
  by_cases e : j = i
  · subst e; rw [if_pos rfl, if_pos (by omega), if_pos rfl]; rfl
  · rw [if_neg (by omega), if_neg e]
theorem rdOf_set {α : Type} (d : α) (l : List α) (i j : Int) (v : α) (h0 : 0 ≤ i) (h1 : i < l.length) (hj : 0 ≤ j) : rdOf d (l.set i.toNat v) j = if j = i then v else rdOf d l j := by
  unfold rdOf
  rw [List.getD_eq_getElem?_getD, List.getD_eq_getElem?_getD, List.getElem?_set]
  by_cases e : j = i
  · subst e; rw [if_pos rfl, if_pos (by omega), if_pos rfl]; rfl
  · rw [if_neg (by omega), if_neg e]

theorem powerMod_l0 : ∀ (k : Nat) (a b c d : Int), impl_powerMod.l0 k a b c d = spec_l4Power.l0 k a b c d
  | 0, _, _, _, _ => rfl
  | k + 1, a, b, c, d => by simp only [impl_powerMod.l0, spec_l4Power.l0, powerMod_l0 k]
theorem powerMod_f (k : Nat) (a b c : Int) : impl_powerMod.f k a b c = spec_l4Power.f k a b c := by unfold impl_powerMod.f spec_l4Power.f; rw [powerMod_l0]
theorem tmod_nat (a b : Nat) : Int.tmod (a : Int) (b : Int) = ((a % b : Nat) : Int) := by
  rw [Int.tmod_eq_emod_of_nonneg (Int.natCast_nonneg a)]; exact (Int.natCast_emod a b).symm
theorem wrap_mul (x y p : Nat) (hx : x < p) (hy : y < p) (hp : p ≤ 100000) : wrap64 ((x : Int) * (y : Int)) = ((x * y : Nat) : Int) := by
  have h1 : x * y ≤ 100000 * 100000 := Nat.mul_le_mul (by omega) (by omega)
  rw [← Int.natCast_mul]
  exact w64 (by omega) (by omega)
theorem power_val (p : Nat) (hp0 : 0 < p) (hp : p ≤ 100000) : ∀ (n k a b d : Nat), a < p → d < p → b < 2 ^ n → b < 4611686018427387904 → n < k → spec_l4Power.l0 k (a : Int) (b : Int) (p : Int) (d : Int) = some (((d * a ^ b % p : Nat)) : Int) := by
  intro n
  induction n with
  | zero =>
    intro k a b d ha hd h1 _ hk
    obtain ⟨k, rfl⟩ : ∃ m, k = m + 1 := ⟨k - 1, by omega⟩
    obtain rfl : b = 0 := by simpa using h1
    simp only [spec_l4Power.l0]
    rw [if_neg (by simp), Nat.pow_zero, Nat.mul_one, Nat.mod_eq_of_lt hd]
  | succ n ih =>
    intro k a b d ha hd h1 hb hk
    obtain ⟨k, rfl⟩ : ∃ m, k = m + 1 := ⟨k - 1, by omega⟩
    have hc : ¬ (p : Int) = 0 := by omega
    have haa : a * a % p < p := Nat.mod_lt _ hp0
    have e1 : Int.tmod (wrap64 ((a : Int) * (a : Int))) (p : Int) = ((a * a % p : Nat) : Int) := by rw [wrap_mul a a p ha ha hp, tmod_nat]
    have e2 : Int.tmod (wrap64 ((d : Int) * (a : Int))) (p : Int) = ((d * a % p : Nat) : Int) := by rw [wrap_mul d a p hd ha hp, tmod_nat]
    have e3 : wrap64 (Int.tdiv (b : Int) 2) = ((b / 2 : Nat) : Int) := by
      rw [Int.tdiv_eq_ediv_of_nonneg (by omega), w64 (by omega) (by omega)]; omega
    have e4 : Int.tmod (b : Int) 2 = ((b % 2 : Nat) : Int) := tmod_nat b 2
    have h2 : b / 2 < 2 ^ n := by rw [Nat.pow_succ] at h1; omega
    have hpow : ∀ x : Nat, x * (a * a % p) ^ (b / 2) % p = x * a ^ (2 * (b / 2)) % p := fun x => by
      rw [Nat.mul_mod, ← Nat.pow_mod, Nat.pow_mul, Nat.pow_two, ← Nat.mul_mod]
    simp only [spec_l4Power.l0, e1, e2, e3, e4, if_neg hc]
    by_cases hz : b = 0
    · subst hz
      rw [if_neg (by simp), Nat.pow_zero, Nat.mul_one, Nat.mod_eq_of_lt hd]
    · rw [if_pos (by omega)]
      by_cases ho : b % 2 = 1
      · rw [if_pos (by omega), ih k (a * a % p) (b / 2) (d * a % p) haa (Nat.mod_lt _ hp0) h2 (by omega) (by omega)]
        congr 2
        rw [hpow, Nat.mod_mul_mod, Nat.mul_assoc, show a * a ^ (2 * (b / 2)) = a ^ b by
          rw [Nat.mul_comm, ← Nat.pow_succ]; congr 1; omega]
      · rw [if_neg (by omega), ih k (a * a % p) (b / 2) d haa hd h2 (by omega) (by omega)]
        congr 2
        rw [hpow, show 2 * (b / 2) = b by omega]
/-- The power of a number modulo p, as both compute it. -/
theorem power_ev (p a b : Nat) (hp : 2 ≤ p) (hp2 : p ≤ 100000) (ha : a < p) (hb : b < 4611686018427387904) : Ev (fun k => spec_l4Power.f k (a : Int) (b : Int) (p : Int)) ((a ^ b % p : Nat) : Int) ∧ Ev (fun k => impl_powerMod.f k (a : Int) (b : Int) (p : Int)) ((a ^ b % p : Nat) : Int) := by
  have h : ∀ k, 62 < k → spec_l4Power.f k (a : Int) (b : Int) (p : Int) = some ((a ^ b % p : Nat) : Int) := fun k hk => by
    have := power_val p (by omega) hp2 62 k a b 1 ha (by omega) (by omega) hb hk
    rw [Nat.one_mul] at this
    exact this
  exact ⟨⟨63, fun k hk => h k (by omega)⟩, ⟨63, fun k hk => (powerMod_f k _ _ _).trans (h k (by omega))⟩⟩

/-! The reader of choices: it never fails, and tells numbers in their ranges. -/
def Bytes8 (l : List Int) : Prop := ∀ x ∈ l, 0 ≤ x ∧ x ≤ 255
theorem bytes_of_wf {l : List Int} (h : ∀ x ∈ l, (Lit.int .u8 x).wf = true) : Bytes8 l := fun x hx => by
  have := h x hx
  simpa [Lit.wf, IntKind.min, IntKind.max, IntKind.signed, IntKind.bits] using this
theorem bytes_rd {l : List Int} (h : Bytes8 l) (i : Int) (h0 : 0 ≤ i) (h1 : i < l.length) : 0 ≤ rd l i ∧ rd l i ≤ 255 := by
  have hi : i.toNat < l.length := by omega
  have : rd l i = l[i.toNat] := by simp [rd, List.getD_eq_getElem?_getD, hi]
  rw [this]; exact h _ (List.getElem_mem hi)
theorem and255 (x : Int) (h0 : 0 ≤ x) (h1 : x < 18446744073709551616) : Go.bits .and .u64 x 255 = x % 256 := by
  have h := bits_mask .u64 64 (by decide) (fun n h₀ h₁ => by simp [IntKind.wrap, IntKind.bits, IntKind.signed]; omega) 8 (by decide) x h0 (by omega)
  simpa using h
theorem u64_range (x : Int) : 0 ≤ IntKind.u64.wrap x ∧ IntKind.u64.wrap x < 18446744073709551616 := by simp [IntKind.wrap, IntKind.bits, IntKind.signed]; omega
theorem cur_next (l : List Int) (hl : Bytes8 l) (at_ s : Int) (h0 : 0 ≤ at_) (h1 : at_ < 4611686018427387904) : ∃ r s', spec_l1Cur_next.f l at_ s = some (r, at_ + 1, s') ∧ 0 ≤ r ∧ r ≤ 255 := by
  have hw : wrap64 (at_ + 1) = at_ + 1 := w64 (by omega) (by omega)
  have hseed : ∀ x : Int, 0 ≤ wrap64 (Go.bits .and .u64 (IntKind.u64.wrap x / 1099511627776) 255) ∧ wrap64 (Go.bits .and .u64 (IntKind.u64.wrap x / 1099511627776) 255) ≤ 255 := fun x => by
    have hx := u64_range x
    rw [and255 _ (by omega) (by omega), w64 (by omega) (by omega)]; omega
  unfold spec_l1Cur_next.f
  rw [hw]
  by_cases hlt : at_ < (l.length : Int)
  · have hb := bytes_rd hl at_ h0 hlt
    rw [if_pos hlt, if_pos h0]
    split
    · exact ⟨_, _, rfl, by rw [w64 (by omega) (by omega)]; exact hb.1, by rw [w64 (by omega) (by omega)]; exact hb.2⟩
    · exact ⟨_, _, rfl, (hseed _).1, (hseed _).2⟩
  · rw [if_neg hlt]
    split
    · exact ⟨_, _, rfl, by omega, by omega⟩
    · exact ⟨_, _, rfl, (hseed _).1, (hseed _).2⟩
theorem cur_pick (l : List Int) (hl : Bytes8 l) (at_ s n : Int) (h0 : 0 ≤ at_) (h1 : at_ < 2305843009213693952) (hn : n < 4611686018427387904) : ∃ r a' s', spec_l1Cur_pick.f l at_ s n = some (r, a', s') ∧ at_ ≤ a' ∧ a' ≤ at_ + 2 ∧ 0 ≤ r ∧ (1 ≤ n → r < n) := by
  unfold spec_l1Cur_pick.f
  by_cases hs : n ≤ 1
  · rw [if_pos hs]; exact ⟨0, at_, s, rfl, by omega, by omega, by omega, by omega⟩
  rw [if_neg hs]
  obtain ⟨r, s', h, hr0, hr1⟩ := cur_next l hl at_ s h0 (by omega)
  rw [h]
  simp only [Option.bind_some]
  by_cases hb : n > 200
  · obtain ⟨r2, s2, h2, h3, h4⟩ := cur_next l hl (at_ + 1) s' (by omega) (by omega)
    rw [if_pos hb, h2]
    simp only [Option.bind_some]
    rw [if_neg (by omega), w64 (n := r * 256) (by omega) (by omega), w64 (by omega) (by omega), Int.tmod_eq_emod_of_nonneg (by omega)]
    exact ⟨_, _, _, rfl, by omega, by omega, Int.emod_nonneg _ (by omega), fun _ => Int.emod_lt_of_pos _ (by omega)⟩
  · rw [if_neg hb, if_neg (by omega), Int.tmod_eq_emod_of_nonneg (by omega)]
    exact ⟨_, _, _, rfl, by omega, by omega, Int.emod_nonneg _ (by omega), fun _ => Int.emod_lt_of_pos _ (by omega)⟩
theorem cur_one (l : List Int) (hl : Bytes8 l) (at_ s n : Int) (h0 : 0 ≤ at_) (h1 : at_ < 2305843009213693952) (hn : n < 4611686018427387904) : ∃ b a' s', spec_l1Cur_one.f l at_ s n = some (b, a', s') ∧ at_ ≤ a' ∧ a' ≤ at_ + 2 := by
  obtain ⟨r, a', s', h, h2, h3, _⟩ := cur_pick l hl at_ s n h0 h1 hn
  unfold spec_l1Cur_one.f
  rw [h]
  exact ⟨_, _, _, rfl, h2, h3⟩

theorem cur_among (l : List Int) (hl : Bytes8 l) (at_ s : Int) (m : List Int) (hm : 1 ≤ m.length) (hm2 : m.length < 4000000000) (h0 : 0 ≤ at_) (h1 : at_ < 2305843009213693952) : ∃ r a' s', spec_l1Cur_among.f l at_ s m = some (r, a', s') ∧ at_ ≤ a' ∧ a' ≤ at_ + 2 ∧ r ∈ m := by
  obtain ⟨r, a', s', h, h2, h3, h4, h5⟩ := cur_pick l hl at_ s m.length h0 h1 (by omega)
  have h5 := h5 (by omega)
  unfold spec_l1Cur_among.f
  rw [h]
  simp only [Option.bind_some]
  rw [if_pos h4, if_pos h5]
  refine ⟨_, _, _, rfl, h2, h3, ?_⟩
  have hi : r.toNat < m.length := by omega
  have : rd m r = m[r.toNat] := by simp [rd, List.getD_eq_getElem?_getD, hi]
  rw [this]; exact List.getElem_mem hi

theorem within_of (a lo hi : Int) : impl_within.f a lo hi = some (decide (lo ≤ a ∧ a ≤ hi)) := by
  unfold impl_within.f
  by_cases h : a ≥ lo
  · rw [if_pos h]; congr 1; exact decide_eq_decide.mpr ⟨fun h2 => ⟨h, h2⟩, fun h2 => h2.2⟩
  · rw [if_neg h]; congr 1; exact (decide_eq_false (fun h2 => h h2.1)).symm
theorem in_of (a lo hi : Int) : spec_l1In.f a lo hi = some (decide (lo ≤ a ∧ a ≤ hi)) := by
  unfold spec_l1In.f
  by_cases h : a ≥ lo
  · rw [if_pos h]; congr 1; exact decide_eq_decide.mpr ⟨fun h2 => ⟨h, h2⟩, fun h2 => h2.2⟩
  · rw [if_neg h]; congr 1; exact (decide_eq_false (fun h2 => h h2.1)).symm

section
variable {R : Type} [Lean.Grind.CommRing R]
/-- What is needed of a field: inverses, and a constant without a root. -/
structure Fld (R : Type) [Lean.Grind.CommRing R] where
  inv : R → R
  mi : ∀ a : R, a ≠ 0 → a * inv a = 1
  one_ne : (1 : R) ≠ 0
  two_ne : (2 : R) ≠ 0
theorem Fld.zero (F : Fld R) {a b : R} (h : a * b = 0) : a = 0 ∨ b = 0 := by
  by_cases ha : a = 0
  · exact .inl ha
  · right
    have := F.mi a ha
    grind
theorem Fld.sq (F : Fld R) {d u v : R} (hd : ∀ z : R, z * z ≠ d) (h : u * u = d * (v * v)) : v = 0 := by
  by_cases hv : v = 0
  · exact hv
  · exfalso
    have := F.mi v hv
    exact hd (u * F.inv v) (by grind)
structure On (d x y : R) : Prop where
  eq : x * x + y * y = 1 + d * (x * x) * (y * y)
/-- The denominators are not zero. -/
theorem Fld.complete (F : Fld R) {d : R} (hd : ∀ z : R, z * z ≠ d) {x1 y1 x2 y2 e : R} (h1 : On d x1 y1) (h2 : On d x2 y2) (he : e * e = 1) : d * x1 * x2 * y1 * y2 ≠ e := by
  intro h
  have h1 := h1.eq
  have h2 := h2.eq
  have a1 : (x1 + e * y1) * (x1 + e * y1) = d * ((x1 * y1 * (x2 + y2)) * (x1 * y1 * (x2 + y2))) := by grind
  have a2 : (x1 - e * y1) * (x1 - e * y1) = d * ((x1 * y1 * (x2 - y2)) * (x1 * y1 * (x2 - y2))) := by grind
  have b1 := F.sq hd a1
  have b2 := F.sq hd a2
  have b3 : x1 * y1 * (2 * x2) = 0 := by grind
  have b4 : (2 : R) * e = 0 := by grind
  have b5 : (2 : R) = 0 := by grind
  exact F.two_ne b5
theorem Fld.den (F : Fld R) {d : R} (hd : ∀ z : R, z * z ≠ d) {x1 y1 x2 y2 : R} (h1 : On d x1 y1) (h2 : On d x2 y2) : 1 + d * x1 * x2 * y1 * y2 ≠ 0 ∧ 1 - d * x1 * x2 * y1 * y2 ≠ 0 := by
  have c1 := F.complete hd h1 h2 (e := 1) (by grind)
  have c2 := F.complete hd h1 h2 (e := -1) (by grind)
  constructor
  · intro h; exact c2 (by grind)
  · intro h; exact c1 (by grind)
theorem sq_eq {a b c : R} (h : a * b = c) : b * b * (a * a) = c * c := by grind
theorem Fld.cancel (F : Fld R) {a b : R} (ha : a ≠ 0) (h : a * b = 0) : b = 0 := (F.zero h).resolve_left ha
theorem on_id1 (m d u v A B : R) (h1 : (1 + m) * (1 + m) * (u * u) = A) (h2 : (1 - m) * (1 - m) * (v * v) = B) : (1 + m) * ((1 + m) * ((1 - m) * ((1 - m) * (u * u + v * v - (1 + d * (u * u) * (v * v)))))) = (1 - m) * (1 - m) * A + (1 + m) * (1 + m) * B - ((1 + m) * (1 + m) * ((1 - m) * (1 - m)) + d * A * B) := by
  rw [← h1, ← h2]; grind
theorem on_id2 (d x1 y1 x2 y2 m A B : R) (e1 : x1 * x1 + y1 * y1 = 1 + d * (x1 * x1) * (y1 * y1)) (e2 : x2 * x2 + y2 * y2 = 1 + d * (x2 * x2) * (y2 * y2)) (hm : m = d * x1 * x2 * y1 * y2) (hA : A = (x1 * y2 + y1 * x2) * (x1 * y2 + y1 * x2)) (hB : B = (y1 * y2 - x1 * x2) * (y1 * y2 - x1 * x2)) :
    (1 - m) * (1 - m) * A + (1 + m) * (1 + m) * B - ((1 + m) * (1 + m) * ((1 - m) * (1 - m)) + d * A * B) = 0 := by
  subst hm hA hB; grind
/-- A sum is on the curve. -/
theorem Fld.on (F : Fld R) {d : R} (hd : ∀ z : R, z * z ≠ d) {x1 y1 x2 y2 u v : R} (h1 : On d x1 y1) (h2 : On d x2 y2) (hu : u * (1 + d * x1 * x2 * y1 * y2) = x1 * y2 + y1 * x2) (hv : v * (1 - d * x1 * x2 * y1 * y2) = y1 * y2 - x1 * x2) : On d u v := by
  obtain ⟨n1, n2⟩ := F.den hd h1 h2
  have k := (on_id1 _ d u v _ _ (sq_eq hu) (sq_eq hv)).trans (on_id2 d x1 y1 x2 y2 _ _ _ h1.eq h2.eq rfl rfl rfl)
  have k := F.cancel n2 (F.cancel n2 (F.cancel n1 (F.cancel n1 k)))
  exact ⟨by clear n1 n2 h1 h2 hu hv hd; grind⟩
set_option maxHeartbeats 4000000 in
theorem assocG (d x1 y1 x2 y2 x3 y3 : R) : (((x1*y2+x2*y1)*y3*(1-d*x1*x2*y1*y2)+x3*(y1*y2-x1*x2)*(1+d*x1*x2*y1*y2))*((1+d*x2*x3*y2*y3)*(1-d*x2*x3*y2*y3)+d*x1*y1*(x2*y3+x3*y2)*(y2*y3-x2*x3))-(x1*(y2*y3-x2*x3)*(1+d*x2*x3*y2*y3)+(x2*y3+x3*y2)*y1*(1-d*x2*x3*y2*y3))*((1+d*x1*x2*y1*y2)*(1-d*x1*x2*y1*y2)+d*x3*y3*(x1*y2+x2*y1)*(y1*y2-x1*x2))) = (d^3*x1*x2^4*y2^3*x3^2*y3^3 + d^3*y1*x2^3*y2^4*x3^2*y3^3 - d^2*x1*x2^4*y2*x3^2*y3^3 - d^2*x1*x2^3*y2^2*x3^3*y3^2 + d^2*y1*x2^2*y2^3*x3^3*y3^2 - d^2*y1*x2*y2^4*x3^2*y3^3 + d*x1*x2^2*y2*y3^3 - d*x1*x2^2*y2*y3 + d*x1*x2*y2^2*x3*y3^2 - d*y1*x2^2*y2*x3*y3^2 + d*y1*x2*y2^2*y3^3 - d*y1*x2*y2^2*y3)*(x1*x1+y1*y1-1-d*x1*x1*y1*y1) + (-d^2*x1^3*y1^2*x2^2*y2*y3^3 + d^2*x1^3*y1^2*x2^2*y2*y3 - d^2*x1^3*y1^2*x2*y2^2*x3*y3^2 + d^2*x1^3*x2^2*y2*x3^2*y3^3 + d^2*x1^2*y1^3*x2^2*y2*x3*y3^2 - d^2*x1^2*y1^3*x2*y2^2*y3^3 + d^2*x1^2*y1^3*x2*y2^2*y3 - d^2*x1^2*y1*x2^2*y2*x3^3*y3^2 + d^2*x1*y1^2*x2*y2^2*x3^3*y3^2 - d^2*x1*x2^2*y2*x3^2*y3^3 + d^2*y1^3*x2*y2^2*x3^2*y3^3 - d^2*y1*x2*y2^2*x3^2*y3^3)*(x2*x2+y2*y2-1-d*x2*x2*y2*y2) + (-d^3*x1^3*y1^2*x2^4*y2^3*y3 - d^3*x1^2*y1^3*x2^3*y2^4*y3 + d^2*x1^3*y1^2*x2^4*y2*y3 + d^2*x1^3*y1^2*x2^3*y2^2*x3 - d^2*x1^2*y1^3*x2^2*y2^3*x3 + d^2*x1^2*y1^3*x2*y2^4*y3 - d*x1^3*x2^2*y2*y3 + d*x1^2*y1*x2^2*y2*x3 - d*x1*y1^2*x2*y2^2*x3 + d*x1*x2^2*y2*y3 - d*y1^3*x2*y2^2*y3 + d*y1*x2*y2^2*y3)*(x3*x3+y3*y3-1-d*x3*x3*y3*y3) := by grind
theorem assocG0 {d x1 y1 x2 y2 x3 y3 : R} (h1 : On d x1 y1) (h2 : On d x2 y2) (h3 : On d x3 y3) : (((x1*y2+x2*y1)*y3*(1-d*x1*x2*y1*y2)+x3*(y1*y2-x1*x2)*(1+d*x1*x2*y1*y2))*((1+d*x2*x3*y2*y3)*(1-d*x2*x3*y2*y3)+d*x1*y1*(x2*y3+x3*y2)*(y2*y3-x2*x3))-(x1*(y2*y3-x2*x3)*(1+d*x2*x3*y2*y3)+(x2*y3+x3*y2)*y1*(1-d*x2*x3*y2*y3))*((1+d*x1*x2*y1*y2)*(1-d*x1*x2*y1*y2)+d*x3*y3*(x1*y2+x2*y1)*(y1*y2-x1*x2))) = 0 := by
  have e1 : x1*x1+y1*y1-1-d*x1*x1*y1*y1 = 0 := by have := h1.eq; grind
  have e2 : x2*x2+y2*y2-1-d*x2*x2*y2*y2 = 0 := by have := h2.eq; grind
  have e3 : x3*x3+y3*y3-1-d*x3*x3*y3*y3 = 0 := by have := h3.eq; grind
  rw [assocG, e1, e2, e3]; grind
set_option maxHeartbeats 4000000 in
theorem assocH (d x1 y1 x2 y2 x3 y3 : R) : (((y1*y2-x1*x2)*y3*(1+d*x1*x2*y1*y2)-(x1*y2+x2*y1)*x3*(1-d*x1*x2*y1*y2))*((1+d*x2*x3*y2*y3)*(1-d*x2*x3*y2*y3)-d*x1*y1*(x2*y3+x3*y2)*(y2*y3-x2*x3))-(y1*(y2*y3-x2*x3)*(1+d*x2*x3*y2*y3)-x1*(x2*y3+x3*y2)*(1-d*x2*x3*y2*y3))*((1+d*x1*x2*y1*y2)*(1-d*x1*x2*y1*y2)-d*x3*y3*(x1*y2+x2*y1)*(y1*y2-x1*x2))) = (-d^3*x1*x2^3*y2^4*x3^2*y3^3 + d^3*y1*x2^4*y2^3*x3^2*y3^3 - d^2*x1*x2^2*y2^3*x3^3*y3^2 + d^2*x1*x2*y2^4*x3^2*y3^3 - d^2*y1*x2^4*y2*x3^2*y3^3 - d^2*y1*x2^3*y2^2*x3^3*y3^2 + d*x1*x2^2*y2*x3*y3^2 - d*x1*x2*y2^2*y3^3 + d*x1*x2*y2^2*y3 + d*y1*x2^2*y2*y3^3 - d*y1*x2^2*y2*y3 + d*y1*x2*y2^2*x3*y3^2)*(x1*x1+y1*y1-1-d*x1*x1*y1*y1) + (-d^2*x1^3*y1^2*x2^2*y2*x3*y3^2 + d^2*x1^3*y1^2*x2*y2^2*y3^3 - d^2*x1^3*y1^2*x2*y2^2*y3 - d^2*x1^3*x2*y2^2*x3^2*y3^3 - d^2*x1^2*y1^3*x2^2*y2*y3^3 + d^2*x1^2*y1^3*x2^2*y2*y3 - d^2*x1^2*y1^3*x2*y2^2*x3*y3^2 + d^2*x1^2*y1*x2*y2^2*x3^3*y3^2 + d^2*x1*y1^2*x2^2*y2*x3^3*y3^2 + d^2*x1*x2*y2^2*x3^2*y3^3 + d^2*y1^3*x2^2*y2*x3^2*y3^3 - d^2*y1*x2^2*y2*x3^2*y3^3)*(x2*x2+y2*y2-1-d*x2*x2*y2*y2) + (d^3*x1^3*y1^2*x2^3*y2^4*y3 - d^3*x1^2*y1^3*x2^4*y2^3*y3 + d^2*x1^3*y1^2*x2^2*y2^3*x3 - d^2*x1^3*y1^2*x2*y2^4*y3 + d^2*x1^2*y1^3*x2^4*y2*y3 + d^2*x1^2*y1^3*x2^3*y2^2*x3 + d*x1^3*x2*y2^2*y3 - d*x1^2*y1*x2*y2^2*x3 - d*x1*y1^2*x2^2*y2*x3 - d*x1*x2*y2^2*y3 - d*y1^3*x2^2*y2*y3 + d*y1*x2^2*y2*y3)*(x3*x3+y3*y3-1-d*x3*x3*y3*y3) := by grind
theorem assocH0 {d x1 y1 x2 y2 x3 y3 : R} (h1 : On d x1 y1) (h2 : On d x2 y2) (h3 : On d x3 y3) : (((y1*y2-x1*x2)*y3*(1+d*x1*x2*y1*y2)-(x1*y2+x2*y1)*x3*(1-d*x1*x2*y1*y2))*((1+d*x2*x3*y2*y3)*(1-d*x2*x3*y2*y3)-d*x1*y1*(x2*y3+x3*y2)*(y2*y3-x2*x3))-(y1*(y2*y3-x2*x3)*(1+d*x2*x3*y2*y3)-x1*(x2*y3+x3*y2)*(1-d*x2*x3*y2*y3))*((1+d*x1*x2*y1*y2)*(1-d*x1*x2*y1*y2)-d*x3*y3*(x1*y2+x2*y1)*(y1*y2-x1*x2))) = 0 := by
  have e1 : x1*x1+y1*y1-1-d*x1*x1*y1*y1 = 0 := by have := h1.eq; grind
  have e2 : x2*x2+y2*y2-1-d*x2*x2*y2*y2 = 0 := by have := h2.eq; grind
  have e3 : x3*x3+y3*y3-1-d*x3*x3*y3*y3 = 0 := by have := h3.eq; grind
  rw [assocH, e1, e2, e3]; grind
structure Plus (d x1 y1 x2 y2 u v : R) : Prop where
  x : u * (1 + d * x1 * x2 * y1 * y2) = x1 * y2 + y1 * x2
  y : v * (1 - d * x1 * x2 * y1 * y2) = y1 * y2 - x1 * x2
theorem Fld.assoc (F : Fld R) {d : R} (hd : ∀ z : R, z * z ≠ d) {x1 y1 x2 y2 x3 y3 u v s t lx ly rx ry : R} (h1 : On d x1 y1) (h2 : On d x2 y2) (h3 : On d x3 y3)
    (a : Plus d x1 y1 x2 y2 u v) (b : Plus d x2 y2 x3 y3 s t) (l : Plus d u v x3 y3 lx ly) (r : Plus d x1 y1 s t rx ry) : lx = rx ∧ ly = ry := by
  obtain ⟨a1, a2⟩ := F.den hd h1 h2
  obtain ⟨b1, b2⟩ := F.den hd h2 h3
  obtain ⟨l1, l2⟩ := F.den hd (F.on hd h1 h2 a.x a.y) h3
  obtain ⟨r1, r2⟩ := F.den hd h1 (F.on hd h2 h3 b.x b.y)
  have g := assocG0 h1 h2 h3
  have h := assocH0 h1 h2 h3
  obtain ⟨ax, ay⟩ := a
  obtain ⟨bx, by'⟩ := b
  obtain ⟨lx', ly'⟩ := l
  obtain ⟨rx', ry'⟩ := r
  rw [show x1*y2+x2*y1 = u * (1 + d * x1 * x2 * y1 * y2) by rw [ax]; grind, show y1*y2-x1*x2 = v * (1 - d * x1 * x2 * y1 * y2) by rw [ay], show x2*y3+x3*y2 = s * (1 + d * x2 * x3 * y2 * y3) by rw [bx]; grind, show y2*y3-x2*x3 = t * (1 - d * x2 * x3 * y2 * y3) by rw [by']] at g h
  clear ax ay bx by' h1 h2 h3 hd
  obtain ⟨Ap, hAp⟩ : ∃ q, q = 1 + d * x1 * x2 * y1 * y2 := ⟨_, rfl⟩
  obtain ⟨Am, hAm⟩ : ∃ q, q = 1 - d * x1 * x2 * y1 * y2 := ⟨_, rfl⟩
  obtain ⟨Bp, hBp⟩ : ∃ q, q = 1 + d * x2 * x3 * y2 * y3 := ⟨_, rfl⟩
  obtain ⟨Bm, hBm⟩ : ∃ q, q = 1 - d * x2 * x3 * y2 * y3 := ⟨_, rfl⟩
  rw [← hAp, ← hAm, ← hBp, ← hBm] at g h
  rw [← hAp] at a1
  rw [← hAm] at a2
  rw [← hBp] at b1
  rw [← hBm] at b2
  clear hAp hAm hBp hBm
  constructor
  · have k : Ap * (Am * (Bp * (Bm * ((1 + d * u * x3 * v * y3) * ((1 + d * x1 * s * y1 * t) * (lx - rx)))))) = 0 := by
      clear h a1 a2 b1 b2 l1 l2 r1 r2 ly' ry'
      have i1 : (1 + d * u * x3 * v * y3) * ((1 + d * x1 * s * y1 * t) * (lx - rx)) = (u * y3 + v * x3) * (1 + d * x1 * s * y1 * t) - (x1 * t + y1 * s) * (1 + d * u * x3 * v * y3) := by rw [← lx', ← rx']; grind
      rw [i1]
      clear i1 lx' rx'
      rw [← g]; grind
    have k := F.cancel r1 (F.cancel l1 (F.cancel b2 (F.cancel b1 (F.cancel a2 (F.cancel a1 k)))))
    clear a1 a2 b1 b2 l1 l2 r1 r2 g h lx' ly' rx' ry'
    grind
  · have k : Ap * (Am * (Bp * (Bm * ((1 - d * u * x3 * v * y3) * ((1 - d * x1 * s * y1 * t) * (ly - ry)))))) = 0 := by
      clear g a1 a2 b1 b2 l1 l2 r1 r2 lx' rx'
      have i1 : (1 - d * u * x3 * v * y3) * ((1 - d * x1 * s * y1 * t) * (ly - ry)) = (v * y3 - u * x3) * (1 - d * x1 * s * y1 * t) - (y1 * t - x1 * s) * (1 - d * u * x3 * v * y3) := by rw [← ly', ← ry']; grind
      rw [i1]
      clear i1 ly' ry'
      rw [← h]; grind
    have k := F.cancel r2 (F.cancel l2 (F.cancel b2 (F.cancel b1 (F.cancel a2 (F.cancel a1 k)))))
    clear a1 a2 b1 b2 l1 l2 r1 r2 g h lx' ly' rx' ry'
    grind
end

/-! Points with numbers below p. -/
section
variable {p : Nat} [NeZero p]
abbrev F (p : Nat) [NeZero p] (n : Nat) : Fin p := Fin.ofNat p n
theorem F_val (n : Nat) : (F p n).val = n % p := rfl
theorem F_eq {a b : Nat} : F p a = F p b ↔ a % p = b % p := by rw [← Fin.val_inj, F_val, F_val]
theorem F_mod (n : Nat) : F p (n % p) = F p n := F_eq.2 (Nat.mod_mod _ _)
theorem F_mul (a b : Nat) : F p (a * b) = F p a * F p b := by rw [← Fin.val_inj, Fin.val_mul, F_val, F_val, F_val, ← Nat.mul_mod]
theorem F_add (a b : Nat) : F p (a + b) = F p a + F p b := by rw [← Fin.val_inj, Fin.val_add, F_val, F_val, F_val, ← Nat.add_mod]
theorem F_p : F p p = 0 := by rw [← Fin.val_inj, F_val, Nat.mod_self]; rfl
theorem F_zero : F p 0 = 0 := rfl
theorem F_one : F p 1 = 1 := rfl
theorem F_sub (a b : Nat) (h : b ≤ a) : F p (a - b) = F p a - F p b := by
  have : F p (a - b) + F p b = F p a := by rw [← F_add, Nat.sub_add_cancel h]
  grind
theorem F_subp (a b : Nat) (h : b ≤ p) : F p (a + p - b) = F p a - F p b := by
  rw [F_sub _ _ (by omega), F_add, F_p]; grind
theorem F_of (a : Fin p) : F p a.val = a := by rw [← Fin.val_inj, F_val]; exact Nat.mod_eq_of_lt a.isLt
theorem F_inj {a b : Nat} (ha : a < p) (hb : b < p) (h : F p a = F p b) : a = b := by rw [F_eq, Nat.mod_eq_of_lt ha, Nat.mod_eq_of_lt hb] at h; exact h
end
structure Crv (p d : Nat) : Prop where
  lo : 5 ≤ p
  hi : p ≤ 199
  dp : d < p
  d2 : 2 ≤ d
  odd : p % 2 = 1
  fermat : ∀ a, 0 < a → a < p → a ^ (p - 1) % p = 1
  nsq : ∀ z, z * z % p ≠ d
def mN (p d : Nat) (a b : Nat × Nat) : Nat := d * a.1 % p * b.1 % p * a.2 % p * b.2 % p
def addN (p d : Nat) (a b : Nat × Nat) : Nat × Nat :=
  ((a.1 * b.2 + a.2 * b.1) % p * (((1 + mN p d a b) % p) ^ (p - 2) % p) % p, (a.2 * b.2 % p + p - a.1 * b.1 % p) % p * (((1 + p - mN p d a b) % p) ^ (p - 2) % p) % p)
def onN (p d : Nat) (a : Nat × Nat) : Bool := (a.1 * a.1 % p + a.2 * a.2 % p) % p == (1 + d * (a.1 * a.1 % p) % p * (a.2 * a.2 % p)) % p
structure Pt (p d : Nat) (a : Nat × Nat) : Prop where
  x : a.1 < p
  y : a.2 < p
  on : onN p d a = true
section
variable {p d : Nat} [NeZero p]
theorem onN_iff (a : Nat × Nat) : onN p d a = true ↔ On (F p d) (F p a.1) (F p a.2) := by
  unfold onN
  rw [beq_iff_eq, ← F_eq]
  simp only [F_add, F_mul, F_mod, F_one]
  constructor
  · intro h; exact ⟨by grind⟩
  · intro h; have := h.eq; grind
def Crv.fld (c : Crv p d) : Fld (Fin p) where
  inv a := F p (a.val ^ (p - 2))
  mi := by
    intro a ha
    have hp := c.lo
    have h0 : 0 < a.val := by
      rcases Nat.eq_zero_or_pos a.val with h | h
      · exact absurd (Fin.val_inj.1 (h.trans (show 0 = (0 : Fin p).val from rfl))) ha
      · exact h
    have hf := c.fermat a.val h0 a.isLt
    rw [← Fin.val_inj, Fin.val_mul, F_val, Nat.mul_mod_mod, ← Nat.pow_succ', show (p - 2).succ = p - 1 by omega, hf]
    show 1 = 1 % p
    exact (Nat.mod_eq_of_lt (by omega)).symm
  one_ne := by
    have hp := c.lo
    intro h
    have := congrArg Fin.val h
    have e : (1 : Fin p).val = 1 % p := rfl
    have e0 : (0 : Fin p).val = 0 := rfl
    rw [e, e0, Nat.mod_eq_of_lt (by omega)] at this
    omega
  two_ne := by
    have hp := c.lo
    intro h
    have := congrArg Fin.val h
    have e : (2 : Fin p).val = 2 % p := rfl
    have e0 : (0 : Fin p).val = 0 := rfl
    rw [e, e0, Nat.mod_eq_of_lt (by omega)] at this
    omega
theorem Crv.hd (c : Crv p d) : ∀ z : Fin p, z * z ≠ F p d := by
  intro z h
  have := congrArg Fin.val h
  rw [Fin.val_mul, F_val, Nat.mod_eq_of_lt c.dp] at this
  exact c.nsq _ this
theorem F_m (a b : Nat × Nat) : F p (mN p d a b) = F p d * F p a.1 * F p b.1 * F p a.2 * F p b.2 := by
  unfold mN; simp only [F_mod, F_mul]
theorem mN_lt (a b : Nat × Nat) : mN p d a b < p := Nat.mod_lt _ (Nat.pos_of_ne_zero (NeZero.ne p))
theorem Crv.plus (c : Crv p d) {a b : Nat × Nat} (ha : Pt p d a) (hb : Pt p d b) : Plus (F p d) (F p a.1) (F p a.2) (F p b.1) (F p b.2) (F p (addN p d a b).1) (F p (addN p d a b).2) := by
  obtain ⟨n1, n2⟩ := c.fld.den c.hd ((onN_iff a).1 ha.on) ((onN_iff b).1 hb.on)
  have hm := mN_lt (p := p) (d := d) a b
  rw [show F p d * F p a.1 * F p b.1 * F p a.2 * F p b.2 = F p (mN p d a b) from (F_m a b).symm] at n1 n2
  have k1 : F p ((1 + mN p d a b) % p) = 1 + F p (mN p d a b) := by rw [F_mod, F_add, F_one]
  have k2 : F p ((1 + p - mN p d a b) % p) = 1 - F p (mN p d a b) := by rw [F_mod, F_subp _ _ (by omega), F_one]
  have i1 := c.fld.mi _ n1
  have i2 := c.fld.mi _ n2
  rw [← k1] at i1
  rw [← k2] at i2
  have v1 : ∀ n : Nat, (F p (n % p)).val = n % p := fun n => by rw [F_val, Nat.mod_mod]
  have j1 : c.fld.inv (F p ((1 + mN p d a b) % p)) = F p (((1 + mN p d a b) % p) ^ (p - 2)) := by
    show F p ((F p ((1 + mN p d a b) % p)).val ^ (p - 2)) = _
    rw [v1]
  have j2 : c.fld.inv (F p ((1 + p - mN p d a b) % p)) = F p (((1 + p - mN p d a b) % p) ^ (p - 2)) := by
    show F p ((F p ((1 + p - mN p d a b) % p)).val ^ (p - 2)) = _
    rw [v1]
  rw [j1, k1] at i1
  rw [j2, k2] at i2
  have hp0 : 0 < p := Nat.pos_of_ne_zero (NeZero.ne p)
  have hb1 : a.1 * b.1 % p ≤ p := Nat.le_of_lt (Nat.mod_lt _ hp0)
  constructor
  · rw [← F_m]
    unfold addN
    dsimp only
    simp only [F_mod, F_mul, F_add] at i1 ⊢
    generalize F p (((1 + mN p d a b) % p) ^ (p - 2)) = I at i1 ⊢
    clear n1 n2 i2 j1 j2 k1 k2
    grind
  · rw [← F_m]
    unfold addN
    dsimp only
    simp only [F_mod, F_mul, F_subp _ _ hb1] at i2 ⊢
    generalize F p (((1 + p - mN p d a b) % p) ^ (p - 2)) = I at i2 ⊢
    clear n1 n2 i1 j1 j2 k1 k2
    grind
theorem Fld.unique {R : Type} [Lean.Grind.CommRing R] (K : Fld R) {d : R} (hd : ∀ z : R, z * z ≠ d) {x1 y1 x2 y2 u v u' v' : R} (h1 : On d x1 y1) (h2 : On d x2 y2) (a : Plus d x1 y1 x2 y2 u v) (b : Plus d x1 y1 x2 y2 u' v') : u = u' ∧ v = v' := by
  obtain ⟨n1, n2⟩ := K.den hd h1 h2
  have k1 : (1 + d * x1 * x2 * y1 * y2) * (u - u') = 0 := by have := a.x; have := b.x; grind
  have k2 : (1 - d * x1 * x2 * y1 * y2) * (v - v') = 0 := by have := a.y; have := b.y; grind
  have k1 := K.cancel n1 k1
  have k2 := K.cancel n2 k2
  constructor <;> grind
omit [NeZero p] in
theorem Crv.p0 (c : Crv p d) : 0 < p := by have := c.lo; omega
omit [NeZero p] in
theorem addN_lt (hp : 0 < p) (a b : Nat × Nat) : (addN p d a b).1 < p ∧ (addN p d a b).2 < p := ⟨Nat.mod_lt _ hp, Nat.mod_lt _ hp⟩
theorem Pt.onF {a : Nat × Nat} (h : Pt p d a) : On (F p d) (F p a.1) (F p a.2) := (onN_iff a).1 h.on
theorem Crv.add (c : Crv p d) {a b : Nat × Nat} (ha : Pt p d a) (hb : Pt p d b) : Pt p d (addN p d a b) := by
  have h := c.plus ha hb
  exact ⟨(addN_lt c.p0 a b).1, (addN_lt c.p0 a b).2, (onN_iff _).2 (c.fld.on c.hd ha.onF hb.onF h.x h.y)⟩
theorem Crv.uniq (c : Crv p d) {a b r : Nat × Nat} (ha : Pt p d a) (hb : Pt p d b) (h1 : r.1 < p) (h2 : r.2 < p) (h : Plus (F p d) (F p a.1) (F p a.2) (F p b.1) (F p b.2) (F p r.1) (F p r.2)) : addN p d a b = r := by
  obtain ⟨e1, e2⟩ := c.fld.unique c.hd ha.onF hb.onF (c.plus ha hb) h
  obtain ⟨l1, l2⟩ := addN_lt (d := d) c.p0 a b
  exact Prod.ext (F_inj l1 h1 e1) (F_inj l2 h2 e2)
theorem Crv.comm (c : Crv p d) {a b : Nat × Nat} (ha : Pt p d a) (hb : Pt p d b) : addN p d a b = addN p d b a := by
  have h := c.add hb ha
  refine c.uniq ha hb h.x h.y ?_
  have := c.plus hb ha
  exact ⟨by have := this.x; grind, by have := this.y; grind⟩
theorem Crv.assoc (c : Crv p d) {a b e : Nat × Nat} (ha : Pt p d a) (hb : Pt p d b) (he : Pt p d e) : addN p d (addN p d a b) e = addN p d a (addN p d b e) := by
  have h1 := c.add ha hb
  have h2 := c.add hb he
  have h3 := c.add h1 he
  have h4 := c.add ha h2
  obtain ⟨e1, e2⟩ := c.fld.assoc c.hd ha.onF hb.onF he.onF (c.plus ha hb) (c.plus hb he) (c.plus h1 he) (c.plus ha h2)
  exact Prod.ext (F_inj h3.x h4.x e1) (F_inj h3.y h4.y e2)
theorem Crv.zero (c : Crv p d) : Pt p d (0, 1) := by
  have hp := c.lo
  refine ⟨c.p0, (by show 1 < p; omega), (onN_iff _).2 ⟨?_⟩⟩
  show F p 0 * F p 0 + F p 1 * F p 1 = 1 + F p d * (F p 0 * F p 0) * (F p 1 * F p 1)
  rw [F_zero, F_one]; grind
theorem Crv.add_zero (c : Crv p d) {a : Nat × Nat} (ha : Pt p d a) : addN p d a (0, 1) = a := by
  refine c.uniq ha c.zero ha.x ha.y ⟨?_, ?_⟩
  · show F p a.1 * (1 + F p d * F p a.1 * F p 0 * F p a.2 * F p 1) = F p a.1 * F p 1 + F p a.2 * F p 0
    rw [F_zero, F_one]; grind
  · show F p a.2 * (1 - F p d * F p a.1 * F p 0 * F p a.2 * F p 1) = F p a.2 * F p 1 - F p a.1 * F p 0
    rw [F_zero, F_one]; grind
theorem Crv.zero_add (c : Crv p d) {a : Nat × Nat} (ha : Pt p d a) : addN p d (0, 1) a = a := (c.comm c.zero ha).trans (c.add_zero ha)
def negN (p : Nat) (a : Nat × Nat) : Nat × Nat := ((p - a.1) % p, a.2)
theorem F_neg {x : Nat} (h : x < p) : F p ((p - x) % p) = - F p x := by
  rw [F_mod, F_sub _ _ (Nat.le_of_lt h), F_p]; grind
theorem Crv.neg (c : Crv p d) {a : Nat × Nat} (ha : Pt p d a) : Pt p d (negN p a) := by
  refine ⟨Nat.mod_lt _ c.p0, ha.y, (onN_iff _).2 ⟨?_⟩⟩
  show F p ((p - a.1) % p) * F p ((p - a.1) % p) + F p a.2 * F p a.2 = 1 + F p d * (F p ((p - a.1) % p) * F p ((p - a.1) % p)) * (F p a.2 * F p a.2)
  have h := ha.onF.eq
  rw [F_neg ha.x]
  grind
theorem Crv.add_neg (c : Crv p d) {a : Nat × Nat} (ha : Pt p d a) : addN p d a (negN p a) = (0, 1) := by
  have hp := c.lo
  refine c.uniq ha (c.neg ha) c.p0 (show 1 < p by omega) ⟨?_, ?_⟩
  · show F p 0 * (1 + F p d * F p a.1 * F p ((p - a.1) % p) * F p a.2 * F p a.2) = F p a.1 * F p a.2 + F p a.2 * F p ((p - a.1) % p)
    rw [F_neg ha.x, F_zero]; grind
  · show F p 1 * (1 - F p d * F p a.1 * F p ((p - a.1) % p) * F p a.2 * F p a.2) = F p a.2 * F p a.2 - F p a.1 * F p ((p - a.1) % p)
    have h := ha.onF.eq
    rw [F_neg ha.x, F_one]; grind
/-! Many times a point. -/
def mulN (p d : Nat) (a : Nat × Nat) : Nat → Nat × Nat
  | 0 => (0, 1)
  | n + 1 => addN p d (mulN p d a n) a
theorem Crv.mul (c : Crv p d) {a : Nat × Nat} (ha : Pt p d a) : ∀ n, Pt p d (mulN p d a n)
  | 0 => c.zero
  | n + 1 => c.add (c.mul ha n) ha
theorem Crv.mul_add (c : Crv p d) {a : Nat × Nat} (ha : Pt p d a) (m : Nat) : ∀ n, mulN p d a (m + n) = addN p d (mulN p d a m) (mulN p d a n)
  | 0 => (c.add_zero (c.mul ha m)).symm
  | n + 1 => by
    rw [← Nat.add_assoc, mulN, c.mul_add ha m n, c.assoc (c.mul ha m) (c.mul ha n) ha]; rfl
theorem Crv.mul_mul (c : Crv p d) {a : Nat × Nat} (ha : Pt p d a) (m : Nat) : ∀ n, mulN p d a (m * n) = mulN p d (mulN p d a m) n
  | 0 => rfl
  | n + 1 => by rw [Nat.mul_succ, c.mul_add ha, c.mul_mul ha m n]; rfl
theorem Crv.mul_one (c : Crv p d) {a : Nat × Nat} (ha : Pt p d a) : mulN p d a 1 = a := c.zero_add ha
end

/-! The drawn primes, and the curves over them. -/
def nine : List Nat := [5, 7, 13, 17, 29, 37, 101, 197, 199]
structure Prm (p : Nat) : Prop where
  lo : 5 ≤ p
  hi : p ≤ 199
  odd : p % 2 = 1
  gen : ∃ g, Cert p g
  pI : Ev (fun k => impl_isPrime.f k (p : Int)) true
  pS : Ev (fun k => spec_l4Prime.f k (p : Int)) true
theorem prm_of (p g : Nat) (c : Cert p g) (h1 : 5 ≤ p) (h2 : p ≤ 199) (h3 : p % 2 = 1) (h : impl_isPrime.f 20 (p : Int) = some true) (h' : spec_l4Prime.f 20 (p : Int) = some true) : Prm p :=
  ⟨h1, h2, h3, ⟨g, c⟩, Ev.of (fun k => impl_isPrime.mono _ k) h, Ev.of (fun k => spec_l4Prime.mono _ k) h'⟩
theorem cert29 : Cert 29 2 := cert_of (by decide) (by decide +kernel)
theorem cert37 : Cert 37 2 := cert_of (by decide) (by decide +kernel)
theorem cert197 : Cert 197 2 := cert_of (by decide) (by decide +kernel)
theorem cert199 : Cert 199 3 := cert_of (by decide) (by decide +kernel)
theorem prm {p : Nat} (h : p ∈ nine) : Prm p := by
  simp only [nine, List.mem_cons, List.not_mem_nil, or_false] at h
  rcases h with rfl | rfl | rfl | rfl | rfl | rfl | rfl | rfl | rfl
  · exact prm_of 5 2 cert5 (by omega) (by omega) (by omega) (by decide +kernel) (by decide +kernel)
  · exact prm_of 7 3 cert7 (by omega) (by omega) (by omega) (by decide +kernel) (by decide +kernel)
  · exact prm_of 13 2 cert13 (by omega) (by omega) (by omega) (by decide +kernel) (by decide +kernel)
  · exact prm_of 17 3 cert17 (by omega) (by omega) (by omega) (by decide +kernel) (by decide +kernel)
  · exact prm_of 29 2 cert29 (by omega) (by omega) (by omega) (by decide +kernel) (by decide +kernel)
  · exact prm_of 37 2 cert37 (by omega) (by omega) (by omega) (by decide +kernel) (by decide +kernel)
  · exact prm_of 101 2 cert101 (by omega) (by omega) (by omega) (by decide +kernel) (by decide +kernel)
  · exact prm_of 197 2 cert197 (by omega) (by omega) (by omega) (by decide +kernel) (by decide +kernel)
  · exact prm_of 199 3 cert199 (by omega) (by omega) (by omega) (by decide +kernel) (by decide +kernel)
/-- The kind of a number: 0, 1 or -1. -/
def kindOf (p a : Nat) : Int := if a = 0 then 0 else if a ^ ((p - 1) / 2) % p = 1 then 1 else -1
section
variable {p : Nat}
theorem Prm.half (m : Prm p) : p - 1 = 2 * ((p - 1) / 2) := by have := m.odd; have := m.lo; omega
theorem Prm.halfInt (m : Prm p) : wrap64 (Int.tdiv (wrap64 ((p : Int) - 1)) 2) = (((p - 1) / 2 : Nat) : Int) := by
  have h1 := m.lo; have h2 := m.hi
  rw [w64 (n := (p : Int) - 1) (by omega) (by omega), Int.tdiv_eq_ediv_of_nonneg (by omega), w64 (by omega) (by omega)]; omega
theorem Prm.power (m : Prm p) {a b : Nat} (ha : a < p) (hb : b < 4611686018427387904) : Ev (fun k => spec_l4Power.f k (a : Int) (b : Int) (p : Int)) ((a ^ b % p : Nat) : Int) ∧ Ev (fun k => impl_powerMod.f k (a : Int) (b : Int) (p : Int)) ((a ^ b % p : Nat) : Int) := by
  have h1 := m.lo; have h2 := m.hi
  exact power_ev p a b (by omega) (by omega) ha hb
theorem Prm.kindImpl (m : Prm p) {a : Nat} (ha : a < p) : Ev (fun k => impl_squareKind.f k (a : Int) (p : Int)) (kindOf p a) := by
  have h2 := m.hi
  unfold impl_squareKind.f kindOf
  by_cases h0 : a = 0
  · simp only [h0, Int.ofNat_zero, if_true, Int.natCast_zero]; exact Ev.now _
  · have h0' : ¬ (a : Int) = 0 := by omega
    simp only [h0, h0', if_false, m.halfInt]
    refine Ev.bind (m.power ha (by omega)).2 ?_
    by_cases h : a ^ ((p - 1) / 2) % p = 1
    · simp only [h, Int.natCast_one, if_true]; exact Ev.now _
    · have h' : ¬ ((a ^ ((p - 1) / 2) % p : Nat) : Int) = 1 := by omega
      simp only [h, h', if_false]; exact Ev.now _
theorem Prm.half_ne (m : Prm p) {a : Nat} (h0 : 0 < a) (ha : a < p) : a ^ ((p - 1) / 2) % p = 1 ∨ a ^ ((p - 1) / 2) % p = p - 1 := by
  obtain ⟨g, c⟩ := m.gen
  exact c.half_values (by have := m.lo; omega) m.half h0 ha
theorem Prm.zero_half (m : Prm p) : 0 ^ ((p - 1) / 2) % p = 0 := by
  have h1 := m.lo
  rw [Nat.zero_pow (by omega), Nat.zero_mod]
theorem Prm.kindSpec (m : Prm p) {a : Nat} (ha : a < p) : Ev (fun k => spec_l4Kind.f k (a : Int) (p : Int)) (kindOf p a) := by
  have h1 := m.lo; have h2 := m.hi
  unfold spec_l4Kind.f kindOf
  rw [m.halfInt]
  refine Ev.bind (m.power ha (by omega)).1 ?_
  by_cases h0 : a = 0
  · subst h0
    simp only [m.zero_half, Int.natCast_zero, if_true]; exact Ev.now _
  · rcases m.half_ne (by omega) ha with h | h
    · simp only [h, h0, Int.natCast_one, if_true, if_false, show ¬ (1 : Int) = 0 by omega]; exact Ev.now _
    · have h3 : ¬ p - 1 = 1 := by omega
      have h4 : ¬ ((p - 1 : Nat) : Int) = 0 := by omega
      have h5 : ¬ ((p - 1 : Nat) : Int) = 1 := by omega
      simp only [h, h0, h3, h4, h5, if_false]; exact Ev.now _
theorem Prm.crv (m : Prm p) {d : Nat} (h2 : 2 ≤ d) (hd : d < p) (hk : kindOf p d = -1) : Crv p d := by
  obtain ⟨g, c⟩ := m.gen
  refine ⟨m.lo, m.hi, hd, h2, m.odd, fun a h0 h1 => c.fermat h0 h1, fun z hz => ?_⟩
  have hp := m.lo
  have hlt : z % p < p := Nat.mod_lt _ (by omega)
  have := c.of_root m.half (a := d) (x := z % p) (by omega) hlt (by rw [← Nat.mul_mod]; exact hz)
  unfold kindOf at hk
  rw [if_neg (by omega), if_pos this] at hk
  omega
end
/-- A good curve: both say so. -/
structure Good (p d : Nat) : Prop where
  crv : Crv p d
  prm : Prm p
  isI : Ev (fun k => impl_isCurve.f k (p : Int) (d : Int)) true
  isS : Ev (fun k => spec_GoodCurve.f k (p : Int) (d : Int)) true
structure Bad (P D : Int) : Prop where
  isI : Ev (fun k => impl_isCurve.f k P D) false
  isS : Ev (fun k => spec_GoodCurve.f k P D) false
theorem bad_range (P D : Int) (h : ¬ (5 ≤ P ∧ P ≤ 199)) : Bad P D := by
  constructor
  · unfold impl_isCurve.f
    simp only [within_of, decide_eq_false h, Option.bind_some, Bool.false_eq_true, if_false]; exact Ev.now _
  · unfold spec_GoodCurve.f
    simp only [in_of, decide_eq_false h, Option.bind_some, Bool.false_eq_true, if_false]; exact Ev.now _
theorem bad_nine (D : Int) : Bad 9 D := by
  have h : (5 : Int) ≤ 9 ∧ (9 : Int) ≤ 199 := by decide
  constructor
  · unfold impl_isCurve.f
    simp only [within_of, decide_eq_true h, Option.bind_some, if_true]
    exact Ev.bind (Ev.of (fun k => impl_isPrime.mono _ k) (show impl_isPrime.f 20 9 = some false by decide +kernel)) (Ev.now _)
  · unfold spec_GoodCurve.f
    simp only [in_of, decide_eq_true h, Option.bind_some, if_true]
    exact Ev.bind (Ev.of (fun k => spec_l4Prime.mono _ k) (show spec_l4Prime.f 20 9 = some false by decide +kernel)) (Ev.now _)
theorem curve_of {p : Nat} (m : Prm p) (D : Int) : (∃ d : Nat, D = (d : Int) ∧ Good p d) ∨ Bad (p : Int) D := by
  have h1 := m.lo; have h2 := m.hi
  have hw : wrap64 ((p : Int) - 1) = (p : Int) - 1 := w64 (by omega) (by omega)
  have hr : (5 : Int) ≤ (p : Int) ∧ (p : Int) ≤ 199 := by omega
  by_cases hD : 2 ≤ D ∧ D ≤ (p : Int) - 1
  · obtain ⟨d, rfl⟩ : ∃ d : Nat, D = (d : Int) := ⟨D.toNat, by omega⟩
    have hd : d < p := by omega
    have eI : ∀ b, decide (kindOf p d < 0) = b → Ev (fun k => impl_isCurve.f k (p : Int) (d : Int)) b := by
      intro b hb
      unfold impl_isCurve.f
      simp only [within_of, decide_eq_true hr, Option.bind_some, if_true, hw, decide_eq_true hD]
      exact Ev.bind m.pI (Ev.bind (m.kindImpl hd) (by rw [hb]; exact Ev.now _))
    have eS : ∀ b, (kindOf p d == -1) = b → Ev (fun k => spec_GoodCurve.f k (p : Int) (d : Int)) b := by
      intro b hb
      unfold spec_GoodCurve.f
      simp only [in_of, decide_eq_true hr, Option.bind_some, if_true, hw, decide_eq_true hD]
      exact Ev.bind m.pS (Ev.bind (m.kindSpec hd) (by rw [hb]; exact Ev.now _))
    by_cases hk : kindOf p d = -1
    · left
      exact ⟨d, rfl, m.crv (by omega) hd hk, m, eI true (by rw [hk]; decide), eS true (by rw [hk]; decide)⟩
    · right
      have : ¬ kindOf p d < 0 := by
        intro h
        unfold kindOf at h hk
        split at h
        · omega
        · rename_i h0
          rw [if_neg h0] at hk
          split at h
          · omega
          · rename_i h3; rw [if_neg h3] at hk; exact hk rfl
      exact ⟨eI false (decide_eq_false this), eS false (beq_eq_false_iff_ne.mpr hk)⟩
  · right
    constructor
    · unfold impl_isCurve.f
      simp only [within_of, decide_eq_true hr, Option.bind_some, if_true, hw, decide_eq_false hD]
      exact Ev.bind m.pI (Ev.now _)
    · unfold spec_GoodCurve.f
      simp only [in_of, decide_eq_true hr, Option.bind_some, if_true, hw, decide_eq_false hD]
      exact Ev.bind m.pS (Ev.now _)
/-- The drawn primes. -/
def primes : List Int := [5, 7, 13, 17, 29, 37, 101, 197]
theorem primes_nine {P : Int} (h : P ∈ primes) : ∃ p : Nat, P = (p : Int) ∧ p ∈ nine ∧ p ≤ 197 := by
  simp only [primes, List.mem_cons, List.not_mem_nil, or_false] at h
  rcases h with rfl | rfl | rfl | rfl | rfl | rfl | rfl | rfl
  · exact ⟨5, rfl, by decide, by decide⟩
  · exact ⟨7, rfl, by decide, by decide⟩
  · exact ⟨13, rfl, by decide, by decide⟩
  · exact ⟨17, rfl, by decide, by decide⟩
  · exact ⟨29, rfl, by decide, by decide⟩
  · exact ⟨37, rfl, by decide, by decide⟩
  · exact ⟨101, rfl, by decide, by decide⟩
  · exact ⟨197, rfl, by decide, by decide⟩
/-- What a drawn curve is. -/
def IsCurve (P D : Int) : Prop := (∃ p d : Nat, P = (p : Int) ∧ D = (d : Int) ∧ p ∈ nine ∧ Good p d) ∨ ((0 ≤ P ∧ P ≤ 211 ∧ 0 ≤ D ∧ D ≤ 300) ∧ Bad P D)
theorem curve_any (P D : Int) (hP : P ∈ primes ∨ P ∈ [(0 : Int), 3, 9, 199, 211]) (h0 : 0 ≤ D) (h1 : D ≤ 300) : IsCurve P D := by
  have good : ∀ p : Nat, p ∈ nine → IsCurve (p : Int) D := fun p hp => by
    rcases curve_of (prm hp) D with ⟨d, rfl, g⟩ | b
    · exact .inl ⟨p, d, rfl, rfl, hp, g⟩
    · exact .inr ⟨⟨by omega, by have := (prm hp).hi; omega, h0, h1⟩, b⟩
  rcases hP with h | h
  · obtain ⟨p, rfl, hp, _⟩ := primes_nine h
    exact good p hp
  · simp only [List.mem_cons, List.not_mem_nil, or_false] at h
    rcases h with rfl | rfl | rfl | rfl | rfl
    · exact .inr ⟨⟨by omega, by omega, h0, h1⟩, bad_range 0 D (by omega)⟩
    · exact .inr ⟨⟨by omega, by omega, h0, h1⟩, bad_range 3 D (by omega)⟩
    · exact .inr ⟨⟨by omega, by omega, h0, h1⟩, bad_nine D⟩
    · exact good 199 (by decide)
    · exact .inr ⟨⟨by omega, by omega, h0, h1⟩, bad_range 211 D (by omega)⟩
theorem cur_curve_j1 (l : List Int) (hl : Bytes8 l) (at_ s P D : Int) (h0 : 0 ≤ at_) (h1 : at_ < 1000000) (hP : P ∈ primes) (hD0 : 0 ≤ D) (hD : D ≤ 300) : ∃ P' D' a' s', Ev (fun k => spec_l1Cur_curve.j1 k l at_ s P D) (P', D', a', s') ∧ at_ ≤ a' ∧ a' ≤ at_ + 6 ∧ IsCurve P' D' := by
  obtain ⟨b, a1, s1, h, h2, h3⟩ := cur_one l hl at_ s 30 h0 (by omega) (by omega)
  cases b with
  | false =>
    refine ⟨P, D, a1, s1, Ev.step (fun k => by rw [spec_l1Cur_curve.j1, h, Option.bind_some, if_neg (by simp)]) (Ev.now _), h2, by omega, curve_any P D (.inl hP) hD0 hD⟩
  | true =>
    obtain ⟨P', a2, s2, h4, h5, h6, h7⟩ := cur_among l hl a1 s1 [0, 3, 9, 199, 211] (by decide) (by decide) (by omega) (by omega)
    obtain ⟨D', a3, s3, h8, h9, h10, h11, h12⟩ := cur_pick l hl a2 s2 9 (by omega) (by omega) (by omega)
    refine ⟨P', D', a3, s3, Ev.step (fun k => by rw [spec_l1Cur_curve.j1, h, Option.bind_some, if_pos rfl, h4, Option.bind_some, h8, Option.bind_some]) (Ev.now _), by omega, by omega, curve_any P' D' (.inr h7) (by omega) (by have := h12 (by omega); omega)⟩
theorem cur_curve_l0 (l : List Int) (hl : Bytes8 l) (at_ s : Int) (h0 : 0 ≤ at_) (h1 : at_ < 1000000) (p : Nat) (hp : p ∈ nine) (hP : (p : Int) ∈ primes) (n : Nat) : ∀ (i D : Int), n ≤ 20 → i = 20 - n → 2 ≤ D → D ≤ (p : Int) - 1 → ∃ P' D' a' s', Ev (fun k => spec_l1Cur_curve.l0 k i l at_ s (p : Int) D) (P', D', a', s') ∧ at_ ≤ a' ∧ a' ≤ at_ + 6 ∧ IsCurve P' D' := by
  have m := prm hp
  have m1 := m.lo; have m2 := m.hi
  induction n with
  | zero =>
    intro i D hn hi hD0 hD
    obtain ⟨P', D', a', s', h, r⟩ := cur_curve_j1 l hl at_ s p D h0 h1 hP (by omega) (by omega)
    exact ⟨P', D', a', s', Ev.step (fun k => by rw [spec_l1Cur_curve.l0, if_neg (by omega)]) h, r⟩
  | succ n ih =>
    intro i D hn hi hD0 hD
    by_cases h20 : i < 20
    · have step : ∀ b, Ev (fun k => spec_GoodCurve.f k (p : Int) D) b → ∃ P' D' a' s', Ev (fun k => spec_l1Cur_curve.l0 k i l at_ s (p : Int) D) (P', D', a', s') ∧ at_ ≤ a' ∧ a' ≤ at_ + 6 ∧ IsCurve P' D' := by
        intro b hb
        cases b with
        | true =>
          obtain ⟨P', D', a', s', h, r⟩ := cur_curve_j1 l hl at_ s p D h0 h1 hP (by omega) (by omega)
          exact ⟨P', D', a', s', Ev.step (fun k => by rw [spec_l1Cur_curve.l0, if_pos h20]) (Ev.bind hb h), r⟩
        | false =>
          have hw1 : wrap64 ((p : Int) - 2) = (p : Int) - 2 := w64 (by omega) (by omega)
          have hw2 : wrap64 (D - 1) = D - 1 := w64 (by omega) (by omega)
          have hz : ¬ (p : Int) - 2 = 0 := by omega
          have e1 := Int.emod_nonneg (D - 1) hz
          have e2 := Int.emod_lt_of_pos (D - 1) (show 0 < (p : Int) - 2 by omega)
          have hw3 : wrap64 (2 + (D - 1) % ((p : Int) - 2)) = 2 + (D - 1) % ((p : Int) - 2) := w64 (by omega) (by omega)
          obtain ⟨P', D', a', s', h, r⟩ := ih (i + 1) (2 + (D - 1) % ((p : Int) - 2)) (by omega) (by omega) (by omega) (by omega)
          refine ⟨P', D', a', s', Ev.step (fun k => by rw [spec_l1Cur_curve.l0, if_pos h20]) (Ev.bind hb ?_), r⟩
          simp only [Bool.false_eq_true, if_false, hw1, hw2, hz, Int.tmod_eq_emod_of_nonneg (show 0 ≤ D - 1 by omega), hw3, w64 (n := i + 1) (by omega) (by omega)]
          exact h
      rcases curve_of m D with ⟨d, rfl, g⟩ | b
      · exact step true g.isS
      · exact step false b.isS
    · obtain ⟨P', D', a', s', h, r⟩ := cur_curve_j1 l hl at_ s p D h0 h1 hP (by omega) (by omega)
      exact ⟨P', D', a', s', Ev.step (fun k => by rw [spec_l1Cur_curve.l0, if_neg h20]) h, r⟩
theorem cur_curve (l : List Int) (hl : Bytes8 l) (at_ s : Int) (h0 : 0 ≤ at_) (h1 : at_ < 100000) : ∃ P D a' s', Ev (fun k => spec_l1Cur_curve.f k l at_ s) (P, D, a', s') ∧ at_ ≤ a' ∧ a' ≤ at_ + 10 ∧ IsCurve P D := by
  obtain ⟨P, a2, s2, h4, h5, h6, h7⟩ := cur_among l hl at_ s [5, 7, 13, 17, 29, 37, 101, 197] (by decide) (by decide) (by omega) (by omega)
  obtain ⟨p, rfl, hp, hpi⟩ := primes_nine h7
  have m := prm hp
  have m1 := m.lo; have m2 := m.hi
  have hw1 : wrap64 ((p : Int) - 2) = (p : Int) - 2 := w64 (by omega) (by omega)
  obtain ⟨D, a3, s3, h8, h9, h10, h11, h12⟩ := cur_pick l hl a2 s2 ((p : Int) - 2) (by omega) (by omega) (by omega)
  have h12 := h12 (by omega)
  obtain ⟨P', D', a', s', h, r1, r2, r3⟩ := cur_curve_l0 l hl a3 s3 (by omega) (by omega) p hp h7 20 0 (2 + D) (by omega) (by omega) (by omega) (by omega)
  refine ⟨P', D', a', s', ?_, by omega, by omega, r3⟩
  unfold spec_l1Cur_curve.f
  simp only [h4, Option.bind_some, hw1, h8, w64 (n := 2 + D) (by omega) (by omega)]
  exact h

theorem beq_cast (a b : Nat) : ((a : Int) == (b : Int)) = (a == b) := by
  by_cases h : a = b
  · rw [h]; simp
  · rw [beq_eq_false_iff_ne.mpr h, beq_eq_false_iff_ne.mpr (by omega)]
theorem wrap_add (a b : Nat) (h : a + b ≤ 1000000000) : wrap64 ((a : Int) + (b : Int)) = ((a + b : Nat) : Int) := by rw [w64 (by omega) (by omega)]; omega
section
variable {p d : Nat}
theorem Good.lo (g : Good p d) : 5 ≤ p := g.prm.lo
theorem Good.hi (g : Good p d) : p ≤ 199 := g.prm.hi
theorem sq_lt {a b : Nat} (ha : a < p) (hb : b < p) (hp : p ≤ 199) : a * b ≤ 199 * 199 := Nat.mul_le_mul (by omega) (by omega)
theorem Good.on_eq (g : Good p d) {x y : Nat} (hx : x < p) (hy : y < p) : impl_onCurve.f (p : Int) (d : Int) (x : Int) (y : Int) = some (onN p d (x, y)) ∧ spec_l5On.f (p : Int) (d : Int) (x : Int) (y : Int) = some (onN p d (x, y)) := by
  have h1 := g.lo; have h2 := g.hi; have h3 := g.crv.dp
  have hp : 0 < p := by omega
  have hz : ¬ (p : Int) = 0 := by omega
  have hm : ∀ n : Nat, n % p < p := fun n => Nat.mod_lt n hp
  have s1 := sq_lt h3 (hm (x * x)) h2
  have s2 := sq_lt (hm (d * (x * x % p))) (hm (y * y)) h2
  have e : (Int.tmod (wrap64 ((Int.tmod (wrap64 ((x : Int) * (x : Int))) (p : Int)) + (Int.tmod (wrap64 ((y : Int) * (y : Int))) (p : Int)))) (p : Int) == Int.tmod (wrap64 (1 + (wrap64 ((Int.tmod (wrap64 ((d : Int) * (Int.tmod (wrap64 ((x : Int) * (x : Int))) (p : Int)))) (p : Int)) * (Int.tmod (wrap64 ((y : Int) * (y : Int))) (p : Int)))))) (p : Int)) = onN p d (x, y) := by
    rw [wrap_mul x x p hx hx (by omega), wrap_mul y y p hy hy (by omega), tmod_nat, tmod_nat, wrap_add _ _ (by have := hm (x * x); have := hm (y * y); omega), tmod_nat, wrap_mul d (x * x % p) p h3 (hm _) (by omega), tmod_nat, wrap_mul _ (y * y % p) p (hm _) (hm _) (by omega), show (1 : Int) = ((1 : Nat) : Int) from rfl, wrap_add _ _ (by omega), tmod_nat, beq_cast]
    rfl
  unfold impl_onCurve.f spec_l5On.f
  rw [if_neg hz]
  exact ⟨congrArg some e, congrArg some e⟩
theorem Good.hw (g : Good p d) : wrap64 ((p : Int) - 1) = (p : Int) - 1 := w64 (by have := g.lo; omega) (by have := g.hi; omega)
theorem Good.ptBad (g : Good p d) {a : Nat × Nat} (h : Pt p d a) : pt.bad (p : Int) (d : Int) (a.1 : Int) (a.2 : Int) = false := by
  have hx := h.x; have hy := h.y
  unfold pt.bad
  rw [g.hw, within_of, within_of, decide_eq_true (by omega), decide_eq_true (by omega), (g.on_eq hx hy).1, h.on]
  rfl
theorem Good.ptGood (g : Good p d) {a : Nat × Nat} (h : Pt p d a) : Ev (fun k => spec_l5Good.f k (p : Int) (d : Int) (a.1 : Int) (a.2 : Int)) true := by
  have hx := h.x; have hy := h.y
  unfold spec_l5Good.f spec_l5Point.f
  refine Ev.bind g.isS ?_
  simp only [if_true, g.hw, in_of, decide_eq_true (show (0 : Int) ≤ (a.1 : Int) ∧ (a.1 : Int) ≤ (p : Int) - 1 by omega), decide_eq_true (show (0 : Int) ≤ (a.2 : Int) ∧ (a.2 : Int) ≤ (p : Int) - 1 by omega), Option.bind_some, (g.on_eq hx hy).2, h.on]
  exact Ev.now _
/-- Any two numbers are a point, or both say that they are none. -/
theorem Good.pt_any (g : Good p d) (x y : Int) : (∃ a : Nat × Nat, x = (a.1 : Int) ∧ y = (a.2 : Int) ∧ Pt p d a) ∨ (pt.bad (p : Int) (d : Int) x y = true ∧ Ev (fun k => spec_l5Good.f k (p : Int) (d : Int) x y) false) := by
  by_cases hx : 0 ≤ x ∧ x ≤ (p : Int) - 1
  · by_cases hy : 0 ≤ y ∧ y ≤ (p : Int) - 1
    · obtain ⟨a, rfl⟩ : ∃ a : Nat, x = (a : Int) := ⟨x.toNat, by omega⟩
      obtain ⟨b, rfl⟩ : ∃ b : Nat, y = (b : Int) := ⟨y.toNat, by omega⟩
      have ha : a < p := by omega
      have hb : b < p := by omega
      cases ho : onN p d (a, b) with
      | true => exact .inl ⟨(a, b), rfl, rfl, ha, hb, ho⟩
      | false =>
        right
        refine ⟨?_, ?_⟩
        · unfold pt.bad
          rw [g.hw, within_of, within_of, decide_eq_true hx, decide_eq_true hy, (g.on_eq ha hb).1, ho]
          rfl
        · unfold spec_l5Good.f spec_l5Point.f
          refine Ev.bind g.isS ?_
          simp only [if_true, g.hw, in_of, decide_eq_true hx, decide_eq_true hy, Option.bind_some, (g.on_eq ha hb).2, ho]
          exact Ev.now _
    · right
      refine ⟨?_, ?_⟩
      · unfold pt.bad
        rw [g.hw, within_of, within_of, decide_eq_true hx, decide_eq_false hy]
        rfl
      · unfold spec_l5Good.f spec_l5Point.f
        refine Ev.bind g.isS ?_
        simp only [if_true, g.hw, in_of, decide_eq_true hx, decide_eq_false hy, Option.bind_some, Bool.false_eq_true, if_false]
        exact Ev.now _
  · right
    refine ⟨?_, ?_⟩
    · unfold pt.bad
      rw [g.hw, within_of, decide_eq_false hx]
      rfl
    · unfold spec_l5Good.f spec_l5Point.f
      refine Ev.bind g.isS ?_
      simp only [if_true, g.hw, in_of, decide_eq_false hx, Option.bind_some, Bool.false_eq_true, if_false]
      exact Ev.now _
theorem Good.are (g : Good p d) (l : List S40) (hl : l ≠ []) : Ev (fun k => impl_arePoints.f k (p : Int) (d : Int) l) (!(l.any fun x => pt.bad (p : Int) (d : Int) x.f0 x.f1)) := by
  have h1 := g.lo
  unfold impl_arePoints.f
  have hz : ¬ l.length = 0 := fun h => hl (List.length_eq_zero_iff.1 h)
  have hp : ¬ (p : Int) = 0 := by omega
  simp only [hz, if_false]
  refine Ev.bind g.isI ?_
  rw [if_pos rfl, if_neg hp]
  exact Ev.now _
theorem Bad.are {P D : Int} (b : Bad P D) (l : List S40) (hl : l ≠ []) : Ev (fun k => impl_arePoints.f k P D l) false := by
  unfold impl_arePoints.f
  have hz : ¬ l.length = 0 := fun h => hl (List.length_eq_zero_iff.1 h)
  simp only [hz, if_false]
  refine Ev.bind b.isI ?_
  rw [if_neg (by decide)]
  exact Ev.now _
theorem Bad.good {P D : Int} (b : Bad P D) (x y : Int) : Ev (fun k => spec_l5Good.f k P D x y) false := by
  unfold spec_l5Good.f
  refine Ev.bind b.isS ?_
  rw [if_neg (by decide)]
  exact Ev.now _
/-! Sums. -/
theorem em_eq (n : Int) (p : Nat) (hp : 0 < p) (hp2 : p ≤ 199) (h : ∃ r : Nat, (r : Int) % (p : Int) = n % (p : Int)) : ∃ e : Nat, e < p ∧ Int.tmod (wrap64 (Int.tmod n (p : Int) + (p : Int))) (p : Int) = (e : Int) ∧ ∀ r : Nat, (r : Int) % (p : Int) = n % (p : Int) → e = r % p := by
  have h1 : -(p : Int) < Int.tmod n (p : Int) := by
    have := Int.lt_tmod_of_pos n (show (0 : Int) < (p : Int) by omega)
    omega
  have h2 : Int.tmod n (p : Int) < (p : Int) := Int.tmod_lt_of_pos n (by omega)
  have h3 : (Int.tmod n (p : Int) + (p : Int)) % (p : Int) = n % (p : Int) := by
    rw [Int.add_emod_right, Int.tmod_def, Int.sub_mul_emod_self_left]
  rw [w64 (by omega) (by omega), Int.tmod_eq_emod_of_nonneg (by omega), h3]
  have h4 := Int.emod_nonneg n (show (p : Int) ≠ 0 by omega)
  have h5 := Int.emod_lt_of_pos n (show (0 : Int) < (p : Int) by omega)
  refine ⟨(n % (p : Int)).toNat, by omega, by omega, fun r hr => ?_⟩
  rw [← hr]
  have := Int.natCast_emod r p
  omega
theorem over_ev (m : Prm p) (num den : Int) (rn rd : Nat) (hn : (rn : Int) % (p : Int) = num % (p : Int)) (hd : (rd : Int) % (p : Int) = den % (p : Int)) : Ev (fun k => over.f k (p : Int) num den) ((rn % p * ((rd % p) ^ (p - 2) % p) % p : Nat) : Int) := by
  have h1 := m.lo; have h2 := m.hi
  obtain ⟨e1, l1, q1, f1⟩ := em_eq num p (by omega) h2 ⟨rn, hn⟩
  obtain ⟨e2, l2, q2, f2⟩ := em_eq den p (by omega) h2 ⟨rd, hd⟩
  have hw : wrap64 ((p : Int) - 2) = ((p - 2 : Nat) : Int) := by rw [w64 (by omega) (by omega)]; omega
  unfold over.f
  rw [q1, q2, hw, ← f1 rn hn, ← f2 rd hd]
  refine Ev.bind (m.power l2 (by omega)).2 ?_
  rw [wrap_mul e1 _ p l1 (Nat.mod_lt _ (by omega)) (by omega), tmod_nat]
  exact Ev.now _
theorem sub_mod (A B p : Nat) (hp : 0 < p) : ((A % p + p - B % p : Nat) : Int) % (p : Int) = ((A : Int) - (B : Int)) % (p : Int) := by
  have hB := Nat.mod_lt B hp
  have e : ((A % p + p - B % p : Nat) : Int) = ((A : Int) - (B : Int)) + (p : Int) * (1 - (A : Int) / p + (B : Int) / p) := by
    have h1 := Int.natCast_emod A p
    have h2 := Int.natCast_emod B p
    have h3 := Int.mul_ediv_add_emod (A : Int) p
    have h4 := Int.mul_ediv_add_emod (B : Int) p
    rw [Int.ofNat_sub (by omega), Int.natCast_add, h1, h2]
    grind
  rw [e, Int.add_mul_emod_self_left]
theorem ap_m (g : Good p d) {a b : Nat × Nat} (ha : a.1 < p ∧ a.2 < p) (hb : b.1 < p ∧ b.2 < p) : ap.m (p : Int) (d : Int) (a.1 : Int) (a.2 : Int) (b.1 : Int) (b.2 : Int) = (mN p d a b : Int) := by
  have h1 := g.lo; have h2 := g.hi; have h3 := g.crv.dp
  have hm : ∀ n : Nat, n % p < p := fun n => Nat.mod_lt n (by omega)
  unfold ap.m mN
  rw [wrap_mul d a.1 p h3 ha.1 (by omega), tmod_nat, wrap_mul _ b.1 p (hm _) hb.1 (by omega), tmod_nat, wrap_mul _ a.2 p (hm _) ha.2 (by omega), tmod_nat, wrap_mul _ b.2 p (hm _) hb.2 (by omega), tmod_nat]
theorem Good.addI (g : Good p d) {a b : Nat × Nat} (ha : a.1 < p ∧ a.2 < p) (hb : b.1 < p ∧ b.2 < p) : Ev (fun k => impl_addPoints.f k (p : Int) (d : Int) (a.1 : Int) (a.2 : Int) (b.1 : Int) (b.2 : Int)) (((addN p d a b).1 : Int), ((addN p d a b).2 : Int)) := by
  have h1 := g.lo; have h2 := g.hi
  have hp : 0 < p := by omega
  have hm : mN p d a b < p := Nat.mod_lt _ hp
  unfold impl_addPoints.f ap.f
  have w1 := sq_lt ha.1 hb.2 h2
  have w2 := sq_lt ha.2 hb.1 h2
  have w3 := sq_lt ha.2 hb.2 h2
  have w4 := sq_lt ha.1 hb.1 h2
  have hz : ¬ (p : Int) = 0 := by omega
  simp only [hz, if_false]
  rw [ap_m g ha hb, wrap_mul a.1 b.2 p ha.1 hb.2 (by omega), wrap_mul a.2 b.1 p ha.2 hb.1 (by omega), wrap_mul a.2 b.2 p ha.2 hb.2 (by omega), wrap_mul a.1 b.1 p ha.1 hb.1 (by omega), wrap_add _ _ (by omega), w64 (n := ((a.2 * b.2 : Nat) : Int) - ((a.1 * b.1 : Nat) : Int)) (by omega) (by omega), w64 (n := 1 + (mN p d a b : Int)) (by omega) (by omega), w64 (n := 1 - (mN p d a b : Int)) (by omega) (by omega)]
  refine Ev.bind (over_ev g.prm _ _ (a.1 * b.2 + a.2 * b.1) (1 + mN p d a b) rfl (by rw [Int.natCast_add]; rfl)) (Ev.bind (over_ev g.prm _ _ (a.2 * b.2 % p + p - a.1 * b.1 % p) (1 + p - mN p d a b) (sub_mod _ _ p hp) ?_) ?_)
  · have := sub_mod 1 (mN p d a b) p hp
    rw [Nat.mod_eq_of_lt (show 1 < p by omega), Nat.mod_eq_of_lt hm] at this
    exact this
  · exact Ev.now _
theorem inverse_ev (m : Prm p) {a : Nat} (ha : a < p) : Ev (fun k => spec_l4Inverse.f k (a : Int) (p : Int)) ((a ^ (p - 2) % p : Nat) : Int) := by
  have h1 := m.lo; have h2 := m.hi
  unfold spec_l4Inverse.f
  rw [show wrap64 ((p : Int) - 2) = ((p - 2 : Nat) : Int) by rw [w64 (by omega) (by omega)]; omega]
  exact Ev.bind (m.power ha (by omega)).1 (Ev.now _)
theorem addS_aux {m A B p : Nat} (hp : p ≤ 199) (hm : m < p) (hA : A < p) (hB : B < p) : wrap64 (1 + (m : Int)) = ((1 + m : Nat) : Int) ∧ wrap64 (wrap64 (1 + (p : Int)) - (m : Int)) = ((1 + p - m : Nat) : Int) ∧ wrap64 (((A + p : Nat) : Int) - (B : Int)) = ((A + p - B : Nat) : Int) := by
  refine ⟨?_, ?_, ?_⟩
  · rw [w64 (by omega) (by omega)]; omega
  · rw [w64 (n := 1 + (p : Int)) (by omega) (by omega), w64 (by omega) (by omega)]; omega
  · rw [w64 (by omega) (by omega)]; omega
theorem Good.addS (g : Good p d) {a b : Nat × Nat} (ha : a.1 < p ∧ a.2 < p) (hb : b.1 < p ∧ b.2 < p) : Ev (fun k => spec_l5Add.f k (p : Int) (d : Int) (a.1 : Int) (a.2 : Int) (b.1 : Int) (b.2 : Int)) (((addN p d a b).1 : Int), ((addN p d a b).2 : Int)) := by
  have h1 := g.lo; have h2 := g.hi
  have hp : 0 < p := by omega
  have hm : mN p d a b < p := Nat.mod_lt _ hp
  have h5 : p ≤ 100000 := by omega
  have hl : ∀ n : Nat, n % p < p := fun n => Nat.mod_lt n hp
  have w1 := sq_lt ha.1 hb.2 h2
  have w2 := sq_lt ha.2 hb.1 h2
  have hb1 := hl (a.1 * b.1)
  have hb2 := hl (a.2 * b.2)
  obtain ⟨k1, k2, k3⟩ := addS_aux h2 hm hb2 hb1
  have w5 : a.1 * b.2 + a.2 * b.1 ≤ 1000000000 := by omega
  have w6 : a.2 * b.2 % p + p ≤ 1000000000 := by omega
  have hz : ¬ (p : Int) = 0 := by omega
  have em := ap_m g ha hb
  unfold ap.m at em
  unfold spec_l5Add.f
  simp only [hz, if_false]
  rw [em, wrap_mul a.1 b.2 p ha.1 hb.2 h5, wrap_mul a.2 b.1 p ha.2 hb.1 h5, wrap_mul a.2 b.2 p ha.2 hb.2 h5, wrap_mul a.1 b.1 p ha.1 hb.1 h5, wrap_add _ _ w5, tmod_nat, tmod_nat, tmod_nat, wrap_add _ _ w6,
    k1, k2, k3, tmod_nat, tmod_nat, tmod_nat]
  refine Ev.bind (inverse_ev g.prm (hl _)) (Ev.bind (inverse_ev g.prm (hl _)) ?_)
  rw [wrap_mul _ _ p (hl _) (hl _) h5, tmod_nat, wrap_mul _ _ p (hl _) (hl _) h5, tmod_nat]
  exact Ev.now _
end

/-! The functions of the program, at a drawn curve. -/
section
variable {p d : Nat}
theorem Good.AddI (g : Good p d) {a b : Nat × Nat} (ha : Pt p d a) (hb : Pt p d b) : Ev (fun k => impl_AddPoints.f k (p : Int) (d : Int) (a.1 : Int) (a.2 : Int) (b.1 : Int) (b.2 : Int)) (((addN p d a b).1 : Int), ((addN p d a b).2 : Int), true) := by
  unfold impl_AddPoints.f
  refine Ev.bind (g.are _ (by simp)) ?_
  simp only [List.any_cons, List.any_nil, g.ptBad ha, g.ptBad hb, Bool.or_false, Bool.not_false, if_true]
  exact Ev.bind (g.addI ⟨ha.x, ha.y⟩ ⟨hb.x, hb.y⟩) (Ev.now _)
theorem Good.ZeroI (g : Good p d) : Ev (fun k => impl_ZeroPoint.f k (p : Int) (d : Int)) (0, 1, true) := by
  unfold impl_ZeroPoint.f
  refine Ev.bind g.isI ?_
  rw [if_pos rfl]; exact Ev.now _
theorem Crv.double [NeZero p] (c : Crv p d) {a : Nat × Nat} (ha : Pt p d a) (q : Nat) : mulN p d a (2 * q) = mulN p d (addN p d a a) q := by
  rw [c.mul_mul ha]
  congr 1
  show addN p d (mulN p d a 1) a = _
  rw [c.mul_one ha]
theorem Crv.twice [NeZero p] (c : Crv p d) {a s : Nat × Nat} (ha : Pt p d a) (hs : Pt p d s) (q : Nat) : addN p d s (mulN p d a (2 * q + 1)) = addN p d (addN p d s a) (mulN p d (addN p d a a) q) := by
  rw [Nat.add_comm, c.mul_add ha, c.mul_one ha, c.double ha, c.assoc hs ha (c.mul (c.add ha ha) q)]
theorem Good.timesI_l0 [NeZero p] (g : Good p d) (m : Nat) : ∀ (n : Nat) (a s : Nat × Nat), n < 2 ^ m → n ≤ 100000 → Pt p d a → Pt p d s → Ev (fun k => impl_TimesPoint.l0 k (n : Int) (p : Int) (d : Int) (a.1 : Int) (a.2 : Int) (s.1 : Int) (s.2 : Int)) (((addN p d s (mulN p d a n)).1 : Int), ((addN p d s (mulN p d a n)).2 : Int), true) := by
  have c := g.crv
  have zero : ∀ (a s : Nat × Nat), Pt p d s → Ev (fun k => impl_TimesPoint.l0 k ((0 : Nat) : Int) (p : Int) (d : Int) (a.1 : Int) (a.2 : Int) (s.1 : Int) (s.2 : Int)) (((addN p d s (mulN p d a 0)).1 : Int), ((addN p d s (mulN p d a 0)).2 : Int), true) := by
    intro a s hs
    rw [show mulN p d a 0 = (0, 1) from rfl, c.add_zero hs]
    exact Ev.step (fun k => by rw [impl_TimesPoint.l0, if_neg (by omega)]) (Ev.now _)
  induction m with
  | zero =>
    intro n a s hn _ _ hs
    obtain rfl : n = 0 := by simpa using hn
    exact zero a s hs
  | succ m ih =>
    intro n a s hn h5 ha hs
    by_cases h0 : n = 0
    · subst h0; exact zero a s hs
    have h2 : n / 2 < 2 ^ m := by rw [Nat.pow_succ] at hn; omega
    have e3 : wrap64 (Int.tdiv (n : Int) 2) = ((n / 2 : Nat) : Int) := by rw [Int.tdiv_eq_ediv_of_nonneg (by omega), w64 (by omega) (by omega)]; omega
    have e4 : Int.tmod (n : Int) 2 = ((n % 2 : Nat) : Int) := tmod_nat n 2
    have haa := c.add ha ha
    by_cases ho : n % 2 = 1
    · have ih := ih (n / 2) _ _ h2 (by omega) haa (c.add hs ha)
      rw [← c.twice ha hs, show 2 * (n / 2) + 1 = n by omega] at ih
      refine Ev.step (fun k => by rw [impl_TimesPoint.l0, if_pos (by omega), e3, e4, if_pos (by omega)]) ?_
      exact Ev.bind (g.addI ⟨hs.x, hs.y⟩ ⟨ha.x, ha.y⟩) (Ev.bind (g.addI ⟨ha.x, ha.y⟩ ⟨ha.x, ha.y⟩) ih)
    · have ih := ih (n / 2) _ _ h2 (by omega) haa hs
      rw [← c.double ha, show 2 * (n / 2) = n by omega] at ih
      refine Ev.step (fun k => by rw [impl_TimesPoint.l0, if_pos (by omega), e3, e4, if_neg (by omega)]) ?_
      exact Ev.bind (g.addI ⟨ha.x, ha.y⟩ ⟨ha.x, ha.y⟩) ih
theorem Good.TimesI [NeZero p] (g : Good p d) {a : Nat × Nat} (ha : Pt p d a) {n : Nat} (hn : n ≤ 100000) : Ev (fun k => impl_TimesPoint.f k (p : Int) (d : Int) (n : Int) (a.1 : Int) (a.2 : Int)) (((mulN p d a n).1 : Int), ((mulN p d a n).2 : Int), true) := by
  have h := g.timesI_l0 17 n a (0, 1) (by omega) hn ha g.crv.zero
  rw [g.crv.zero_add (g.crv.mul ha n)] at h
  unfold impl_TimesPoint.f
  refine Ev.bind (g.are _ (by simp)) ?_
  simp only [List.any_cons, List.any_nil, g.ptBad ha, Bool.or_false, Bool.not_false, if_true, within_of, decide_eq_true (show (0 : Int) ≤ (n : Int) ∧ (n : Int) ≤ 100000 by omega), Option.bind_some, Bool.not_true]
  exact Ev.step (fun k => by rw [impl_TimesPoint.j0, if_neg (by simp)]; rfl) h
/-! The drawn points. -/
theorem Good.shortS_l0 (g : Good p d) (n : Nat) (hn : n / 2 < p) (m : Nat) : ∀ x : Nat, x + m = p → ∃ r, Ev (fun k => spec_OfShort.l0 k (n : Int) (x : Int) (p : Int) (d : Int)) r := by
  have h1 := g.lo; have h2 := g.hi
  have e3 : n < 1000 → wrap64 (Int.tdiv (n : Int) 2) = ((n / 2 : Nat) : Int) := fun h => by rw [Int.tdiv_eq_ediv_of_nonneg (by omega), w64 (by omega) (by omega)]; omega
  have e3 := e3 (by omega)
  induction m with
  | zero =>
    intro x hx
    exact ⟨_, Ev.step (fun k => by rw [spec_OfShort.l0, if_neg (by omega)]) (Ev.now _)⟩
  | succ m ih =>
    intro x hx
    obtain ⟨r, hr⟩ := ih (x + 1) (by omega)
    have e1 : wrap64 ((x : Int) + 1) = ((x + 1 : Nat) : Int) := by rw [w64 (by omega) (by omega)]; omega
    have ho := (g.on_eq (show x < p by omega) hn).2
    cases hb : onN p d (x, n / 2) with
    | false =>
      refine ⟨r, Ev.step (fun k => by rw [spec_OfShort.l0, if_pos (by omega), e3, ho, hb, e1, Option.bind_some, if_neg (by decide)]) hr⟩
    | true =>
      by_cases hq : wrap64 (wrap64 (2 * ((n / 2 : Nat) : Int)) + Int.tmod (x : Int) 2) = (n : Int)
      · exact ⟨_, Ev.step (fun k => by rw [spec_OfShort.l0, if_pos (by omega), e3, ho, hb, e1, Option.bind_some, if_pos rfl, spec_l5Short.f, Option.bind_some, if_pos hq]) (Ev.now _)⟩
      · exact ⟨r, Ev.step (fun k => by rw [spec_OfShort.l0, if_pos (by omega), e3, ho, hb, e1, Option.bind_some, if_pos rfl, spec_l5Short.f, Option.bind_some, if_neg hq]) hr⟩
theorem Good.shortS (g : Good p d) (n : Nat) (hn : n < 2 * p) : ∃ r, Ev (fun k => spec_OfShort.f k (p : Int) (d : Int) (n : Int)) r := by
  have h1 := g.lo; have h2 := g.hi
  obtain ⟨r, hr⟩ := g.shortS_l0 n (by omega) p 0 (by omega)
  refine ⟨r, ?_⟩
  unfold spec_OfShort.f
  refine Ev.bind g.isS ?_
  simp only [if_true, in_of, w64 (n := 2 * (p : Int)) (by omega) (by omega), w64 (n := 2 * (p : Int) - 1) (by omega) (by omega), decide_eq_true (show (0 : Int) ≤ (n : Int) ∧ (n : Int) ≤ 2 * (p : Int) - 1 by omega), Option.bind_some, Bool.not_true]
  exact Ev.step (fun k => by rw [spec_OfShort.j0, if_neg (by simp)]; rfl) hr
theorem Good.point_l0 (g : Good p d) (l : List Int) (at_ s : Int) (from_ : Nat) (hf : from_ < 2 * p) (m : Nat) : ∀ i : Nat, i + m = 2 * p → ∃ x y, Ev (fun k => spec_l1Cur_point.l0 k (from_ : Int) (i : Int) l at_ s (p : Int) (d : Int)) (x, y, at_, s) := by
  have h1 := g.lo; have h2 := g.hi
  have e2 : wrap64 (2 * (p : Int)) = ((2 * p : Nat) : Int) := by rw [w64 (by omega) (by omega)]; omega
  induction m with
  | zero =>
    intro i hi
    exact ⟨0, 1, Ev.step (fun k => by rw [spec_l1Cur_point.l0, e2, if_neg (by omega)]) (Ev.now _)⟩
  | succ m ih =>
    intro i hi
    obtain ⟨x, y, hr⟩ := ih (i + 1) (by omega)
    have e1 : wrap64 ((i : Int) + 1) = ((i + 1 : Nat) : Int) := by rw [w64 (by omega) (by omega)]; omega
    have e4 : Int.tmod (wrap64 ((from_ : Int) + (i : Int))) ((2 * p : Nat) : Int) = (((from_ + i) % (2 * p) : Nat) : Int) := by rw [wrap_add _ _ (by omega), tmod_nat]
    obtain ⟨⟨q1, q2, b⟩, hq⟩ := g.shortS ((from_ + i) % (2 * p)) (Nat.mod_lt _ (by omega))
    cases b with
    | true => exact ⟨q1, q2, Ev.step (fun k => by rw [spec_l1Cur_point.l0, e2, if_pos (by omega), if_neg (by omega), e4]) (Ev.bind hq (Ev.now _))⟩
    | false => exact ⟨x, y, Ev.step (fun k => by rw [spec_l1Cur_point.l0, e2, if_pos (by omega), if_neg (by omega), e4, e1]) (Ev.bind hq hr)⟩
end
theorem cur_point (l : List Int) (hl : Bytes8 l) (at_ s : Int) (h0 : 0 ≤ at_) (h1 : at_ < 100000) (P D : Int) (hc : IsCurve P D) : ∃ x y a' s', Ev (fun k => spec_l1Cur_point.f k l at_ s P D) (x, y, a', s') ∧ at_ ≤ a' ∧ a' ≤ at_ + 10 := by
  have small : ∀ at_ s : Int, 0 ≤ at_ → at_ < 200000 → ∃ x y a' s', Ev (fun k => spec_l1Cur_point.j0 k true l at_ s P D) (x, y, a', s') ∧ at_ ≤ a' ∧ a' ≤ at_ + 6 := by
    intro at_ s h0 h1
    obtain ⟨x, a1, s1, h2, h3, h4, _⟩ := cur_pick l hl at_ s 9 h0 (by omega) (by omega)
    obtain ⟨y, a2, s2, h5, h6, h7, _⟩ := cur_pick l hl a1 s1 9 (by omega) (by omega) (by omega)
    exact ⟨_, y, a2, s2, Ev.step (fun k => by rw [spec_l1Cur_point.j0, if_pos rfl, h2, Option.bind_some, h5, Option.bind_some]) (Ev.now _), by omega, by omega⟩
  unfold spec_l1Cur_point.f
  rcases hc with ⟨p, d, rfl, rfl, _, g⟩ | ⟨_, b⟩
  · obtain ⟨b, a1, s1, h2, h3, h4⟩ := cur_one l hl at_ s 20 h0 (by omega) (by omega)
    cases b with
    | true =>
      obtain ⟨x, y, a', s', h5, h6, h7⟩ := small a1 s1 (by omega) (by omega)
      refine ⟨x, y, a', s', Ev.bind g.isS ?_, by omega, by omega⟩
      simp only [if_true, h2, Option.bind_some]
      exact h5
    | false =>
      have k1 := g.lo; have k2 := g.hi
      have e2 : wrap64 (2 * (p : Int)) = 2 * (p : Int) := w64 (by omega) (by omega)
      obtain ⟨f, a2, s2, h5, h6, h7, h8, h9⟩ := cur_pick l hl a1 s1 (2 * (p : Int)) (by omega) (by omega) (by omega)
      obtain ⟨n, rfl⟩ : ∃ n : Nat, f = (n : Int) := ⟨f.toNat, by omega⟩
      obtain ⟨x, y, hr⟩ := g.point_l0 l a2 s2 n (by have := h9 (by omega); omega) (2 * p) 0 (by omega)
      refine ⟨x, y, a2, s2, Ev.bind g.isS ?_, by omega, by omega⟩
      simp only [if_true, h2, Option.bind_some]
      exact Ev.step (fun k => by rw [spec_l1Cur_point.j0, if_neg (by simp), e2, h5, Option.bind_some]; rfl) hr
  · obtain ⟨x, y, a', s', h5, h6, h7⟩ := small at_ s h0 (by omega)
    refine ⟨x, y, a', s', Ev.bind b.isS ?_, by omega, by omega⟩
    simp only [Bool.false_eq_true, if_false]
    exact h5

/-! Lagrange: the number of points times a point is zero. -/
section
variable {p d : Nat} [NeZero p]
def ptsAt (p d x : Nat) : List (Nat × Nat) := ((List.range p).map (fun y => (x, y))).filter (fun a => onN p d a)
def pts (p d : Nat) : List (Nat × Nat) := (List.range p).flatMap (ptsAt p d)
omit [NeZero p] in
theorem mem_ptsAt {x : Nat} {a : Nat × Nat} : a ∈ ptsAt p d x ↔ a.1 = x ∧ a.2 < p ∧ onN p d a = true := by
  unfold ptsAt
  rw [List.mem_filter, List.mem_map]
  constructor
  · rintro ⟨⟨y, hy, rfl⟩, h⟩; exact ⟨rfl, List.mem_range.1 hy, h⟩
  · rintro ⟨h1, h2, h3⟩; exact ⟨⟨a.2, List.mem_range.2 h2, by rw [← h1]⟩, h3⟩
omit [NeZero p] in
theorem mem_pts {a : Nat × Nat} : a ∈ pts p d ↔ Pt p d a := by
  unfold pts
  rw [List.mem_flatMap]
  constructor
  · rintro ⟨x, hx, h⟩
    obtain ⟨h1, h2, h3⟩ := mem_ptsAt.1 h
    exact ⟨by rw [h1]; exact List.mem_range.1 hx, h2, h3⟩
  · rintro ⟨h1, h2, h3⟩
    exact ⟨a.1, List.mem_range.2 h1, mem_ptsAt.2 ⟨rfl, h2, h3⟩⟩
omit [NeZero p] in
theorem nodup_pts : (pts p d).Nodup := by
  unfold pts
  rw [List.Nodup, List.pairwise_flatMap]
  refine ⟨fun x _ => ?_, ?_⟩
  · unfold ptsAt
    refine List.Pairwise.filter _ ?_
    rw [List.pairwise_map]
    exact List.Pairwise.imp (fun h e => h (Prod.mk.inj e).2) List.nodup_range
  · refine List.Pairwise.imp ?_ List.nodup_range
    intro x1 x2 hne a ha b hb e
    subst e
    exact hne ((mem_ptsAt.1 ha).1.symm.trans (mem_ptsAt.1 hb).1)
def sumN (p d : Nat) : List (Nat × Nat) → Nat × Nat
  | [] => (0, 1)
  | a :: l => addN p d a (sumN p d l)
theorem Crv.sum (c : Crv p d) : ∀ l : List (Nat × Nat), (∀ a ∈ l, Pt p d a) → Pt p d (sumN p d l)
  | [], _ => c.zero
  | a :: l, h => c.add (h a (by simp)) (c.sum l fun b hb => h b (by simp [hb]))
theorem Crv.sum_perm (c : Crv p d) {l l' : List (Nat × Nat)} (hp : l.Perm l') : (∀ a ∈ l, Pt p d a) → sumN p d l = sumN p d l' := by
  induction hp with
  | nil => intro _; rfl
  | cons a _ ih => intro h; rw [sumN, sumN, ih fun b hb => h b (by simp [hb])]
  | swap a b l =>
    intro h
    have ha := h a (by simp)
    have hb := h b (by simp)
    have hl := c.sum l fun e he => h e (by simp [he])
    simp only [sumN]
    rw [← c.assoc hb ha hl, c.comm hb ha, c.assoc ha hb hl]
  | trans h1 _ i1 i2 => intro h; rw [i1 h, i2 fun a ha => h a (h1.mem_iff.2 ha)]
theorem Crv.sum_map (c : Crv p d) {a : Nat × Nat} (ha : Pt p d a) : ∀ l : List (Nat × Nat), (∀ b ∈ l, Pt p d b) → sumN p d (l.map (addN p d a)) = addN p d (mulN p d a l.length) (sumN p d l)
  | [], _ => (c.add_zero c.zero).symm
  | b :: l, h => by
    have hb := h b (by simp)
    have hs := c.sum l fun e he => h e (by simp [he])
    have hm := c.mul ha l.length
    rw [List.map_cons, sumN, c.sum_map ha l fun e he => h e (by simp [he]), List.length_cons, sumN, mulN]
    rw [c.assoc hm ha (c.add hb hs), c.assoc ha hb (c.add hm hs), ← c.assoc hb hm hs, c.comm hb hm, c.assoc hm hb hs, ← c.assoc ha hm (c.add hb hs), c.comm ha hm, c.assoc hm ha (c.add hb hs)]
theorem Crv.cancel (c : Crv p d) {a b e : Nat × Nat} (ha : Pt p d a) (hb : Pt p d b) (he : Pt p d e) (h : addN p d a b = addN p d a e) : b = e := by
  have hn := c.neg ha
  have k : ∀ {x}, Pt p d x → addN p d (negN p a) (addN p d a x) = x := fun hx => by
    rw [← c.assoc hn ha hx, c.comm hn ha, c.add_neg ha, c.zero_add hx]
  rw [← k hb, h, k he]
theorem Crv.translate (c : Crv p d) {a : Nat × Nat} (ha : Pt p d a) : ((pts p d).map (addN p d a)).Perm (pts p d) := by
  refine (List.perm_ext_iff_of_nodup ?_ nodup_pts).2 fun b => ?_
  · rw [List.Nodup, List.pairwise_map]
    refine List.Pairwise.imp_of_mem ?_ nodup_pts
    intro x y hx hy hne e
    exact hne (c.cancel ha (mem_pts.1 hx) (mem_pts.1 hy) e)
  · rw [List.mem_map, mem_pts]
    constructor
    · rintro ⟨x, hx, rfl⟩; exact c.add ha (mem_pts.1 hx)
    · intro hb
      have hn := c.neg ha
      refine ⟨addN p d (negN p a) b, mem_pts.2 (c.add hn hb), ?_⟩
      rw [← c.assoc ha hn hb, c.add_neg ha, c.zero_add hb]
/-- The number of points times a point. -/
theorem Crv.lagrange (c : Crv p d) {a : Nat × Nat} (ha : Pt p d a) : mulN p d a (pts p d).length = (0, 1) := by
  have hm : ∀ b ∈ pts p d, Pt p d b := fun b hb => mem_pts.1 hb
  have hs := c.sum (pts p d) hm
  have h1 := c.sum_map ha (pts p d) hm
  have h2 := c.sum_perm (c.translate ha) fun b hb => mem_pts.1 ((c.translate ha).mem_iff.1 hb)
  rw [h2] at h1
  have hk := c.mul ha (pts p d).length
  refine c.cancel hs hk c.zero ?_
  rw [c.add_zero hs, c.comm hs hk]
  exact h1.symm
omit [NeZero p] in
theorem pts_pos [NeZero p] (c : Crv p d) : 0 < (pts p d).length := List.length_pos_of_mem (mem_pts.2 c.zero)
/-- The order of a point. -/
theorem Crv.order (c : Crv p d) {a : Nat × Nat} (ha : Pt p d a) : ∃ o, 0 < o ∧ o ≤ (pts p d).length ∧ mulN p d a o = (0, 1) ∧ (∀ k, 0 < k → k < o → mulN p d a k ≠ (0, 1)) ∧ (pts p d).length % o = 0 := by
  have hf := c.lagrange ha
  have hex : ∀ n, 0 < n → mulN p d a n = (0, 1) → ∃ o, 0 < o ∧ o ≤ n ∧ mulN p d a o = (0, 1) ∧ ∀ k, 0 < k → k < o → mulN p d a k ≠ (0, 1) := by
    intro n
    induction n using Nat.strongRecOn with
    | _ n ih =>
      intro hn he
      by_cases hk : ∃ k, 0 < k ∧ k < n ∧ mulN p d a k = (0, 1)
      · obtain ⟨k, h2, h3, h4⟩ := hk
        obtain ⟨o, h5, h6, h7⟩ := ih k h3 h2 h4
        exact ⟨o, h5, by omega, h7⟩
      · exact ⟨n, hn, Nat.le_refl _, he, fun k h2 h3 h4 => hk ⟨k, h2, h3, h4⟩⟩
  obtain ⟨o, ho, hle, he, hmin⟩ := hex _ (pts_pos c) hf
  have hz : ∀ n, mulN p d (0, 1) n = (0, 1) := fun n => by
    induction n with
    | zero => rfl
    | succ n ih => rw [mulN, ih]; exact c.add_zero c.zero
  refine ⟨o, ho, hle, he, hmin, ?_⟩
  rcases Nat.eq_zero_or_pos ((pts p d).length % o) with h | h
  · exact h
  · exfalso
    refine hmin _ h (Nat.mod_lt _ ho) ?_
    have e := hf
    rw [← Nat.mod_add_div (pts p d).length o, c.mul_add ha, c.mul_mul ha, he, hz, c.add_zero (c.mul ha _)] at e
    exact e
end

/-! How many points there are. -/
def mask (p : Nat) : Nat → Nat
  | 0 => 0
  | n + 1 => mask p n ||| (1 <<< (n * n % p))
def roots (m w : Nat) : Nat := if w = 0 then 1 else if m.testBit w then 2 else 0
def side (p d x : Nat) : Nat := (1 + p - x * x % p) * (1 + p - d * (x * x % p) % p) % p
def total (p m d : Nat) : Nat → Nat
  | 0 => 0
  | n + 1 => total p m d n + roots m (side p d n)
def near (p n : Nat) : Bool := Nat.ble ((n - (p + 1)) * (n - (p + 1)) + ((p + 1) - n) * ((p + 1) - n)) (4 * p) && n % 4 == 0
def allNear (p m : Nat) : Nat → Bool
  | 0 => true
  | d + 1 => allNear p m d && (m.testBit d || d == 0 || near p (total p m d p))
def countSq (p w : Nat) : Nat → Nat
  | 0 => 0
  | n + 1 => countSq p w n + (if n * n % p = w then 1 else 0)
def rootsOk (p m : Nat) : Nat → Bool
  | 0 => true
  | w + 1 => rootsOk p m w && countSq p w p == roots m w
section
variable {p d : Nat} [NeZero p]
omit [NeZero p] in
theorem countSq_eq (w : Nat) : ∀ n, countSq p w n = (List.range n).countP (fun z => z * z % p == w)
  | 0 => rfl
  | n + 1 => by
    rw [List.range_succ, List.countP_append, countSq, countSq_eq w n]
    by_cases h : n * n % p = w
    · rw [if_pos h]; simp [h]
    · rw [if_neg h]; simp [h]
omit [NeZero p] in
theorem rootsOk_at {m : Nat} : ∀ n, rootsOk p m n = true → ∀ w, w < n → countSq p w p = roots m w
  | 0, _, w, h => absurd h (Nat.not_lt_zero w)
  | n + 1, h, w, hw => by
    rw [rootsOk, Bool.and_eq_true, beq_iff_eq] at h
    rcases Nat.lt_or_eq_of_le (Nat.le_of_lt_succ hw) with h1 | h1
    · exact rootsOk_at n h.1 w h1
    · rw [h1]; exact h.2
theorem Crv.u_ne (c : Crv p d) (x : Fin p) : 1 - F p d * (x * x) ≠ 0 := by
  intro h
  have h1 : x * x ≠ 0 := by
    intro e
    rw [e] at h
    exact c.fld.one_ne (by grind)
  have := c.fld.sq c.hd (u := 1) (v := x) (by grind)
  rw [this] at h1
  exact h1 (by grind)
theorem Crv.count_at (c : Crv p d) (x : Nat) (hx : x < p) : (ptsAt p d x).length = countSq p (side p d x) p := by
  have hp := c.p0
  rw [countSq_eq]
  unfold ptsAt
  rw [← List.countP_eq_length_filter, List.countP_map]
  obtain ⟨u, hu⟩ : ∃ u : Fin p, u = 1 - F p d * (F p x * F p x) := ⟨_, rfl⟩
  have hne : u ≠ 0 := by rw [hu]; exact c.u_ne _
  have hperm : ((List.range p).map (fun y => y * u.val % p)).Perm (List.range p) := by
    refine (List.perm_ext_iff_of_nodup ?_ List.nodup_range).2 fun b => ?_
    · rw [List.Nodup, List.pairwise_map]
      refine List.Pairwise.imp_of_mem ?_ List.nodup_range
      intro a b ha hb hne2 e
      refine hne2 (F_inj (List.mem_range.1 ha) (List.mem_range.1 hb) ?_)
      have e1 : F p a * u = F p b * u := by
        have := (F_eq (p := p) (a := a * u.val) (b := b * u.val)).2 e
        rw [F_mul, F_mul, F_of] at this
        exact this
      have := c.fld.cancel hne (b := F p a - F p b) (by grind)
      grind
    · rw [List.mem_map, List.mem_range]
      constructor
      · rintro ⟨y, _, rfl⟩; exact Nat.mod_lt _ hp
      · intro hb
        refine ⟨(F p b * c.fld.inv u).val, List.mem_range.2 (F p b * c.fld.inv u).isLt, ?_⟩
        have := c.fld.mi u hne
        have e : F p ((F p b * c.fld.inv u).val * u.val) = F p b := by
          rw [F_mul, F_of, F_of]; grind
        rw [F_eq, Nat.mod_eq_of_lt hb] at e
        exact e
  refine Eq.trans ?_ (hperm.countP_eq _)
  rw [List.countP_map]
  refine List.countP_congr fun y hy => ?_
  show onN p d (x, y) = true ↔ (y * u.val % p * (y * u.val % p) % p == side p d x) = true
  rw [onN_iff, beq_iff_eq]
  have hs : F p (side p d x) = u * (1 - F p x * F p x) := by
    unfold side
    rw [F_mod, F_mul, F_sub _ _ (by have := Nat.mod_lt (x * x) hp; omega), F_sub _ _ (by have := Nat.mod_lt (d * (x * x % p)) hp; omega), F_add, F_p, F_mod, F_mul, F_mod, F_mul, F_mod, F_mul, F_one, hu]
    grind
  have hlt : side p d x < p := Nat.mod_lt _ hp
  have key : (y * u.val % p * (y * u.val % p) % p = side p d x) ↔ (F p y * u) * (F p y * u) = u * (1 - F p x * F p x) := by
    have e : F p (y * u.val % p * (y * u.val % p)) = (F p y * u) * (F p y * u) := by rw [F_mul, F_mod, F_mul, F_of]
    rw [← e, ← hs, F_eq, Nat.mod_eq_of_lt hlt]
  rw [key]
  constructor
  · intro h
    have := h.eq
    rw [hu]
    dsimp only at this
    clear hs key hperm hne hu
    grind
  · intro h
    have := c.fld.cancel hne (b := F p y * F p y * u - (1 - F p x * F p x)) (by clear hs key hperm hne hu; grind)
    refine ⟨?_⟩
    dsimp only
    rw [hu] at this
    clear hs key hperm hne hu h
    grind
theorem Crv.count (c : Crv p d) {m : Nat} (hm : rootsOk p m p = true) : ∀ n, n ≤ p → ((List.range n).map (fun x => (ptsAt p d x).length)).sum = total p m d n
  | 0, _ => rfl
  | n + 1, h => by
    rw [List.range_succ, List.map_append, List.sum_append, c.count hm n (by omega), total, List.map_singleton, List.sum_singleton, c.count_at n (by omega), rootsOk_at p hm (side p d n) (Nat.mod_lt _ c.p0)]
theorem Crv.length (c : Crv p d) {m : Nat} (hm : rootsOk p m p = true) : (pts p d).length = total p m d p := by
  unfold pts
  rw [List.length_flatMap]
  exact c.count hm p (Nat.le_refl p)
omit [NeZero p] in
theorem allNear_at {m : Nat} : ∀ n, allNear p m n = true → ∀ d, d < n → d ≠ 0 → m.testBit d = false → near p (total p m d p) = true
  | 0, _, w, h, _, _ => absurd h (Nat.not_lt_zero w)
  | n + 1, h, d, hd, h0, hb => by
    rw [allNear, Bool.and_eq_true] at h
    rcases Nat.lt_or_eq_of_le (Nat.le_of_lt_succ hd) with h1 | h1
    · exact allNear_at n h.1 d h1 h0 hb
    · subst h1
      have := h.2
      rw [hb] at this
      simpa [h0] using this
omit [NeZero p] in
theorem mask_bit {a : Nat} : ∀ n, (mask p n).testBit a = true → ∃ z, z < n ∧ z * z % p = a
  | 0, h => by simp [mask] at h
  | n + 1, h => by
    rw [mask, Nat.testBit_or, Bool.or_eq_true] at h
    rcases h with h | h
    · obtain ⟨z, h1, h2⟩ := mask_bit n h
      exact ⟨z, by omega, h2⟩
    · rw [Nat.one_shiftLeft, Nat.testBit_two_pow, decide_eq_true_eq] at h
      exact ⟨n, by omega, h⟩
/-- Hasse, for a prime whose numbers were looked through. -/
theorem Crv.hasse (c : Crv p d) (h1 : rootsOk p (mask p p) p = true) (h2 : allNear p (mask p p) p = true) : near p (pts p d).length = true := by
  rw [c.length h1]
  refine allNear_at p h2 d c.dp (by have := c.d2; omega) ?_
  cases h : (mask p p).testBit d with
  | false => rfl
  | true =>
    obtain ⟨z, _, hz⟩ := mask_bit p h
    exact absurd hz (c.nsq z)
end

/-! A point by its second number and the parity of its first one. -/
section
variable {p d : Nat} [NeZero p]
theorem Crv.short (c : Crv p d) {x x' y : Nat} (h : Pt p d (x, y)) (h' : Pt p d (x', y)) (hp : x % 2 = x' % 2) : x = x' := by
  have e1 := h.onF.eq
  have e2 := h'.onF.eq
  have hn := c.u_ne (F p y)
  dsimp only at e1 e2
  have k := c.fld.cancel hn (b := (F p x - F p x') * (F p x + F p x')) (by clear hn; grind)
  have hx : x < p := h.x
  have hx' : x' < p := h'.x
  rcases c.fld.zero k with k | k
  · exact F_inj hx hx' (by grind)
  · have e : F p (x + x') = F p 0 := by rw [F_add, F_zero]; exact k
    rw [F_eq, Nat.zero_mod] at e
    have ho := c.odd
    rcases Nat.lt_or_ge (x + x') p with h1 | h1
    · rw [Nat.mod_eq_of_lt h1] at e; omega
    · rw [Nat.mod_eq_sub_mod h1, Nat.mod_eq_of_lt (by omega)] at e; omega
end

theorem nine_ok {p : Nat} (h : p ∈ nine) : rootsOk p (mask p p) p = true ∧ allNear p (mask p p) p = true := by
  simp only [nine, List.mem_cons, List.not_mem_nil, or_false] at h
  rcases h with rfl | rfl | rfl | rfl | rfl | rfl | rfl | rfl | rfl
  · exact ⟨by decide +kernel, by decide +kernel⟩
  · exact ⟨by decide +kernel, by decide +kernel⟩
  · exact ⟨by decide +kernel, by decide +kernel⟩
  · exact ⟨by decide +kernel, by decide +kernel⟩
  · exact ⟨by decide +kernel, by decide +kernel⟩
  · exact ⟨by decide +kernel, by decide +kernel⟩
  · exact ⟨by decide +kernel, by decide +kernel⟩
  · exact ⟨by decide +kernel, by decide +kernel⟩
  · exact ⟨by decide +kernel, by decide +kernel⟩
section
variable {p d : Nat}
/-! Counting. -/
def rowN (p d x y : Nat) : Nat := (((List.range y).map (fun y => (x, y))).filter (fun a => onN p d a)).length
def colN (p d x : Nat) : Nat := ((List.range x).map (fun x => (ptsAt p d x).length)).sum
theorem rowN_succ (x y : Nat) : rowN p d x (y + 1) = rowN p d x y + (if onN p d (x, y) = true then 1 else 0) := by
  unfold rowN
  rw [List.range_succ, List.map_append, List.filter_append, List.length_append, List.map_singleton]
  cases h : onN p d (x, y) <;> simp [h]
theorem rowN_le (x y : Nat) : rowN p d x y ≤ y := by
  unfold rowN
  refine Nat.le_trans (List.length_filter_le _ _) ?_
  rw [List.length_map, List.length_range]; exact Nat.le_refl _
theorem colN_succ (x : Nat) : colN p d (x + 1) = colN p d x + rowN p d x p := by
  unfold colN
  rw [List.range_succ, List.map_append, List.sum_append, List.map_singleton, List.sum_singleton]; rfl
theorem colN_le : ∀ x, colN p d x ≤ x * p
  | 0 => Nat.zero_le _
  | x + 1 => by
    have h1 := colN_le x
    have h2 := rowN_le (p := p) (d := d) x p
    rw [colN_succ, Nat.add_mul, Nat.one_mul]; omega
theorem colN_pts : colN p d p = (pts p d).length := by
  unfold colN pts
  rw [List.length_flatMap]
theorem colN_small (h : p ≤ 199) {x : Nat} (hx : x ≤ p) : colN p d x ≤ 40000 := by
  have h1 := colN_le (p := p) (d := d) x
  have h2 : x * p ≤ 199 * 199 := Nat.mul_le_mul (by omega) h
  omega
theorem Good.countI_l1 (g : Good p d) {x : Nat} (hx : x < p) {v : Int × Bool} (h : Ev (fun k => impl_CountPoints.l0 k ((colN p d (x + 1) : Nat) : Int) (p : Int) ((x + 1 : Nat) : Int) (p : Int) (d : Int)) v) (m : Nat) : ∀ y : Nat, y + m = p →
    Ev (fun k => impl_CountPoints.l1 k ((colN p d x + rowN p d x y : Nat) : Int) (x : Int) (p : Int) (x : Int) (p : Int) (y : Int) (p : Int) (d : Int)) v := by
  have h1 := g.lo; have h2 := g.hi
  have hc := colN_small (d := d) h2 (x := x) (by omega)
  have ex : wrap64 ((x : Int) + 1) = ((x + 1 : Nat) : Int) := by rw [w64 (by omega) (by omega)]; omega
  induction m with
  | zero =>
    intro y hy
    obtain rfl : y = p := by omega
    rw [← colN_succ]
    exact Ev.step (fun k => by rw [impl_CountPoints.l1, if_neg (by omega), ex]) h
  | succ m ih =>
    intro y hy
    have ih := ih (y + 1) (by omega)
    have hr := rowN_le (p := p) (d := d) x y
    have ey : wrap64 ((y : Int) + 1) = ((y + 1 : Nat) : Int) := by rw [w64 (by omega) (by omega)]; omega
    have ec : wrap64 (((colN p d x + rowN p d x y : Nat) : Int) + 1) = ((colN p d x + rowN p d x y + 1 : Nat) : Int) := by rw [w64 (by omega) (by omega)]; omega
    rw [rowN_succ] at ih
    have ho := (g.on_eq hx (show y < p by omega)).1
    cases hb : onN p d (x, y) with
    | true =>
      rw [hb, if_pos rfl, ← Nat.add_assoc] at ih
      exact Ev.step (fun k => by rw [impl_CountPoints.l1, if_pos (by omega), ho, hb, Option.bind_some, if_pos rfl, ec, ey]) ih
    | false =>
      rw [hb, if_neg (by decide), Nat.add_zero] at ih
      exact Ev.step (fun k => by rw [impl_CountPoints.l1, if_pos (by omega), ho, hb, Option.bind_some, if_neg (by decide), ey]) ih
theorem Good.countI_l0 (g : Good p d) (m : Nat) : ∀ x : Nat, x + m = p → Ev (fun k => impl_CountPoints.l0 k ((colN p d x : Nat) : Int) (p : Int) (x : Int) (p : Int) (d : Int)) (((pts p d).length : Int), true) := by
  induction m with
  | zero =>
    intro x hx
    obtain rfl : x = p := by omega
    rw [colN_pts]
    exact Ev.step (fun k => by rw [impl_CountPoints.l0, if_neg (by omega)]) (Ev.now _)
  | succ m ih =>
    intro x hx
    have h := g.countI_l1 (show x < p by omega) (ih (x + 1) (by omega)) p 0 (by omega)
    rw [show rowN p d x 0 = 0 from rfl, Nat.add_zero] at h
    exact Ev.step (fun k => by rw [impl_CountPoints.l0, if_pos (by omega)]; rfl) h
theorem Good.countS_l1 (g : Good p d) {x : Nat} (hx : x < p) {v : Int × Bool} (h : Ev (fun k => spec_CountPoints.l0 k ((colN p d (x + 1) : Nat) : Int) ((x + 1 : Nat) : Int) (p : Int) (d : Int)) v) (m : Nat) : ∀ y : Nat, y + m = p →
    Ev (fun k => spec_CountPoints.l1 k ((colN p d x + rowN p d x y : Nat) : Int) (x : Int) (y : Int) (p : Int) (d : Int)) v := by
  have h1 := g.lo; have h2 := g.hi
  have hc := colN_small (d := d) h2 (x := x) (by omega)
  have ex : wrap64 ((x : Int) + 1) = ((x + 1 : Nat) : Int) := by rw [w64 (by omega) (by omega)]; omega
  induction m with
  | zero =>
    intro y hy
    obtain rfl : y = p := by omega
    rw [← colN_succ]
    exact Ev.step (fun k => by rw [spec_CountPoints.l1, if_neg (by omega), ex]) h
  | succ m ih =>
    intro y hy
    have ih := ih (y + 1) (by omega)
    have hr := rowN_le (p := p) (d := d) x y
    have ey : wrap64 ((y : Int) + 1) = ((y + 1 : Nat) : Int) := by rw [w64 (by omega) (by omega)]; omega
    have ec : wrap64 (((colN p d x + rowN p d x y : Nat) : Int) + 1) = ((colN p d x + rowN p d x y + 1 : Nat) : Int) := by rw [w64 (by omega) (by omega)]; omega
    rw [rowN_succ] at ih
    have ho := (g.on_eq hx (show y < p by omega)).2
    cases hb : onN p d (x, y) with
    | true =>
      rw [hb, if_pos rfl, ← Nat.add_assoc] at ih
      exact Ev.step (fun k => by rw [spec_CountPoints.l1, if_pos (by omega), ho, hb, Option.bind_some, if_pos rfl, ec, ey]) ih
    | false =>
      rw [hb, if_neg (by decide), Nat.add_zero] at ih
      exact Ev.step (fun k => by rw [spec_CountPoints.l1, if_pos (by omega), ho, hb, Option.bind_some, if_neg (by decide), ey]) ih
theorem Good.countS_l0 (g : Good p d) (m : Nat) : ∀ x : Nat, x + m = p → Ev (fun k => spec_CountPoints.l0 k ((colN p d x : Nat) : Int) (x : Int) (p : Int) (d : Int)) (((pts p d).length : Int), true) := by
  induction m with
  | zero =>
    intro x hx
    obtain rfl : x = p := by omega
    rw [colN_pts]
    exact Ev.step (fun k => by rw [spec_CountPoints.l0, if_neg (by omega)]) (Ev.now _)
  | succ m ih =>
    intro x hx
    have h := g.countS_l1 (show x < p by omega) (ih (x + 1) (by omega)) p 0 (by omega)
    rw [show rowN p d x 0 = 0 from rfl, Nat.add_zero] at h
    exact Ev.step (fun k => by rw [spec_CountPoints.l0, if_pos (by omega)]; rfl) h
theorem Good.count (g : Good p d) : Ev (fun k => impl_CountPoints.f k (p : Int) (d : Int)) (((pts p d).length : Int), true) ∧ Ev (fun k => spec_CountPoints.f k (p : Int) (d : Int)) (((pts p d).length : Int), true) := by
  unfold impl_CountPoints.f spec_CountPoints.f
  refine ⟨Ev.bind g.isI ?_, Ev.bind g.isS ?_⟩
  · simp only [if_true]; exact g.countI_l0 p 0 (by omega)
  · simp only [if_true]; exact g.countS_l0 p 0 (by omega)
/-! Orders. -/
theorem Good.order_l0 [NeZero p] (g : Good p d) {a : Nat × Nat} (ha : Pt p d a) {o : Nat} (ho : o ≤ 40000) (he : mulN p d a o = (0, 1)) (hmin : ∀ k, 0 < k → k < o → mulN p d a k ≠ (0, 1)) (m : Nat) : ∀ t : Nat, 0 < t → t + m = o →
    Ev (fun k => impl_OrderOf.l0 k (t : Int) (p : Int) (d : Int) (a.1 : Int) (a.2 : Int) ((mulN p d a t).1 : Int) ((mulN p d a t).2 : Int)) ((o : Int), true) ∧ Ev (fun k => spec_OrderOf.l0 k (t : Int) (p : Int) (d : Int) (a.1 : Int) (a.2 : Int) ((mulN p d a t).1 : Int) ((mulN p d a t).2 : Int)) ((o : Int), true) := by
  induction m with
  | zero =>
    intro t h0 ht
    obtain rfl : t = o := by omega
    rw [he]
    exact ⟨Ev.step (fun k => by rw [impl_OrderOf.l0, if_neg (by decide)]) (Ev.now _), Ev.step (fun k => by rw [spec_OrderOf.l0, if_neg (by decide)]) (Ev.now _)⟩
  | succ m ih =>
    intro t h0 ht
    obtain ⟨i1, i2⟩ := ih (t + 1) (by omega) (by omega)
    have hm := g.crv.mul ha t
    have hne := hmin t h0 (by omega)
    have hc : (!(((mulN p d a t).1 : Int) == 0) || !(((mulN p d a t).2 : Int) == 1)) = true := by
      rw [show (0 : Int) = ((0 : Nat) : Int) from rfl, show (1 : Int) = ((1 : Nat) : Int) from rfl, beq_cast, beq_cast]
      cases h : (mulN p d a t).1 == 0 with
      | false => rfl
      | true =>
        cases h' : (mulN p d a t).2 == 1 with
        | false => rfl
        | true => exact absurd (Prod.ext (beq_iff_eq.1 h) (beq_iff_eq.1 h')) hne
    have et : wrap64 ((t : Int) + 1) = ((t + 1 : Nat) : Int) := by rw [w64 (by omega) (by omega)]; omega
    exact ⟨Ev.step (fun k => by rw [impl_OrderOf.l0, if_pos hc, et]) (Ev.bind (g.addI ⟨hm.x, hm.y⟩ ⟨ha.x, ha.y⟩) i1), Ev.step (fun k => by rw [spec_OrderOf.l0, if_pos hc, et]) (Ev.bind (g.addS ⟨hm.x, hm.y⟩ ⟨ha.x, ha.y⟩) i2)⟩
theorem Good.order [NeZero p] (g : Good p d) {a : Nat × Nat} (ha : Pt p d a) : ∃ o : Nat, 0 < o ∧ o ≤ 40000 ∧ mulN p d a o = (0, 1) ∧ (pts p d).length % o = 0 ∧ Ev (fun k => impl_OrderOf.f k (p : Int) (d : Int) (a.1 : Int) (a.2 : Int)) ((o : Int), true) ∧ Ev (fun k => spec_OrderOf.f k (p : Int) (d : Int) (a.1 : Int) (a.2 : Int)) ((o : Int), true) := by
  obtain ⟨o, h0, hle, he, hmin, hdv⟩ := g.crv.order ha
  have hn : (pts p d).length ≤ 40000 := by rw [← colN_pts]; exact colN_small g.hi (Nat.le_refl p)
  obtain ⟨i1, i2⟩ := g.order_l0 ha (by omega) he hmin (o - 1) 1 (by omega) (by omega)
  rw [g.crv.mul_one ha] at i1 i2
  refine ⟨o, h0, by omega, he, hdv, ?_, ?_⟩
  · unfold impl_OrderOf.f
    refine Ev.bind (g.are _ (by simp)) ?_
    simp only [List.any_cons, List.any_nil, g.ptBad ha, Bool.or_false, Bool.not_false, if_true]
    exact i1
  · unfold spec_OrderOf.f
    refine Ev.bind (g.ptGood ha) ?_
    simp only [if_true]
    exact i2
/-! Short forms. -/
def shortN (a : Nat × Nat) : Nat := 2 * a.2 + a.1 % 2
theorem Good.short_int (g : Good p d) {a : Nat × Nat} (ha : Pt p d a) : wrap64 (wrap64 (2 * (a.2 : Int)) + Int.tmod (a.1 : Int) 2) = (shortN a : Int) := by
  have h2 := g.hi; have hy := ha.y
  have e : Int.tmod (a.1 : Int) 2 = ((a.1 % 2 : Nat) : Int) := tmod_nat a.1 2
  unfold shortN
  rw [e, w64 (n := 2 * (a.2 : Int)) (by omega) (by omega), w64 (by omega) (by omega)]; omega
theorem Good.shorts (g : Good p d) {a : Nat × Nat} (ha : Pt p d a) : Ev (fun k => impl_ShortPoint.f k (p : Int) (d : Int) (a.1 : Int) (a.2 : Int)) ((shortN a : Int), true) ∧ Ev (fun k => spec_ShortPoint.f k (p : Int) (d : Int) (a.1 : Int) (a.2 : Int)) ((shortN a : Int), true) := by
  unfold impl_ShortPoint.f spec_ShortPoint.f spec_l5Short.f
  refine ⟨Ev.bind (g.are _ (by simp)) ?_, Ev.bind (g.ptGood ha) ?_⟩
  · simp only [List.any_cons, List.any_nil, g.ptBad ha, Bool.or_false, Bool.not_false, if_true, g.short_int ha]
    exact Ev.now _
  · simp only [if_true, Option.bind_some, g.short_int ha]
    exact Ev.now _
theorem half_int {n : Nat} (h : n < 1000) : wrap64 (Int.tdiv (n : Int) 2) = ((n / 2 : Nat) : Int) := by
  rw [Int.tdiv_eq_ediv_of_nonneg (by omega), w64 (by omega) (by omega)]; omega
theorem short_eq {n x : Nat} (hn : n < 1000) : (wrap64 (wrap64 (2 * ((n / 2 : Nat) : Int)) + Int.tmod (x : Int) 2) = (n : Int)) ↔ x % 2 = n % 2 := by
  have e : Int.tmod (x : Int) 2 = ((x % 2 : Nat) : Int) := tmod_nat x 2
  rw [e, w64 (n := 2 * ((n / 2 : Nat) : Int)) (by omega) (by omega), w64 (by omega) (by omega)]; omega
theorem Good.ofShort_l0 (g : Good p d) (n : Nat) (hn : n < 2 * p) (m : Nat) : ∀ x : Nat, p ≤ x + m → x ≤ p + 1 → x % 2 = n % 2 → ∃ r, Ev (fun k => impl_OfShort.l0 k (n : Int) (x : Int) (p : Int) (d : Int)) r ∧ Ev (fun k => spec_OfShort.l0 k (n : Int) (x : Int) (p : Int) (d : Int)) r := by
  have h1 := g.lo; have h2 := g.hi
  have e3 := half_int (n := n) (by omega)
  have stop : ∀ x : Nat, p ≤ x → x ≤ p + 2 → ∃ r, Ev (fun k => impl_OfShort.l0 k (n : Int) (x : Int) (p : Int) (d : Int)) r ∧ Ev (fun k => spec_OfShort.l0 k (n : Int) (x : Int) (p : Int) (d : Int)) r := fun x hx _ =>
    ⟨(0, 0, false), Ev.step (fun k => by rw [impl_OfShort.l0, if_neg (by omega)]) (Ev.now _), Ev.step (fun k => by rw [spec_OfShort.l0, if_neg (by omega)]) (Ev.now _)⟩
  induction m using Nat.strongRecOn with
  | _ m ih =>
    intro x hm hx hp
    by_cases hxp : p ≤ x
    · exact stop x hxp (by omega)
    have e1 : wrap64 ((x : Int) + 1) = ((x + 1 : Nat) : Int) := by rw [w64 (by omega) (by omega)]; omega
    have e2 : wrap64 ((x : Int) + 2) = ((x + 2 : Nat) : Int) := by rw [w64 (by omega) (by omega)]; omega
    have e5 : wrap64 (((x + 1 : Nat) : Int) + 1) = ((x + 2 : Nat) : Int) := by rw [w64 (by omega) (by omega)]; omega
    have a1 : x < p := by omega
    have a2 : n / 2 < p := by omega
    have a3 : (x : Int) < (p : Int) := by omega
    have a4 : n < 1000 := by omega
    have b7 : ¬ (x + 1) % 2 = n % 2 := by omega
    have last : p ≤ x + 1 → ¬ ((x + 2 : Nat) : Int) < (p : Int) ∧ ¬ ((x + 1 : Nat) : Int) < (p : Int) := fun _ => ⟨by omega, by omega⟩
    have more : ¬ p ≤ x + 1 → m - 2 < m ∧ p ≤ x + 2 + (m - 2) ∧ x + 2 ≤ p + 1 ∧ (x + 2) % 2 = n % 2 ∧ x + 1 < p ∧ ((x + 1 : Nat) : Int) < (p : Int) := fun _ => ⟨by omega, by omega, by omega, by omega, by omega, by omega⟩
    obtain ⟨o1, o2⟩ := g.on_eq a1 a2
    have hs := (short_eq (n := n) (x := x) a4).2 hp
    cases hb : onN p d (x, n / 2) with
    | true =>
      exact ⟨_, Ev.step (fun k => by rw [impl_OfShort.l0, if_pos a3, e3, o1, hb, Option.bind_some, if_pos rfl]) (Ev.now _), Ev.step (fun k => by rw [spec_OfShort.l0, if_pos a3, e3, o2, hb, Option.bind_some, if_pos rfl, spec_l5Short.f, Option.bind_some, if_pos hs]) (Ev.now _)⟩
    | false =>
      by_cases hx1 : p ≤ x + 1
      · obtain ⟨c1, c2⟩ := last hx1
        refine ⟨(0, 0, false), Ev.step (fun k => by rw [impl_OfShort.l0, if_pos a3, e3, o1, hb, Option.bind_some, if_neg (by decide), e2]) (Ev.step (fun k => by rw [impl_OfShort.l0, if_neg c1]) (Ev.now _)), Ev.step (fun k => by rw [spec_OfShort.l0, if_pos a3, e3, o2, hb, Option.bind_some, if_neg (by decide), e1]) (Ev.step (fun k => by rw [spec_OfShort.l0, if_neg c2]) (Ev.now _))⟩
      · obtain ⟨d1, d2, d3, d4, d5, d6⟩ := more hx1
        obtain ⟨r, i1, i2⟩ := ih (m - 2) d1 (x + 2) d2 d3 d4
        obtain ⟨_, o4⟩ := g.on_eq d5 a2
        have hs2 : ¬ (wrap64 (wrap64 (2 * ((n / 2 : Nat) : Int)) + Int.tmod ((x + 1 : Nat) : Int) 2) = (n : Int)) := fun h => b7 ((short_eq (n := n) (x := x + 1) a4).1 h)
        refine ⟨r, Ev.step (fun k => by rw [impl_OfShort.l0, if_pos a3, e3, o1, hb, Option.bind_some, if_neg (by decide), e2]) i1, Ev.step (fun k => by rw [spec_OfShort.l0, if_pos a3, e3, o2, hb, Option.bind_some, if_neg (by decide), e1]) ?_⟩
        cases hb2 : onN p d (x + 1, n / 2) with
        | true => exact Ev.step (fun k => by rw [spec_OfShort.l0, if_pos d6, e3, o4, hb2, Option.bind_some, if_pos rfl, spec_l5Short.f, Option.bind_some, if_neg hs2, e5]) i2
        | false => exact Ev.step (fun k => by rw [spec_OfShort.l0, if_pos d6, e3, o4, hb2, Option.bind_some, if_neg (by decide), e5]) i2
theorem ofShort_both (P D n : Int) (hc : IsCurve P D) : ∃ r, Ev (fun k => impl_OfShort.f k P D n) r ∧ Ev (fun k => spec_OfShort.f k P D n) r := by
  unfold impl_OfShort.f spec_OfShort.f
  rcases hc with ⟨p, d, rfl, rfl, _, g⟩ | ⟨_, b⟩
  · have h1 := g.lo; have h2 := g.hi
    have e1 : wrap64 (wrap64 (2 * (p : Int)) - 1) = 2 * (p : Int) - 1 := by rw [w64 (n := 2 * (p : Int)) (by omega) (by omega), w64 (by omega) (by omega)]
    simp only [e1, within_of, in_of, Option.bind_some]
    by_cases hn : 0 ≤ n ∧ n ≤ 2 * (p : Int) - 1
    · obtain ⟨n, rfl⟩ : ∃ q : Nat, n = (q : Int) := ⟨n.toNat, by omega⟩
      have hn2 : n < 2 * p := by omega
      have et : Int.tmod (n : Int) 2 = ((n % 2 : Nat) : Int) := tmod_nat n 2
      obtain ⟨r, i1, i2⟩ := g.ofShort_l0 n hn2 p (n % 2) (by omega) (by omega) (by omega)
      simp only [decide_eq_true hn, Bool.not_true]
      have i3 : Ev (fun k => spec_OfShort.l0 k (n : Int) 0 (p : Int) (d : Int)) r := by
        by_cases h0 : n % 2 = 0
        · rw [h0] at i2; exact i2
        · have h1 : n % 2 = 1 := by omega
          rw [h1] at i2
          obtain ⟨_, o2⟩ := g.on_eq (x := 0) (show 0 < p by omega) (show n / 2 < p by omega)
          have hs2 : ¬ (wrap64 (wrap64 (2 * ((n / 2 : Nat) : Int)) + Int.tmod ((0 : Nat) : Int) 2) = (n : Int)) := fun h => by
            have := (short_eq (n := n) (x := 0) (by omega)).1 h
            omega
          have e3 := half_int (n := n) (by omega)
          rw [Int.natCast_zero] at o2 hs2
          have e5 : wrap64 ((0 : Int) + 1) = ((1 : Nat) : Int) := w64 (n := 0 + 1) (by omega) (by omega)
          cases hb2 : onN p d (0, n / 2) with
          | true => exact Ev.step (fun k => by rw [spec_OfShort.l0, if_pos (by omega), e3, o2, hb2, Option.bind_some, if_pos rfl, spec_l5Short.f, Option.bind_some, if_neg hs2, e5]) i2
          | false => exact Ev.step (fun k => by rw [spec_OfShort.l0, if_pos (by omega), e3, o2, hb2, Option.bind_some, if_neg (by decide), e5]) i2
      refine ⟨r, Ev.bind g.isI ?_, Ev.bind g.isS ?_⟩
      · simp only [if_true]
        exact Ev.step (fun k => by rw [impl_OfShort.j0, if_neg (by simp), et]) i1
      · simp only [if_true]
        exact Ev.step (fun k => by rw [spec_OfShort.j0, if_neg (by simp)]) i3
    · simp only [decide_eq_false hn, Bool.not_false]
      refine ⟨(0, 0, false), Ev.bind g.isI ?_, Ev.bind g.isS ?_⟩
      · simp only [if_true]; exact Ev.step (fun k => by rw [impl_OfShort.j0, if_pos rfl]) (Ev.now _)
      · simp only [if_true]; exact Ev.step (fun k => by rw [spec_OfShort.j0, if_pos rfl]) (Ev.now _)
  · refine ⟨(0, 0, false), Ev.bind b.isI ?_, Ev.bind b.isS ?_⟩
    · simp only [Bool.false_eq_true, if_false]; exact Ev.step (fun k => by rw [impl_OfShort.j0, if_pos rfl]) (Ev.now _)
    · simp only [Bool.false_eq_true, if_false]; exact Ev.step (fun k => by rw [spec_OfShort.j0, if_pos rfl]) (Ev.now _)
theorem step2 {x y m : Nat} (h : x ≠ y) (h1 : x ≤ y) (h2 : y ≤ x + m) (h3 : x % 2 = y % 2) : m - 2 < m ∧ x + 2 ≤ y ∧ y ≤ x + 2 + (m - 2) ∧ (x + 2) % 2 = y % 2 := ⟨by omega, by omega, by omega, by omega⟩
theorem Good.back_l0 [NeZero p] (g : Good p d) {a : Nat × Nat} (ha : Pt p d a) (m : Nat) : ∀ x : Nat, x ≤ a.1 → a.1 ≤ x + m → x % 2 = a.1 % 2 → Ev (fun k => impl_OfShort.l0 k (shortN a : Int) (x : Int) (p : Int) (d : Int)) ((a.1 : Int), (a.2 : Int), true) := by
  have h1 := g.lo; have h2 := g.hi; have hx := ha.x; have hy := ha.y
  have hn : shortN a < 1000 := by unfold shortN; omega
  have hh : shortN a / 2 = a.2 := by unfold shortN; omega
  have e3 := half_int hn
  rw [hh] at e3
  induction m using Nat.strongRecOn with
  | _ m ih =>
    intro x hxa hm hp
    have a1 : x < p := by omega
    have a3 : (x : Int) < (p : Int) := by omega
    have e2 : wrap64 ((x : Int) + 2) = ((x + 2 : Nat) : Int) := by rw [w64 (by omega) (by omega)]; omega
    obtain ⟨o1, _⟩ := g.on_eq a1 hy
    by_cases he : x = a.1
    · subst he
      exact Ev.step (fun k => by rw [impl_OfShort.l0, if_pos a3, e3, o1, ha.on, Option.bind_some, if_pos rfl]) (Ev.now _)
    · obtain ⟨d1, d2, d3, d4⟩ := step2 he hxa hm hp
      have hb : onN p d (x, a.2) = false := by
        cases hb : onN p d (x, a.2) with
        | false => rfl
        | true => exact absurd (g.crv.short (x := x) (x' := a.1) (y := a.2) ⟨a1, hy, hb⟩ ha hp) he
      exact Ev.step (fun k => by rw [impl_OfShort.l0, if_pos a3, e3, o1, hb, Option.bind_some, if_neg (by decide), e2]) (ih (m - 2) d1 (x + 2) d2 d3 d4)
theorem Good.back [NeZero p] (g : Good p d) {a : Nat × Nat} (ha : Pt p d a) : Ev (fun k => impl_OfShort.f k (p : Int) (d : Int) (shortN a : Int)) ((a.1 : Int), (a.2 : Int), true) := by
  have h1 := g.lo; have h2 := g.hi; have hx := ha.x; have hy := ha.y
  have hn : shortN a < 2 * p := by unfold shortN; omega
  have hp : shortN a % 2 = a.1 % 2 := by unfold shortN; omega
  have et : Int.tmod (shortN a : Int) 2 = ((a.1 % 2 : Nat) : Int) := by rw [← hp]; exact tmod_nat _ 2
  have e1 : wrap64 (wrap64 (2 * (p : Int)) - 1) = 2 * (p : Int) - 1 := by rw [w64 (n := 2 * (p : Int)) (by omega) (by omega), w64 (by omega) (by omega)]
  unfold impl_OfShort.f
  refine Ev.bind g.isI ?_
  simp only [if_true, e1, within_of, Option.bind_some, decide_eq_true (show (0 : Int) ≤ (shortN a : Int) ∧ (shortN a : Int) ≤ 2 * (p : Int) - 1 by omega), Bool.not_true]
  exact Ev.step (fun k => by rw [impl_OfShort.j0, if_neg (by simp), et]) (g.back_l0 ha a.1 (a.1 % 2) (by omega) (by omega) (by omega))
/-! Many times a point, by the reference. -/
theorem Good.timesS_l0 [NeZero p] (g : Good p d) (m : Nat) : ∀ (n : Nat) (a s : Nat × Nat), n < 2 ^ m → n ≤ 100000 → Pt p d a → Pt p d s → Ev (fun k => spec_l5Times.l0 k (n : Int) (p : Int) (d : Int) (a.1 : Int) (a.2 : Int) (s.1 : Int) (s.2 : Int)) (((addN p d s (mulN p d a n)).1 : Int), ((addN p d s (mulN p d a n)).2 : Int)) := by
  have c := g.crv
  have zero : ∀ (a s : Nat × Nat), Pt p d s → Ev (fun k => spec_l5Times.l0 k ((0 : Nat) : Int) (p : Int) (d : Int) (a.1 : Int) (a.2 : Int) (s.1 : Int) (s.2 : Int)) (((addN p d s (mulN p d a 0)).1 : Int), ((addN p d s (mulN p d a 0)).2 : Int)) := by
    intro a s hs
    rw [show mulN p d a 0 = (0, 1) from rfl, c.add_zero hs]
    exact Ev.step (fun k => by rw [spec_l5Times.l0, if_neg (by omega)]) (Ev.now _)
  induction m with
  | zero =>
    intro n a s hn _ _ hs
    obtain rfl : n = 0 := by simpa using hn
    exact zero a s hs
  | succ m ih =>
    intro n a s hn h5 ha hs
    by_cases h0 : n = 0
    · subst h0; exact zero a s hs
    have h2 : n / 2 < 2 ^ m := by rw [Nat.pow_succ] at hn; omega
    have e3 : wrap64 (Int.tdiv (n : Int) 2) = ((n / 2 : Nat) : Int) := by rw [Int.tdiv_eq_ediv_of_nonneg (by omega), w64 (by omega) (by omega)]; omega
    have e4 : Int.tmod (n : Int) 2 = ((n % 2 : Nat) : Int) := tmod_nat n 2
    have haa := c.add ha ha
    by_cases ho : n % 2 = 1
    · have ih := ih (n / 2) _ _ h2 (by omega) haa (c.add hs ha)
      rw [← c.twice ha hs, show 2 * (n / 2) + 1 = n by omega] at ih
      refine Ev.step (fun k => by rw [spec_l5Times.l0, if_pos (by omega), e3, e4, if_pos (by omega)]) ?_
      exact Ev.bind (g.addS ⟨hs.x, hs.y⟩ ⟨ha.x, ha.y⟩) (Ev.bind (g.addS ⟨ha.x, ha.y⟩ ⟨ha.x, ha.y⟩) ih)
    · have ih := ih (n / 2) _ _ h2 (by omega) haa hs
      rw [← c.double ha, show 2 * (n / 2) = n by omega] at ih
      refine Ev.step (fun k => by rw [spec_l5Times.l0, if_pos (by omega), e3, e4, if_neg (by omega)]) ?_
      exact Ev.bind (g.addS ⟨ha.x, ha.y⟩ ⟨ha.x, ha.y⟩) ih
theorem Good.TimesS [NeZero p] (g : Good p d) {a : Nat × Nat} (ha : Pt p d a) {n : Nat} (hn : n ≤ 100000) : Ev (fun k => spec_TimesPoint.f k (p : Int) (d : Int) (n : Int) (a.1 : Int) (a.2 : Int)) (((mulN p d a n).1 : Int), ((mulN p d a n).2 : Int), true) := by
  have h := g.timesS_l0 17 n a (0, 1) (by omega) hn ha g.crv.zero
  rw [g.crv.zero_add (g.crv.mul ha n)] at h
  unfold spec_TimesPoint.f spec_l5Times.f
  refine Ev.bind (g.ptGood ha) ?_
  simp only [if_true, in_of, decide_eq_true (show (0 : Int) ≤ (n : Int) ∧ (n : Int) ≤ 100000 by omega), Option.bind_some]
  exact Ev.bind h (Ev.now _)
theorem times_any (P D n x y : Int) (hc : IsCurve P D) : (∃ (p d : Nat) (a : Nat × Nat) (q : Nat), P = (p : Int) ∧ D = (d : Int) ∧ x = (a.1 : Int) ∧ y = (a.2 : Int) ∧ n = (q : Int) ∧ q ≤ 100000 ∧ Good p d ∧ Pt p d a) ∨
    (Ev (fun k => impl_TimesPoint.f k P D n x y) (0, 0, false) ∧ Ev (fun k => spec_TimesPoint.f k P D n x y) (0, 0, false)) := by
  have no : ∀ (b : Bool) (P D x y : Int), (∀ k, impl_TimesPoint.j0 (k + 1) n true P D x y = some (0, 0, false)) := fun b P D x y k => by rw [impl_TimesPoint.j0, if_pos rfl]
  rcases hc with ⟨p, d, rfl, rfl, _, g⟩ | ⟨_, b⟩
  · rcases g.pt_any x y with ⟨a, rfl, rfl, ha⟩ | ⟨b1, b2⟩
    · by_cases hn : 0 ≤ n ∧ n ≤ 100000
      · exact .inl ⟨p, d, a, n.toNat, rfl, rfl, rfl, rfl, by omega, by omega, g, ha⟩
      · right
        refine ⟨?_, ?_⟩
        · unfold impl_TimesPoint.f
          refine Ev.bind (g.are _ (by simp)) ?_
          simp only [List.any_cons, List.any_nil, g.ptBad ha, Bool.or_false, Bool.not_false, if_true, within_of, decide_eq_false hn, Option.bind_some]
          exact Ev.step (fun k => by rw [impl_TimesPoint.j0, if_pos rfl]) (Ev.now _)
        · unfold spec_TimesPoint.f
          refine Ev.bind (g.ptGood ha) ?_
          simp only [if_true, in_of, decide_eq_false hn, Option.bind_some, Bool.false_eq_true, if_false]
          exact Ev.now _
    · right
      refine ⟨?_, ?_⟩
      · unfold impl_TimesPoint.f
        refine Ev.bind (g.are _ (by simp)) ?_
        simp only [List.any_cons, List.any_nil, b1, Bool.true_or, Bool.not_true, Bool.false_eq_true, if_false]
        exact Ev.step (fun k => by rw [impl_TimesPoint.j0, if_pos rfl]) (Ev.now _)
      · unfold spec_TimesPoint.f
        refine Ev.bind b2 ?_
        simp only [Bool.false_eq_true, if_false]; exact Ev.now _
  · right
    refine ⟨?_, ?_⟩
    · unfold impl_TimesPoint.f
      refine Ev.bind (b.are _ (by simp)) ?_
      simp only [Bool.false_eq_true, if_false]
      exact Ev.step (fun k => by rw [impl_TimesPoint.j0, if_pos rfl]) (Ev.now _)
    · unfold spec_TimesPoint.f
      refine Ev.bind (b.good _ _) ?_
      simp only [Bool.false_eq_true, if_false]; exact Ev.now _
end
/-! The law. -/
theorem tailShort (l1 : List Int) (hb : Bytes8 l1) : ∃ P D n r, Ev (fun k => spec_DrawOfShort.f k l1) (P, D, n) ∧ Ev (fun k => impl_OfShort.f k P D n) r ∧ Ev (fun k => spec_OfShort.f k P D n) r := by
  obtain ⟨P, D, a1, s1, h1, h2, h3, hc⟩ := cur_curve l1 hb 0 0 (by omega) (by omega)
  have hP : 0 ≤ P ∧ P ≤ 211 := by
    rcases hc with ⟨p, d, rfl, rfl, _, g⟩ | ⟨h, b⟩
    · have := g.hi; omega
    · omega
  have e : wrap64 (wrap64 (2 * P) + 3) = 2 * P + 3 := by rw [w64 (n := 2 * P) (by omega) (by omega), w64 (by omega) (by omega)]
  obtain ⟨n, a2, s2, h4, _⟩ := cur_pick l1 hb a1 s1 (2 * P + 3) (by omega) (by omega) (by omega)
  obtain ⟨r, i1, i2⟩ := ofShort_both P D (wrap64 (n - 1)) hc
  refine ⟨P, D, wrap64 (n - 1), r, ?_, i1, i2⟩
  unfold spec_DrawOfShort.f
  refine Ev.bind h1 ?_
  simp only [e, h4, Option.bind_some]
  exact Ev.now _
theorem tail5 (l1 : List Int) (hb : Bytes8 l1) : Ev (fun k => laws_FnPoints.j5 k l1 false) true := by
  obtain ⟨P, D, n, r, h1, h2, h3⟩ := tailShort l1 hb
  refine Ev.step (fun k => by rw [laws_FnPoints.j5, if_neg (by simp)]) (Ev.bind h1 (Ev.bind h2 (Ev.bind h3 ?_)))
  simp only [beq_self_eq_true, if_true, Bool.and_self]
  exact Ev.now _
theorem tail4No (l1 : List Int) (hb : Bytes8 l1) (n P D x y u v : Int) : Ev (fun k => laws_FnPoints.j4 k l1 n false P D x y u v) true := by
  obtain ⟨P', D', n', r, h1, h2, h3⟩ := tailShort l1 hb
  refine Ev.step (fun k => by rw [laws_FnPoints.j4, if_neg (by simp)]) (Ev.bind h1 (Ev.bind h2 (Ev.bind h3 ?_)))
  simp only [beq_self_eq_true, if_true, Bool.and_self]
  exact Ev.now _
theorem tail2 (l1 : List Int) (hb : Bytes8 l1) : Ev (fun k => laws_FnPoints.j2 k l1) true := by
  obtain ⟨P, D, a1, s1, h1, h2, h3, hc⟩ := cur_curve l1 hb 0 0 (by omega) (by omega)
  obtain ⟨n, a2, s2, h4, h5, h6, h7⟩ := cur_among l1 hb a1 s1 [-1, 0, 1, 2, 3, 10, 77, 100000, 100001] (by decide) (by decide) (by omega) (by omega)
  obtain ⟨x, y, a3, s3, h8, _⟩ := cur_point l1 hb a2 s2 (by omega) (by omega) P D hc
  have hd : Ev (fun k => spec_DrawTimesPoint.f k l1) (P, D, n, x, y) := by
    unfold spec_DrawTimesPoint.f
    refine Ev.bind h1 ?_
    simp only [h4, Option.bind_some]
    exact Ev.bind h8 (Ev.now _)
  refine Ev.step (fun k => by rw [laws_FnPoints.j2]) (Ev.bind hd ?_)
  rcases times_any P D n x y hc with ⟨p, d, a, q, rfl, rfl, rfl, rfl, rfl, hq, g, ha⟩ | ⟨f1, f2⟩
  · have hp := g.lo
    have : NeZero p := ⟨by omega⟩
    have c := g.crv
    refine Ev.bind (g.TimesI ha hq) (Ev.bind (g.TimesS ha hq) ?_)
    simp only [bne_self_eq_false, beq_self_eq_true, Bool.not_true, Bool.or_self, Bool.false_eq_true, if_false]
    refine Ev.step (fun k => by rw [laws_FnPoints.j3, if_neg (by simp), if_pos rfl]) ?_
    by_cases hk : (q : Int) < 100000
    · simp only [decide_eq_true hk]
      have e1 : wrap64 ((q : Int) + 1) = ((q + 1 : Nat) : Int) := by rw [w64 (by omega) (by omega)]; omega
      refine Ev.step (fun k => by rw [laws_FnPoints.j4, if_pos rfl, e1]) (Ev.bind (g.TimesI ha (show q + 1 ≤ 100000 by omega)) (Ev.bind (g.AddI (c.mul ha q) ha) ?_))
      simp only [if_true, show addN p d (mulN p d a q) a = mulN p d a (q + 1) from rfl, beq_self_eq_true, Bool.not_true, Bool.or_self]
      exact tail5 l1 hb
    · simp only [decide_eq_false hk]
      exact tail4No l1 hb _ _ _ _ _ _ _
  · refine Ev.bind f1 (Ev.bind f2 ?_)
    simp only [bne_self_eq_false, beq_self_eq_true, Bool.not_true, Bool.or_self, Bool.false_eq_true, if_false]
    exact Ev.step (fun k => by rw [laws_FnPoints.j3, if_neg (by simp), if_neg (by simp)]) (tail4No l1 hb _ _ _ _ _ _ _)
theorem tail1No (l1 : List Int) (hb : Bytes8 l1) (o n s P D x y : Int) (b1 b2 : Bool) : Ev (fun k => laws_FnPoints.j1 k l1 o false n b1 s b2 P D x y) true :=
  Ev.step (fun k => by rw [laws_FnPoints.j1, if_neg (by simp)]) (tail2 l1 hb)
theorem near_int {p n : Nat} (hp : p ≤ 199) (hn : n ≤ 40000) (h : near p n = true) : ¬ (wrap64 (wrap64 (wrap64 ((n : Int) - (p : Int)) - 1) * wrap64 (wrap64 ((n : Int) - (p : Int)) - 1)) > wrap64 (4 * (p : Int))) ∧ Int.tmod (n : Int) 4 = 0 := by
  unfold near at h
  rw [Bool.and_eq_true, Nat.ble_eq, beq_iff_eq] at h
  obtain ⟨h1, h2⟩ := h
  have e1 : wrap64 (wrap64 ((n : Int) - (p : Int)) - 1) = (n : Int) - ((p + 1 : Nat) : Int) := by rw [w64 (n := (n : Int) - (p : Int)) (by omega) (by omega), w64 (by omega) (by omega)]; omega
  have e2 : wrap64 (4 * (p : Int)) = ((4 * p : Nat) : Int) := by rw [w64 (by omega) (by omega)]; omega
  have e4 : Int.tmod (n : Int) 4 = ((n % 4 : Nat) : Int) := tmod_nat n 4
  refine ⟨?_, by rw [e4, h2]; rfl⟩
  rw [e1, e2]
  have e3 : ((n : Int) - ((p + 1 : Nat) : Int)) * ((n : Int) - ((p + 1 : Nat) : Int)) = (((n - (p + 1)) * (n - (p + 1)) + ((p + 1) - n) * ((p + 1) - n) : Nat) : Int) := by
    generalize p + 1 = q
    rcases Nat.le_total n q with h | h
    · obtain ⟨t, rfl⟩ : ∃ t, q = n + t := ⟨q - n, by omega⟩
      rw [show n - (n + t) = 0 by omega, show n + t - n = t by omega, show (n : Int) - ((n + t : Nat) : Int) = -(t : Int) by omega, Nat.mul_zero, Nat.zero_add, Int.natCast_mul, Int.neg_mul_neg]
    · obtain ⟨t, rfl⟩ : ∃ t, n = q + t := ⟨n - q, by omega⟩
      rw [show q - (q + t) = 0 by omega, show q + t - q = t by omega, show ((q + t : Nat) : Int) - (q : Int) = (t : Int) by omega, Nat.mul_zero, Nat.add_zero, Int.natCast_mul]
  rw [e3]
  generalize (n - (p + 1)) * (n - (p + 1)) + ((p + 1) - n) * ((p + 1) - n) = z at h1 ⊢
  rw [w64 (by omega) (by omega)]
  omega
theorem FnPoints : laws_FnPoints.Pure := by
  intro l0 l1 h0 _ hw0 h1 _ hw1
  have b0 := bytes_of_wf hw0
  have b1 := bytes_of_wf hw1
  suffices hs : Ev (fun k => laws_FnPoints.f k l0 l1) true by
    obtain ⟨k, hk⟩ := hs
    exact ⟨k, hk k (Nat.le_refl k)⟩
  unfold laws_FnPoints.f
  by_cases hz : wrap64 ((l0.length : Int) + (l1.length : Int)) > 1048576
  · simp only [hz, if_true]; exact Ev.now _
  simp only [hz, if_false]
  obtain ⟨P, D, a1, s1, h1, h2, h3, hc⟩ := cur_curve l0 b0 0 0 (by omega) (by omega)
  obtain ⟨x, y, a2, s2, h4, h5, h6⟩ := cur_point l0 b0 a1 s1 (by omega) (by omega) P D hc
  have hd : Ev (fun k => spec_DrawOrderOf.f k l0) (P, D, x, y) := by
    unfold spec_DrawOrderOf.f spec_DrawOnCurve.f
    exact Ev.bind (Ev.bind h1 (Ev.bind h4 (Ev.now _))) (Ev.now _)
  refine Ev.bind hd ?_
  rcases hc with ⟨p, d, rfl, rfl, hp9, g⟩ | ⟨_, b⟩
  · have hp := g.lo
    have hhi := g.hi
    have : NeZero p := ⟨by omega⟩
    have c := g.crv
    obtain ⟨r1, r2⟩ := nine_ok hp9
    have hn : (pts p d).length ≤ 40000 := by rw [← colN_pts]; exact colN_small g.hi (Nat.le_refl p)
    obtain ⟨q1, q2⟩ := near_int hhi hn (c.hasse r1 r2)
    obtain ⟨c1, c2⟩ := g.count
    rcases g.pt_any x y with ⟨a, rfl, rfl, ha⟩ | ⟨bb1, bb2⟩
    · obtain ⟨o, ho0, ho1, ho2, ho3, o1, o2⟩ := g.order ha
      obtain ⟨e1, e2⟩ := g.shorts ha
      have hl := c.lagrange ha
      refine Ev.bind o1 (Ev.bind o2 (Ev.bind c1 (Ev.bind c2 (Ev.bind e1 (Ev.bind e2 ?_)))))
      simp only [bne_self_eq_false, Bool.false_eq_true, if_false, if_true]
      refine Ev.step (fun k => by rw [laws_FnPoints.j0, if_neg (by simp), if_pos rfl, if_neg q1, if_pos q2]) ?_
      have t1 := g.TimesI ha (n := (pts p d).length) (by omega)
      have t2 := g.TimesI ha (n := o) (by omega)
      rw [hl] at t1
      rw [ho2] at t2
      have t3 := g.back ha
      have m1 : Int.tmod ((pts p d).length : Int) (o : Int) = 0 := by rw [tmod_nat, ho3]; rfl
      have m2 : ¬ (o : Int) = 0 := by omega
      refine Ev.step (fun k => by rw [laws_FnPoints.j1, if_pos rfl]) (Ev.bind g.ZeroI (Ev.bind t1 (Ev.bind t2 (Ev.bind t3 ?_))))
      simp only [if_true, m1, m2, if_false, beq_self_eq_true, Bool.not_true, Bool.or_self, Bool.false_eq_true, Int.natCast_zero, Int.natCast_one]
      exact tail2 l1 b1
    · have o1 : Ev (fun k => impl_OrderOf.f k (p : Int) (d : Int) x y) (0, false) := by
        unfold impl_OrderOf.f
        refine Ev.bind (g.are _ (by simp)) ?_
        simp only [List.any_cons, List.any_nil, bb1, Bool.true_or, Bool.not_true, Bool.false_eq_true, if_false]; exact Ev.now _
      have o2 : Ev (fun k => spec_OrderOf.f k (p : Int) (d : Int) x y) (0, false) := by
        unfold spec_OrderOf.f
        refine Ev.bind bb2 ?_
        simp only [Bool.false_eq_true, if_false]; exact Ev.now _
      have e1 : Ev (fun k => impl_ShortPoint.f k (p : Int) (d : Int) x y) (0, false) := by
        unfold impl_ShortPoint.f
        refine Ev.bind (g.are _ (by simp)) ?_
        simp only [List.any_cons, List.any_nil, bb1, Bool.true_or, Bool.not_true, Bool.false_eq_true, if_false]; exact Ev.now _
      have e2 : Ev (fun k => spec_ShortPoint.f k (p : Int) (d : Int) x y) (0, false) := by
        unfold spec_ShortPoint.f
        refine Ev.bind bb2 ?_
        simp only [Bool.false_eq_true, if_false]; exact Ev.now _
      refine Ev.bind o1 (Ev.bind o2 (Ev.bind c1 (Ev.bind c2 (Ev.bind e1 (Ev.bind e2 ?_)))))
      simp only [bne_self_eq_false, Bool.false_eq_true, if_false, if_true]
      exact Ev.step (fun k => by rw [laws_FnPoints.j0, if_neg (by simp), if_pos rfl, if_neg q1, if_pos q2]) (tail1No l1 b1 _ _ _ _ _ _ _ _ _)
  · have o1 : Ev (fun k => impl_OrderOf.f k P D x y) (0, false) := by
      unfold impl_OrderOf.f
      refine Ev.bind (b.are _ (by simp)) ?_
      simp only [Bool.false_eq_true, if_false]; exact Ev.now _
    have o2 : Ev (fun k => spec_OrderOf.f k P D x y) (0, false) := by
      unfold spec_OrderOf.f
      refine Ev.bind (b.good _ _) ?_
      simp only [Bool.false_eq_true, if_false]; exact Ev.now _
    have c1 : Ev (fun k => impl_CountPoints.f k P D) (0, false) := by
      unfold impl_CountPoints.f
      refine Ev.bind b.isI ?_
      simp only [Bool.false_eq_true, if_false]; exact Ev.now _
    have c2 : Ev (fun k => spec_CountPoints.f k P D) (0, false) := by
      unfold spec_CountPoints.f
      refine Ev.bind b.isS ?_
      simp only [Bool.false_eq_true, if_false]; exact Ev.now _
    have e1 : Ev (fun k => impl_ShortPoint.f k P D x y) (0, false) := by
      unfold impl_ShortPoint.f
      refine Ev.bind (b.are _ (by simp)) ?_
      simp only [Bool.false_eq_true, if_false]; exact Ev.now _
    have e2 : Ev (fun k => spec_ShortPoint.f k P D x y) (0, false) := by
      unfold spec_ShortPoint.f
      refine Ev.bind (b.good _ _) ?_
      simp only [Bool.false_eq_true, if_false]; exact Ev.now _
    refine Ev.bind o1 (Ev.bind o2 (Ev.bind c1 (Ev.bind c2 (Ev.bind e1 (Ev.bind e2 ?_)))))
    simp only [bne_self_eq_false, Bool.false_eq_true, if_false, if_true]
    exact Ev.step (fun k => by rw [laws_FnPoints.j0, if_neg (by simp), if_neg (by simp)]) (tail1No l1 b1 _ _ _ _ _ _ _ _ _)

end Go.Proofs.Ytdlljfejfgfmgaa.Pure
