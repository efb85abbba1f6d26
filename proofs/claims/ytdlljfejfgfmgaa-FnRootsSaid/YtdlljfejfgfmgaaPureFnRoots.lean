/-
The pure statement of FnRoots is proved: for drawn numbers, the power with half the exponent tells whether there is a root, it is multiplicative, orders divide the prime less one, and a generator is found; the program and the reference agree on all of it.
Conditions: the two arguments are lists of bytes that Go can hold. None besides.
-/
import Derived.Test.YtdlljfejfgfmgaaPFnRootsx5
set_option linter.unusedVariables false
set_option linter.unusedSimpArgs false
namespace Go.Proofs.Ytdlljfejfgfmgaa.Pure
open Go.RowKit Go.Proofs.Ytdlljfejfgfmgaa.PFnRoots Go.Proofs.YtdlljfejfgfmgaaW.PrintWords Go.Proofs.YtdlljfejfgfmgaaW.PrintLast Go.Proofs.YtdlljfejfgfmgaaW.PrintMore

/-! Numbers modulo a prime with a generator. -/
/-- g's powers, one behind the other: each new, at last all of 1 to p - 1, and then 1. -/
def scan (p g : Nat) : Nat → Nat → Nat → Bool
  | 0, cur, mask => cur == 1 && mask == 2 ^ p - 2
  | n + 1, cur, mask =>
    match mask.testBit cur with
    | true => false
    | false =>
      match cur * g % p, mask ||| (1 <<< cur) with
      | 0, _ => false
      | _, 0 => false
      | c + 1, m + 1 => scan p g n (c + 1) (m + 1)
structure Cert (p g : Nat) : Prop where
  two : 2 ≤ p
  distinct : ∀ i, i < p - 1 → ∀ j, j < i → g ^ j % p ≠ g ^ i % p
  back : g ^ (p - 1) % p = 1
  all : ∀ a, 0 < a → a < p → ∃ i, i < p - 1 ∧ g ^ i % p = a
theorem bits_all (p a : Nat) (h0 : 0 < a) (h1 : a < p) : (2 ^ p - 2).testBit a = true := by
  obtain ⟨b, rfl⟩ : ∃ b, a = b + 1 := ⟨a - 1, by omega⟩
  obtain ⟨q, rfl⟩ : ∃ q, p = q + 1 := ⟨p - 1, by omega⟩
  have hq : 0 < 2 ^ q := Nat.two_pow_pos q
  rw [Nat.testBit_succ, show (2 ^ (q + 1) - 2) / 2 = 2 ^ q - 1 by rw [Nat.pow_succ]; omega, Nat.testBit_two_pow_sub_one]
  simp; omega
theorem scan_spec (p g : Nat) (hp : 2 ≤ p) (n : Nat) : ∀ (t cur mask : Nat), n + t = p - 1 → cur = g ^ t % p → (∀ a, mask.testBit a = true ↔ ∃ i, i < t ∧ g ^ i % p = a) → scan p g n cur mask = true →
    (∀ i, t ≤ i → i < p - 1 → ∀ j, j < i → g ^ j % p ≠ g ^ i % p) ∧ g ^ (p - 1) % p = 1 ∧ ∀ a, 0 < a → a < p → ∃ i, i < p - 1 ∧ g ^ i % p = a := by
  induction n with
  | zero =>
    intro t cur mask hn hc hm hs
    simp only [scan, Bool.and_eq_true, beq_iff_eq] at hs
    obtain rfl : t = p - 1 := by omega
    refine ⟨fun i h1 h2 => by omega, by rw [← hc]; exact hs.1, fun a h0 h1 => ?_⟩
    exact (hm a).1 (by rw [hs.2]; exact bits_all p a h0 h1)
  | succ n ih =>
    intro t cur mask hn hc hm hs
    unfold scan at hs
    cases hb : mask.testBit cur with
    | true => rw [hb] at hs; simp at hs
    | false =>
      rw [hb] at hs
      have hnew : ∀ a, (mask ||| (1 <<< cur)).testBit a = true ↔ ∃ i, i < t + 1 ∧ g ^ i % p = a := by
        intro a
        rw [Nat.testBit_or, Nat.one_shiftLeft, Nat.testBit_two_pow]
        simp only [Bool.or_eq_true, decide_eq_true_eq, hm a]
        constructor
        · rintro (⟨i, h1, h2⟩ | h)
          · exact ⟨i, by omega, h2⟩
          · exact ⟨t, by omega, by rw [← hc]; exact h⟩
        · rintro ⟨i, h1, h2⟩
          by_cases e : i = t
          · subst e; exact .inr (by rw [hc]; exact h2)
          · exact .inl ⟨i, by omega, h2⟩
      have hcur : cur * g % p = g ^ (t + 1) % p := by rw [hc, Nat.pow_succ, Nat.mod_mul_mod]
      have hs' : scan p g n (cur * g % p) (mask ||| (1 <<< cur)) = true := by
        generalize cur * g % p = x at hs ⊢
        generalize mask ||| (1 <<< cur) = y at hs ⊢
        cases x with
        | zero => simp at hs
        | succ x => cases y with
          | zero => simp at hs
          | succ y => simpa using hs
      obtain ⟨h1, h2, h3⟩ := ih (t + 1) _ _ (by omega) hcur hnew hs'
      refine ⟨fun i hi hi2 j hj => ?_, h2, h3⟩
      by_cases e : i = t
      · subst e
        intro he
        have : mask.testBit cur = true := (hm cur).2 ⟨j, hj, by rw [hc]; exact he⟩
        rw [hb] at this; cases this
      · exact h1 i (by omega) hi2 j hj
theorem cert_of {p g : Nat} (hp : 2 ≤ p) (h : scan p g (p - 1) 1 0 = true) : Cert p g := by
  obtain ⟨h1, h2, h3⟩ := scan_spec p g hp (p - 1) 0 1 0 (by omega) (by rw [Nat.pow_zero, Nat.mod_eq_of_lt hp]) (by simp) h
  exact ⟨hp, fun i hi j hj => h1 i (by omega) hi j hj, h2, h3⟩
theorem cert3 : Cert 3 2 := cert_of (by decide) (by decide +kernel)
theorem cert5 : Cert 5 2 := cert_of (by decide) (by decide +kernel)
theorem cert7 : Cert 7 3 := cert_of (by decide) (by decide +kernel)
theorem cert13 : Cert 13 2 := cert_of (by decide) (by decide +kernel)
theorem cert17 : Cert 17 3 := cert_of (by decide) (by decide +kernel)
theorem cert101 : Cert 101 2 := cert_of (by decide) (by decide +kernel)
theorem cert1009 : Cert 1009 11 := cert_of (by decide) (by decide +kernel)
theorem cert1013 : Cert 1013 3 := cert_of (by decide) (by decide +kernel)
theorem cert7919 : Cert 7919 7 := cert_of (by decide) (by decide +kernel)
theorem cert10007 : Cert 10007 5 := cert_of (by decide) (by decide +kernel)

section
variable {p g : Nat}
theorem pow_mul_mod (a n m : Nat) : a ^ (n * m) % p = (a ^ n % p) ^ m % p := by rw [Nat.pow_mul, ← Nat.pow_mod]
theorem pow_mod_base (a n : Nat) : (a % p) ^ n % p = a ^ n % p := (Nat.pow_mod a n p).symm
theorem Cert.one_mod (c : Cert p g) : 1 % p = 1 := Nat.mod_eq_of_lt c.two
theorem Cert.period (c : Cert p g) (i k : Nat) : g ^ (i + (p - 1) * k) % p = g ^ i % p := by
  rw [Nat.pow_add, Nat.mul_mod, pow_mul_mod, c.back, Nat.one_pow, c.one_mod, Nat.mul_one, Nat.mod_mod]
theorem Cert.ne_zero (c : Cert p g) (n : Nat) : g ^ n % p ≠ 0 := by
  intro h
  have hp := c.two
  have e : g ^ (n + ((p - 1) * (n + 1) - n)) % p = 0 := by rw [Nat.pow_add, Nat.mul_mod, h, Nat.zero_mul, Nat.zero_mod]
  have hle : n ≤ (p - 1) * (n + 1) := Nat.le_trans (Nat.le_succ n) (Nat.le_mul_of_pos_left _ (by omega))
  rw [show n + ((p - 1) * (n + 1) - n) = 0 + (p - 1) * (n + 1) by omega, c.period, Nat.pow_zero, c.one_mod] at e
  exact absurd e (by decide)
theorem Cert.mod_exp (c : Cert p g) (k : Nat) : g ^ (k % (p - 1)) % p = g ^ k % p := by
  have := c.period (k % (p - 1)) (k / (p - 1))
  rw [Nat.mod_add_div] at this
  exact this.symm
theorem Cert.eq_exp (c : Cert p g) {i j : Nat} (h : g ^ i % p = g ^ j % p) : i % (p - 1) = j % (p - 1) := by
  have hp := c.two
  have hi := Nat.mod_lt i (show 0 < p - 1 by omega)
  have hj := Nat.mod_lt j (show 0 < p - 1 by omega)
  rw [← c.mod_exp i, ← c.mod_exp j] at h
  rcases Nat.lt_trichotomy (i % (p - 1)) (j % (p - 1)) with h1 | h1 | h1
  · exact absurd h (c.distinct _ hj _ h1)
  · exact h1
  · exact absurd h.symm (c.distinct _ hi _ h1)
theorem Cert.one_iff (c : Cert p g) (k : Nat) : g ^ k % p = 1 ↔ (p - 1) ∣ k := by
  constructor
  · intro h
    have := c.eq_exp (i := k) (j := 0) (by rw [h, Nat.pow_zero, c.one_mod])
    rw [Nat.zero_mod] at this
    exact Nat.dvd_of_mod_eq_zero this
  · rintro ⟨m, rfl⟩
    have := c.period 0 m
    rw [Nat.zero_add, Nat.pow_zero, c.one_mod] at this
    exact this
/-- Fermat. -/
theorem Cert.fermat (c : Cert p g) {a : Nat} (h0 : 0 < a) (h1 : a < p) : a ^ (p - 1) % p = 1 := by
  obtain ⟨i, _, rfl⟩ := c.all a h0 h1
  rw [pow_mod_base, ← Nat.pow_mul, Nat.mul_comm]
  exact (c.one_iff _).2 ⟨i, rfl⟩
theorem Cert.minus (c : Cert p g) (hp3 : 3 ≤ p) {h : Nat} (hh : p - 1 = 2 * h) : g ^ h % p = p - 1 := by
  obtain ⟨j, hj, e⟩ := c.all (p - 1) (by omega) (by omega)
  have hsq : (p - 1) * (p - 1) % p = 1 := by
    obtain ⟨q, rfl⟩ : ∃ q, p = q + 2 := ⟨p - 2, by omega⟩
    rw [show (q + 2 - 1) * (q + 2 - 1) = 1 + (q + 2) * q by
      rw [show q + 2 - 1 = q + 1 by omega, Nat.add_mul, Nat.mul_add, Nat.add_mul]; omega]
    rw [Nat.add_mul_mod_self_left]; exact Nat.mod_eq_of_lt (by omega)
  have h2 : g ^ (j + j) % p = 1 := by rw [Nat.pow_add, Nat.mul_mod, e]; exact hsq
  obtain ⟨m, hm⟩ := (c.one_iff _).1 h2
  have : m = 0 ∨ m = 1 ∨ 2 ≤ m := by omega
  rcases this with rfl | rfl | hm2
  · have : j = 0 := by omega
    subst this
    rw [Nat.pow_zero, c.one_mod] at e; omega
  · have : j = h := by omega
    rw [← this]; exact e
  · have : (p - 1) * 2 ≤ (p - 1) * m := Nat.mul_le_mul_left _ hm2
    omega
/-- Euler. -/
theorem Cert.half (c : Cert p g) (hp3 : 3 ≤ p) {h : Nat} (hh : p - 1 = 2 * h) (i : Nat) : (g ^ i % p) ^ h % p = if i % 2 = 0 then 1 else p - 1 := by
  rw [pow_mod_base, ← Nat.pow_mul]
  split
  · rename_i hi
    refine (c.one_iff _).2 ⟨i / 2, ?_⟩
    have : i = 2 * (i / 2) := by omega
    rw [hh]
    calc i * h = 2 * (i / 2) * h := by rw [← this]
      _ = 2 * h * (i / 2) := by rw [Nat.mul_assoc, Nat.mul_comm (i / 2) h, ← Nat.mul_assoc]
  · have e : i * h = h + (p - 1) * (i / 2) := by
      have : i = 2 * (i / 2) + 1 := by omega
      rw [hh]
      calc i * h = (2 * (i / 2) + 1) * h := by rw [← this]
        _ = h + 2 * h * (i / 2) := by rw [Nat.add_mul, Nat.one_mul, Nat.add_comm, Nat.mul_assoc, Nat.mul_comm (i / 2) h, ← Nat.mul_assoc]
    rw [e, c.period]; exact c.minus hp3 hh
theorem Cert.half_values (c : Cert p g) (hp3 : 3 ≤ p) {h : Nat} (hh : p - 1 = 2 * h) {a : Nat} (h0 : 0 < a) (h1 : a < p) : a ^ h % p = 1 ∨ a ^ h % p = p - 1 := by
  obtain ⟨i, _, rfl⟩ := c.all a h0 h1
  rw [c.half hp3 hh]
  split
  · exact .inl rfl
  · exact .inr rfl
theorem Cert.root_of (c : Cert p g) (hp3 : 3 ≤ p) {h : Nat} (hh : p - 1 = 2 * h) {a : Nat} (h0 : 0 < a) (h1 : a < p) (e : a ^ h % p = 1) : ∃ x, x < p ∧ x * x % p = a := by
  obtain ⟨i, _, rfl⟩ := c.all a h0 h1
  rw [c.half hp3 hh] at e
  by_cases hi : i % 2 = 0
  · refine ⟨g ^ (i / 2) % p, Nat.mod_lt _ (by omega), ?_⟩
    rw [← Nat.mul_mod, ← Nat.pow_add, show i / 2 + i / 2 = i by omega]
  · rw [if_neg hi] at e; omega
theorem Cert.of_root (c : Cert p g) {h : Nat} (hh : p - 1 = 2 * h) {a x : Nat} (h0 : 0 < a) (hx : x < p) (e : x * x % p = a) : a ^ h % p = 1 := by
  have hx0 : 0 < x := by
    rcases Nat.eq_zero_or_pos x with rfl | h
    · simp at e; omega
    · exact h
  rw [← e, pow_mod_base, Nat.mul_pow, ← Nat.pow_add, show h + h = p - 1 by omega]
  exact c.fermat hx0 hx
theorem half_mul (a b h : Nat) : (a * b % p) ^ h % p = (a ^ h % p) * (b ^ h % p) % p := by
  rw [pow_mod_base, Nat.mul_pow, Nat.mul_mod]
/-- The order of a number: the least exponent with 1. -/
theorem Cert.order (c : Cert p g) {a : Nat} (h0 : 0 < a) (h1 : a < p) : ∃ o, 0 < o ∧ o ≤ p - 1 ∧ a ^ o % p = 1 ∧ (∀ k, 0 < k → k < o → a ^ k % p ≠ 1) ∧ (p - 1) % o = 0 := by
  have hf := c.fermat h0 h1
  have hp := c.two
  have hex : ∀ n, 0 < n → a ^ n % p = 1 → ∃ o, 0 < o ∧ o ≤ n ∧ a ^ o % p = 1 ∧ ∀ k, 0 < k → k < o → a ^ k % p ≠ 1 := by
    intro n
    induction n using Nat.strongRecOn with
    | _ n ih =>
      intro hn he
      by_cases hk : ∃ k, 0 < k ∧ k < n ∧ a ^ k % p = 1
      · obtain ⟨k, h2, h3, h4⟩ := hk
        obtain ⟨o, h5, h6, h7⟩ := ih k h3 h2 h4
        exact ⟨o, h5, by omega, h7⟩
      · exact ⟨n, hn, Nat.le_refl _, he, fun k h2 h3 h4 => hk ⟨k, h2, h3, h4⟩⟩
  obtain ⟨o, ho, hle, he, hmin⟩ := hex (p - 1) (by omega) hf
  refine ⟨o, ho, hle, he, hmin, ?_⟩
  rcases Nat.eq_zero_or_pos ((p - 1) % o) with h | h
  · exact h
  · exfalso
    refine hmin _ h (Nat.mod_lt _ ho) ?_
    have e := hf
    rw [← Nat.mod_add_div (p - 1) o, Nat.pow_add, Nat.mul_mod, pow_mul_mod, he, Nat.one_pow, c.one_mod, Nat.mul_one, Nat.mod_mod] at e
    exact e
end

theorem w64 {n : Int} (h0 : -9223372036854775808 ≤ n) (h1 : n ≤ 9223372036854775807) : wrap64 n = n := by unfold wrap64; omega
theorem rd_set (l : List Int) (i j v : Int) (h0 : 0 ≤ i) (h1 : i < l.length) (hj : 0 ≤ j) : rd (l.set i.toNat v) j = if j = i then v else rd l j := by
  unfold rd
  rw [List.getD_eq_getElem?_getD, List.getD_eq_getElem?_getD, List.getElem?_set]
  by_cases e : j = i
  · subst e; rw [if_pos rfl, if_pos (by omega), if_pos rfl]; rfl
  · rw [if_neg (by omega), if_neg e]
theorem rdOf_set {α : Type} (d : α) (l : List α) (i j : Int) (v : α) (h0 : 0 ≤ i) (h1 : i < l.length) (hj : 0 ≤ j) : rdOf d (l.set i.toNat v) j = if j = i then v else rdOf d l j := by
  unfold rdOf
  rw [List.getD_eq_getElem?_getD, List.getD_eq_getElem?_getD, List.getElem?_set]
  by_cases e : j = i
  · subst e; rw [if_pos rfl, if_pos (by omega), if_pos rfl]; rfl
  · rw [if_neg (by omega), if_neg e]

theorem powerMod_l0 : ∀ (k : Nat) (a b c d : Int), impl_powerMod.l0 k a b c d = spec_l4Power.l0 k a b c d
  | 0, _, _, _, _ => rfl
  | k + 1, a, b, c, d => by simp only [impl_powerMod.l0, spec_l4Power.l0, powerMod_l0 k]
theorem powerMod_f (k : Nat) (a b c : Int) : impl_powerMod.f k a b c = spec_l4Power.f k a b c := by unfold impl_powerMod.f spec_l4Power.f; rw [powerMod_l0]
theorem tmod_nat (a b : Nat) : Int.tmod (a : Int) (b : Int) = ((a % b : Nat) : Int) := by
  rw [Int.tmod_eq_emod_of_nonneg (Int.natCast_nonneg a)]; exact (Int.natCast_emod a b).symm
theorem wrap_mul (x y p : Nat) (hx : x < p) (hy : y < p) (hp : p ≤ 100000) : wrap64 ((x : Int) * (y : Int)) = ((x * y : Nat) : Int) := by
  have h1 : x * y ≤ 100000 * 100000 := Nat.mul_le_mul (by omega) (by omega)
  rw [← Int.natCast_mul]
  exact w64 (by omega) (by omega)
theorem power_val (p : Nat) (hp0 : 0 < p) (hp : p ≤ 100000) : ∀ (n k a b d : Nat), a < p → d < p → b < 2 ^ n → b < 4611686018427387904 → n < k → spec_l4Power.l0 k (a : Int) (b : Int) (p : Int) (d : Int) = some (((d * a ^ b % p : Nat)) : Int) := by
  intro n
  induction n with
  | zero =>
    intro k a b d ha hd h1 _ hk
    obtain ⟨k, rfl⟩ : ∃ m, k = m + 1 := ⟨k - 1, by omega⟩
    obtain rfl : b = 0 := by simpa using h1
    simp only [spec_l4Power.l0]
    rw [if_neg (by simp), Nat.pow_zero, Nat.mul_one, Nat.mod_eq_of_lt hd]
  | succ n ih =>
    intro k a b d ha hd h1 hb hk
    obtain ⟨k, rfl⟩ : ∃ m, k = m + 1 := ⟨k - 1, by omega⟩
    have hc : ¬ (p : Int) = 0 := by omega
    have haa : a * a % p < p := Nat.mod_lt _ hp0
    have e1 : Int.tmod (wrap64 ((a : Int) * (a : Int))) (p : Int) = ((a * a % p : Nat) : Int) := by rw [wrap_mul a a p ha ha hp, tmod_nat]
    have e2 : Int.tmod (wrap64 ((d : Int) * (a : Int))) (p : Int) = ((d * a % p : Nat) : Int) := by rw [wrap_mul d a p hd ha hp, tmod_nat]
    have e3 : wrap64 (Int.tdiv (b : Int) 2) = ((b / 2 : Nat) : Int) := by
      rw [Int.tdiv_eq_ediv_of_nonneg (by omega), w64 (by omega) (by omega)]; omega
    have e4 : Int.tmod (b : Int) 2 = ((b % 2 : Nat) : Int) := tmod_nat b 2
    have h2 : b / 2 < 2 ^ n := by rw [Nat.pow_succ] at h1; omega
    have hpow : ∀ x : Nat, x * (a * a % p) ^ (b / 2) % p = x * a ^ (2 * (b / 2)) % p := fun x => by
      rw [Nat.mul_mod, ← Nat.pow_mod, Nat.pow_mul, Nat.pow_two, ← Nat.mul_mod]
    simp only [spec_l4Power.l0, e1, e2, e3, e4, if_neg hc]
    by_cases hz : b = 0
    · subst hz
      rw [if_neg (by simp), Nat.pow_zero, Nat.mul_one, Nat.mod_eq_of_lt hd]
    · rw [if_pos (by omega)]
      by_cases ho : b % 2 = 1
      · rw [if_pos (by omega), ih k (a * a % p) (b / 2) (d * a % p) haa (Nat.mod_lt _ hp0) h2 (by omega) (by omega)]
        congr 2
        rw [hpow, Nat.mod_mul_mod, Nat.mul_assoc, show a * a ^ (2 * (b / 2)) = a ^ b by
          rw [Nat.mul_comm, ← Nat.pow_succ]; congr 1; omega]
      · rw [if_neg (by omega), ih k (a * a % p) (b / 2) d haa hd h2 (by omega) (by omega)]
        congr 2
        rw [hpow, show 2 * (b / 2) = b by omega]
/-- The power of a number modulo p, as both compute it. -/
theorem power_ev (p a b : Nat) (hp : 2 ≤ p) (hp2 : p ≤ 100000) (ha : a < p) (hb : b < 4611686018427387904) : Ev (fun k => spec_l4Power.f k (a : Int) (b : Int) (p : Int)) ((a ^ b % p : Nat) : Int) ∧ Ev (fun k => impl_powerMod.f k (a : Int) (b : Int) (p : Int)) ((a ^ b % p : Nat) : Int) := by
  have h : ∀ k, 62 < k → spec_l4Power.f k (a : Int) (b : Int) (p : Int) = some ((a ^ b % p : Nat) : Int) := fun k hk => by
    have := power_val p (by omega) hp2 62 k a b 1 ha (by omega) (by omega) hb hk
    rw [Nat.one_mul] at this
    exact this
  exact ⟨⟨63, fun k hk => h k (by omega)⟩, ⟨63, fun k hk => (powerMod_f k _ _ _).trans (h k (by omega))⟩⟩

/-! The reader of choices: it never fails, and tells numbers in their ranges. -/
def Bytes8 (l : List Int) : Prop := ∀ x ∈ l, 0 ≤ x ∧ x ≤ 255
theorem bytes_of_wf {l : List Int} (h : ∀ x ∈ l, (Lit.int .u8 x).wf = true) : Bytes8 l := fun x hx => by
  have := h x hx
  simpa [Lit.wf, IntKind.min, IntKind.max, IntKind.signed, IntKind.bits] using this
theorem bytes_rd {l : List Int} (h : Bytes8 l) (i : Int) (h0 : 0 ≤ i) (h1 : i < l.length) : 0 ≤ rd l i ∧ rd l i ≤ 255 := by
  have hi : i.toNat < l.length := by omega
  have : rd l i = l[i.toNat] := by simp [rd, List.getD_eq_getElem?_getD, hi]
  rw [this]; exact h _ (List.getElem_mem hi)
theorem and255 (x : Int) (h0 : 0 ≤ x) (h1 : x < 18446744073709551616) : Go.bits .and .u64 x 255 = x % 256 := by
  have h := bits_mask .u64 64 (by decide) (fun n h₀ h₁ => by simp [IntKind.wrap, IntKind.bits, IntKind.signed]; omega) 8 (by decide) x h0 (by omega)
  simpa using h
theorem u64_range (x : Int) : 0 ≤ IntKind.u64.wrap x ∧ IntKind.u64.wrap x < 18446744073709551616 := by simp [IntKind.wrap, IntKind.bits, IntKind.signed]; omega
theorem cur_next (l : List Int) (hl : Bytes8 l) (at_ s : Int) (h0 : 0 ≤ at_) (h1 : at_ < 4611686018427387904) : ∃ r s', spec_l1Cur_next.f l at_ s = some (r, at_ + 1, s') ∧ 0 ≤ r ∧ r ≤ 255 := by
  have hw : wrap64 (at_ + 1) = at_ + 1 := w64 (by omega) (by omega)
  have hseed : ∀ x : Int, 0 ≤ wrap64 (Go.bits .and .u64 (IntKind.u64.wrap x / 1099511627776) 255) ∧ wrap64 (Go.bits .and .u64 (IntKind.u64.wrap x / 1099511627776) 255) ≤ 255 := fun x => by
    have hx := u64_range x
    rw [and255 _ (by omega) (by omega), w64 (by omega) (by omega)]; omega
  unfold spec_l1Cur_next.f
  rw [hw]
  by_cases hlt : at_ < (l.length : Int)
  · have hb := bytes_rd hl at_ h0 hlt
    rw [if_pos hlt, if_pos h0]
    split
    · exact ⟨_, _, rfl, by rw [w64 (by omega) (by omega)]; exact hb.1, by rw [w64 (by omega) (by omega)]; exact hb.2⟩
    · exact ⟨_, _, rfl, (hseed _).1, (hseed _).2⟩
  · rw [if_neg hlt]
    split
    · exact ⟨_, _, rfl, by omega, by omega⟩
    · exact ⟨_, _, rfl, (hseed _).1, (hseed _).2⟩
theorem cur_pick (l : List Int) (hl : Bytes8 l) (at_ s n : Int) (h0 : 0 ≤ at_) (h1 : at_ < 2305843009213693952) (hn : n < 4611686018427387904) : ∃ r a' s', spec_l1Cur_pick.f l at_ s n = some (r, a', s') ∧ at_ ≤ a' ∧ a' ≤ at_ + 2 ∧ 0 ≤ r ∧ (1 ≤ n → r < n) := by
  unfold spec_l1Cur_pick.f
  by_cases hs : n ≤ 1
  · rw [if_pos hs]; exact ⟨0, at_, s, rfl, by omega, by omega, by omega, by omega⟩
  rw [if_neg hs]
  obtain ⟨r, s', h, hr0, hr1⟩ := cur_next l hl at_ s h0 (by omega)
  rw [h]
  simp only [Option.bind_some]
  by_cases hb : n > 200
  · obtain ⟨r2, s2, h2, h3, h4⟩ := cur_next l hl (at_ + 1) s' (by omega) (by omega)
    rw [if_pos hb, h2]
    simp only [Option.bind_some]
    rw [if_neg (by omega), w64 (n := r * 256) (by omega) (by omega), w64 (by omega) (by omega), Int.tmod_eq_emod_of_nonneg (by omega)]
    exact ⟨_, _, _, rfl, by omega, by omega, Int.emod_nonneg _ (by omega), fun _ => Int.emod_lt_of_pos _ (by omega)⟩
  · rw [if_neg hb, if_neg (by omega), Int.tmod_eq_emod_of_nonneg (by omega)]
    exact ⟨_, _, _, rfl, by omega, by omega, Int.emod_nonneg _ (by omega), fun _ => Int.emod_lt_of_pos _ (by omega)⟩
theorem cur_one (l : List Int) (hl : Bytes8 l) (at_ s n : Int) (h0 : 0 ≤ at_) (h1 : at_ < 2305843009213693952) (hn : n < 4611686018427387904) : ∃ b a' s', spec_l1Cur_one.f l at_ s n = some (b, a', s') ∧ at_ ≤ a' ∧ a' ≤ at_ + 2 := by
  obtain ⟨r, a', s', h, h2, h3, _⟩ := cur_pick l hl at_ s n h0 h1 hn
  unfold spec_l1Cur_one.f
  rw [h]
  exact ⟨_, _, _, rfl, h2, h3⟩

theorem cur_among (l : List Int) (hl : Bytes8 l) (at_ s : Int) (m : List Int) (hm : 1 ≤ m.length) (hm2 : m.length < 4000000000) (h0 : 0 ≤ at_) (h1 : at_ < 2305843009213693952) : ∃ r a' s', spec_l1Cur_among.f l at_ s m = some (r, a', s') ∧ at_ ≤ a' ∧ a' ≤ at_ + 2 ∧ r ∈ m := by
  obtain ⟨r, a', s', h, h2, h3, h4, h5⟩ := cur_pick l hl at_ s m.length h0 h1 (by omega)
  have h5 := h5 (by omega)
  unfold spec_l1Cur_among.f
  rw [h]
  simp only [Option.bind_some]
  rw [if_pos h4, if_pos h5]
  refine ⟨_, _, _, rfl, h2, h3, ?_⟩
  have hi : r.toNat < m.length := by omega
  have : rd m r = m[r.toNat] := by simp [rd, List.getD_eq_getElem?_getD, hi]
  rw [this]; exact List.getElem_mem hi

def drawn : List Int := [0, 1, 2, 4, 9, 10007, 10009, 3, 5, 7, 13, 17, 101, 1009, 1013, 7919]
theorem cur_prime (l : List Int) (hl : Bytes8 l) (at_ s : Int) (h0 : 0 ≤ at_) (h1 : at_ < 1000000) : ∃ p a' s', spec_l1Cur_prime.f l at_ s = some (p, a', s') ∧ at_ ≤ a' ∧ a' ≤ at_ + 4 ∧ p ∈ drawn := by
  unfold spec_l1Cur_prime.f
  obtain ⟨b, a', s', h, h2, h3⟩ := cur_one l hl at_ s 12 h0 (by omega) (by omega)
  rw [h]
  simp only [Option.bind_some]
  cases b with
  | true =>
    obtain ⟨p, a2, s2, h4, h5, h6, h7⟩ := cur_among l hl a' s' [0, 1, 2, 4, 9, 10007, 10009] (by decide) (by decide) (by omega) (by omega)
    rw [if_pos rfl, h4]
    exact ⟨p, a2, s2, rfl, by omega, by omega, by unfold drawn; simp at h7 ⊢; omega⟩
  | false =>
    obtain ⟨p, a2, s2, h4, h5, h6, h7⟩ := cur_among l hl a' s' [3, 5, 7, 13, 17, 101, 1009, 1013, 7919] (by decide) (by decide) (by omega) (by omega)
    rw [if_neg (by simp), h4]
    exact ⟨p, a2, s2, rfl, by omega, by omega, by unfold drawn; simp at h7 ⊢; omega⟩
theorem cur_below (l : List Int) (hl : Bytes8 l) (at_ s p : Int) (h0 : 0 ≤ at_) (h1 : at_ < 1000000) : ∃ a a' s', Ev (fun k => spec_l1Cur_below.f k l at_ s p) (a, a', s') ∧ at_ ≤ a' ∧ a' ≤ at_ + 8 := by
  have hj : ∀ (b : Bool) (at_ s : Int), 0 ≤ at_ → at_ < 2000000 → (p < 2 → b = true) → ∃ a a' s', Ev (fun k => spec_l1Cur_below.j0 k p b l at_ s) (a, a', s') ∧ at_ ≤ a' ∧ a' ≤ at_ + 6 := by
    intro b at_ s h0 h1 hp
    cases b with
    | true =>
      obtain ⟨r, a2, s2, h4, h5, h6, h7⟩ := cur_among l hl at_ s [(-1), 0, 1, p] (by simp) (by simp) (by omega) (by omega)
      exact ⟨r, a2, s2, Ev.step (fun k => by rw [spec_l1Cur_below.j0, if_pos rfl, h4]; rfl) (Ev.now _), by omega, by omega⟩
    | false =>
      have hp2 : ¬ p < 2 := fun h => by have := hp h; cases this
      obtain ⟨r, a2, s2, h4, h5, h6, h7, _⟩ := cur_pick l hl at_ s 256 (by omega) (by omega) (by omega)
      obtain ⟨r3, a3, s3, h8, h9, h10, h11, _⟩ := cur_pick l hl a2 s2 37 (by omega) (by omega) (by omega)
      exact ⟨_, a3, s3, Ev.step (fun k => by rw [spec_l1Cur_below.j0, if_neg (by simp), h4, Option.bind_some, h8, Option.bind_some, if_neg (by omega)]) (Ev.now _), by omega, by omega⟩
  unfold spec_l1Cur_below.f
  by_cases hp : p < 2
  · simp only [hp, if_true]
    obtain ⟨a, a', s', h2, h3, h4⟩ := hj true at_ s h0 (by omega) (fun _ => rfl)
    exact ⟨a, a', s', h2, h3, by omega⟩
  · simp only [hp, if_false]
    obtain ⟨b, a', s', h, h2, h3⟩ := cur_one l hl at_ s 20 h0 (by omega) (by omega)
    simp only [h, Option.bind_some]
    obtain ⟨a, a2, s2, h4, h5, h6⟩ := hj b a' s' (by omega) (by omega) (fun h => absurd h hp)
    exact ⟨a, a2, s2, h4, by omega, by omega⟩
theorem drawInverse (l : List Int) (hl : Bytes8 l) : ∃ a p, Ev (fun k => spec_DrawInverseMod.f k l) (a, p) ∧ p ∈ drawn := by
  unfold spec_DrawInverseMod.f
  obtain ⟨p, a', s', h, h2, h3, h4⟩ := cur_prime l hl 0 0 (by omega) (by omega)
  obtain ⟨a, a2, s2, h5, _⟩ := cur_below l hl a' s' p (by omega) (by omega)
  simp only [h, Option.bind_some]
  exact ⟨a, p, Ev.bind h5 (Ev.now _), h4⟩

theorem number_l0 (l : List Int) (hl : Bytes8 l) (hlen : l.length < 4611686018427387904) (d : Nat) : ∀ (k : Nat) (n i : Int), 0 ≤ n → n < 1000003 → 0 ≤ i → i ≤ l.length → (l.length : Int) - i = d → d < k → ∃ r, laws_numberOf.l0 k n l l.length i = some r ∧ 0 ≤ r ∧ r < 1000003 := by
  induction d with
  | zero =>
    intro k n i hn hn2 h0 hi hd hk
    obtain ⟨k, rfl⟩ : ∃ m, k = m + 1 := ⟨k - 1, by omega⟩
    exact ⟨n, by simp only [laws_numberOf.l0]; rw [if_neg (by omega)], hn, hn2⟩
  | succ d ih =>
    intro k n i hn hn2 h0 hi hd hk
    obtain ⟨k, rfl⟩ : ∃ m, k = m + 1 := ⟨k - 1, by omega⟩
    have hb := bytes_rd hl i h0 (by omega)
    simp only [laws_numberOf.l0]
    rw [if_pos (by omega), if_pos h0, if_pos (by omega), w64 (n := i + 1) (by omega) (by omega), w64 (n := 31 * n) (by omega) (by omega), w64 (n := rd l i) (by omega) (by omega), w64 (n := 31 * n + rd l i) (by omega) (by omega), Int.tmod_eq_emod_of_nonneg (by omega)]
    exact ih k _ (i + 1) (Int.emod_nonneg _ (by decide)) (Int.emod_lt_of_pos _ (by decide)) (by omega) (by omega) (by omega) (by omega)
theorem number (l : List Int) (hl : Bytes8 l) (hlen : l.length < 4611686018427387904) : ∃ r, Ev (fun k => laws_numberOf.f k l) r ∧ 0 ≤ r ∧ r < 1000003 := by
  obtain ⟨r, h, h2⟩ := number_l0 l hl hlen l.length (l.length + 1) 0 0 (by omega) (by omega) (by omega) (by omega) (by omega) (by omega)
  exact ⟨r, Ev.of (fun k => laws_numberOf.mono l k) h, h2⟩

/-! What the drawn moduli are. -/
structure Mod (p : Nat) : Prop where
  lo : 3 ≤ p
  hi : p ≤ 10007
  odd : p - 1 = 2 * ((p - 1) / 2)
  gen : ∃ g, Cert p g ∧ g < p
  isM : Ev (fun k => impl_isModulus.f k (p : Int)) true
  isP : Ev (fun k => spec_l4Prime.f k (p : Int)) true
theorem isM_of (p : Nat) (h1 : (p : Int) ≥ 3) (h2 : (p : Int) ≤ 10007) (h : impl_isPrime.f 110 (p : Int) = some true) : Ev (fun k => impl_isModulus.f k (p : Int)) true := by
  unfold impl_isModulus.f impl_within.f
  simp only [h1, h2, if_true, decide_true, Option.bind_some]
  exact Ev.bind (Ev.of (fun k => impl_isPrime.mono _ k) h) (Ev.now _)
theorem mod_of (p g : Nat) (c : Cert p g) (h1 : 3 ≤ p) (h2 : p ≤ 10007) (h3 : p - 1 = 2 * ((p - 1) / 2)) (hg : g < p) (h : impl_isPrime.f 110 (p : Int) = some true) (h' : spec_l4Prime.f 110 (p : Int) = some true) : Mod p :=
  ⟨h1, h2, h3, ⟨g, c, hg⟩, isM_of p (by omega) (by omega) h, Ev.of (fun k => spec_l4Prime.mono _ k) h'⟩
/-- A drawn number is a modulus, or both refuse it. -/
theorem drawn_mod (q : Int) (hq : q ∈ drawn) : (∃ p : Nat, q = (p : Int) ∧ Mod p) ∨ (Ev (fun k => impl_isModulus.f k q) false ∧ ∀ a, Ev (fun k => spec_l4Of.f k a q) false) := by
  have bad : ∀ q : Int, (q < 3 ∨ q > 10007) → (Ev (fun k => impl_isModulus.f k q) false ∧ ∀ a, Ev (fun k => spec_l4Of.f k a q) false) := by
    intro q h
    unfold impl_isModulus.f impl_within.f spec_l4Of.f spec_l1In.f
    by_cases h3 : q ≥ 3
    · have h4 : ¬ q ≤ 10007 := by omega
      simp only [h3, h4, if_true, decide_false, Option.bind_some, Bool.false_eq_true, if_false]; exact ⟨Ev.now _, fun _ => Ev.now _⟩
    · simp only [h3, if_false, Option.bind_some, Bool.false_eq_true]; exact ⟨Ev.now _, fun _ => Ev.now _⟩
  have comp : ∀ q : Int, q ≥ 3 → q ≤ 10007 → impl_isPrime.f 110 q = some false → spec_l4Prime.f 110 q = some false → (Ev (fun k => impl_isModulus.f k q) false ∧ ∀ a, Ev (fun k => spec_l4Of.f k a q) false) := by
    intro q h1 h2 h h'
    have e1 := Ev.of (fun k => impl_isPrime.mono q k) h
    have e2 := Ev.of (fun k => spec_l4Prime.mono q k) h'
    unfold impl_isModulus.f impl_within.f spec_l4Of.f spec_l1In.f
    simp only [h1, h2, if_true, decide_true, Option.bind_some]
    refine ⟨Ev.bind e1 (Ev.now _), fun a => ?_⟩
    split
    · simp only [Option.bind_some]
      split
      · exact Ev.bind e2 (Ev.now _)
      · exact Ev.now _
    · exact Ev.now _
  simp only [drawn, List.mem_cons, List.not_mem_nil, or_false] at hq
  rcases hq with rfl | rfl | rfl | rfl | rfl | rfl | rfl | rfl | rfl | rfl | rfl | rfl | rfl | rfl | rfl | rfl
  · exact .inr (bad 0 (by omega))
  · exact .inr (bad 1 (by omega))
  · exact .inr (bad 2 (by omega))
  · exact .inr (comp 4 (by omega) (by omega) (by decide +kernel) (by decide +kernel))
  · exact .inr (comp 9 (by omega) (by omega) (by decide +kernel) (by decide +kernel))
  · exact .inl ⟨10007, rfl, mod_of 10007 5 cert10007 (by omega) (by omega) (by omega) (by omega) (by decide +kernel) (by decide +kernel)⟩
  · exact .inr (bad 10009 (by omega))
  · exact .inl ⟨3, rfl, mod_of 3 2 cert3 (by omega) (by omega) (by omega) (by omega) (by decide +kernel) (by decide +kernel)⟩
  · exact .inl ⟨5, rfl, mod_of 5 2 cert5 (by omega) (by omega) (by omega) (by omega) (by decide +kernel) (by decide +kernel)⟩
  · exact .inl ⟨7, rfl, mod_of 7 3 cert7 (by omega) (by omega) (by omega) (by omega) (by decide +kernel) (by decide +kernel)⟩
  · exact .inl ⟨13, rfl, mod_of 13 2 cert13 (by omega) (by omega) (by omega) (by omega) (by decide +kernel) (by decide +kernel)⟩
  · exact .inl ⟨17, rfl, mod_of 17 3 cert17 (by omega) (by omega) (by omega) (by omega) (by decide +kernel) (by decide +kernel)⟩
  · exact .inl ⟨101, rfl, mod_of 101 2 cert101 (by omega) (by omega) (by omega) (by omega) (by decide +kernel) (by decide +kernel)⟩
  · exact .inl ⟨1009, rfl, mod_of 1009 11 cert1009 (by omega) (by omega) (by omega) (by omega) (by decide +kernel) (by decide +kernel)⟩
  · exact .inl ⟨1013, rfl, mod_of 1013 3 cert1013 (by omega) (by omega) (by omega) (by omega) (by decide +kernel) (by decide +kernel)⟩
  · exact .inl ⟨7919, rfl, mod_of 7919 7 cert7919 (by omega) (by omega) (by omega) (by omega) (by decide +kernel) (by decide +kernel)⟩
section
variable {p : Nat}
theorem Mod.of_in (m : Mod p) {a : Nat} (ha : a < p) : Ev (fun k => spec_l4Of.f k (a : Int) (p : Int)) true := by
  have h1 := m.lo; have h2 := m.hi
  unfold spec_l4Of.f spec_l1In.f
  rw [if_pos (show (p : Int) ≥ 3 by omega), decide_eq_true (show (p : Int) ≤ 10007 by omega)]
  simp only [Option.bind_some, if_true]
  rw [if_pos (show (a : Int) ≥ 0 by omega), w64 (by omega) (by omega), decide_eq_true (show (a : Int) ≤ (p : Int) - 1 by omega)]
  simp only [Option.bind_some, if_true]
  exact Ev.bind m.isP (Ev.now _)
theorem Mod.of_out (m : Mod p) {a : Int} (ha : ¬ (0 ≤ a ∧ a < p)) : Ev (fun k => spec_l4Of.f k a (p : Int)) false := by
  have h1 := m.lo; have h2 := m.hi
  unfold spec_l4Of.f spec_l1In.f
  rw [if_pos (show (p : Int) ≥ 3 by omega), decide_eq_true (show (p : Int) ≤ 10007 by omega)]
  simp only [Option.bind_some, if_true]
  by_cases h : a ≥ 0
  · rw [if_pos h, w64 (by omega) (by omega), decide_eq_false (show ¬ a ≤ (p : Int) - 1 by omega)]
    simp only [Option.bind_some, Bool.false_eq_true, if_false]; exact Ev.now _
  · rw [if_neg h]
    simp only [Option.bind_some, Bool.false_eq_true, if_false]; exact Ev.now _
theorem within_in (m : Mod p) {a lo : Nat} (hl : lo ≤ a) (ha : a < p) : impl_within.f (a : Int) (lo : Int) (wrap64 ((p : Int) - 1)) = some true := by
  have h1 := m.lo; have h2 := m.hi
  unfold impl_within.f
  rw [if_pos (by omega), w64 (by omega) (by omega), decide_eq_true (by omega)]
theorem within_out (m : Mod p) {a lo : Int} (ha : ¬ (lo ≤ a ∧ a < p)) : impl_within.f a lo (wrap64 ((p : Int) - 1)) = some false := by
  have h1 := m.lo; have h2 := m.hi
  unfold impl_within.f
  by_cases h : a ≥ lo
  · rw [if_pos h, w64 (by omega) (by omega), decide_eq_false (by omega)]
  · rw [if_neg h]
theorem Mod.halfInt (m : Mod p) : wrap64 (Int.tdiv (wrap64 ((p : Int) - 1)) 2) = (((p - 1) / 2 : Nat) : Int) := by
  have h1 := m.lo; have h2 := m.hi
  rw [w64 (n := (p : Int) - 1) (by omega) (by omega), Int.tdiv_eq_ediv_of_nonneg (by omega), w64 (by omega) (by omega)]; omega
/-- The kind of a number: 0, 1 or -1. -/
def kindOf (p a : Nat) : Int := if a = 0 then 0 else if a ^ ((p - 1) / 2) % p = 1 then 1 else -1
theorem Mod.power (m : Mod p) {a b : Nat} (ha : a < p) (hb : b < 4611686018427387904) : Ev (fun k => spec_l4Power.f k (a : Int) (b : Int) (p : Int)) ((a ^ b % p : Nat) : Int) ∧ Ev (fun k => impl_powerMod.f k (a : Int) (b : Int) (p : Int)) ((a ^ b % p : Nat) : Int) := by
  have h1 := m.lo; have h2 := m.hi
  exact power_ev p a b (by omega) (by omega) ha hb
theorem Mod.kindImpl (m : Mod p) {a : Nat} (ha : a < p) : Ev (fun k => impl_squareKind.f k (a : Int) (p : Int)) (kindOf p a) := by
  have h2 := m.hi
  unfold impl_squareKind.f kindOf
  by_cases h0 : a = 0
  · simp only [h0, Int.ofNat_zero, if_true, Int.natCast_zero]; exact Ev.now _
  · have h0' : ¬ (a : Int) = 0 := by omega
    simp only [h0, h0', if_false, m.halfInt]
    refine Ev.bind (m.power ha (by omega)).2 ?_
    by_cases h : a ^ ((p - 1) / 2) % p = 1
    · simp only [h, Int.natCast_one, if_true]; exact Ev.now _
    · have h' : ¬ ((a ^ ((p - 1) / 2) % p : Nat) : Int) = 1 := by omega
      simp only [h, h', if_false]; exact Ev.now _
theorem Mod.half_ne (m : Mod p) {a : Nat} (h0 : 0 < a) (ha : a < p) : a ^ ((p - 1) / 2) % p = 1 ∨ a ^ ((p - 1) / 2) % p = p - 1 := by
  obtain ⟨g, c, _⟩ := m.gen
  exact c.half_values m.lo m.odd h0 ha
theorem Mod.zero_half (m : Mod p) : 0 ^ ((p - 1) / 2) % p = 0 := by
  have h1 := m.lo
  rw [Nat.zero_pow (by omega), Nat.zero_mod]
theorem Mod.kindSpec (m : Mod p) {a : Nat} (ha : a < p) : Ev (fun k => spec_l4Kind.f k (a : Int) (p : Int)) (kindOf p a) := by
  have h1 := m.lo; have h2 := m.hi
  unfold spec_l4Kind.f kindOf
  rw [m.halfInt]
  refine Ev.bind (m.power ha (by omega)).1 ?_
  by_cases h0 : a = 0
  · subst h0
    simp only [m.zero_half, Int.natCast_zero, if_true]; exact Ev.now _
  · rcases m.half_ne (by omega) ha with h | h
    · simp only [h, h0, Int.natCast_one, if_true, if_false, show ¬ (1 : Int) = 0 by omega]; exact Ev.now _
    · have h3 : ¬ p - 1 = 1 := by omega
      have h4 : ¬ ((p - 1 : Nat) : Int) = 0 := by omega
      have h5 : ¬ ((p - 1 : Nat) : Int) = 1 := by omega
      simp only [h, h0, h3, h4, h5, if_false]; exact Ev.now _
theorem Mod.squareImpl (m : Mod p) {a : Nat} (ha : a < p) : Ev (fun k => impl_SquareKind.f k (a : Int) (p : Int)) (kindOf p a, true) := by
  unfold impl_SquareKind.f
  refine Ev.bind m.isM ?_
  have := within_in m (Nat.zero_le a) ha
  rw [Int.natCast_zero] at this
  simp only [if_true, this, Option.bind_some]
  exact Ev.bind (m.kindImpl ha) (Ev.now _)
theorem Mod.squareSpec (m : Mod p) {a : Nat} (ha : a < p) : Ev (fun k => spec_SquareKind.f k (a : Int) (p : Int)) (kindOf p a, true) := by
  unfold spec_SquareKind.f
  refine Ev.bind (m.of_in ha) ?_
  simp only [if_true]
  exact Ev.bind (m.kindSpec ha) (Ev.now _)
/-! The search for a root. -/
theorem Mod.search (m : Mod p) (a : Nat) (d : Nat) : ∀ (k x : Nat), x ≤ p → p - x = d → d < k →
    (∃ r : Nat, r < p ∧ r * r % p = a ∧ impl_RootMod.l0 k (a : Int) (p : Int) (p : Int) (x : Int) = some ((r : Int), true) ∧ spec_l4Root.l0 k (a : Int) (p : Int) (x : Int) = some (r : Int)) ∨
    ((∀ y, x ≤ y → y < p → y * y % p ≠ a) ∧ impl_RootMod.l0 k (a : Int) (p : Int) (p : Int) (x : Int) = some (0, false) ∧ spec_l4Root.l0 k (a : Int) (p : Int) (x : Int) = some (-1)) := by
  have h1 := m.lo; have h2 := m.hi
  induction d with
  | zero =>
    intro k x hx hd hk
    obtain ⟨k, rfl⟩ : ∃ m, k = m + 1 := ⟨k - 1, by omega⟩
    refine .inr ⟨fun y _ _ => by omega, ?_, ?_⟩
    · rw [impl_RootMod.l0, if_neg (by omega)]
    · rw [spec_l4Root.l0, if_neg (by omega)]
  | succ d ih =>
    intro k x hx hd hk
    obtain ⟨k, rfl⟩ : ∃ m, k = m + 1 := ⟨k - 1, by omega⟩
    have hz : ¬ (p : Int) = 0 := by omega
    have e : Int.tmod (wrap64 ((x : Int) * (x : Int))) (p : Int) = ((x * x % p : Nat) : Int) := by rw [wrap_mul x x p (by omega) (by omega) (by omega), tmod_nat]
    have e2 : wrap64 ((x : Int) + 1) = ((x + 1 : Nat) : Int) := w64 (by omega) (by omega)
    have hlt : (x : Int) < (p : Int) := by omega
    by_cases h : x * x % p = a
    · refine .inl ⟨x, by omega, h, ?_, ?_⟩
      · simp only [impl_RootMod.l0, hlt, hz, e, h, if_true, if_false]
      · simp only [spec_l4Root.l0, hlt, hz, e, h, if_true, if_false]
    · have h' : ¬ ((x * x % p : Nat) : Int) = (a : Int) := by omega
      rcases ih k (x + 1) (by omega) (by omega) (by omega) with ⟨r, h3, h4, h5, h6⟩ | ⟨h3, h4, h5⟩
      · refine .inl ⟨r, h3, h4, ?_, ?_⟩
        · simp only [impl_RootMod.l0, hlt, hz, e, h', e2, if_true, if_false]; exact h5
        · simp only [spec_l4Root.l0, hlt, hz, e, h', e2, if_true, if_false]; exact h6
      · refine .inr ⟨fun y hy hy2 => ?_, ?_, ?_⟩
        · by_cases hxy : y = x
          · subst hxy; exact h
          · exact h3 y (by omega) hy2
        · simp only [impl_RootMod.l0, hlt, hz, e, h', e2, if_true, if_false]; exact h4
        · simp only [spec_l4Root.l0, hlt, hz, e, h', e2, if_true, if_false]; exact h5
theorem Mod.kind_root (m : Mod p) {a : Nat} (ha : a < p) : (∃ x, x < p ∧ x * x % p = a) ↔ 0 ≤ kindOf p a := by
  obtain ⟨g, c, _⟩ := m.gen
  have h1 := m.lo
  unfold kindOf
  by_cases h0 : a = 0
  · subst h0; simp only [if_true]
    exact ⟨fun _ => by omega, fun _ => ⟨0, by omega, by simp⟩⟩
  · simp only [h0, if_false]
    constructor
    · rintro ⟨x, hx, e⟩
      rw [if_pos (c.of_root m.odd (by omega) hx e)]; omega
    · intro h
      by_cases e : a ^ ((p - 1) / 2) % p = 1
      · exact c.root_of m.lo m.odd (by omega) ha e
      · rw [if_neg e] at h; omega
/-- Both find one root, or none. -/
theorem Mod.roots (m : Mod p) {a : Nat} (ha : a < p) : ∃ (r : Nat) (b : Bool), (b = true ↔ 0 ≤ kindOf p a) ∧ (b = true → r < p ∧ r * r % p = a) ∧ Ev (fun k => impl_RootMod.f k (a : Int) (p : Int)) ((r : Int), b) ∧ Ev (fun k => spec_RootMod.f k (a : Int) (p : Int)) ((r : Int), b) := by
  have h1 := m.lo
  have hw := within_in m (Nat.zero_le a) ha
  rw [Int.natCast_zero] at hw
  have lift : ∀ v, Ev (fun k => impl_RootMod.l0 k (a : Int) (p : Int) (p : Int) 0) v → Ev (fun k => impl_RootMod.f k (a : Int) (p : Int)) v := by
    intro v hv
    unfold impl_RootMod.f
    refine Ev.bind m.isM ?_
    simp only [if_true, hw, Option.bind_some, Bool.not_true]
    exact Ev.step (fun k => by rw [impl_RootMod.j0, if_neg (by simp)]) hv
  have hmono : ∀ k, LeO (impl_RootMod.l0 k (a : Int) (p : Int) (p : Int) 0) (impl_RootMod.l0 (k + 1) (a : Int) (p : Int) (p : Int) 0) := fun k => (impl_RootMod.mono_l k).2 _ _ _ _
  have hmono2 : ∀ k, LeO (spec_l4Root.l0 k (a : Int) (p : Int) 0) (spec_l4Root.l0 (k + 1) (a : Int) (p : Int) 0) := fun k => spec_l4Root.mono_l k _ _ _
  have hs := m.search a p (p + 1) 0 (by omega) (by omega) (by omega)
  rw [Int.natCast_zero] at hs
  rcases hs with ⟨r, h3, h4, h5, h6⟩ | ⟨h3, h4, h5⟩
  · have hk := (m.kind_root ha).1 ⟨r, h3, h4⟩
    refine ⟨r, true, by simp [hk], fun _ => ⟨h3, h4⟩, lift _ (Ev.of hmono h5), ?_⟩
    unfold spec_RootMod.f
    refine Ev.bind (m.of_in ha) ?_
    simp only [if_true]
    refine Ev.bind (a := (r : Int)) ?_ ?_
    · unfold spec_l4Root.f
      refine Ev.bind (m.kindSpec ha) ?_
      simp only [if_neg (show ¬ kindOf p a < 0 by omega)]
      exact Ev.of hmono2 h6
    · simp only [if_neg (show ¬ (r : Int) < 0 by omega)]; exact Ev.now _
  · have hk : ¬ 0 ≤ kindOf p a := fun h => by
      obtain ⟨x, hx, e⟩ := (m.kind_root ha).2 h
      exact h3 x (by omega) hx e
    refine ⟨0, false, by simp [hk], (fun h => by cases h), lift _ (Ev.of hmono h4), ?_⟩
    unfold spec_RootMod.f
    refine Ev.bind (m.of_in ha) ?_
    simp only [if_true]
    refine Ev.bind (a := (-1 : Int)) ?_ ?_
    · unfold spec_l4Root.f
      refine Ev.bind (m.kindSpec ha) ?_
      simp only [if_pos (show kindOf p a < 0 by omega)]; exact Ev.now _
    · simp only [if_pos (show (-1 : Int) < 0 by omega)]; exact Ev.now _
/-! Orders. -/
theorem order_same : ∀ (k : Nat) (a b c d : Int), impl_orderMod.l0 k a b c d = spec_l4Order.l0 k a b c d
  | 0, _, _, _, _ => rfl
  | k + 1, a, b, c, d => by simp only [impl_orderMod.l0, spec_l4Order.l0, order_same k]
theorem Mod.order_l0 (m : Mod p) {a o : Nat} (ha : a < p) (ho : o ≤ p - 1) (he : a ^ o % p = 1) (hmin : ∀ k, 0 < k → k < o → a ^ k % p ≠ 1) (d : Nat) : ∀ (k t : Nat), 0 < t → t ≤ o → o - t = d → d < k →
    spec_l4Order.l0 k (a : Int) (p : Int) (t : Int) ((a ^ t % p : Nat) : Int) = some (o : Int) := by
  have h1 := m.lo; have h2 := m.hi
  induction d with
  | zero =>
    intro k t h0 ht hd hk
    obtain ⟨k, rfl⟩ : ∃ m, k = m + 1 := ⟨k - 1, by omega⟩
    obtain rfl : t = o := by omega
    rw [spec_l4Order.l0, if_pos (by rw [he]; rfl)]
  | succ d ih =>
    intro k t h0 ht hd hk
    obtain ⟨k, rfl⟩ : ∃ m, k = m + 1 := ⟨k - 1, by omega⟩
    have hto : t < o := by omega
    have hz : ¬ (p : Int) = 0 := by omega
    have q1 : t + 1 ≤ o := hto
    have q2 : o - (t + 1) = d := by omega
    have q3 : d < k := by omega
    have q4 : p ≤ 100000 := by omega
    have q5 : 0 < p := by omega
    have e2 : wrap64 ((t : Int) + 1) = ((t + 1 : Nat) : Int) := w64 (by omega) (by omega)
    have hne : ¬ ((a ^ t % p : Nat) : Int) = 1 := fun h => hmin t h0 hto (Int.ofNat.inj h)
    have e : Int.tmod (wrap64 (((a ^ t % p : Nat) : Int) * (a : Int))) (p : Int) = ((a ^ (t + 1) % p : Nat) : Int) := by
      rw [wrap_mul (a ^ t % p) a p (Nat.mod_lt _ q5) ha q4, tmod_nat, Nat.mod_mul_mod, Nat.pow_succ]
    rw [spec_l4Order.l0, if_neg hne, if_neg hz, e, e2]
    exact ih k (t + 1) (Nat.succ_pos t) q1 q2 q3
/-- The order of a number, as both compute it. -/
theorem Mod.order (m : Mod p) {a : Nat} (h0 : 0 < a) (ha : a < p) : ∃ o : Nat, 0 < o ∧ o ≤ p - 1 ∧ a ^ o % p = 1 ∧ (p - 1) % o = 0 ∧ (∀ k, 0 < k → k < o → a ^ k % p ≠ 1) ∧ Ev (fun k => spec_l4Order.f k (a : Int) (p : Int)) (o : Int) ∧ Ev (fun k => impl_orderMod.f k (a : Int) (p : Int)) (o : Int) := by
  obtain ⟨g, c, _⟩ := m.gen
  obtain ⟨o, h1, h2, h3, h4, h5⟩ := c.order h0 ha
  have hl := m.order_l0 ha h2 h3 h4 (o - 1) (o + 1) 1 (by omega) (by omega) (by omega) (by omega)
  rw [Nat.pow_one, Nat.mod_eq_of_lt ha] at hl
  have hs : Ev (fun k => spec_l4Order.f k (a : Int) (p : Int)) (o : Int) := Ev.of (fun k => spec_l4Order.mono _ _ k) hl
  exact ⟨o, h1, h2, h3, h5, h4, hs, Ev.congr (fun k => by unfold impl_orderMod.f spec_l4Order.f; exact order_same k _ _ _ _) hs⟩
theorem Mod.orders (m : Mod p) {a : Nat} (ha : a < p) : ∃ (o : Nat) (b : Bool), (b = true → 0 < o ∧ o ≤ p - 1 ∧ a ^ o % p = 1 ∧ (p - 1) % o = 0) ∧ Ev (fun k => impl_OrderMod.f k (a : Int) (p : Int)) ((o : Int), b) ∧ Ev (fun k => spec_OrderMod.f k (a : Int) (p : Int)) ((o : Int), b) := by
  by_cases h0 : a = 0
  · subst h0
    refine ⟨0, false, (fun h => by cases h), ?_, ?_⟩
    · unfold impl_OrderMod.f
      refine Ev.bind m.isM ?_
      simp only [if_true, within_out m (a := ((0 : Nat) : Int)) (lo := 1) (by omega), Option.bind_some, Bool.false_eq_true, if_false]; exact Ev.now _
    · unfold spec_OrderMod.f
      refine Ev.bind (m.of_in ha) ?_
      simp only [if_true, Int.natCast_zero]; exact Ev.now _
  · obtain ⟨o, h1, h2, h3, h4, _, h5, h6⟩ := m.order (by omega) ha
    refine ⟨o, true, fun _ => ⟨h1, h2, h3, h4⟩, ?_, ?_⟩
    · unfold impl_OrderMod.f
      refine Ev.bind m.isM ?_
      have := within_in m (show 1 ≤ a by omega) ha
      rw [Int.natCast_one] at this
      simp only [if_true, this, Option.bind_some]
      exact Ev.bind h6 (Ev.now _)
    · unfold spec_OrderMod.f
      refine Ev.bind (m.of_in ha) ?_
      have h0' : ¬ (a : Int) = 0 := by omega
      simp only [if_true, h0', if_false]
      exact Ev.bind h5 (Ev.now _)
theorem Mod.gen_l0 (m : Mod p) {g : Nat} (hg : g < p) (hc : Cert p g) (d : Nat) : ∀ t : Nat, 0 < t → t ≤ g → g - t = d →
    ∃ r : Nat, 0 < r ∧ r < p ∧ Ev (fun k => impl_orderMod.f k (r : Int) (p : Int)) ((p : Int) - 1) ∧ Ev (fun k => impl_FirstGenerator.l0 k (p : Int) (t : Int)) ((r : Int), true) ∧ Ev (fun k => spec_FirstGenerator.l0 k (p : Int) (t : Int)) ((r : Int), true) := by
  have h1 := m.lo; have h2 := m.hi
  have hwp : wrap64 ((p : Int) - 1) = (p : Int) - 1 := w64 (by omega) (by omega)
  have found : ∀ t o : Nat, 0 < t → t < p → o = p - 1 → Ev (fun k => spec_l4Order.f k (t : Int) (p : Int)) (o : Int) → Ev (fun k => impl_orderMod.f k (t : Int) (p : Int)) (o : Int) →
      ∃ r : Nat, 0 < r ∧ r < p ∧ Ev (fun k => impl_orderMod.f k (r : Int) (p : Int)) ((p : Int) - 1) ∧ Ev (fun k => impl_FirstGenerator.l0 k (p : Int) (t : Int)) ((r : Int), true) ∧ Ev (fun k => spec_FirstGenerator.l0 k (p : Int) (t : Int)) ((r : Int), true) := by
    intro t o h0 ht ho hs hi
    have e : ((o : Nat) : Int) = (p : Int) - 1 := by omega
    rw [e] at hs hi
    refine ⟨t, h0, ht, hi, ?_, ?_⟩
    · have hlt : (t : Int) < (p : Int) := by omega
      refine Ev.step (fun k => by rw [impl_FirstGenerator.l0, if_pos hlt]) (Ev.bind hi ?_)
      simp only [hwp, if_true]; exact Ev.now _
    · refine Ev.step (fun k => by rw [spec_FirstGenerator.l0]) (Ev.bind hs ?_)
      simp only [hwp, Int.lt_irrefl, if_false]; exact Ev.now _
  induction d with
  | zero =>
    intro t h0 ht hd
    obtain rfl : t = g := by omega
    obtain ⟨o, h3, h4, h5, h6, h7, hs, hi⟩ := m.order h0 hg
    have ho : o = p - 1 := by
      rcases Nat.lt_or_ge o (p - 1) with h | h
      · exfalso
        have := hc.distinct o h 0 h3
        rw [Nat.pow_zero, hc.one_mod] at this
        exact this h5.symm
      · omega
    exact found t o h0 hg ho hs hi
  | succ d ih =>
    intro t h0 ht hd
    have htp : t < p := by omega
    have e2 : wrap64 ((t : Int) + 1) = ((t + 1 : Nat) : Int) := w64 (by omega) (by omega)
    have hlt : (t : Int) < (p : Int) := by omega
    have q1 : t + 1 ≤ g := by omega
    have q2 : g - (t + 1) = d := by omega
    have hcmp : ∀ o : Nat, o ≤ p - 1 → ¬ o = p - 1 → (¬ (o : Int) = (p : Int) - 1) ∧ (o : Int) < (p : Int) - 1 := fun o h h' => ⟨by omega, by omega⟩
    obtain ⟨o, h3, h4, h5, h6, h7, hs, hi⟩ := m.order h0 htp
    by_cases ho : o = p - 1
    · exact found t o h0 htp ho hs hi
    · obtain ⟨r, h8, h9, h10, h11, h12⟩ := ih (t + 1) (Nat.succ_pos t) q1 q2
      obtain ⟨c1, c2⟩ := hcmp o h4 ho
      refine ⟨r, h8, h9, h10, ?_, ?_⟩
      · refine Ev.step (fun k => by rw [impl_FirstGenerator.l0, if_pos hlt]) (Ev.bind hi ?_)
        simp only [hwp, if_neg c1, e2]; exact h11
      · refine Ev.step (fun k => by rw [spec_FirstGenerator.l0]) (Ev.bind hs ?_)
        simp only [hwp, if_pos c2, e2]; exact h12
theorem Mod.generator (m : Mod p) : ∃ r : Nat, 0 < r ∧ r < p ∧ Ev (fun k => impl_OrderMod.f k (r : Int) (p : Int)) ((p : Int) - 1, true) ∧ Ev (fun k => impl_FirstGenerator.f k (p : Int)) ((r : Int), true) ∧ Ev (fun k => spec_FirstGenerator.f k (p : Int)) ((r : Int), true) := by
  have h1 := m.lo
  obtain ⟨g, c, hg⟩ := m.gen
  have hg0 : 0 < g := by
    rcases Nat.eq_zero_or_pos g with rfl | h
    · have := c.ne_zero 1
      simp at this
    · exact h
  obtain ⟨r, h2, h3, h4, h5, h6⟩ := m.gen_l0 hg c (g - 1) 1 (by omega) (by omega) (by omega)
  rw [Int.natCast_one] at h5 h6
  refine ⟨r, h2, h3, ?_, ?_, ?_⟩
  · unfold impl_OrderMod.f
    refine Ev.bind m.isM ?_
    have := within_in m (show 1 ≤ r by omega) h3
    rw [Int.natCast_one] at this
    simp only [if_true, this, Option.bind_some]
    exact Ev.bind h4 (Ev.now _)
  · unfold impl_FirstGenerator.f
    refine Ev.bind m.isM ?_
    simp only [if_true]; exact h5
  · unfold spec_FirstGenerator.f
    have := m.of_in (show 0 < p by omega)
    rw [Int.natCast_zero] at this
    refine Ev.bind this ?_
    simp only [if_true]; exact h6
theorem Mod.kind_mul (m : Mod p) {a b : Nat} (ha : a < p) (hb : b < p) : kindOf p (a * b % p) = kindOf p a * kindOf p b := by
  have h1 := m.lo
  have hm := half_mul (p := p) a b ((p - 1) / 2)
  by_cases h0 : a = 0
  · subst h0
    have e : 0 * b % p = 0 := by rw [Nat.zero_mul, Nat.zero_mod]
    rw [e]; simp [kindOf]
  by_cases h3 : b = 0
  · subst h3
    have e : a * 0 % p = 0 := by rw [Nat.mul_zero, Nat.zero_mod]
    rw [e]; simp [kindOf]
  have e1 : (1 * 1) % p = 1 := Nat.mod_eq_of_lt (by omega)
  have e2 : (1 * (p - 1)) % p = p - 1 := by rw [Nat.one_mul]; exact Nat.mod_eq_of_lt (by omega)
  have e3 : ((p - 1) * 1) % p = p - 1 := by rw [Nat.mul_one]; exact Nat.mod_eq_of_lt (by omega)
  have e4 : ((p - 1) * (p - 1)) % p = 1 := by
    obtain ⟨q, rfl⟩ : ∃ q, p = q + 3 := ⟨p - 3, by omega⟩
    rw [show (q + 3 - 1) * (q + 3 - 1) = 1 + (q + 3) * (q + 1) by rw [show q + 3 - 1 = q + 2 by omega]; grind, Nat.add_mul_mod_self_left]
    exact Nat.mod_eq_of_lt (by omega)
  have hne : ¬ p - 1 = 1 := by omega
  have hnz : a * b % p ≠ 0 := fun h => by
    have hz := m.zero_half
    rw [h, hz] at hm
    rcases m.half_ne (by omega) ha with u | u <;> rcases m.half_ne (by omega) hb with v | v <;> rw [u, v] at hm <;> simp only [e1, e2, e3, e4] at hm <;> omega
  unfold kindOf
  rw [if_neg h0, if_neg h3, if_neg hnz, hm]
  rcases m.half_ne (by omega) ha with u | u <;> rcases m.half_ne (by omega) hb with v | v <;> rw [u, v] <;> simp only [e1, e2, e3, e4, hne, if_true, if_false] <;> omega
theorem Mod.kind_plus (m : Mod p) {a : Nat} (ha : a < p) : Int.tmod (wrap64 (((a ^ ((p - 1) / 2) % p : Nat) : Int) + 1)) (p : Int) = Int.tmod (wrap64 (kindOf p a + 1)) (p : Int) := by
  have h1 := m.lo; have h2 := m.hi
  unfold kindOf
  by_cases h0 : a = 0
  · subst h0; rw [m.zero_half]; rfl
  · rw [if_neg h0]
    rcases m.half_ne (by omega) ha with u | u <;> rw [u]
    · rfl
    · rw [if_neg (by omega), w64 (by omega) (by omega), w64 (by omega) (by omega), show ((p - 1 : Nat) : Int) + 1 = ((p : Nat) : Int) by omega, tmod_nat, Nat.mod_self]; rfl
theorem Mod.powerImpl (m : Mod p) {a b : Nat} (ha : a < p) (hb : b ≤ 1000000000) : Ev (fun k => impl_PowerMod.f k (a : Int) (b : Int) (p : Int)) (((a ^ b % p : Nat) : Int), true) := by
  unfold impl_PowerMod.f
  refine Ev.bind m.isM ?_
  have := within_in m (Nat.zero_le a) ha
  rw [Int.natCast_zero] at this
  have h2 : impl_within.f (b : Int) 0 1000000000 = some true := by
    unfold impl_within.f; rw [if_pos (by omega), decide_eq_true (by omega)]
  simp only [if_true, this, h2, Option.bind_some]
  exact Ev.bind (m.power ha (by omega)).2 (Ev.now _)
end
theorem kind_dec (p a : Nat) (b : Bool) (h : b = true ↔ 0 ≤ kindOf p a) : (b != decide (kindOf p a ≥ 0)) = false := by
  by_cases hk : 0 ≤ kindOf p a
  · rw [h.2 hk, decide_eq_true hk]; rfl
  · rw [decide_eq_false hk]
    cases b with
    | false => rfl
    | true => exact absurd (h.1 rfl) hk
/-! The law. -/
theorem tail3 (l1 : List Int) (hb : Bytes8 l1) : Ev (fun k => laws_FnRoots.j3 k l1) true := by
  obtain ⟨q, a', s', h, _, _, h4⟩ := cur_prime l1 hb 0 0 (by omega) (by omega)
  have e : spec_DrawFirstGenerator.f l1 = some q := by unfold spec_DrawFirstGenerator.f; rw [h]; rfl
  refine Ev.step (fun k => by rw [laws_FnRoots.j3, e, Option.bind_some]) ?_
  rcases drawn_mod q h4 with ⟨p, rfl, m⟩ | ⟨b1, b2⟩
  · obtain ⟨r, h1, h2, h3, h5, h6⟩ := m.generator
    refine Ev.bind h5 (Ev.bind h6 ?_)
    simp only [bne_self_eq_false, Bool.false_eq_true, if_false]
    have hl := m.lo; have hh := m.hi
    refine Ev.step (fun k => by rw [laws_FnRoots.j4]) ?_
    simp only [bne_self_eq_false, Bool.false_eq_true, if_false, if_true]
    refine Ev.bind h3 ?_
    simp only [if_true, w64 (n := (p : Int) - 1) (by omega) (by omega), beq_self_eq_true]
    exact Ev.now _
  · have f1 : Ev (fun k => impl_FirstGenerator.f k q) (0, false) := by
      unfold impl_FirstGenerator.f
      refine Ev.bind b1 ?_
      simp only [Bool.false_eq_true, if_false]; exact Ev.now _
    have f2 : Ev (fun k => spec_FirstGenerator.f k q) (0, false) := by
      unfold spec_FirstGenerator.f
      refine Ev.bind (b2 0) ?_
      simp only [Bool.false_eq_true, if_false]; exact Ev.now _
    refine Ev.bind f1 (Ev.bind f2 ?_)
    simp only [bne_self_eq_false, Bool.false_eq_true, if_false]
    refine Ev.step (fun k => by rw [laws_FnRoots.j4]) ?_
    simp only [bne_self_eq_false, Bool.false_eq_true, if_false]
    exact Ev.now _
theorem tail2No (l1 : List Int) (hb : Bytes8 l1) (x5 x6 x15 : Int) : Ev (fun k => laws_FnRoots.j2 k l1 x5 x6 x15 false) true := by
  refine Ev.step (fun k => by rw [laws_FnRoots.j2]) ?_
  simp only [Bool.false_eq_true, if_false]
  exact tail3 l1 hb
theorem Mod.tail2 {p : Nat} (m : Mod p) (l1 : List Int) (hb : Bytes8 l1) {a : Nat} (ha : a < p) (o : Nat) (b : Bool) (h : b = true → 0 < o ∧ o ≤ p - 1 ∧ a ^ o % p = 1 ∧ (p - 1) % o = 0) : Ev (fun k => laws_FnRoots.j2 k l1 (a : Int) (p : Int) (o : Int) b) true := by
  cases b with
  | false => exact tail2No l1 hb _ _ _
  | true =>
    obtain ⟨h1, h2, h3, h4⟩ := h rfl
    have hl := m.lo; have hh := m.hi
    refine Ev.step (fun k => by rw [laws_FnRoots.j2]) ?_
    simp only [if_true]
    refine Ev.bind (m.powerImpl ha (show o ≤ 1000000000 by omega)) ?_
    have e : Int.tmod (wrap64 ((p : Int) - 1)) (o : Int) = 0 := by
      rw [w64 (by omega) (by omega), show (p : Int) - 1 = ((p - 1 : Nat) : Int) by omega, tmod_nat, h4]; rfl
    have ho : ¬ (o : Int) = 0 := by omega
    simp only [if_true, h3, Int.natCast_one, e, ho, if_false]
    exact tail3 l1 hb
theorem Mod.tail1 {p : Nat} (m : Mod p) (l1 : List Int) (hb : Bytes8 l1) (hlen : l1.length < 4611686018427387904) {a : Nat} (ha : a < p) (o : Nat) (b : Bool) (h : b = true → 0 < o ∧ o ≤ p - 1 ∧ a ^ o % p = 1 ∧ (p - 1) % o = 0) : Ev (fun k => laws_FnRoots.j1 k l1 (a : Int) (p : Int) (kindOf p a) (o : Int) b false) true := by
  have hl := m.lo; have hh := m.hi
  obtain ⟨r, hr, hr0, hr1⟩ := number l1 hb hlen
  obtain ⟨n, rfl⟩ : ∃ n : Nat, r = (n : Int) := ⟨r.toNat, by omega⟩
  refine Ev.step (fun k => by rw [laws_FnRoots.j1]) ?_
  simp only [Bool.false_eq_true, if_false]
  refine Ev.bind hr ?_
  have hp : ¬ (p : Int) = 0 := by omega
  have hn : n % p < p := Nat.mod_lt _ (by omega)
  simp only [hp, if_false, tmod_nat, wrap_mul a (n % p) p ha hn (by omega)]
  refine Ev.bind (m.squareImpl hn) (Ev.bind (m.squareImpl (Nat.mod_lt _ (by omega))) ?_)
  have hk : wrap64 (kindOf p a * kindOf p (n % p)) = kindOf p a * kindOf p (n % p) := by
    rw [← m.kind_mul ha hn]
    unfold kindOf
    split
    · exact w64 (by omega) (by omega)
    · split <;> exact w64 (by omega) (by omega)
  simp only [if_true, hk, m.kind_mul ha hn]
  exact m.tail2 l1 hb ha o b h
theorem Mod.tail0 {p : Nat} (m : Mod p) (l1 : List Int) (hb : Bytes8 l1) (hlen : l1.length < 4611686018427387904) {a : Nat} (ha : a < p) (r : Nat) (c : Bool) (hc : c = true ↔ 0 ≤ kindOf p a) (hc2 : c = true → r < p ∧ r * r % p = a) (o : Nat) (b : Bool) (h : b = true → 0 < o ∧ o ≤ p - 1 ∧ a ^ o % p = 1 ∧ (p - 1) % o = 0) : Ev (fun k => laws_FnRoots.j0 k l1 (a : Int) (p : Int) (kindOf p a) true (r : Int) c (o : Int) b false) true := by
  have hl := m.lo; have hh := m.hi
  refine Ev.step (fun k => by rw [laws_FnRoots.j0]) ?_
  simp only [Bool.false_eq_true, if_false, if_true, m.halfInt]
  refine Ev.bind (m.powerImpl ha (by omega)) ?_
  have hp : ¬ (p : Int) = 0 := by omega
  simp only [kind_dec p a c hc, Bool.false_eq_true, if_false, hp, m.kind_plus ha, bne_self_eq_false, if_true]
  have ht := m.tail1 l1 hb hlen ha o b h
  cases c with
  | false => simp only [Bool.false_eq_true, if_false]; exact ht
  | true =>
    obtain ⟨h1, h2⟩ := hc2 rfl
    simp only [if_true, wrap_mul r r p h1 h1 (by omega), tmod_nat, h2]
    exact ht
theorem FnRoots : laws_FnRoots.Pure := by
  intro l0 l1 h0 _ hw0 h1 _ hw1
  have b0 := bytes_of_wf hw0
  have b1 := bytes_of_wf hw1
  have hlen : l1.length < 4611686018427387904 := by simp [maxLen] at h1; omega
  suffices hs : Ev (fun k => laws_FnRoots.f k l0 l1) true by
    obtain ⟨k, hk⟩ := hs
    exact ⟨k, hk k (Nat.le_refl k)⟩
  unfold laws_FnRoots.f
  by_cases hz : wrap64 ((l0.length : Int) + (l1.length : Int)) > 1048576
  · simp only [hz, if_true]; exact Ev.now _
  simp only [hz, if_false]
  obtain ⟨a, q, hd, hq⟩ := drawInverse l0 b0
  have hd2 : Ev (fun k => spec_DrawSquareKind.f k l0) (a, q) := by
    unfold spec_DrawSquareKind.f
    exact Ev.bind hd (Ev.now _)
  refine Ev.bind hd2 ?_
  have six : (∃ p n : Nat, q = (p : Int) ∧ a = (n : Int) ∧ Mod p ∧ n < p) ∨ (Ev (fun k => impl_SquareKind.f k a q) (0, false) ∧ Ev (fun k => spec_SquareKind.f k a q) (0, false) ∧ Ev (fun k => impl_RootMod.f k a q) (0, false) ∧ Ev (fun k => spec_RootMod.f k a q) (0, false) ∧ Ev (fun k => impl_OrderMod.f k a q) (0, false) ∧ Ev (fun k => spec_OrderMod.f k a q) (0, false)) := by
    rcases drawn_mod q hq with ⟨p, rfl, m⟩ | ⟨n1, n2⟩
    · by_cases hin : 0 ≤ a ∧ a < p
      · exact .inl ⟨p, a.toNat, rfl, by omega, m, by omega⟩
      · have w0 := within_out m (a := a) (lo := 0) hin
        have w1 := within_out m (a := a) (lo := 1) (by omega)
        refine .inr ⟨?_, ?_, ?_, ?_, ?_, ?_⟩
        · unfold impl_SquareKind.f
          refine Ev.bind m.isM ?_
          simp only [if_true, w0, Option.bind_some, Bool.false_eq_true, if_false]; exact Ev.now _
        · unfold spec_SquareKind.f
          refine Ev.bind (m.of_out hin) ?_
          simp only [Bool.false_eq_true, if_false]; exact Ev.now _
        · unfold impl_RootMod.f
          refine Ev.bind m.isM ?_
          simp only [if_true, w0, Option.bind_some, Bool.not_false]
          refine Ev.step (fun k => by rw [impl_RootMod.j0]) ?_
          simp only [if_true]; exact Ev.now _
        · unfold spec_RootMod.f
          refine Ev.bind (m.of_out hin) ?_
          simp only [Bool.false_eq_true, if_false]; exact Ev.now _
        · unfold impl_OrderMod.f
          refine Ev.bind m.isM ?_
          simp only [if_true, w1, Option.bind_some, Bool.false_eq_true, if_false]; exact Ev.now _
        · unfold spec_OrderMod.f
          refine Ev.bind (m.of_out hin) ?_
          simp only [Bool.false_eq_true, if_false]; exact Ev.now _
    · refine .inr ⟨?_, ?_, ?_, ?_, ?_, ?_⟩
      · unfold impl_SquareKind.f
        refine Ev.bind n1 ?_
        simp only [Bool.false_eq_true, if_false]; exact Ev.now _
      · unfold spec_SquareKind.f
        refine Ev.bind (n2 a) ?_
        simp only [Bool.false_eq_true, if_false]; exact Ev.now _
      · unfold impl_RootMod.f
        refine Ev.bind n1 ?_
        simp only [Bool.false_eq_true, if_false]
        refine Ev.step (fun k => by rw [impl_RootMod.j0]) ?_
        simp only [if_true]; exact Ev.now _
      · unfold spec_RootMod.f
        refine Ev.bind (n2 a) ?_
        simp only [Bool.false_eq_true, if_false]; exact Ev.now _
      · unfold impl_OrderMod.f
        refine Ev.bind n1 ?_
        simp only [Bool.false_eq_true, if_false]; exact Ev.now _
      · unfold spec_OrderMod.f
        refine Ev.bind (n2 a) ?_
        simp only [Bool.false_eq_true, if_false]; exact Ev.now _
  rcases six with ⟨p, a, rfl, rfl, m, ha⟩ | ⟨g1, g2, g3, g4, g5, g6⟩
  · obtain ⟨r, c, hc, hc2, r1, r2⟩ := m.roots ha
    obtain ⟨o, b, hb, o1, o2⟩ := m.orders ha
    refine Ev.bind (m.squareImpl ha) (Ev.bind (m.squareSpec ha) (Ev.bind r1 (Ev.bind r2 (Ev.bind o1 (Ev.bind o2 ?_)))))
    simp only [bne_self_eq_false, Bool.false_eq_true, if_false, if_true]
    exact m.tail0 l1 b1 hlen ha r c hc hc2 o b hb
  · refine Ev.bind g1 (Ev.bind g2 (Ev.bind g3 (Ev.bind g4 (Ev.bind g5 (Ev.bind g6 ?_)))))
    simp only [bne_self_eq_false, Bool.false_eq_true, if_false, if_true]
    refine Ev.step (fun k => by rw [laws_FnRoots.j0]) ?_
    simp only [Bool.false_eq_true, if_false]
    exact tail2No l1 b1 _ _ _

end Go.Proofs.Ytdlljfejfgfmgaa.Pure
