/-
The pure statement of FnExactGoodPolicy is proved: for every policy the program's GoodPolicy and the reference's GoodPolicy give one answer, and the policy is not changed.
Conditions: the policy's list is one that Go can hold. None besides.
-/
import Derived.Test.YtanebapjclkikaaPFnExactGoodPolicyx2
import Derived.Test.YtanebapjclkikaaPreFnExactGoodPolicy
set_option linter.unusedVariables false
set_option linter.unusedSimpArgs false
namespace Go.Proofs.Ytanebapjclkikaa.Pure
open Go.RowKit Go.Proofs.Ytanebapjclkikaa.PFnExactGoodPolicy Go.Proofs.YtanebapjclkikaaW.PrintWords Go.Proofs.YtanebapjclkikaaW.PrintLast Go.Proofs.YtanebapjclkikaaW.PrintMore

theorem w64 {n : Int} (h0 : -9223372036854775808 ≤ n) (h1 : n ≤ 9223372036854775807) : wrap64 n = n := by unfold wrap64; omega
theorem rd_set (l : List Int) (i j v : Int) (h0 : 0 ≤ i) (h1 : i < l.length) (hj : 0 ≤ j) : rd (l.set i.toNat v) j = if j = i then v else rd l j := by
  unfold rd
  rw [List.getD_eq_getElem?_getD, List.getD_eq_getElem?_getD, List.getElem?_set]
  by_cases e : j = i
  · subst e; rw [if_pos rfl, if_pos (by omega), if_pos rfl]; rfl
  · rw [if_neg (by omega), if_neg e]
theorem rdOf_set {α : Type} (d : α) (l : List α) (i j : Int) (v : α) (h0 : 0 ≤ i) (h1 : i < l.length) (hj : 0 ≤ j) : rdOf d (l.set i.toNat v) j = if j = i then v else rdOf d l j := by
  unfold rdOf
  rw [List.getD_eq_getElem?_getD, List.getD_eq_getElem?_getD, List.getElem?_set]
  by_cases e : j = i
  · subst e; rw [if_pos rfl, if_pos (by omega), if_pos rfl]; rfl
  · rw [if_neg (by omega), if_neg e]

theorem powerMod_l0 : ∀ (k : Nat) (a b c d : Int), impl_powerMod.l0 k a b c d = spec_l4Power.l0 k a b c d
  | 0, _, _, _, _ => rfl
  | k + 1, a, b, c, d => by simp only [impl_powerMod.l0, spec_l4Power.l0, powerMod_l0 k]
theorem powerMod_f (k : Nat) (a b c : Int) : impl_powerMod.f k a b c = spec_l4Power.f k a b c := by unfold impl_powerMod.f spec_l4Power.f; rw [powerMod_l0]
theorem power_ends : ∀ (n k : Nat) (a b c d : Int), c ≠ 0 → 0 ≤ b → b < 2 ^ n → b < 2 ^ 62 → n < k → ∃ r, spec_l4Power.l0 k a b c d = some r := by
  intro n
  induction n with
  | zero =>
    intro k a b c d hc h0 h1 _ hk
    obtain ⟨k, rfl⟩ : ∃ m, k = m + 1 := ⟨k - 1, by omega⟩
    exact ⟨d, by simp only [spec_l4Power.l0]; rw [if_neg (by omega)]⟩
  | succ n ih =>
    intro k a b c d hc h0 h1 hb hk
    obtain ⟨k, rfl⟩ : ∃ m, k = m + 1 := ⟨k - 1, by omega⟩
    simp only [spec_l4Power.l0]
    by_cases hp : b > 0
    · have e : wrap64 (Int.tdiv b 2) = b / 2 := by
        rw [Int.tdiv_eq_ediv_of_nonneg h0]; unfold wrap64; omega
      have h2 : b / 2 < 2 ^ n := by rw [Int.pow_succ] at h1; omega
      rw [if_pos hp, if_neg hc, if_neg hc, e]
      split
      · exact ih k _ _ _ _ hc (by omega) h2 (by omega) (by omega)
      · exact ih k _ _ _ _ hc (by omega) h2 (by omega) (by omega)
    · exact ⟨d, by rw [if_neg hp]⟩

theorem isKey_same (k : Nat) (a : Int) : impl_isKey.f k a = spec_IsKey.f k a := by
  unfold impl_isKey.f spec_IsKey.f spec_l1In.f impl_within.f
  simp only [powerMod_f]
theorem isKey_some (a : Int) (k : Nat) (hk : 11 < k) : ∃ b, spec_IsKey.f k a = some b := by
  unfold spec_IsKey.f spec_l1In.f spec_l4Power.f
  obtain ⟨r, hr⟩ := power_ends 10 k a 1013 2027 1 (by omega) (by omega) (by omega) (by omega) (by omega)
  rw [hr]
  split
  · simp only [Option.bind_some]
    split
    · exact ⟨_, rfl⟩
    · exact ⟨_, rfl⟩
  · exact ⟨_, rfl⟩

theorem rd_ext (a b : List Int) (hl : a.length = b.length) (h : ∀ j : Int, 0 ≤ j → j < a.length → rd a j = rd b j) : a = b := by
  apply List.ext_getElem hl
  intro i h1 h2
  have := h i (by omega) (by omega)
  simpa [rd, List.getD_eq_getElem?_getD, h1, h2] using this
theorem toInts_l0 (l : List Int) (hl : l.length < 4611686018427387904) (d : Nat) : ∀ (k : Nat) (m : List Int) (i : Int), 0 ≤ i → i ≤ l.length → (l.length : Int) - i = d → d < k → m.length = l.length → (∀ j, 0 ≤ j → j < i → rd m j = rd l j) → laws_toIntS.l0 k l m i = some l := by
  induction d with
  | zero =>
    intro k m i h0 hi hd hk hm hj
    obtain ⟨k, rfl⟩ : ∃ m, k = m + 1 := ⟨k - 1, by omega⟩
    simp only [laws_toIntS.l0]
    rw [if_neg (by omega), rd_ext m l hm (fun j a b => hj j a (by omega))]
  | succ d ih =>
    intro k m i h0 hi hd hk hm hj
    obtain ⟨k, rfl⟩ : ∃ m, k = m + 1 := ⟨k - 1, by omega⟩
    simp only [laws_toIntS.l0]
    rw [if_pos (by omega), if_pos h0, if_pos (by omega), w64 (by omega) (by omega)]
    refine ih k _ (i + 1) (by omega) (by omega) (by omega) (by omega) (by simpa using hm) (fun j a b => ?_)
    rw [rd_set _ _ _ _ h0 (by omega) a]
    split
    · subst j; rfl
    · exact hj j a (by omega)
theorem toInts (l : List Int) (hl : l.length ≤ 17592186044416) : Ev (fun k => laws_toIntS.f k l) l :=
  ⟨l.length + 1, fun k hk => by
    simp only [laws_toIntS.f]
    rw [if_pos (by omega), if_pos (by omega)]
    exact toInts_l0 l (by omega) l.length k _ 0 (by omega) (by omega) (by omega) (by omega) (by simp) (fun j a b => by omega)⟩

theorem eqInts_l0 (l : List Int) (hl : l.length < 4611686018427387904) (d : Nat) : ∀ (k : Nat) (i : Int), 0 ≤ i → (l.length : Int) - i = d → d < k → laws_eqIntS.l0 k l l i = some true := by
  induction d with
  | zero => intro k i h0 hd hk; obtain ⟨k, rfl⟩ : ∃ m, k = m + 1 := ⟨k - 1, by omega⟩; simp only [laws_eqIntS.l0]; rw [if_neg (by omega)]
  | succ d ih =>
    intro k i h0 hd hk
    obtain ⟨k, rfl⟩ : ∃ m, k = m + 1 := ⟨k - 1, by omega⟩
    simp only [laws_eqIntS.l0, if_true]
    rw [if_pos (by omega), if_pos h0, if_pos (by omega), w64 (by omega) (by omega)]
    exact ih k (i + 1) (by omega) (by omega) (by omega)
theorem eqInts (l : List Int) (hl : l.length < 4611686018427387904) : Ev (fun k => laws_eqIntS.f k l l) true :=
  ⟨l.length + 1, fun k hk => by simp only [laws_eqIntS.f, if_true]; exact eqInts_l0 l hl l.length k 0 (by omega) (by omega) (by omega)⟩

theorem policy_same : ∀ (k : Nat) (a : List Int) (n i : Int) (b : List Int) (m : Int), impl_isPolicy.l0 k a n i b m = spec_GoodPolicy.l0 k a n i b m
  | 0, _, _, _, _, _ => rfl
  | k + 1, a, n, i, b, m => by simp only [impl_isPolicy.l0, spec_GoodPolicy.l0, isKey_same, policy_same k, impl_within.f, spec_l1In.f]
theorem policy_l0 (l : List Int) (hl : l.length < 4611686018427387904) (m : Int) (d : Nat) : ∀ (k : Nat) (i : Int), 0 ≤ i → i ≤ l.length → (l.length : Int) - i = d → d + 15 < k → ∃ b, spec_GoodPolicy.l0 k l l.length i l m = some b := by
  induction d with
  | zero =>
    intro k i h0 hi hd hk
    obtain ⟨k, rfl⟩ : ∃ m, k = m + 1 := ⟨k - 1, by omega⟩
    simp only [spec_GoodPolicy.l0, spec_l1In.f]
    rw [if_neg (by omega)]
    split
    · simp only [Option.bind_some]
      split
      · split
        · exact ⟨_, rfl⟩
        · exact ⟨_, rfl⟩
      · exact ⟨_, rfl⟩
    · exact ⟨_, rfl⟩
  | succ d ih =>
    intro k i h0 hi hd hk
    obtain ⟨k, rfl⟩ : ∃ m, k = m + 1 := ⟨k - 1, by omega⟩
    obtain ⟨c, hc⟩ := isKey_some (rd l i) k (by omega)
    obtain ⟨b, hb⟩ := ih k (i + 1) (by omega) (by omega) (by omega) (by omega)
    simp only [spec_GoodPolicy.l0]
    rw [if_pos (by omega), if_pos h0, if_pos (by omega), hc, w64 (n := i + 1) (by omega) (by omega), w64 (n := i - 1) (by omega) (by omega), hb]
    simp only [Option.bind_some]
    split
    · split
      · rw [if_pos (by omega), if_pos (by omega)]
        split
        · exact ⟨_, rfl⟩
        · exact ⟨_, rfl⟩
      · exact ⟨_, rfl⟩
    · exact ⟨_, rfl⟩
theorem policy (l : List Int) (hl : l.length < 4611686018427387904) (m : Int) : ∃ b, Ev (fun k => spec_GoodPolicy.f k l m) b ∧ Ev (fun k => impl_isPolicy.f k l m) b := by
  obtain ⟨b, hb⟩ := policy_l0 l hl m l.length (l.length + 16) 0 (by omega) (by omega) (by omega) (by omega)
  have h : Ev (fun k => spec_GoodPolicy.f k l m) b := Ev.of (fun k => spec_GoodPolicy.mono l m k) hb
  exact ⟨b, h, Ev.congr (fun k => by show impl_isPolicy.l0 k l l.length 0 l m = _; rw [policy_same]; rfl) h⟩
theorem toPolicy (l : List Int) (hl : l.length ≤ 17592186044416) (m : Int) : Ev (fun k => laws_toPolicy.f k l m) (l, m) := by
  unfold laws_toPolicy.f; exact Ev.bind (toInts l hl) (Ev.now _)
theorem eqPolicy (l : List Int) (hl : l.length < 4611686018427387904) (m : Int) : Ev (fun k => laws_eqPolicy.f k l m l m) true := by
  unfold laws_eqPolicy.f
  refine Ev.bind (eqInts l hl) ?_
  simp only [if_true]; exact Ev.now _
theorem szPolicy (l : List Int) (hl : l.length * 8 ≤ 140737488351232) (m : Int) : ∃ n, laws_szPolicy.f l m 1048576 = some n := by
  unfold laws_szPolicy.f laws_szIntS.f
  split
  · simp only [Option.bind_some]; split <;> exact ⟨_, rfl⟩
  · simp only [Option.bind_some]; split <;> exact ⟨_, rfl⟩

theorem FnExactGoodPolicy : laws_FnExactGoodPolicy.Pure := by
  intro l m ⟨⟨hl, _⟩, _⟩
  replace hl : l.length * 8 ≤ 140737488351232 := hl
  obtain ⟨n, hn⟩ := szPolicy l hl m
  obtain ⟨b, hs, hi⟩ := policy l (by omega) m
  have ht := toPolicy l (by omega) m
  have he := eqPolicy l (by omega) m
  have hg : Ev (fun k => impl_GoodPolicy.f k l m) b := by unfold impl_GoodPolicy.f; exact Ev.bind hi (Ev.now _)
  apply Ev.rounds (g := fun k => laws_FnExactGoodPolicy.f k l m)
  unfold laws_FnExactGoodPolicy.f
  simp only [hn, Option.bind_some]
  by_cases h : n < 0
  · simp only [h, if_true]; exact Ev.now _
  simp only [h, if_false]
  refine Ev.bind ht (Ev.bind hs (Ev.bind ht (Ev.bind hg ?_)))
  simp only [bne_self_eq_false, Bool.false_eq_true, if_false]
  refine Ev.bind ht (Ev.bind he ?_)
  simp only [if_true]; exact Ev.now _

end Go.Proofs.Ytanebapjclkikaa.Pure
