/-
The pure statement of FnPairs is proved: for drawn texts, decoding UTF-16 units gives the runes back, of two different texts exactly one precedes the other, and the program and the reference agree.
Conditions: the two arguments are lists of bytes that Go can hold. None besides.
-/
import Derived.Test.YtgoedenbekedbaaDoorPFnPairsx8
set_option linter.unusedVariables false
set_option linter.unusedSimpArgs false
namespace Go.Proofs.YtgoedenbekedbaaDoor.Pure
open Go.RowKit Go.Proofs.YtgoedenbekedbaaDoor.PFnPairs Go.Proofs.YtgoedenbekedbaaDoorW.PrintWords Go.Proofs.YtgoedenbekedbaaDoorW.PrintLast Go.Proofs.YtgoedenbekedbaaDoorW.PrintMore

/-! Runes and their bytes, as natural numbers. -/
def Good (n : Int) : Prop := 0 ≤ n ∧ n ≤ 1114111 ∧ ¬ (55296 ≤ n ∧ n ≤ 57343)
instance (n : Int) : Decidable (Good n) := by unfold Good; infer_instance
def eb (n : Nat) : List Nat :=
  if n < 128 then [n] else if n < 2048 then [192 + n / 64, 128 + n % 64]
  else if n < 65536 then [224 + n / 4096, 128 + n / 64 % 64, 128 + n % 64]
  else [240 + n / 262144, 128 + n / 4096 % 64, 128 + n / 64 % 64, 128 + n % 64]
def nb (s : ByteArray) : List Nat := s.data.toList.map UInt8.toNat
theorem nb_length (s : ByteArray) : (nb s).length = s.size := by rw [nb, List.length_map, Array.length_toList]; rfl
theorem nb_append (a b : ByteArray) : nb (a ++ b) = nb a ++ nb b := by simp [nb]
theorem toNat_inj : ∀ {a b : List UInt8}, a.map UInt8.toNat = b.map UInt8.toNat → a = b
  | [], [], _ => rfl
  | [], _ :: _, h => by simp at h
  | _ :: _, [], h => by simp at h
  | x :: a, y :: b, h => by
    simp only [List.map_cons, List.cons.injEq] at h
    rw [toNat_inj h.2, UInt8.toNat_inj.1 h.1]
theorem nb_inj {a b : ByteArray} (h : nb a = nb b) : a = b := by
  cases a; cases b
  simp only [nb] at h
  have := toNat_inj h
  congr 1
  exact Array.ext' this
theorem nb_lt {s : ByteArray} {x : Nat} (h : x ∈ nb s) : x < 256 := by
  obtain ⟨y, _, rfl⟩ := List.mem_map.1 h
  exact y.toNat_lt
theorem eb_length (n : Nat) : 1 ≤ (eb n).length ∧ (eb n).length ≤ 4 := by
  unfold eb; split
  · simp
  split
  · simp
  split <;> simp
theorem eb_lt {n : Nat} (h : n ≤ 1114111) : ∀ x ∈ eb n, x < 256 := by
  intro x hx
  unfold eb at hx
  split at hx
  · simp at hx; omega
  split at hx
  · simp at hx; omega
  split at hx <;> (simp at hx; omega)
theorem nb_encode (n : Int) (h : Good n) : nb (Utf8.encode n) = eb n.toNat := by
  obtain ⟨m, rfl⟩ := Int.eq_ofNat_of_zero_le h.1
  have hv : Utf8.valid (m : Int) = true := by
    unfold Utf8.valid
    have := h.2.1; have := h.2.2
    simp only [Bool.or_eq_true, Bool.and_eq_true, decide_eq_true_eq]
    omega
  have hm : m ≤ 1114111 := by have := h.2.1; omega
  unfold Utf8.encode eb nb
  rw [if_pos hv]
  simp only [Int.toNat_natCast]
  split
  · simp; omega
  split
  · simp; omega
  split <;> (simp; omega)
/-- What Go's decoder hands back at the front of these bytes. -/
def dl (l : List Nat) : Nat × Nat := Lib.decodeN l.length (l.getD 0 0) (l.getD 1 0) (l.getD 2 0) (l.getD 3 0)
theorem dl_eb (n : Nat) (h : Good n) (t : List Nat) : dl (eb n ++ t) = (n, (eb n).length) := by
  have h1 := h.2.1
  have h2 := h.2.2
  unfold eb
  split
  · simp [dl, Lib.decodeN, *]
  rename_i g1
  split
  · rename_i g2
    simp only [dl, List.length_append, List.length_cons, List.length_nil, List.cons_append, List.nil_append, List.getD_cons_zero, List.getD_cons_succ, Lib.decodeN]
    rw [if_neg (by omega), if_pos (by omega), if_pos (by omega)]
    simp; omega
  rename_i g2
  split
  · rename_i g3
    simp only [dl, List.length_append, List.length_cons, List.length_nil, List.cons_append, List.nil_append, List.getD_cons_zero, List.getD_cons_succ, Lib.decodeN]
    rw [if_neg (by omega), if_neg (by omega), if_pos (by omega), if_pos (by omega)]
    simp; omega
  · rename_i g3
    simp only [dl, List.length_append, List.length_cons, List.length_nil, List.cons_append, List.nil_append, List.getD_cons_zero, List.getD_cons_succ, Lib.decodeN]
    rw [if_neg (by omega), if_neg (by omega), if_neg (by omega), if_pos (by omega), if_pos (by omega)]
    simp; omega
theorem eb1 {n : Nat} (h : n < 128) : eb n = [n] := by unfold eb; rw [if_pos h]
theorem eb2 {n : Nat} (h : ¬ n < 128) (h2 : n < 2048) : eb n = [192 + n / 64, 128 + n % 64] := by unfold eb; rw [if_neg h, if_pos h2]
theorem eb3 {n : Nat} (h : ¬ n < 2048) (h2 : n < 65536) : eb n = [224 + n / 4096, 128 + n / 64 % 64, 128 + n % 64] := by unfold eb; rw [if_neg (by omega), if_neg h, if_pos h2]
theorem eb4 {n : Nat} (h : ¬ n < 65536) : eb n = [240 + n / 262144, 128 + n / 4096 % 64, 128 + n / 64 % 64, 128 + n % 64] := by unfold eb; rw [if_neg (by omega), if_neg (by omega), if_neg h]
/-- A list whose first bytes are told. -/
theorem front1 {l : List Nat} (h : 1 ≤ l.length) : l = l.getD 0 0 :: l.drop 1 := by
  cases l with
  | nil => simp at h
  | cons a t => simp
theorem front2 {l : List Nat} (h : 2 ≤ l.length) : l = l.getD 0 0 :: l.getD 1 0 :: l.drop 2 := by
  match l, h with
  | a :: b :: t, _ => simp
theorem front3 {l : List Nat} (h : 3 ≤ l.length) : l = l.getD 0 0 :: l.getD 1 0 :: l.getD 2 0 :: l.drop 3 := by
  match l, h with
  | a :: b :: c :: t, _ => simp
theorem front4 {l : List Nat} (h : 4 ≤ l.length) : l = l.getD 0 0 :: l.getD 1 0 :: l.getD 2 0 :: l.getD 3 0 :: l.drop 4 := by
  match l, h with
  | a :: b :: c :: d :: t, _ => simp
theorem getD_lt {l : List Nat} (h : ∀ x ∈ l, x < 256) (i : Nat) : l.getD i 0 < 256 := by
  rw [List.getD_eq_getElem?_getD]
  by_cases hi : i < l.length
  · rw [List.getElem?_eq_getElem hi]; exact h _ (List.getElem_mem hi)
  · rw [List.getElem?_eq_none (by omega)]; decide
theorem dl_ok (l : List Nat) (hl : ∀ x ∈ l, x < 256) (h0 : l ≠ []) (h : ¬ ((dl l).1 = 65533 ∧ (dl l).2 < 2)) :
    Good (dl l).1 ∧ l = eb (dl l).1 ++ l.drop (dl l).2 ∧ (dl l).2 = (eb (dl l).1).length := by
  have hlen : 1 ≤ l.length := by cases l with | nil => exact absurd rfl h0 | cons => simp
  have b0 := getD_lt hl 0
  have b1 := getD_lt hl 1
  have b2 := getD_lt hl 2
  have b3 := getD_lt hl 3
  have f1 := front1 hlen
  unfold dl Lib.decodeN at h ⊢
  generalize hb0 : l.getD 0 0 = x0 at *
  generalize hb1 : l.getD 1 0 = x1 at *
  generalize hb2 : l.getD 2 0 = x2 at *
  generalize hb3 : l.getD 3 0 = x3 at *
  split
  · rename_i g
    refine ⟨⟨by omega, by simp only; omega, by simp only; omega⟩, ?_, ?_⟩
    · rw [eb1 (by simpa using g)]; exact f1
    · rw [eb1 (by simpa using g)]; rfl
  rename_i g1
  rw [if_neg g1] at h
  split
  · rename_i g2
    rw [if_pos g2] at h
    split
    · rename_i g3
      have f2 := front2 (l := l) (by omega)
      rw [hb0, hb1] at f2
      have e := eb2 (n := x0 % 32 * 64 + x1 % 64) (by omega) (by omega)
      refine ⟨⟨by simp only; omega, by simp only; omega, by simp only; omega⟩, ?_, ?_⟩
      · simp only; rw [e]; rw [f2]; simp; omega
      · simp only; rw [e]; rfl
    · rename_i g3
      rw [if_neg g3] at h
      exact absurd ⟨rfl, by decide⟩ h
  rename_i g2
  rw [if_neg g2] at h
  split
  · rename_i g3
    rw [if_pos g3] at h
    split
    · rename_i g4
      have f2 := front3 (l := l) (by omega)
      rw [hb0, hb1, hb2] at f2
      have e := eb3 (n := x0 % 16 * 4096 + x1 % 64 * 64 + x2 % 64) (by omega) (by omega)
      refine ⟨⟨by simp only; omega, by simp only; omega, by simp only; omega⟩, ?_, ?_⟩
      · simp only; rw [e]; rw [f2]; simp; omega
      · simp only; rw [e]; rfl
    · rename_i g4
      rw [if_neg g4] at h
      exact absurd ⟨rfl, by decide⟩ h
  rename_i g3
  rw [if_neg g3] at h
  split
  · rename_i g4
    rw [if_pos g4] at h
    split
    · rename_i g5
      have f2 := front4 (l := l) (by omega)
      rw [hb0, hb1, hb2, hb3] at f2
      have e := eb4 (n := x0 % 8 * 262144 + x1 % 64 * 4096 + x2 % 64 * 64 + x3 % 64) (by omega)
      refine ⟨⟨by simp only; omega, by simp only; omega, by simp only; omega⟩, ?_, ?_⟩
      · simp only; rw [e]; rw [f2]; simp; omega
      · simp only; rw [e]; rfl
    · rename_i g5
      rw [if_neg g5] at h
      exact absurd ⟨rfl, by decide⟩ h
  · rename_i g4
    rw [if_neg g4] at h
    exact absurd ⟨rfl, by decide⟩ h
theorem get_nb (s : ByteArray) (k : Nat) : (s.get! k).toNat = (nb s).getD k 0 := by
  rw [List.getD_eq_getElem?_getD]
  by_cases h : k < s.size
  · rw [Utf8W.get!_of_lt s k h, List.getElem?_eq_getElem (by rw [nb_length]; exact h)]
    simp [nb]; rfl
  · rw [List.getElem?_eq_none (by rw [nb_length]; omega)]
    cases s with
    | mk d =>
      have : d[k]! = default := getElem!_neg d k (by simpa [ByteArray.size] using h)
      show (d[k]!).toNat = _
      rw [this]; rfl
theorem nb_extract (s : ByteArray) (i j : Nat) : nb (s.extract i j) = ((nb s).take j).drop i := by
  unfold nb
  rw [← List.map_take, ← List.map_drop]
  congr 1
  simp [ByteArray.data_extract, List.drop_take]
theorem decodeGo_nb (s : ByteArray) : Lib.decodeGo s = if nb s = [] then (65533, 0) else dl (nb s) := by
  unfold Lib.decodeGo
  by_cases h : s.size = 0
  · rw [if_pos h, if_pos (by rw [← nb_length] at h; exact List.eq_nil_of_length_eq_zero h)]
  · rw [if_neg h, if_neg (fun e => h (by rw [← nb_length, e]; rfl)), Lib.decode_at]
    simp only [get_nb, dl, Nat.sub_zero, nb_length, Nat.zero_add]
theorem bt_nb (s : ByteArray) (i : Int) (h : i.toNat < s.size) : bt s i = ((nb s).getD i.toNat 0 : Nat) := by
  unfold bt
  rw [dif_pos h, List.getD_eq_getElem?_getD, List.getElem?_eq_getElem (by rw [nb_length]; exact h)]
  simp [nb]; rfl
theorem toList_nb (a b : ByteArray) : a.toList = b.toList ↔ nb a = nb b := by
  rw [ByteArray.toList_eq, ByteArray.toList_eq] 
  constructor
  · intro h; unfold nb; rw [h]
  · intro h; exact toNat_inj h
/-! lists of runes -/
def encs (l : List Int) : List Nat := l.flatMap fun n => eb n.toNat
def Goods (l : List Int) : Prop := ∀ n ∈ l, Good n
theorem goods_nil : Goods [] := fun x hx => by simp at hx
theorem goods_cons {n : Int} {l : List Int} : Goods (n :: l) ↔ Good n ∧ Goods l := by simp [Goods]
theorem encs_cons (n : Int) (l : List Int) : encs (n :: l) = eb n.toNat ++ encs l := rfl
theorem encs_append (a b : List Int) : encs (a ++ b) = encs a ++ encs b := by simp [encs]
theorem encs_nil {l : List Int} (h : encs l = []) : l = [] := by
  cases l with
  | nil => rfl
  | cons n l =>
    have := (eb_length n.toNat).1
    rw [encs_cons] at h
    have := congrArg List.length h
    rw [List.length_append, List.length_nil] at this; omega
theorem encs_length_le (l : List Int) : (encs l).length ≤ 4 * l.length := by
  induction l with
  | nil => simp [encs]
  | cons n l ih => have := (eb_length n.toNat).2; rw [encs_cons]; simp; omega
def decAll : Nat → List Nat → Option (List Int)
  | 0, _ => none
  | f + 1, d => if d = [] then some [] else if (dl d).1 = 65533 ∧ (dl d).2 < 2 then none else (decAll f (d.drop (dl d).2)).map (fun r => ((dl d).1 : Int) :: r)
theorem dl_pos (l : List Nat) : 1 ≤ (dl l).2 := by
  unfold dl Lib.decodeN
  repeat' split
  all_goals simp
theorem decAll_some {f : Nat} : ∀ {d : List Nat} {l : List Int}, (∀ x ∈ d, x < 256) → decAll f d = some l → Goods l ∧ d = encs l := by
  induction f with
  | zero => intro d l hd h; cases h
  | succ f ih =>
    intro d l hd h
    unfold decAll at h
    by_cases e : d = []
    · rw [if_pos e] at h; obtain rfl := Option.some.inj h; exact ⟨fun n hn => by simp at hn, e⟩
    rw [if_neg e] at h
    by_cases b : (dl d).1 = 65533 ∧ (dl d).2 < 2
    · rw [if_pos b] at h; cases h
    rw [if_neg b] at h
    obtain ⟨r, hr, rfl⟩ := Option.map_eq_some_iff.1 h
    obtain ⟨g1, g2, g3⟩ := dl_ok d hd e b
    obtain ⟨i1, i2⟩ := ih (fun x hx => hd x (List.mem_of_mem_drop hx)) hr
    refine ⟨fun n hn => ?_, ?_⟩
    · rcases List.mem_cons.1 hn with rfl | hn
      · exact g1
      · exact i1 n hn
    · rw [encs_cons, ← i2]; exact g2
theorem decAll_encs {l : List Int} (hg : Goods l) : ∀ {f : Nat}, (encs l).length < f → decAll f (encs l) = some l := by
  induction l with
  | nil => intro f hf; obtain ⟨f, rfl⟩ : ∃ m, f = m + 1 := ⟨f - 1, by omega⟩; simp [decAll, encs]
  | cons n l ih =>
    intro f hf
    obtain ⟨f, rfl⟩ : ∃ m, f = m + 1 := ⟨f - 1, by omega⟩
    have hn := hg n (List.mem_cons_self ..)
    obtain ⟨m, rfl⟩ := Int.eq_ofNat_of_zero_le hn.1
    have e := dl_eb m hn (encs l)
    have hp := eb_length m
    rw [encs_cons] at hf ⊢
    simp only [Int.toNat_natCast, List.length_append] at hf ⊢
    unfold decAll
    rw [if_neg (by intro h; have := congrArg List.length h; rw [List.length_append, List.length_nil] at this; omega), e]
    have hbad : ¬ (m = 65533 ∧ (eb m).length < 2) := by
      rintro ⟨rfl, h⟩; revert h; decide
    rw [if_neg hbad, List.drop_left, ih (fun x hx => hg x (List.mem_cons_of_mem _ hx)) (by omega)]
    rfl
theorem decAll_none {f : Nat} {d : List Nat} (hd : ∀ x ∈ d, x < 256) (hf : d.length < f) (h : decAll f d = none) : ¬ ∃ l, Goods l ∧ d = encs l := by
  rintro ⟨l, hg, rfl⟩
  rw [decAll_encs hg hf] at h; cases h
theorem encs_inj {a b : List Int} (ha : Goods a) (hb : Goods b) (h : encs a = encs b) : a = b := by
  have := decAll_encs ha (f := (encs a).length + 1) (by omega)
  rw [h, decAll_encs hb (by omega)] at this
  exact (Option.some.inj this).symm
/-! order -/
def nless : List Nat → List Nat → Bool
  | _, [] => false
  | [], _ :: _ => true
  | a :: x, b :: y => a < b || (a == b && nless x y)
theorem bytesLess_nb : ∀ (a b : List UInt8), Op.bytesLess a b = nless (a.map UInt8.toNat) (b.map UInt8.toNat)
  | [], [] => rfl
  | _ :: _, [] => rfl
  | [], _ :: _ => rfl
  | a :: x, b :: y => by
    by_cases h : a = b
    · subst h; simp [Op.bytesLess, nless, bytesLess_nb x y]
    · have h' : ¬ a.toNat = b.toNat := fun e => h (UInt8.toNat_inj.1 e)
      have e1 : (a == b) = false := beq_eq_false_iff_ne.2 h
      have e2 : (a.toNat == b.toNat) = false := beq_eq_false_iff_ne.2 h'
      simp only [Op.bytesLess, nless, List.map_cons, UInt8.lt_iff_toNat_lt, e1, e2, Bool.false_and]
def iless : List Int → List Int → Bool
  | _, [] => false
  | [], _ :: _ => true
  | a :: x, b :: y => a < b || (a == b && iless x y)
theorem nless_app : ∀ (p x y : List Nat), nless (p ++ x) (p ++ y) = nless x y
  | [], _, _ => rfl
  | a :: p, x, y => by simp [nless, nless_app p x y]
theorem nless_head {a b : Nat} (h : a < b) (x y : List Nat) : nless (a :: x) (b :: y) = true := by simp [nless, h]
theorem nless_head' {a b : Nat} (h : b < a) (x y : List Nat) : nless (a :: x) (b :: y) = false := by
  simp only [nless, Bool.or_eq_false_iff, decide_eq_false_iff_not, Bool.and_eq_false_iff, beq_eq_false_iff_ne]
  omega
/-- Two runes' bytes part at a place where both have one. -/
theorem eb_part (a b : Nat) (h : a < b) (hb : b ≤ 1114111) : ∃ p u v x y, eb a = p ++ u :: x ∧ eb b = p ++ v :: y ∧ u < v := by
  by_cases a1 : a < 128
  · rw [eb1 a1]
    by_cases b1 : b < 128
    · rw [eb1 b1]; exact ⟨[], _, _, [], [], rfl, rfl, h⟩
    by_cases b2 : b < 2048
    · rw [eb2 b1 b2]; exact ⟨[], _, _, [], _, rfl, rfl, by omega⟩
    by_cases b3 : b < 65536
    · rw [eb3 b2 b3]; exact ⟨[], _, _, [], _, rfl, rfl, by omega⟩
    · rw [eb4 b3]; exact ⟨[], _, _, [], _, rfl, rfl, by omega⟩
  by_cases a2 : a < 2048
  · rw [eb2 a1 a2]
    by_cases b2 : b < 2048
    · rw [eb2 (by omega) b2]
      by_cases e : a / 64 = b / 64
      · exact ⟨[192 + a / 64], 128 + a % 64, 128 + b % 64, [], [], rfl, by rw [e]; rfl, by omega⟩
      · exact ⟨[], _, _, _, _, rfl, rfl, by omega⟩
    by_cases b3 : b < 65536
    · rw [eb3 b2 b3]; exact ⟨[], _, _, _, _, rfl, rfl, by omega⟩
    · rw [eb4 b3]; exact ⟨[], _, _, _, _, rfl, rfl, by omega⟩
  by_cases a3 : a < 65536
  · rw [eb3 a2 a3]
    by_cases b3 : b < 65536
    · rw [eb3 (by omega) b3]
      by_cases e : a / 4096 = b / 4096
      · by_cases e2 : a / 64 % 64 = b / 64 % 64
        · exact ⟨[224 + a / 4096, 128 + a / 64 % 64], 128 + a % 64, 128 + b % 64, [], [], rfl, by rw [e, e2]; rfl, by omega⟩
        · exact ⟨[224 + a / 4096], 128 + a / 64 % 64, 128 + b / 64 % 64, [128 + a % 64], [128 + b % 64], rfl, by rw [e]; rfl, by omega⟩
      · exact ⟨[], _, _, _, _, rfl, rfl, by omega⟩
    · rw [eb4 b3]; exact ⟨[], _, _, _, _, rfl, rfl, by omega⟩
  · rw [eb4 a3, eb4 (n := b) (by omega)]
    by_cases e : a / 262144 = b / 262144
    · by_cases e2 : a / 4096 % 64 = b / 4096 % 64
      · by_cases e3 : a / 64 % 64 = b / 64 % 64
        · exact ⟨[240 + a / 262144, 128 + a / 4096 % 64, 128 + a / 64 % 64], 128 + a % 64, 128 + b % 64, [], [], rfl, by rw [e, e2, e3]; rfl, by omega⟩
        · exact ⟨[240 + a / 262144, 128 + a / 4096 % 64], 128 + a / 64 % 64, 128 + b / 64 % 64, [128 + a % 64], [128 + b % 64], rfl, by rw [e, e2]; rfl, by omega⟩
      · exact ⟨[240 + a / 262144], 128 + a / 4096 % 64, 128 + b / 4096 % 64, [128 + a / 64 % 64, 128 + a % 64], [128 + b / 64 % 64, 128 + b % 64], rfl, by rw [e]; rfl, by omega⟩
    · exact ⟨[], _, _, _, _, rfl, rfl, by omega⟩
theorem encs_less : ∀ (l m : List Int), Goods l → Goods m → nless (encs l) (encs m) = iless l m
  | [], [], _, _ => rfl
  | n :: l, [], _, _ => by simp [encs, iless, nless]
  | [], n :: m, _, _ => by
    have := (eb_length n.toNat).1
    rw [encs_cons]
    cases h : eb n.toNat with
    | nil => rw [h] at this; simp at this
    | cons a t => rfl
  | a :: l, b :: m, hl, hm => by
    have ga := hl a (List.mem_cons_self ..)
    have gb := hm b (List.mem_cons_self ..)
    rw [encs_cons, encs_cons]
    rcases Int.lt_trichotomy a b with h | h | h
    · obtain ⟨p, u, v, x, y, e1, e2, huv⟩ := eb_part a.toNat b.toNat (by have := ga.1; omega) (by have := gb.2.1; omega)
      rw [e1, e2, List.append_assoc, List.append_assoc, nless_app, List.cons_append, List.cons_append, nless_head huv]
      simp [iless, h]
    · subst h
      rw [nless_app, encs_less l m (fun x hx => hl x (List.mem_cons_of_mem _ hx)) (fun x hx => hm x (List.mem_cons_of_mem _ hx))]
      simp [iless]
    · obtain ⟨p, u, v, x, y, e1, e2, huv⟩ := eb_part b.toNat a.toNat (by have := gb.1; omega) (by have := ga.2.1; omega)
      rw [e1, e2, List.append_assoc, List.append_assoc, nless_app, List.cons_append, List.cons_append, nless_head' huv]
      simp only [iless]
      symm
      simp only [Bool.or_eq_false_iff, decide_eq_false_iff_not, Bool.and_eq_false_iff, beq_eq_false_iff_ne]
      omega
/-! beginnings -/
/-- Is a byte the first one of a rune? -/
def st8 (x : Nat) : Prop := x < 128 ∨ 191 < x
theorem eb_starts (n : Nat) (h : n ≤ 1114111) (j : Nat) (hj : j < (eb n).length) (hs : st8 ((eb n).getD j 0)) : j = 0 := by
  unfold st8 at hs
  by_cases b1 : n < 128
  · rw [eb1 b1] at hj; simp at hj; exact hj
  by_cases b2 : n < 2048
  · rw [eb2 b1 b2] at hj hs
    rcases j with _ | _ | j
    · rfl
    · simp at hs; omega
    · simp at hj; omega
  by_cases b3 : n < 65536
  · rw [eb3 b2 b3] at hj hs
    rcases j with _ | _ | _ | j
    · rfl
    · simp at hs; omega
    · simp at hs; omega
    · simp at hj; omega
  · rw [eb4 b3] at hj hs
    rcases j with _ | _ | _ | _ | j
    · rfl
    · simp at hs; omega
    · simp at hs; omega
    · simp at hs; omega
    · simp at hj; omega
theorem encs_starts : ∀ (l : List Int), Goods l → ∀ (p : Nat), p < (encs l).length → st8 ((encs l).getD p 0) → ∃ n r, Good n ∧ (encs l).drop p = eb n.toNat ++ r
  | [], _, p, h, _ => by simp [encs] at h
  | n :: l, hl, p, h, hs => by
    rw [encs_cons] at h hs ⊢
    have gn := hl n (List.mem_cons_self ..)
    by_cases hp : p < (eb n.toNat).length
    · have hs' : st8 ((eb n.toNat).getD p 0) := by
        rw [List.getD_eq_getElem?_getD, List.getElem?_append_left hp, ← List.getD_eq_getElem?_getD] at hs; exact hs
      obtain rfl := eb_starts n.toNat (by have := gn.2.1; omega) p hp hs'
      exact ⟨n, _, gn, rfl⟩
    · have hs' : st8 ((encs l).getD (p - (eb n.toNat).length) 0) := by
        rw [List.getD_eq_getElem?_getD, List.getElem?_append_right (by omega), ← List.getD_eq_getElem?_getD] at hs; exact hs
      rw [List.length_append] at h
      obtain ⟨m, r, g, e⟩ := encs_starts l (fun x hx => hl x (List.mem_cons_of_mem _ hx)) (p - (eb n.toNat).length) (by omega) hs'
      exact ⟨m, r, g, by rw [List.drop_append, List.drop_of_length_le (by omega), List.nil_append, e]⟩
theorem eb_first (n : Nat) (h : n ≤ 1114111) : st8 ((eb n).getD 0 0) := by
  unfold st8
  by_cases b1 : n < 128
  · rw [eb1 b1]; simp; omega
  by_cases b2 : n < 2048
  · rw [eb2 b1 b2]; simp; omega
  by_cases b3 : n < 65536
  · rw [eb3 b2 b3]; simp; omega
  · rw [eb4 b3]; simp; omega
theorem iless_app : ∀ (p x y : List Int), iless (p ++ x) (p ++ y) = iless x y
  | [], _, _ => rfl
  | a :: p, x, y => by simp [iless, iless_app p x y]
theorem rd_mid (a : List Int) (n : Int) (b : List Int) : rd (a ++ n :: b) a.length = n := by simp [rd, List.getD_eq_getElem?_getD]
instance goodsDec (l : List Int) : Decidable (Goods l) := by unfold Goods; infer_instance

theorem w64 {n : Int} (h0 : -9223372036854775808 ≤ n) (h1 : n ≤ 9223372036854775807) : wrap64 n = n := by unfold wrap64; omega
theorem rd_set (l : List Int) (i j v : Int) (h0 : 0 ≤ i) (h1 : i < l.length) (hj : 0 ≤ j) : rd (l.set i.toNat v) j = if j = i then v else rd l j := by
  unfold rd
  rw [List.getD_eq_getElem?_getD, List.getD_eq_getElem?_getD, List.getElem?_set]
  by_cases e : j = i
  · subst e; rw [if_pos rfl, if_pos (by omega), if_pos rfl]; rfl
  · rw [if_neg (by omega), if_neg e]
theorem rdOf_set {α : Type} (d : α) (l : List α) (i j : Int) (v : α) (h0 : 0 ≤ i) (h1 : i < l.length) (hj : 0 ≤ j) : rdOf d (l.set i.toNat v) j = if j = i then v else rdOf d l j := by
  unfold rdOf
  rw [List.getD_eq_getElem?_getD, List.getD_eq_getElem?_getD, List.getElem?_set]
  by_cases e : j = i
  · subst e; rw [if_pos rfl, if_pos (by omega), if_pos rfl]; rfl
  · rw [if_neg (by omega), if_neg e]

theorem size_ext (s : ByteArray) (i j : Nat) (hi : i ≤ j) (hj : j ≤ s.size) : (s.extract i j).size = j - i := by simp [ByteArray.size_extract]; omega
theorem size_nums (xs : List Int) : (strOfNums xs).size = xs.length := by simp [strOfNums, ByteArray.size]
theorem nb_nums (xs : List Int) : nb (strOfNums xs) = xs.map fun x => x.toNat % 256 := by simp [nb, strOfNums]
theorem size_enc (n : Int) (h : Good n) : (Utf8.encode n).size ≤ 4 := by rw [← nb_length, nb_encode n h]; exact (eb_length _).2
theorem and63 (x : Int) (h0 : 0 ≤ x) (h1 : x < 9223372036854775808) : Go.bits .and .i64 x 63 = x % 64 := by
  have h := bits_mask .i64 63 (by decide) (fun n h₀ h₁ => by rw [IntKind.wrap_i64]; omega) 6 (by decide) x h0 (by omega)
  simpa using h
theorem l2Bytes (n : Int) (h : Good n) : spec_l2Bytes.f n = some (Utf8.encode n) := by
  have h0 := h.1
  have h1 := h.2.1
  have e : ∀ {x : ByteArray}, nb x = eb n.toNat → some x = some (Utf8.encode n) := fun {x} hx => by
    rw [nb_inj (hx.trans (nb_encode n h).symm)]
  unfold spec_l2Bytes.f
  by_cases a : n < 128
  · rw [if_pos a]
    refine e ?_
    rw [eb1 (by omega), nb_nums]
    simp; omega
  rw [if_neg a]
  by_cases b : n < 2048
  · rw [if_pos b]
    refine e ?_
    rw [eb2 (by omega) (by omega), nb_nums, and63 _ h0 (by omega), w64 (by omega) (by omega), w64 (by omega) (by omega)]
    simp; omega
  rw [if_neg b]
  by_cases c : n < 65536
  · rw [if_pos c]
    refine e ?_
    rw [eb3 (by omega) (by omega), nb_nums, and63 _ h0 (by omega), and63 _ (by omega) (by omega), w64 (by omega) (by omega), w64 (by omega) (by omega), w64 (by omega) (by omega)]
    simp; omega
  · rw [if_neg c]
    refine e ?_
    rw [eb4 (by omega), nb_nums, and63 _ h0 (by omega), and63 (n / 4096) (by omega) (by omega), and63 (n / 64) (by omega) (by omega), w64 (by omega) (by omega), w64 (by omega) (by omega), w64 (by omega) (by omega), w64 (by omega) (by omega)]
    simp; omega

def bad (d : List Nat) : Prop := (dl d).1 = 65533 ∧ (dl d).2 < 2
instance (d : List Nat) : Decidable (bad d) := by unfold bad; infer_instance
theorem drop_lt (s : ByteArray) (i : Nat) : ∀ x ∈ (nb s).drop i, x < 256 := fun x hx => nb_lt (List.mem_of_mem_drop hx)
theorem drop_ne (s : ByteArray) (i : Nat) (h : i < s.size) : (nb s).drop i ≠ [] := by
  intro e; have := congrArg List.length e; rw [List.length_drop, nb_length, List.length_nil] at this; omega
theorem dl_le (s : ByteArray) (i : Nat) (h : i < s.size) : (dl ((nb s).drop i)).1 ≤ 1114111 ∧ (dl ((nb s).drop i)).2 ≤ 4 ∧ i + (dl ((nb s).drop i)).2 ≤ s.size := by
  by_cases hb : bad ((nb s).drop i)
  · refine ⟨by rw [hb.1]; decide, by have := hb.2; omega, by have := hb.2; omega⟩
  · obtain ⟨g, e, w⟩ := dl_ok _ (drop_lt s i) (drop_ne s i h) hb
    have h4 := (eb_length (dl ((nb s).drop i)).1).2
    have hl := congrArg List.length e
    rw [List.length_append, List.length_drop, List.length_drop, nb_length, ← w] at hl
    have := dl_pos ((nb s).drop i)
    refine ⟨by have := g.2.1; omega, by omega, ?_⟩
    have hw : (dl ((nb s).drop i)).2 ≤ ((nb s).drop i).length := by
      have h2 := congrArg List.length e
      rw [List.length_append, ← w] at h2; omega
    rw [List.length_drop, nb_length] at hw
    omega
theorem runeAtImpl (s : ByteArray) (at_ : Int) (h0 : 0 ≤ at_) (h1 : at_ < s.size) (hs : s.size < 1000000000000) :
    impl_runeAt.f s at_ = some (if bad ((nb s).drop at_.toNat) then (0, 0, false) else (((dl ((nb s).drop at_.toNat)).1 : Int), at_ + ((dl ((nb s).drop at_.toNat)).2 : Int), true)) := by
  have hle := dl_le s at_.toNat (by omega)
  unfold impl_runeAt.f utf8_DecodeRuneInString.f
  rw [if_pos h0, if_pos (by omega), decodeGo_nb, nb_extract, List.take_of_length_le (by rw [nb_length]; omega), if_neg (drop_ne s _ (by omega))]
  simp only [Option.bind_some]
  rw [w64 (by omega) (by omega), w64 (by omega) (by omega)]
  by_cases c : ((dl ((nb s).drop at_.toNat)).1 : Int) = 65533
  · rw [if_pos c]
    by_cases e : ((dl ((nb s).drop at_.toNat)).2 : Int) < 2
    · rw [if_pos e, if_pos (show bad _ from ⟨by omega, by omega⟩)]
    · rw [if_neg e, if_neg (fun hb : bad _ => e (by have := hb.2; omega))]
  · rw [if_neg c, if_neg (fun hb : bad _ => c (by have := hb.1; omega))]

theorem goodRune (n : Int) : spec_GoodRune.f n = some (decide (Good n)) := by
  unfold spec_GoodRune.f spec_l1In.f Good
  by_cases a : n ≥ 0
  · rw [if_pos a]
    simp only [Option.bind_some]
    by_cases b : n ≤ 1114111
    · rw [decide_eq_true b, if_pos rfl]
      by_cases c : n ≥ 55296
      · rw [if_pos c]; simp only [Option.bind_some]; congr 1
        by_cases d : n ≤ 57343 <;> simp [a, b, c, d] <;> omega
      · rw [if_neg c]; simp only [Option.bind_some]; congr 1
        simp [b]; omega
    · rw [decide_eq_false b, if_neg (by decide)]; congr 1
      simp [b]
  · rw [if_neg a]
    simp only [Option.bind_some]
    rw [if_neg (by decide)]; congr 1
    simp; omega

/-- The number that the reference puts together. -/
theorem or_and (v b : Int) (h0 : 0 ≤ v) (h1 : v < 2147483648) (h2 : 0 ≤ b) (h3 : b < 256) : Go.bits .or .i64 (wrap64 (v * 64)) (wrap64 (Go.bits .and .u8 b 63)) = v * 64 + b % 64 := by
  rw [u8_and63 b h2 h3, w64 (by omega) (by omega), w64 (by omega) (by omega)]
  exact bits_join .i64 63 (by decide) (fun n h₀ h₁ => by rw [IntKind.wrap_i64]; omega) 6 _ _ (by omega) (by omega) (by omega) (by omega) (by omega) (by omega)
def fin2 (d : List Nat) (v : Nat) (many : Nat) : Int × Int := if Good v ∧ eb v = d.take many then ((v : Int), (many : Int)) else (0, 0)
theorem l2At_end (s : ByteArray) (at_ : Int) (h0 : 0 ≤ at_) (hs : s.size < 1000000000000) (v many : Nat) (hm : at_ + many ≤ s.size) : Ev (fun k => spec_l2At.l0 k s at_ v many many) (fin2 ((nb s).drop at_.toNat) v many) := by
  refine Ev.step (f := fun _ => some (fin2 ((nb s).drop at_.toNat) v many)) (fun k => ?_) (Ev.now _)
  rw [spec_l2At.l0, if_neg (by omega), goodRune]
  simp only [Option.bind_some]
  unfold fin2
  by_cases g : Good (v : Int)
  · rw [decide_eq_true g, if_pos rfl, l2Bytes _ g]
    simp only [Option.bind_some]
    rw [if_pos h0, w64 (by omega) (by omega), if_pos (by omega), if_pos hm]
    have e : (Utf8.encode (v : Int)).toList = (s.extract at_.toNat (at_ + many).toNat).toList ↔ eb v = ((nb s).drop at_.toNat).take many := by
      rw [toList_nb, nb_encode _ g, nb_extract, List.drop_take, Int.toNat_natCast, show (at_ + many).toNat - at_.toNat = many by omega]
    by_cases c : eb v = ((nb s).drop at_.toNat).take many
    · rw [if_pos (e.2 c), if_pos ⟨g, c⟩]
    · rw [if_neg (fun h => c (e.1 h)), if_neg (fun h => c h.2)]
  · rw [decide_eq_false g, if_neg (by decide), if_neg (fun h => g h.1)]
theorem bt_drop (s : ByteArray) (at_ i : Int) (h0 : 0 ≤ at_) (hi : 0 ≤ i) (h : at_ + i < s.size) : bt s (at_ + i) = (((nb s).drop at_.toNat).getD i.toNat 0 : Nat) := by
  rw [bt_nb s _ (by omega), List.getD_eq_getElem?_getD, List.getD_eq_getElem?_getD, List.getElem?_drop, show at_.toNat + i.toNat = (at_ + i).toNat by omega]
theorem l2At_step (s : ByteArray) (at_ : Int) (h0 : 0 ≤ at_) (hs : s.size < 1000000000000) (v many i : Nat) (hv : v < 2147483648) (hi : i < many) (hm : at_ + many ≤ s.size) {r : Int × Int}
    (h : Ev (fun k => spec_l2At.l0 k s at_ ((v * 64 + ((nb s).drop at_.toNat).getD i 0 % 64 : Nat) : Int) many ((i + 1 : Nat) : Int)) r) : Ev (fun k => spec_l2At.l0 k s at_ v many i) r := by
  have hb := getD_lt (drop_lt s at_.toNat) i
  refine Ev.step (fun k => ?_) h
  rw [spec_l2At.l0, if_pos (by omega), w64 (n := at_ + i) (by omega) (by omega), if_pos (by omega), if_pos (by omega), bt_drop s at_ i h0 (by omega) (by omega), Int.toNat_natCast, or_and _ _ (by omega) (by omega) (by omega) (by omega), w64 (by omega) (by omega)]
  norm_cast
def val2 (d : List Nat) (n0 many : Nat) : Nat :=
  if many = 1 then n0 else if many = 2 then n0 * 64 + d.getD 1 0 % 64 else if many = 3 then (n0 * 64 + d.getD 1 0 % 64) * 64 + d.getD 2 0 % 64
  else ((n0 * 64 + d.getD 1 0 % 64) * 64 + d.getD 2 0 % 64) * 64 + d.getD 3 0 % 64
theorem l2At_j0 (s : ByteArray) (at_ : Int) (h0 : 0 ≤ at_) (h1 : at_ < s.size) (hs : s.size < 1000000000000) (n0 many : Nat) (hn : n0 < 256) (h2 : 1 ≤ many) (h3 : many ≤ 4) :
    Ev (fun k => spec_l2At.j0 k s at_ n0 many) (if ((nb s).drop at_.toNat).length < many then (0, 0) else fin2 ((nb s).drop at_.toNat) (val2 ((nb s).drop at_.toNat) n0 many) many) := by
  have hl : ((nb s).drop at_.toNat).length = s.size - at_.toNat := by rw [List.length_drop, nb_length]
  by_cases c : ((nb s).drop at_.toNat).length < many
  · rw [if_pos c]
    refine Ev.step (f := fun _ => some (0, 0)) (fun k => ?_) (Ev.now _)
    rw [spec_l2At.j0, w64 (by omega) (by omega), if_pos (by omega)]
  rw [if_neg c]
  have hm : at_ + many ≤ s.size := by omega
  refine Ev.step (f := fun k => spec_l2At.l0 k s at_ n0 many ((1 : Nat) : Int)) (fun k => ?_) ?_
  · rw [spec_l2At.j0, w64 (by omega) (by omega), if_neg (by omega)]; rfl
  have b1 := getD_lt (drop_lt s at_.toNat) 1
  have b2 := getD_lt (drop_lt s at_.toNat) 2
  have b3 := getD_lt (drop_lt s at_.toNat) 3
  unfold val2
  rcases (show many = 1 ∨ many = 2 ∨ many = 3 ∨ many = 4 by omega) with rfl | rfl | rfl | rfl
  · rw [if_pos rfl]; exact l2At_end s at_ h0 hs n0 1 hm
  · rw [if_neg (by decide), if_pos rfl]
    exact l2At_step s at_ h0 hs n0 2 1 (by omega) (by omega) hm (l2At_end s at_ h0 hs _ 2 hm)
  · rw [if_neg (by decide), if_neg (by decide), if_pos rfl]
    exact l2At_step s at_ h0 hs n0 3 1 (by omega) (by omega) hm (l2At_step s at_ h0 hs _ 3 2 (by omega) (by omega) hm (l2At_end s at_ h0 hs _ 3 hm))
  · rw [if_neg (by decide), if_neg (by decide), if_neg (by decide)]
    exact l2At_step s at_ h0 hs n0 4 1 (by omega) (by omega) hm (l2At_step s at_ h0 hs _ 4 2 (by omega) (by omega) hm (l2At_step s at_ h0 hs _ 4 3 (by omega) (by omega) hm (l2At_end s at_ h0 hs _ 4 hm)))
theorem eb_len_eq (n : Nat) : (eb n).length = if n < 128 then 1 else if n < 2048 then 2 else if n < 65536 then 3 else 4 := by
  unfold eb; repeat' split
  all_goals rfl
theorem eb_head (n : Nat) : (eb n).getD 0 0 = if n < 128 then n else if n < 2048 then 192 + n / 64 else if n < 65536 then 224 + n / 4096 else 240 + n / 262144 := by
  unfold eb; repeat' split
  all_goals rfl
/-- What is put together of a rune's own bytes is the rune. -/
theorem val2_eb (n : Nat) (t : List Nat) (hn : n ≤ 1114111) : val2 (eb n ++ t) ((eb n).getD 0 0 - if n < 128 then 0 else if n < 2048 then 192 else if n < 65536 then 224 else 240) (eb n).length = n := by
  by_cases a : n < 128
  · rw [eb1 a, if_pos a]; simp [val2]
  by_cases b : n < 2048
  · rw [eb2 a b, if_neg a, if_pos b]; simp [val2]; omega
  by_cases c : n < 65536
  · rw [eb3 b c, if_neg a, if_neg b, if_pos c]; simp [val2]; omega
  · rw [eb4 c, if_neg a, if_neg b, if_neg c]; simp [val2]; omega
/-- The reference's way to decode is Go's. -/
theorem fin2_eq (d : List Nat) (hd : ∀ x ∈ d, x < 256) (h0 : d ≠ []) (n0 many : Nat) (h2 : 1 ≤ many)
    (hc : ∀ n, n ≤ 1114111 → (eb n).getD 0 0 = d.getD 0 0 → (eb n).length = many ∧ n0 = d.getD 0 0 - if n < 128 then 0 else if n < 2048 then 192 else if n < 65536 then 224 else 240) :
    (if d.length < many then (0, 0) else fin2 d (val2 d n0 many) many) = if bad d then (0, 0) else (((dl d).1 : Int), ((dl d).2 : Int)) := by
  by_cases hb : bad d
  · rw [if_pos hb]
    by_cases hl : d.length < many
    · rw [if_pos hl]
    rw [if_neg hl]
    unfold fin2
    rw [if_neg]
    rintro ⟨g, e⟩
    have h := dl_eb (val2 d n0 many) g (d.drop many)
    rw [e, List.take_append_drop] at h
    have hl2 : (d.take many).length = many := by rw [List.length_take]; omega
    rw [hl2] at h
    have e1 := hb.1
    have e2 := hb.2
    rw [h] at e1 e2
    simp only at e1 e2
    have e3 := congrArg List.length e
    rw [hl2, e1] at e3
    have : (eb 65533).length = 3 := by decide
    omega
  · rw [if_neg hb]
    obtain ⟨g, e, w⟩ := dl_ok d hd h0 hb
    have hn : (dl d).1 ≤ 1114111 := by have := g.2.1; omega
    have hp := eb_length (dl d).1
    have hh : (eb (dl d).1).getD 0 0 = d.getD 0 0 := by
      conv => rhs; rw [e]
      rw [List.getD_eq_getElem?_getD, List.getD_eq_getElem?_getD, List.getElem?_append_left (by omega)]
    obtain ⟨c1, c2⟩ := hc _ hn hh
    have hle : ¬ d.length < many := by
      have := congrArg List.length e
      rw [List.length_append] at this; omega
    rw [if_neg hle]
    generalize (dl d).1 = c at *
    generalize (dl d).2 = m at *
    generalize d.drop m = t at e
    subst e
    subst c1
    have hv : val2 (eb c ++ t) n0 (eb c).length = c := by rw [c2, ← hh]; exact val2_eb c t hn
    unfold fin2
    rw [hv, if_pos ⟨g, by rw [List.take_left]⟩, w]
theorem heads (n x : Nat) (hn : n ≤ 1114111) (he : (eb n).getD 0 0 = x) : (x < 128 ∧ n < 128) ∨ (192 ≤ x ∧ x ≤ 223 ∧ ¬ n < 128 ∧ n < 2048) ∨ (224 ≤ x ∧ x ≤ 239 ∧ ¬ n < 128 ∧ ¬ n < 2048 ∧ n < 65536) ∨ (240 ≤ x ∧ x ≤ 244 ∧ ¬ n < 128 ∧ ¬ n < 2048 ∧ ¬ n < 65536) := by
  rw [eb_head] at he
  by_cases a : n < 128
  · rw [if_pos a] at he; omega
  rw [if_neg a] at he
  by_cases b : n < 2048
  · rw [if_pos b] at he; omega
  rw [if_neg b] at he
  by_cases c : n < 65536
  · rw [if_pos c] at he; omega
  rw [if_neg c] at he; omega
theorem l2At (s : ByteArray) (at_ : Int) (h0 : 0 ≤ at_) (h1 : at_ < s.size) (hs : s.size < 1000000000000) :
    Ev (fun k => spec_l2At.f k s at_) (if bad ((nb s).drop at_.toNat) then (0, 0) else (((dl ((nb s).drop at_.toNat)).1 : Int), ((dl ((nb s).drop at_.toNat)).2 : Int))) := by
  have hb := getD_lt (drop_lt s at_.toNat) 0
  have hne := drop_ne s at_.toNat (by omega)
  have hb0 := bt_drop s at_ 0 h0 (by omega) (by omega)
  rw [Int.add_zero] at hb0
  simp only [Int.toNat_zero] at hb0
  unfold spec_l2At.f spec_l1In.f
  simp only [if_pos h0, if_pos h1, hb0]
  generalize hx : ((nb s).drop at_.toNat).getD 0 0 = x at *
  rw [w64 (n := (x : Int)) (by omega) (by omega)]
  have key : ∀ (n0 many : Nat), n0 < 256 → 1 ≤ many → many ≤ 4 → (∀ n, n ≤ 1114111 → (eb n).getD 0 0 = x → (eb n).length = many ∧ n0 = x - if n < 128 then 0 else if n < 2048 then 192 else if n < 65536 then 224 else 240) →
      Ev (fun k => spec_l2At.j0 k s at_ n0 many) (if bad ((nb s).drop at_.toNat) then (0, 0) else (((dl ((nb s).drop at_.toNat)).1 : Int), ((dl ((nb s).drop at_.toNat)).2 : Int))) := by
    intro n0 many a1 a2 a3 a4
    rw [← fin2_eq _ (drop_lt s at_.toNat) hne n0 many a2 (by rw [hx]; exact a4)]
    exact l2At_j0 s at_ h0 h1 hs n0 many a1 a2 a3
  by_cases c1 : 192 ≤ x ∧ x ≤ 223
  · have k := key (x - 192) 2 (by omega) (by omega) (by omega) (fun n hn he => by
      rcases heads n x hn he with h | ⟨_, _, g1, g2⟩ | h | h
      · omega
      · rw [eb_len_eq, if_neg g1, if_pos g2, if_neg g1, if_pos g2]; exact ⟨rfl, rfl⟩
      · omega
      · omega)
    have e : ((x - 192 : Nat) : Int) = (x : Int) - 192 := by omega
    rw [e] at k
    simp only [ge_iff_le, show (192 : Int) ≤ x by omega, show (x : Int) ≤ 223 by omega, decide_true, if_true, Option.bind_some]
    rw [w64 (by omega) (by omega)]; exact k
  have n1 : (if (x : Int) ≥ 192 then some (decide ((x : Int) ≤ 223)) else some false) = some false := by
    by_cases q : (x : Int) ≥ 192
    · rw [if_pos q, decide_eq_false (by omega)]
    · rw [if_neg q]
  simp only [n1, Option.bind_some, Bool.false_eq_true, if_false]
  by_cases c2 : 224 ≤ x ∧ x ≤ 239
  · have k := key (x - 224) 3 (by omega) (by omega) (by omega) (fun n hn he => by
      rcases heads n x hn he with h | h | ⟨_, _, g1, g2, g3⟩ | h
      · omega
      · omega
      · rw [eb_len_eq, if_neg g1, if_neg g2, if_pos g3, if_neg g1, if_neg g2, if_pos g3]; exact ⟨rfl, rfl⟩
      · omega)
    have e : ((x - 224 : Nat) : Int) = (x : Int) - 224 := by omega
    rw [e] at k
    simp only [ge_iff_le, show (224 : Int) ≤ x by omega, show (x : Int) ≤ 239 by omega, decide_true, if_true, Option.bind_some]
    rw [w64 (by omega) (by omega)]; exact k
  have n2 : (if (x : Int) ≥ 224 then some (decide ((x : Int) ≤ 239)) else some false) = some false := by
    by_cases q : (x : Int) ≥ 224
    · rw [if_pos q, decide_eq_false (by omega)]
    · rw [if_neg q]
  simp only [n2, Option.bind_some, Bool.false_eq_true, if_false]
  by_cases c3 : 240 ≤ x ∧ x ≤ 247
  · have k := key (x - 240) 4 (by omega) (by omega) (by omega) (fun n hn he => by
      rcases heads n x hn he with h | h | h | ⟨_, _, g1, g2, g3⟩
      · omega
      · omega
      · omega
      · rw [eb_len_eq, if_neg g1, if_neg g2, if_neg g3, if_neg g1, if_neg g2, if_neg g3]; exact ⟨rfl, rfl⟩)
    have e : ((x - 240 : Nat) : Int) = (x : Int) - 240 := by omega
    rw [e] at k
    simp only [ge_iff_le, show (240 : Int) ≤ x by omega, show (x : Int) ≤ 247 by omega, decide_true, if_true, Option.bind_some]
    rw [w64 (by omega) (by omega)]; exact k
  have n3 : (if (x : Int) ≥ 240 then some (decide ((x : Int) ≤ 247)) else some false) = some false := by
    by_cases q : (x : Int) ≥ 240
    · rw [if_pos q, decide_eq_false (by omega)]
    · rw [if_neg q]
  simp only [n3, Option.bind_some, Bool.false_eq_true, if_false]
  by_cases c4 : (x : Int) ≥ 128
  · simp only [c4, if_true]
    have hbad : bad ((nb s).drop at_.toNat) := by
      by_cases hb' : bad ((nb s).drop at_.toNat)
      · exact hb'
      exfalso
      obtain ⟨g, e, w⟩ := dl_ok _ (drop_lt s at_.toNat) hne hb'
      have hp := (eb_length (dl ((nb s).drop at_.toNat)).1).1
      have hh : (eb (dl ((nb s).drop at_.toNat)).1).getD 0 0 = x := by
        rw [← hx]
        conv => rhs; rw [e]
        rw [List.getD_eq_getElem?_getD, List.getD_eq_getElem?_getD, List.getElem?_append_left (by omega)]
      rcases heads _ x (by have := g.2.1; omega) hh with h | h | h | h <;> omega
    rw [if_pos hbad]; exact Ev.now _
  · simp only [c4, if_false]
    have k := key x 1 (by omega) (by omega) (by omega) (fun n hn he => by
      rcases heads n x hn he with ⟨_, g1⟩ | h | h | h
      · rw [eb_len_eq, if_pos g1, if_pos g1]; exact ⟨rfl, rfl⟩
      · omega
      · omega
      · omega)
    exact k

/-! the functions over whole strings -/
def rimp (acc : List Int) : Option (List Int) → List Int × Bool
  | some l => if acc.length + l.length ≤ 60 then (acc ++ l, true) else ([], false)
  | none => ([], false)
def rspec (acc : List Int) : Option (List Int) → List Int × Bool
  | some l => (acc ++ l, true)
  | none => ([], false)
theorem drop_nil (s : ByteArray) (at_ : Int) (h0 : 0 ≤ at_) : (nb s).drop at_.toNat = [] ↔ (s.size : Int) ≤ at_ := by
  rw [List.drop_eq_nil_iff, nb_length]; omega
theorem drop_drop_at (s : ByteArray) (at_ : Int) (h0 : 0 ≤ at_) (w : Nat) : ((nb s).drop at_.toNat).drop w = (nb s).drop (at_ + w).toNat := by
  rw [List.drop_drop]; congr 1; omega
theorem runesOfImpl_l0 (s : ByteArray) (hs : s.size < 1000000000000) (f : Nat) : ∀ (acc : List Int) (at_ : Int), 0 ≤ at_ → at_ ≤ s.size → ((nb s).drop at_.toNat).length < f → acc.length ≤ 60 →
    Ev (fun k => impl_runesOf.l0 k s acc at_) (rimp acc (decAll f ((nb s).drop at_.toNat))) := by
  induction f with
  | zero => intro acc at_ h0 h1 hf; omega
  | succ f ih =>
    intro acc at_ h0 h1 hf ha
    unfold decAll
    by_cases c : (nb s).drop at_.toNat = []
    · rw [if_pos c]
      have := (drop_nil s at_ h0).1 c
      refine Ev.step (f := fun _ => some (rimp acc (some []))) (fun k => ?_) (Ev.now _)
      rw [impl_runesOf.l0, if_neg (by omega)]
      simp [rimp]; omega
    · rw [if_neg c]
      have hlt : at_ < s.size := by
        rcases Int.lt_or_le at_ s.size with h | h
        · exact h
        · exact absurd ((drop_nil s at_ h0).2 h) c
      have hr := runeAtImpl s at_ h0 hlt hs
      have hle := dl_le s at_.toNat (by omega)
      have hp := dl_pos ((nb s).drop at_.toNat)
      by_cases b : bad ((nb s).drop at_.toNat)
      · rw [if_pos b] at hr
        rw [if_pos (show (dl ((nb s).drop at_.toNat)).1 = 65533 ∧ (dl ((nb s).drop at_.toNat)).2 < 2 from b)]
        refine Ev.step (f := fun _ => some (([] : List Int), false)) (fun k => ?_) (Ev.now _)
        rw [impl_runesOf.l0, if_pos hlt, hr]
        simp only [Option.bind_some]
        rw [if_neg (by decide)]
      · rw [if_neg b] at hr
        rw [if_neg (show ¬ ((dl ((nb s).drop at_.toNat)).1 = 65533 ∧ (dl ((nb s).drop at_.toNat)).2 < 2) from b)]
        by_cases e : acc.length = 60
        · have hres : rimp acc ((decAll f (((nb s).drop at_.toNat).drop (dl ((nb s).drop at_.toNat)).2)).map fun r => ((dl ((nb s).drop at_.toNat)).1 : Int) :: r) = ([], false) := by
            cases decAll f (((nb s).drop at_.toNat).drop (dl ((nb s).drop at_.toNat)).2) with
            | none => rfl
            | some l => simp [rimp, e]
          rw [hres]
          refine Ev.step (f := fun _ => some (([] : List Int), false)) (fun k => ?_) (Ev.now _)
          rw [impl_runesOf.l0, if_pos hlt, hr]
          simp only [Option.bind_some]
          rw [if_pos trivial, if_pos (by omega)]
        · have hne : 1 ≤ ((nb s).drop at_.toNat).length := List.length_pos_iff.2 c
          have hl : (((nb s).drop at_.toNat).drop (dl ((nb s).drop at_.toNat)).2).length < f := by rw [List.length_drop]; omega
          rw [drop_drop_at s at_ h0] at hl ⊢
          have hi := ih (acc ++ [((dl ((nb s).drop at_.toNat)).1 : Int)]) (at_ + (dl ((nb s).drop at_.toNat)).2) (by omega) (by omega) hl (by simp; omega)
          have hres : ∀ o : Option (List Int), rimp (acc ++ [((dl ((nb s).drop at_.toNat)).1 : Int)]) o = rimp acc (o.map fun r => ((dl ((nb s).drop at_.toNat)).1 : Int) :: r) := by
            intro o
            cases o with
            | none => rfl
            | some l => simp only [rimp, Option.map_some, List.length_append, List.length_cons, List.length_nil, List.append_assoc, List.cons_append, List.nil_append, Nat.add_assoc, Nat.add_comm 1 l.length]
          rw [← hres]
          refine Ev.step (fun k => ?_) hi
          rw [impl_runesOf.l0, if_pos hlt, hr]
          simp only [Option.bind_some]
          rw [if_pos trivial, if_neg (by omega), if_pos (by omega)]
theorem runesSpec_l0 (s : ByteArray) (hs : s.size < 1000000000000) (f : Nat) : ∀ (acc : List Int) (at_ : Int), 0 ≤ at_ → at_ ≤ s.size → ((nb s).drop at_.toNat).length < f → acc.length + s.size < 10000000000000 + at_ →
    Ev (fun k => spec_l2Runes.l0 k s acc at_) (rspec acc (decAll f ((nb s).drop at_.toNat))) := by
  induction f with
  | zero => intro acc at_ h0 h1 hf; omega
  | succ f ih =>
    intro acc at_ h0 h1 hf ha
    unfold decAll
    by_cases c : (nb s).drop at_.toNat = []
    · rw [if_pos c]
      have := (drop_nil s at_ h0).1 c
      refine Ev.step (f := fun _ => some (rspec acc (some []))) (fun k => ?_) (Ev.now _)
      rw [spec_l2Runes.l0, if_neg (by omega)]
      simp [rspec]
    · rw [if_neg c]
      have hlt : at_ < s.size := by
        rcases Int.lt_or_le at_ s.size with h | h
        · exact h
        · exact absurd ((drop_nil s at_ h0).2 h) c
      have hr := l2At s at_ h0 hlt hs
      have hle := dl_le s at_.toNat (by omega)
      have hp := dl_pos ((nb s).drop at_.toNat)
      by_cases b : bad ((nb s).drop at_.toNat)
      · rw [if_pos b] at hr
        rw [if_pos (show (dl ((nb s).drop at_.toNat)).1 = 65533 ∧ (dl ((nb s).drop at_.toNat)).2 < 2 from b)]
        refine Ev.step (f := fun k => (spec_l2At.f k s at_).bind fun b => if b.2 = 0 then some (([] : List Int), false) else if acc.length < 17592186044416 then spec_l2Runes.l0 k s (acc ++ [b.1]) (wrap64 (at_ + b.2)) else none) (fun k => ?_) (Ev.bind hr ?_)
        · rw [spec_l2Runes.l0, if_pos hlt]
        · simp only [if_true]; exact Ev.now _
      · rw [if_neg b] at hr
        rw [if_neg (show ¬ ((dl ((nb s).drop at_.toNat)).1 = 65533 ∧ (dl ((nb s).drop at_.toNat)).2 < 2) from b)]
        have hne : 1 ≤ ((nb s).drop at_.toNat).length := List.length_pos_iff.2 c
        have hl : (((nb s).drop at_.toNat).drop (dl ((nb s).drop at_.toNat)).2).length < f := by rw [List.length_drop]; omega
        rw [drop_drop_at s at_ h0] at hl ⊢
        have hi := ih (acc ++ [((dl ((nb s).drop at_.toNat)).1 : Int)]) (at_ + (dl ((nb s).drop at_.toNat)).2) (by omega) (by omega) hl (by simp; omega)
        have hres : ∀ o : Option (List Int), rspec (acc ++ [((dl ((nb s).drop at_.toNat)).1 : Int)]) o = rspec acc (o.map fun r => ((dl ((nb s).drop at_.toNat)).1 : Int) :: r) := by
          intro o
          cases o with
          | none => rfl
          | some l => simp [rspec]
        rw [← hres]
        refine Ev.step (f := fun k => (spec_l2At.f k s at_).bind fun b => if b.2 = 0 then some (([] : List Int), false) else if acc.length < 17592186044416 then spec_l2Runes.l0 k s (acc ++ [b.1]) (wrap64 (at_ + b.2)) else none) (fun k => ?_) (Ev.bind hr ?_)
        · rw [spec_l2Runes.l0, if_pos hlt]
        · simp only
          rw [w64 (by omega) (by omega)]
          simp only [show ¬ ((dl ((nb s).drop at_.toNat)).2 : Int) = 0 by omega, if_false, show acc.length < 17592186044416 by omega, if_true]
          exact hi
def R (s : ByteArray) : List Int × Bool := if s.size ≤ 240 then rimp [] (decAll (s.size + 1) (nb s)) else ([], false)
theorem runesOfImpl (s : ByteArray) (hs : s.size < 1000000000000) : Ev (fun k => impl_RunesOf.f k s) (R s) := by
  unfold impl_RunesOf.f impl_runesOf.f R
  by_cases c : s.size ≤ 240
  · have := runesOfImpl_l0 s hs (s.size + 1) [] 0 (by omega) (by omega) (by rw [List.length_drop, nb_length]; omega) (by simp)
    simp only [Int.toNat_zero, List.drop_zero] at this
    simp only [c, if_true, show ¬ (s.size : Int) > 240 by omega, if_false]
    exact Ev.bind this (Ev.now _)
  · simp only [c, if_false, show (s.size : Int) > 240 by omega, if_true]
    exact Ev.now _
theorem runesOfSpec (s : ByteArray) (hs : s.size < 1000000000000) : Ev (fun k => spec_RunesOf.f k s) (R s) := by
  unfold spec_RunesOf.f spec_l2Long.f spec_l2Runes.f R
  by_cases c : s.size ≤ 240
  · have := runesSpec_l0 s hs (s.size + 1) [] 0 (by omega) (by omega) (by rw [List.length_drop, nb_length]; omega) (by simp; omega)
    simp only [Int.toNat_zero, List.drop_zero] at this
    simp only [c, if_true, show (s.size : Int) ≤ 240 by omega, decide_true, Option.bind_some]
    refine Ev.bind this ?_
    cases decAll (s.size + 1) (nb s) with
    | none => simp only [rspec, rimp, Bool.false_eq_true, if_false]; exact Ev.now _
    | some l =>
      simp only [rspec, rimp, if_true, List.nil_append, List.length_nil, Nat.zero_add]
      by_cases g : l.length ≤ 60
      · simp only [g, if_true, show ¬ (l.length : Int) > 60 by omega, if_false]; exact Ev.now _
      · simp only [g, if_false, show (l.length : Int) > 60 by omega, if_true]; exact Ev.now _
  · simp only [c, if_false, show ¬ (s.size : Int) ≤ 240 by omega, decide_false, Option.bind_some, Bool.false_eq_true]
    exact Ev.now _
theorem R_true {s : ByteArray} {l : List Int} (h : R s = (l, true)) : Goods l ∧ nb s = encs l ∧ l.length ≤ 60 ∧ s.size ≤ 240 := by
  unfold R at h
  by_cases c : s.size ≤ 240
  · rw [if_pos c] at h
    cases e : decAll (s.size + 1) (nb s) with
    | none => rw [e] at h; simp [rimp] at h
    | some m =>
      rw [e] at h
      simp only [rimp, List.length_nil, Nat.zero_add, List.nil_append] at h
      by_cases g : m.length ≤ 60
      · rw [if_pos g] at h
        obtain rfl : m = l := congrArg Prod.fst h
        obtain ⟨h1, h2⟩ := decAll_some (fun x hx => nb_lt hx) e
        exact ⟨h1, h2, g, c⟩
      · rw [if_neg g] at h; simp at h
  · rw [if_neg c] at h; simp at h
theorem R_mk {s : ByteArray} {l : List Int} (h1 : Goods l) (h2 : nb s = encs l) (h3 : l.length ≤ 60) : R s = (l, true) := by
  have hl := congrArg List.length h2
  have := encs_length_le l
  rw [nb_length] at hl
  unfold R
  rw [if_pos (by omega), h2, decAll_encs h1 (by omega)]
  simp [rimp, h3]
theorem R_false {s : ByteArray} (h : (R s).2 = false) : (R s).1 = [] := by
  unfold R at h ⊢
  split
  · rename_i c
    rw [if_pos c] at h
    cases e : decAll (s.size + 1) (nb s) with
    | none => rfl
    | some m =>
      rw [e] at h
      simp only [rimp] at h ⊢
      split
      · rename_i g; rw [if_pos g] at h; simp at h
      · rfl
  · rfl

theorem isRune (n : Int) : impl_isRune.f n = some (decide (Good n)) := goodRune n

/-! The reader of choices: it never fails, and tells numbers in their ranges. -/
def Bytes8 (l : List Int) : Prop := ∀ x ∈ l, 0 ≤ x ∧ x ≤ 255
theorem bytes_of_wf {l : List Int} (h : ∀ x ∈ l, (Lit.int .u8 x).wf = true) : Bytes8 l := fun x hx => by
  have := h x hx
  simpa [Lit.wf, IntKind.min, IntKind.max, IntKind.signed, IntKind.bits] using this
theorem bytes_rd {l : List Int} (h : Bytes8 l) (i : Int) (h0 : 0 ≤ i) (h1 : i < l.length) : 0 ≤ rd l i ∧ rd l i ≤ 255 := by
  have hi : i.toNat < l.length := by omega
  have : rd l i = l[i.toNat] := by simp [rd, List.getD_eq_getElem?_getD, hi]
  rw [this]; exact h _ (List.getElem_mem hi)
theorem and255 (x : Int) (h0 : 0 ≤ x) (h1 : x < 18446744073709551616) : Go.bits .and .u64 x 255 = x % 256 := by
  have h := bits_mask .u64 64 (by decide) (fun n h₀ h₁ => by simp [IntKind.wrap, IntKind.bits, IntKind.signed]; omega) 8 (by decide) x h0 (by omega)
  simpa using h
theorem u64_range (x : Int) : 0 ≤ IntKind.u64.wrap x ∧ IntKind.u64.wrap x < 18446744073709551616 := by simp [IntKind.wrap, IntKind.bits, IntKind.signed]; omega
theorem cur_next (l : List Int) (hl : Bytes8 l) (at_ s : Int) (h0 : 0 ≤ at_) (h1 : at_ < 4611686018427387904) : ∃ r s', spec_l1Cur_next.f l at_ s = some (r, at_ + 1, s') ∧ 0 ≤ r ∧ r ≤ 255 := by
  have hw : wrap64 (at_ + 1) = at_ + 1 := w64 (by omega) (by omega)
  have hseed : ∀ x : Int, 0 ≤ wrap64 (Go.bits .and .u64 (IntKind.u64.wrap x / 1099511627776) 255) ∧ wrap64 (Go.bits .and .u64 (IntKind.u64.wrap x / 1099511627776) 255) ≤ 255 := fun x => by
    have hx := u64_range x
    rw [and255 _ (by omega) (by omega), w64 (by omega) (by omega)]; omega
  unfold spec_l1Cur_next.f
  rw [hw]
  by_cases hlt : at_ < (l.length : Int)
  · have hb := bytes_rd hl at_ h0 hlt
    rw [if_pos hlt, if_pos h0]
    split
    · exact ⟨_, _, rfl, by rw [w64 (by omega) (by omega)]; exact hb.1, by rw [w64 (by omega) (by omega)]; exact hb.2⟩
    · exact ⟨_, _, rfl, (hseed _).1, (hseed _).2⟩
  · rw [if_neg hlt]
    split
    · exact ⟨_, _, rfl, by omega, by omega⟩
    · exact ⟨_, _, rfl, (hseed _).1, (hseed _).2⟩
theorem cur_pick (l : List Int) (hl : Bytes8 l) (at_ s n : Int) (h0 : 0 ≤ at_) (h1 : at_ < 2305843009213693952) (hn : n < 4611686018427387904) : ∃ r a' s', spec_l1Cur_pick.f l at_ s n = some (r, a', s') ∧ at_ ≤ a' ∧ a' ≤ at_ + 2 ∧ 0 ≤ r ∧ (1 ≤ n → r < n) := by
  unfold spec_l1Cur_pick.f
  by_cases hs : n ≤ 1
  · rw [if_pos hs]; exact ⟨0, at_, s, rfl, by omega, by omega, by omega, by omega⟩
  rw [if_neg hs]
  obtain ⟨r, s', h, hr0, hr1⟩ := cur_next l hl at_ s h0 (by omega)
  rw [h]
  simp only [Option.bind_some]
  by_cases hb : n > 200
  · obtain ⟨r2, s2, h2, h3, h4⟩ := cur_next l hl (at_ + 1) s' (by omega) (by omega)
    rw [if_pos hb, h2]
    simp only [Option.bind_some]
    rw [if_neg (by omega), w64 (n := r * 256) (by omega) (by omega), w64 (by omega) (by omega), Int.tmod_eq_emod_of_nonneg (by omega)]
    exact ⟨_, _, _, rfl, by omega, by omega, Int.emod_nonneg _ (by omega), fun _ => Int.emod_lt_of_pos _ (by omega)⟩
  · rw [if_neg hb, if_neg (by omega), Int.tmod_eq_emod_of_nonneg (by omega)]
    exact ⟨_, _, _, rfl, by omega, by omega, Int.emod_nonneg _ (by omega), fun _ => Int.emod_lt_of_pos _ (by omega)⟩
theorem cur_one (l : List Int) (hl : Bytes8 l) (at_ s n : Int) (h0 : 0 ≤ at_) (h1 : at_ < 2305843009213693952) (hn : n < 4611686018427387904) : ∃ b a' s', spec_l1Cur_one.f l at_ s n = some (b, a', s') ∧ at_ ≤ a' ∧ a' ≤ at_ + 2 := by
  obtain ⟨r, a', s', h, h2, h3, _⟩ := cur_pick l hl at_ s n h0 h1 hn
  unfold spec_l1Cur_one.f
  rw [h]
  exact ⟨_, _, _, rfl, h2, h3⟩

theorem cur_among (l : List Int) (hl : Bytes8 l) (at_ s : Int) (m : List Int) (hm : 1 ≤ m.length) (hm2 : m.length < 4000000000) (h0 : 0 ≤ at_) (h1 : at_ < 2305843009213693952) : ∃ r a' s', spec_l1Cur_among.f l at_ s m = some (r, a', s') ∧ at_ ≤ a' ∧ a' ≤ at_ + 2 ∧ r ∈ m := by
  obtain ⟨r, a', s', h, h2, h3, h4, h5⟩ := cur_pick l hl at_ s m.length h0 h1 (by omega)
  have h5 := h5 (by omega)
  unfold spec_l1Cur_among.f
  rw [h]
  simp only [Option.bind_some]
  rw [if_pos h4, if_pos h5]
  refine ⟨_, _, _, rfl, h2, h3, ?_⟩
  have hi : r.toNat < m.length := by omega
  have : rd m r = m[r.toNat] := by simp [rd, List.getD_eq_getElem?_getD, hi]
  rw [this]; exact List.getElem_mem hi

theorem cur_rune2 (l : List Int) (hl : Bytes8 l) (at_ s : Int) (h0 : 0 ≤ at_) (h1 : at_ < 2305843009213693952) : ∃ r a' s', spec_l1Cur_rune2.f l at_ s = some (r, a', s') ∧ at_ ≤ a' ∧ a' ≤ at_ + 2 ∧ Good r := by
  obtain ⟨r, a', s', p, q1, q2, q3⟩ := cur_among l hl at_ s [0, 65, 97, 122, 127, 128, 233, 2047, 2048, 8364, 55295, 57344, 65533, 65535, 65536, 128512, 1114111] (by decide) (by decide) h0 h1
  refine ⟨r, a', s', ?_, q1, q2, ?_⟩
  · unfold spec_l1Cur_rune2.f; rw [p]; rfl
  · have : ∀ x ∈ ([0, 65, 97, 122, 127, 128, 233, 2047, 2048, 8364, 55295, 57344, 65533, 65535, 65536, 128512, 1114111] : List Int), Good x := by decide
    exact this r q3

theorem cur_spoilt_l0 (l : List Int) (hl : Bytes8 l) (w : ByteArray) (hw : 1 ≤ w.size) (hw2 : w.size < 4000000000) (d : Nat) : ∀ (t : ByteArray) (n at_ s : Int), 0 ≤ at_ → at_ + 6 * d < 2305843009213693952 → t.size + d < 4000000000 → n = d →
    ∃ r a' s', Ev (fun k => spec_l1Cur_spoilt.l0 k t w n l at_ s) (r, a', s') ∧ at_ ≤ a' ∧ a' ≤ at_ + 6 * d ∧ r.size ≤ t.size + d := by
  induction d with
  | zero =>
    intro t n at_ s h0 h1 h2 hn
    refine ⟨t, at_, s, ?_, by omega, by omega, by omega⟩
    refine Ev.step (fun k => by rw [spec_l1Cur_spoilt.l0, if_neg (by omega)]) ?_
    exact Ev.step (fun k => by rw [spec_l1Cur_spoilt.j1, if_neg (by decide)]) (Ev.now _)
  | succ d ih =>
    intro t n at_ s h0 h1 h2 hn
    by_cases ht : (t.size : Int) > 0
    · obtain ⟨i, a1, s1, p1, q1, q2, q3, q4⟩ := cur_pick l hl at_ s t.size h0 (by omega) (by omega)
      have q4 := q4 (by omega)
      obtain ⟨j, a2, s2, p2, r1, r2, r3, r4⟩ := cur_pick l hl a1 s1 w.size (by omega) (by omega) (by omega)
      have r4 := r4 (by omega)
      obtain ⟨c, a3, s3, p3, u1, u2, u3, u4⟩ := cur_pick l hl a2 s2 3 (by omega) (by omega) (by omega)
      have u4 := u4 (by omega)
      have e1 := size_ext t 0 i.toNat (by omega) (by omega)
      have e2 := size_ext t i.toNat t.size (by omega) (by omega)
      have e3 := size_ext t (i + 1).toNat t.size (by omega) (by omega)
      have e4 := size_nums [bt w j]
      have wi : wrap64 (i + 1) = i + 1 := w64 (by omega) (by omega)
      have wn : wrap64 (n - 1) = n - 1 := w64 (by omega) (by omega)
      simp only [List.length_cons, List.length_nil] at e4
      have hstep : ∀ (t' : ByteArray), t'.size ≤ t.size + 1 → (∀ k, spec_l1Cur_spoilt.j1 (k + 1) t w n true l at_ s = spec_l1Cur_spoilt.l0 k t' w (n - 1) l a3 s3) →
          ∃ r a' s', Ev (fun k => spec_l1Cur_spoilt.l0 k t w n l at_ s) (r, a', s') ∧ at_ ≤ a' ∧ a' ≤ at_ + 6 * ((d + 1 : Nat) : Int) ∧ r.size ≤ t.size + (d + 1) := by
        intro t' hs hj
        obtain ⟨r, a', s', ev, v1, v2, v3⟩ := ih t' (n - 1) a3 s3 (by omega) (by omega) (by omega) (by omega)
        exact ⟨r, a', s', Ev.step (fun k => by rw [spec_l1Cur_spoilt.l0, if_pos (by omega), decide_eq_true ht]) (Ev.step hj ev), by omega, by omega, by omega⟩
      rcases (show c = 0 ∨ c = 1 ∨ c = 2 by omega) with rfl | rfl | rfl
      · refine hstep (t.extract 0 i.toNat ++ strOfNums [bt w j] ++ t.extract i.toNat t.size) (by simp only [ByteArray.size_append, e1, e2, e4]; omega) (fun k => ?_)
        rw [spec_l1Cur_spoilt.j1, if_pos rfl, p1]
        simp only [Option.bind_some]
        rw [p2]
        simp only [Option.bind_some]
        rw [if_pos r3, if_pos r4, p3]
        simp only [Option.bind_some]
        rw [if_pos trivial, if_pos q3, if_pos (by omega), if_pos (by omega), if_pos (by simp only [ByteArray.size_append, e1, e2, e4]; omega), wn]
      · refine hstep (t.extract 0 i.toNat ++ strOfNums [bt w j] ++ t.extract (i + 1).toNat t.size) (by simp only [ByteArray.size_append, e1, e3, e4]; omega) (fun k => ?_)
        rw [spec_l1Cur_spoilt.j1, if_pos rfl, p1]
        simp only [Option.bind_some]
        rw [p2]
        simp only [Option.bind_some]
        rw [if_pos r3, if_pos r4, p3]
        simp only [Option.bind_some]
        rw [if_neg (by decide), if_pos trivial, if_pos q3, if_pos (by omega), if_pos (by omega), wi, if_pos (by omega), if_pos (by omega), if_pos (by simp only [ByteArray.size_append, e1, e3, e4]; omega), wn]
      · refine hstep (t.extract 0 i.toNat ++ t.extract (i + 1).toNat t.size) (by simp only [ByteArray.size_append, e1, e3]; omega) (fun k => ?_)
        rw [spec_l1Cur_spoilt.j1, if_pos rfl, p1]
        simp only [Option.bind_some]
        rw [p2]
        simp only [Option.bind_some]
        rw [if_pos r3, if_pos r4, p3]
        simp only [Option.bind_some]
        rw [if_neg (by decide), if_neg (by decide), if_pos q3, if_pos (by omega), wi, if_pos (by omega), if_pos (by omega), if_pos (by omega), wn]
    · refine ⟨t, at_, s, ?_, by omega, by omega, by omega⟩
      refine Ev.step (fun k => by rw [spec_l1Cur_spoilt.l0, if_pos (by omega), decide_eq_false ht]) ?_
      exact Ev.step (fun k => by rw [spec_l1Cur_spoilt.j1, if_neg (by decide)]) (Ev.now _)
theorem cur_spoilt (l : List Int) (hl : Bytes8 l) (at_ s : Int) (t w : ByteArray) (hw : 1 ≤ w.size) (hw2 : w.size < 4000000000) (h0 : 0 ≤ at_) (h1 : at_ < 1000000000000000000) (ht : t.size < 1000000000) :
    ∃ r a' s', Ev (fun k => spec_l1Cur_spoilt.f k l at_ s t w) (r, a', s') ∧ at_ ≤ a' ∧ a' ≤ at_ + 14 ∧ r.size ≤ t.size + 2 := by
  obtain ⟨n, a1, s1, p1, q1, q2, q3, q4⟩ := cur_pick l hl at_ s 3 h0 (by omega) (by omega)
  have q4 := q4 (by omega)
  obtain ⟨r, a', s', ev, v1, v2, v3⟩ := cur_spoilt_l0 l hl w hw hw2 n.toNat t n a1 s1 (by omega) (by omega) (by omega) (by omega)
  refine ⟨r, a', s', ?_, by omega, by omega, by omega⟩
  unfold spec_l1Cur_spoilt.f
  rw [p1]
  simp only [Option.bind_some]
  exact ev

theorem cur_runeText_j1 (l : List Int) (hl : Bytes8 l) (t : ByteArray) (at_ s : Int) (h0 : 0 ≤ at_) (h1 : at_ < 1000000000000000000) (ht : t.size ≤ 1000) :
    ∃ r a' s', Ev (fun k => spec_l1Cur_runeText.j1 k t l at_ s) (r, a', s') ∧ at_ ≤ a' ∧ a' ≤ at_ + 4 ∧ r.size ≤ 1000 := by
  obtain ⟨b, a1, s1, p1, q1, q2⟩ := cur_one l hl at_ s 30 h0 (by omega) (by omega)
  cases b with
  | true =>
    obtain ⟨r, a2, s2, p2, r1, r2, r3⟩ := cur_among l hl a1 s1 [60, 61, 240, 241] (by decide) (by decide) (by omega) (by omega)
    have hr : 0 ≤ r ∧ r ≤ 241 := by
      have : ∀ x ∈ ([60, 61, 240, 241] : List Int), 0 ≤ x ∧ x ≤ 241 := by decide
      exact this r r3
    refine ⟨strOfNums (List.replicate r.toNat 0), a2, s2, Ev.step (fun k => ?_) (Ev.now _), by omega, by omega, ?_⟩
    · rw [spec_l1Cur_runeText.j1, p1]
      simp only [Option.bind_some]
      rw [if_pos trivial, p2]
      simp only [Option.bind_some]
      rw [if_pos hr.1, if_pos (by omega)]
    · rw [size_nums, List.length_replicate]; omega
  | false =>
    refine ⟨t, a1, s1, Ev.step (fun k => ?_) (Ev.now _), by omega, by omega, ht⟩
    rw [spec_l1Cur_runeText.j1, p1]
    simp only [Option.bind_some]
    rw [if_neg (by decide)]
theorem cur_runeText_l0 (l : List Int) (hl : Bytes8 l) (d : Nat) : ∀ (t : ByteArray) (n at_ s : Int), 0 ≤ at_ → at_ + 10 * d < 100000000000000000 → t.size + 4 * d ≤ 500 → n = d →
    ∃ r a' s', Ev (fun k => spec_l1Cur_runeText.l0 k t n l at_ s) (r, a', s') ∧ at_ ≤ a' ∧ a' ≤ at_ + 10 * d + 50 ∧ r.size ≤ 1000 := by
  induction d with
  | zero =>
    intro t n at_ s h0 h1 h2 hn
    obtain ⟨b, a1, s1, p1, q1, q2⟩ := cur_one l hl at_ s 3 h0 (by omega) (by omega)
    cases b with
    | true =>
      obtain ⟨r, a2, s2, p2, r1, r2, r3⟩ := cur_spoilt l hl a1 s1 t ⟨#[97, 128, 195, 240, 237]⟩ (by decide) (by decide) (by omega) (by omega) (by omega)
      obtain ⟨r', a3, s3, p3, u1, u2, u3⟩ := cur_runeText_j1 l hl r a2 s2 (by omega) (by omega) (by omega)
      refine ⟨r', a3, s3, Ev.step (fun k => ?_) (Ev.bind (f := fun k b => spec_l1Cur_runeText.j1 k b.1 l b.2.1 b.2.2) p2 p3), by omega, by omega, u3⟩
      rw [spec_l1Cur_runeText.l0, if_neg (by omega), p1]
      simp only [Option.bind_some]
      rw [if_pos trivial]
    | false =>
      obtain ⟨r', a3, s3, p3, u1, u2, u3⟩ := cur_runeText_j1 l hl t a1 s1 (by omega) (by omega) (by omega)
      refine ⟨r', a3, s3, Ev.step (fun k => ?_) p3, by omega, by omega, u3⟩
      rw [spec_l1Cur_runeText.l0, if_neg (by omega), p1]
      simp only [Option.bind_some]
      rw [if_neg (by decide)]
  | succ d ih =>
    intro t n at_ s h0 h1 h2 hn
    obtain ⟨c, a1, s1, p1, q1, q2, q3⟩ := cur_rune2 l hl at_ s h0 (by omega)
    have hz := size_enc c q3
    obtain ⟨r, a', s', ev, v1, v2, v3⟩ := ih (t ++ Utf8.encode c) (n - 1) a1 s1 (by omega) (by omega) (by rw [ByteArray.size_append]; omega) (by omega)
    refine ⟨r, a', s', Ev.step (fun k => ?_) ev, by omega, by omega, v3⟩
    rw [spec_l1Cur_runeText.l0, if_pos (by omega), p1]
    simp only [Option.bind_some]
    rw [l2Bytes c q3]
    simp only [Option.bind_some]
    rw [if_pos (by omega), w64 (by omega) (by omega)]
theorem cur_runeText (l : List Int) (hl : Bytes8 l) (at_ s : Int) (h0 : 0 ≤ at_) (h1 : at_ < 1000000000) :
    ∃ r a' s', Ev (fun k => spec_l1Cur_runeText.f k l at_ s) (r, a', s') ∧ at_ ≤ a' ∧ a' ≤ at_ + 200 ∧ r.size ≤ 1000 := by
  obtain ⟨n, a1, s1, p1, q1, q2, q3, q4⟩ := cur_pick l hl at_ s 7 h0 (by omega) (by omega)
  have q4 := q4 (by omega)
  obtain ⟨r, a', s', ev, v1, v2, v3⟩ := cur_runeText_l0 l hl n.toNat ⟨#[]⟩ n a1 s1 (by omega) (by omega) (by show 0 + 4 * n.toNat ≤ 500; omega) (by omega)
  refine ⟨r, a', s', ?_, by omega, by omega, v3⟩
  unfold spec_l1Cur_runeText.f
  rw [p1]
  simp only [Option.bind_some]
  exact ev

theorem cur_badRune (l : List Int) (hl : Bytes8 l) (at_ s : Int) (h0 : 0 ≤ at_) (h1 : at_ < 1000000000000000000) : ∃ r a' s', spec_l1Cur_badRune.f l at_ s = some (r, a', s') ∧ at_ ≤ a' ∧ a' ≤ at_ + 4 ∧ -1 ≤ r ∧ r ≤ 1114112 := by
  obtain ⟨b, a1, s1, p1, q1, q2⟩ := cur_one l hl at_ s 20 h0 (by omega) (by omega)
  unfold spec_l1Cur_badRune.f
  rw [p1]
  simp only [Option.bind_some]
  cases b with
  | true =>
    obtain ⟨r, a2, s2, p2, r1, r2, r3⟩ := cur_among l hl a1 s1 [-1, 55296, 57343, 1114112] (by decide) (by decide) (by omega) (by omega)
    have hr : -1 ≤ r ∧ r ≤ 1114112 := by
      have : ∀ x ∈ ([-1, 55296, 57343, 1114112] : List Int), -1 ≤ x ∧ x ≤ 1114112 := by decide
      exact this r r3
    rw [if_pos rfl, p2]
    exact ⟨r, a2, s2, rfl, by omega, by omega, hr⟩
  | false =>
    obtain ⟨r, a2, s2, p2, r1, r2, r3⟩ := cur_rune2 l hl a1 s1 (by omega) (by omega)
    rw [if_neg (by decide), p2]
    exact ⟨r, a2, s2, rfl, by omega, by omega, by have := r3.1; omega, by have := r3.2.1; omega⟩
theorem cur_runes_l0 (l : List Int) (hl : Bytes8 l) (d : Nat) : ∀ (m : List Int) (n at_ s : Int), 0 ≤ at_ → at_ + 10 * d < 100000000000000000 → m.length + d ≤ 100 → n = d →
    ∃ r a' s', Ev (fun k => spec_l1Cur_runes.l0 k m n l at_ s) (r, a', s') ∧ r.length ≤ 100 ∧ at_ ≤ a' ∧ a' ≤ at_ + 10 * d + 50 := by
  induction d with
  | zero =>
    intro m n at_ s h0 h1 h2 hn
    obtain ⟨b, a1, s1, p1, q1, q2⟩ := cur_one l hl at_ s 30 h0 (by omega) (by omega)
    cases b with
    | true =>
      obtain ⟨c, a2, s2, p2, r1, r2, r3, r4⟩ := cur_pick l hl a1 s1 3 (by omega) (by omega) (by omega)
      have r4 := r4 (by omega)
      refine ⟨List.replicate (59 + c).toNat 0, a2, s2, Ev.step (fun k => ?_) (Ev.now _), by rw [List.length_replicate]; omega, by omega, by omega⟩
      rw [spec_l1Cur_runes.l0, if_neg (by omega), p1]
      simp only [Option.bind_some]
      rw [if_pos trivial, p2]
      simp only [Option.bind_some]
      rw [w64 (by omega) (by omega), if_pos (by omega), if_pos (by omega)]
    | false =>
      refine ⟨m, a1, s1, Ev.step (fun k => ?_) (Ev.now _), by omega, by omega, by omega⟩
      rw [spec_l1Cur_runes.l0, if_neg (by omega), p1]
      simp only [Option.bind_some]
      rw [if_neg (by decide)]
  | succ d ih =>
    intro m n at_ s h0 h1 h2 hn
    obtain ⟨c, a1, s1, p1, q1, q2, q3⟩ := cur_badRune l hl at_ s h0 (by omega)
    obtain ⟨r, a', s', ev, v, v2, v3⟩ := ih (m ++ [c]) (n - 1) a1 s1 (by omega) (by omega) (by simp; omega) (by omega)
    refine ⟨r, a', s', Ev.step (fun k => ?_) ev, v, by omega, by omega⟩
    rw [spec_l1Cur_runes.l0, if_pos (by omega), p1]
    simp only [Option.bind_some]
    rw [if_pos (by omega), w64 (by omega) (by omega)]

theorem drawTextOf (l : List Int) (hl : Bytes8 l) : ∃ r, Ev (fun k => spec_DrawTextOf.f k l) r ∧ r.length ≤ 100 := by
  obtain ⟨n, a1, s1, p1, q1, q2, q3, q4⟩ := cur_pick l hl 0 0 7 (by omega) (by omega) (by omega)
  have q4 := q4 (by omega)
  obtain ⟨r, a', s', ev, v, _, _⟩ := cur_runes_l0 l hl n.toNat [] n a1 s1 (by omega) (by omega) (by simp; omega) (by omega)
  refine ⟨r, ?_, v⟩
  unfold spec_DrawTextOf.f spec_l1Cur_runes.f
  rw [p1]
  simp only [Option.bind_some]
  exact Ev.bind ev (Ev.now _)

theorem sameInts_l0 (a : List Int) (ha : a.length < 1000000000000) (d : List Int) : ∀ (p : List Int), a = p ++ d → ∀ k, d.length < k → laws_sameInts.l0 k a a a.length p.length = some true := by
  induction d with
  | nil => intro p h k hk; obtain ⟨k, rfl⟩ : ∃ m, k = m + 1 := ⟨k - 1, by simp at hk; omega⟩
           rw [laws_sameInts.l0, if_neg (by rw [h]; simp)]
  | cons x d ih =>
    intro p h k hk
    obtain ⟨k, rfl⟩ : ∃ m, k = m + 1 := ⟨k - 1, by simp at hk; omega⟩
    have hl : a.length = p.length + (d.length + 1) := by rw [h]; simp
    have := ih (p ++ [x]) (by rw [h]; simp) k (by simp at hk; omega)
    simp only [List.length_append, List.length_cons, List.length_nil] at this
    rw [laws_sameInts.l0, if_pos (by omega), if_pos (by omega), if_pos (by omega), if_pos (by omega), if_pos rfl, w64 (by omega) (by omega)]
    exact this
theorem sameInts_self (a : List Int) (ha : a.length < 1000000000000) : Ev (fun k => laws_sameInts.f k a a) true :=
  ⟨a.length + 1, fun k hk => by show laws_sameInts.f k a a = some true; unfold laws_sameInts.f; rw [if_pos rfl]; exact sameInts_l0 a ha a [] rfl k (by omega)⟩

theorem l2All_l0 (l0 : List Int) (b : List Int) : ∀ (a : List Int), (a ++ b).length < 1000000000000 →
    Ev (fun k => spec_l2All.l0 k l0 (a ++ b) (a ++ b).length a.length) (decide (Goods b) && decide ((l0.length : Int) ≤ 60)) := by
  induction b with
  | nil =>
    intro a h2
    have : Goods [] := goods_nil
    refine Ev.step (f := fun _ => some (decide ((l0.length : Int) ≤ 60))) (fun k => ?_) ?_
    · rw [spec_l2All.l0, if_neg (by simp)]
    · simp only [this, decide_true, Bool.true_and]; exact Ev.now _
  | cons n b ih =>
    intro a h2
    have hl : (a ++ n :: b).length = a.length + (b.length + 1) := by simp
    by_cases g : Good n
    · have hi := ih (a ++ [n]) (by simpa using h2)
      simp only [List.append_assoc, List.cons_append, List.nil_append, List.length_append, List.length_cons, List.length_nil, Nat.zero_add] at hi
      have hres : decide (Goods (n :: b)) = decide (Goods b) := by
        apply decide_eq_decide.2
        exact ⟨fun h => (goods_cons.1 h).2, fun q => goods_cons.2 ⟨g, q⟩⟩
      rw [hres]
      refine Ev.step (fun k => ?_) hi
      rw [spec_l2All.l0, if_pos (by omega), if_pos (by omega), if_pos (by omega), rd_mid, goodRune, decide_eq_true g]
      simp only [Option.bind_some, if_true]
      rw [w64 (by omega) (by omega), hl]; rfl
    · have hres : decide (Goods (n :: b)) = false := decide_eq_false (fun h => g (h n (List.mem_cons_self ..)))
      rw [hres, Bool.false_and]
      refine Ev.step (f := fun _ => some false) (fun k => ?_) (Ev.now _)
      rw [spec_l2All.l0, if_pos (by omega), if_pos (by omega), if_pos (by omega), rd_mid, goodRune, decide_eq_false g]
      rfl
theorem l2All (l : List Int) (hl : l.length < 100000000000) : Ev (fun k => spec_l2All.f k l) (decide (l.length ≤ 60 ∧ Goods l)) := by
  have h1 := l2All_l0 l l [] (by simp; omega)
  simp only [List.nil_append, List.length_nil, Int.ofNat_zero] at h1
  have e : (decide (Goods l) && decide ((l.length : Int) ≤ 60)) = decide (l.length ≤ 60 ∧ Goods l) := by
    by_cases c : l.length ≤ 60 <;> by_cases g : Goods l <;> simp [c, g] <;> omega
  rw [e] at h1
  exact h1

/-! UTF-16 -/
def pr (n : Int) : List Int := if n < 65536 then [n] else [55296 + (n - 65536) / 1024, 56320 + (n - 65536) % 1024]
def prs (l : List Int) : List Int := l.flatMap pr
theorem prs_cons (n : Int) (l : List Int) : prs (n :: l) = pr n ++ prs l := rfl
theorem pr_length (n : Int) : 1 ≤ (pr n).length ∧ (pr n).length ≤ 2 := by unfold pr; split <;> simp
theorem prs_length (l : List Int) : l.length ≤ (prs l).length ∧ (prs l).length ≤ 2 * l.length := by
  induction l with
  | nil => simp [prs]
  | cons n l ih => have := pr_length n; rw [prs_cons, List.length_append, List.length_cons]; omega
def isHi (n : Int) : Prop := 55296 ≤ n ∧ n ≤ 56319
def isLo (n : Int) : Prop := 56320 ≤ n ∧ n ≤ 57343
instance (n : Int) : Decidable (isHi n) := inferInstanceAs (Decidable (55296 ≤ n ∧ n ≤ 56319))
instance (n : Int) : Decidable (isLo n) := inferInstanceAs (Decidable (56320 ≤ n ∧ n ≤ 57343))
def comb (a b : Int) : Int := 65536 + (a - 55296) * 1024 + b - 56320
theorem comb_good {a b : Int} (ha : isHi a) (hb : isLo b) : Good (comb a b) ∧ 65536 ≤ comb a b := by unfold isHi at ha; unfold isLo at hb; unfold comb Good; omega
theorem pr_comb {a b : Int} (ha : isHi a) (hb : isLo b) : pr (comb a b) = [a, b] := by
  have := (comb_good ha hb).2
  unfold isHi at ha; unfold isLo at hb
  unfold pr; rw [if_neg (by omega)]; unfold comb; congr 1
  · omega
  · congr 1; omega
/-- Reading pairs: none where a unit is no rune and no half of a pair. -/
def decP : List Int → Option (List Int)
  | [] => some []
  | [a] => if Good a ∧ a ≤ 65535 then some [a] else none
  | a :: b :: t => if isHi a ∧ isLo b then (decP t).map (comb a b :: ·) else if Good a ∧ a ≤ 65535 then (decP (b :: t)).map (a :: ·) else none
/-- The same, but what is no rune stays. -/
def decS : List Int → Option (List Int)
  | [] => some []
  | [a] => if 0 ≤ a ∧ a ≤ 65535 then some [a] else none
  | a :: b :: t => if isHi a ∧ isLo b then (decS t).map (comb a b :: ·) else if 0 ≤ a ∧ a ≤ 65535 then (decS (b :: t)).map (a :: ·) else none
theorem decP_decS : ∀ (d : List Int), (∀ r, decP d = some r → decS d = some r ∧ Goods r) ∧ (decP d = none → ∀ r, decS d = some r → ¬ Goods r)
  | [] => by
    refine ⟨fun r h => ?_, fun h => ?_⟩
    · simp only [decP, Option.some.injEq] at h; subst h; exact ⟨rfl, fun x hx => by simp at hx⟩
    · simp [decP] at h
  | [a] => by
    unfold decP decS
    by_cases g : Good a ∧ a ≤ 65535
    · rw [if_pos g]
      refine ⟨fun r h => ?_, fun h => by cases h⟩
      obtain rfl := Option.some.inj h
      rw [if_pos ⟨g.1.1, g.2⟩]
      exact ⟨rfl, fun x hx => by simp at hx; subst hx; exact g.1⟩
    · rw [if_neg g]
      refine ⟨fun r h => (by cases h), fun _ r h => ?_⟩
      split at h
      · rename_i q
        obtain rfl := Option.some.inj h
        exact fun hg => g ⟨hg a (List.mem_cons_self ..), q.2⟩
      · cases h
  | a :: b :: t => by
    unfold decP decS
    by_cases c : isHi a ∧ isLo b
    · rw [if_pos c, if_pos c]
      obtain ⟨i1, i2⟩ := decP_decS t
      refine ⟨fun r h => ?_, fun h r hr => ?_⟩
      · obtain ⟨q, hq, rfl⟩ := Option.map_eq_some_iff.1 h
        obtain ⟨h1, h2⟩ := i1 q hq
        rw [h1]
        exact ⟨rfl, goods_cons.2 ⟨(comb_good c.1 c.2).1, h2⟩⟩
      · obtain ⟨q, hq, rfl⟩ := Option.map_eq_some_iff.1 hr
        exact fun hg => i2 (Option.map_eq_none_iff.1 h) q hq (fun x hx => hg x (List.mem_cons_of_mem _ hx))
    · rw [if_neg c, if_neg c]
      obtain ⟨i1, i2⟩ := decP_decS (b :: t)
      by_cases g : Good a ∧ a ≤ 65535
      · rw [if_pos g, if_pos ⟨g.1.1, g.2⟩]
        refine ⟨fun r h => ?_, fun h r hr => ?_⟩
        · obtain ⟨q, hq, rfl⟩ := Option.map_eq_some_iff.1 h
          obtain ⟨h1, h2⟩ := i1 q hq
          rw [h1]
          exact ⟨rfl, goods_cons.2 ⟨g.1, h2⟩⟩
        · obtain ⟨q, hq, rfl⟩ := Option.map_eq_some_iff.1 hr
          exact fun hg => i2 (Option.map_eq_none_iff.1 h) q hq (fun x hx => hg x (List.mem_cons_of_mem _ hx))
      · rw [if_neg g]
        refine ⟨fun r h => (by cases h), fun _ r hr => ?_⟩
        split at hr
        · rename_i q
          obtain ⟨u, hu, rfl⟩ := Option.map_eq_some_iff.1 hr
          exact fun hg => g ⟨hg a (List.mem_cons_self ..), q.2⟩
        · cases hr
theorem decP_prs : ∀ (d r : List Int), decP d = some r → prs r = d
  | [], r, h => by simp only [decP, Option.some.injEq] at h; subst h; rfl
  | [a], r, h => by
    unfold decP at h
    split at h
    · rename_i g
      obtain rfl := Option.some.inj h
      simp [prs, pr]; have := g.2; omega
    · cases h
  | a :: b :: t, r, h => by
    unfold decP at h
    by_cases c : isHi a ∧ isLo b
    · rw [if_pos c] at h
      obtain ⟨q, hq, rfl⟩ := Option.map_eq_some_iff.1 h
      rw [prs_cons, pr_comb c.1 c.2, decP_prs t q hq]; rfl
    · rw [if_neg c] at h
      by_cases g : Good a ∧ a ≤ 65535
      · rw [if_pos g] at h
        obtain ⟨q, hq, rfl⟩ := Option.map_eq_some_iff.1 h
        rw [prs_cons, decP_prs (b :: t) q hq]
        unfold pr; rw [if_pos (by have := g.2; omega)]; rfl
      · rw [if_neg g] at h; cases h
theorem prs_decP : ∀ (l : List Int), Goods l → decP (prs l) = some l
  | [], _ => rfl
  | n :: l, h => by
    have gn := h n (List.mem_cons_self ..)
    have ih := prs_decP l (fun x hx => h x (List.mem_cons_of_mem _ hx))
    rw [prs_cons]
    unfold pr
    by_cases c : n < 65536
    · rw [if_pos c]
      have hh : ¬ isHi n := by have := gn.2.2; unfold isHi; omega
      cases e : prs l with
      | nil =>
        rw [e] at ih
        have : l = [] := by simpa [decP] using ih.symm
        subst this
        show decP [n] = _
        unfold decP; rw [if_pos ⟨gn, by omega⟩]
      | cons b t =>
        rw [e] at ih
        show decP (n :: b :: t) = _
        unfold decP; rw [if_neg (fun q => hh q.1), if_pos ⟨gn, by omega⟩, ih]; rfl
    · rw [if_neg c]
      have g2 := gn.2.1
      show decP (_ :: _ :: prs l) = _
      unfold decP
      rw [if_pos (by unfold isHi isLo; omega), ih]
      simp only [Option.map_some, Option.some.injEq, List.cons.injEq, and_true]
      unfold comb; omega
theorem prs_inj {a b : List Int} (ha : Goods a) (hb : Goods b) (h : prs a = prs b) : a = b := by
  have := prs_decP a ha
  rw [h, prs_decP b hb] at this
  exact (Option.some.inj this).symm
theorem iless_asymm : ∀ (x y : List Int), iless x y = true → iless y x = false
  | _, [], h => by cases ‹List Int› <;> simp [iless] at h
  | [], _ :: _, _ => rfl
  | a :: x, b :: y, h => by
    simp only [iless, Bool.or_eq_true, decide_eq_true_eq, Bool.and_eq_true, beq_iff_eq] at h
    simp only [iless, Bool.or_eq_false_iff, decide_eq_false_iff_not, Bool.and_eq_false_iff, beq_eq_false_iff_ne]
    rcases h with h | ⟨rfl, h⟩
    · exact ⟨by omega, .inl (by omega)⟩
    · exact ⟨by omega, .inr (iless_asymm x y h)⟩
theorem iless_total : ∀ (x y : List Int), iless x y = false → iless y x = false → x = y
  | [], [], _, _ => rfl
  | _ :: _, [], _, h => by simp [iless] at h
  | [], _ :: _, h, _ => by simp [iless] at h
  | a :: x, b :: y, h1, h2 => by
    simp only [iless, Bool.or_eq_false_iff, decide_eq_false_iff_not, Bool.and_eq_false_iff, beq_eq_false_iff_ne] at h1 h2
    have e : a = b := by omega
    subst e
    rw [iless_total x y (by simpa using h1.2) (by simpa using h2.2)]

theorem and1023 (x : Int) (h0 : 0 ≤ x) (h1 : x < 9223372036854775808) : Go.bits .and .i64 x 1023 = x % 1024 := by
  have h := bits_mask .i64 63 (by decide) (fun n h₀ h₁ => by rw [IntKind.wrap_i64]; omega) 10 (by decide) x h0 (by omega)
  simpa using h
theorem pairsOfImpl_l0 (b : List Int) : ∀ (a acc : List Int), Goods b → (a ++ b).length < 100000000 → acc.length + 2 * b.length < 1000000000 →
    Ev (fun k => impl_pairsOf.l0 k acc (a ++ b) (a ++ b).length a.length) (acc ++ prs b) := by
  induction b with
  | nil =>
    intro a acc _ h1 h2
    refine Ev.step (f := fun _ => some (acc ++ prs [])) (fun k => ?_) (Ev.now _)
    rw [impl_pairsOf.l0, if_neg (by simp)]; simp [prs]
  | cons n b ih =>
    intro a acc hg h1 h2
    have hl : (a ++ n :: b).length = a.length + (b.length + 1) := by simp
    have gn := (goods_cons.1 hg).1
    have g0 := gn.1; have g1 := gn.2.1
    simp only [List.length_cons] at h2
    have hi := ih (a ++ [n]) (acc ++ pr n) (goods_cons.1 hg).2 (by simpa using h1) (by have := pr_length n; rw [List.length_append]; omega)
    simp only [List.append_assoc, List.cons_append, List.nil_append, List.length_append, List.length_cons, List.length_nil, Nat.zero_add] at hi
    rw [prs_cons]
    refine Ev.step (fun k => ?_) hi
    rw [impl_pairsOf.l0, if_pos (by omega), if_pos (by omega), if_pos (by omega), rd_mid]
    unfold pr
    by_cases c : n < 65536
    · rw [if_pos c, if_pos c, if_pos (by omega), w64 (by omega) (by omega), hl]; rfl
    · rw [if_neg c, if_neg c]
      simp only [Option.bind_some]
      rw [if_pos (by simp; omega), w64 (n := n - 65536) (by omega) (by omega), and1023 _ (by omega) (by omega), w64 (n := 55296 + (n - 65536) / 1024) (by omega) (by omega), w64 (n := 56320 + (n - 65536) % 1024) (by omega) (by omega), w64 (by omega) (by omega), hl]; rfl
theorem pairsOfSpec_l0 (b : List Int) : ∀ (a acc : List Int), Goods b → (a ++ b).length < 100000000 → acc.length + 2 * b.length < 1000000000 →
    Ev (fun k => spec_l2Pairs.l0 k acc (a ++ b) (a ++ b).length a.length) (acc ++ prs b) := by
  induction b with
  | nil =>
    intro a acc _ h1 h2
    refine Ev.step (f := fun _ => some (acc ++ prs [])) (fun k => ?_) (Ev.now _)
    rw [spec_l2Pairs.l0, if_neg (by simp)]; simp [prs]
  | cons n b ih =>
    intro a acc hg h1 h2
    have hl : (a ++ n :: b).length = a.length + (b.length + 1) := by simp
    have gn := (goods_cons.1 hg).1
    have g0 := gn.1; have g1 := gn.2.1
    simp only [List.length_cons] at h2
    have hi := ih (a ++ [n]) (acc ++ pr n) (goods_cons.1 hg).2 (by simpa using h1) (by have := pr_length n; rw [List.length_append]; omega)
    simp only [List.append_assoc, List.cons_append, List.nil_append, List.length_append, List.length_cons, List.length_nil, Nat.zero_add] at hi
    rw [prs_cons]
    refine Ev.step (fun k => ?_) hi
    rw [spec_l2Pairs.l0, if_pos (by omega), if_pos (by omega), if_pos (by omega), rd_mid]
    unfold pr
    by_cases c : n < 65536
    · rw [if_pos c, if_pos c, if_pos (by omega), w64 (by omega) (by omega), hl]; rfl
    · rw [if_neg c, if_neg c]
      simp only [Option.bind_some]
      rw [if_pos (by simp; omega), w64 (n := n - 65536) (by omega) (by omega), and1023 _ (by omega) (by omega), w64 (n := 55296 + (n - 65536) / 1024) (by omega) (by omega), w64 (n := 56320 + (n - 65536) % 1024) (by omega) (by omega), w64 (by omega) (by omega), hl]; rfl
theorem pairsImpl (l : List Int) (hg : Goods l) (hl : l.length < 10000000) : Ev (fun k => impl_pairsOf.f k l) (prs l) := by
  have := pairsOfImpl_l0 l [] [] hg (by simp; omega) (by simp; omega)
  unfold impl_pairsOf.f
  simpa using this
theorem pairsSpec (l : List Int) (hg : Goods l) (hl : l.length < 10000000) : Ev (fun k => spec_l2Pairs.f k l) (prs l) := by
  have := pairsOfSpec_l0 l [] [] hg (by simp; omega) (by simp; omega)
  unfold spec_l2Pairs.f
  simpa using this
/-! comparing lists -/
theorem cmpInt (a b : Int) : cmp_Compare_int.f a b = some (if a < b then -1 else if a > b then 1 else 0) := by
  unfold cmp_Compare_int.f cmp_isNaN_int.f
  simp only [Option.bind_some, bne_self_eq_false, Bool.false_eq_true, if_false]
  by_cases c : a < b
  · rw [if_pos c, if_pos c]
  · rw [if_neg c, if_neg c]
    by_cases d : a > b
    · rw [if_pos d, if_pos d]
    · rw [if_neg d, if_neg d]
theorem compare_l0 (x y : List Int) (hx : x.length < 100000000) (hy : y.length < 100000000) (x' : List Int) : ∀ (p y' : List Int), x = p ++ x' → y = p ++ y' →
    ∃ c, Ev (fun k => slices_Compare_int_int.l0 k x y x x.length p.length) c ∧ (c < 0 ↔ iless x y = true) := by
  induction x' with
  | nil =>
    intro p y' e1 e2
    have n1 := congrArg List.length e1
    have n2 := congrArg List.length e2
    simp only [List.length_append, List.length_nil] at n1 n2
    cases y' with
    | nil =>
      simp only [List.length_nil] at n2
      refine ⟨0, Ev.step (f := fun _ => some 0) (fun k => ?_) (Ev.now _), ?_⟩
      · rw [slices_Compare_int_int.l0, if_neg (by omega), if_neg (by omega)]
      · rw [e1, e2, iless_app]; simp [iless]
    | cons b y' =>
      simp only [List.length_cons] at n2
      refine ⟨-1, Ev.step (f := fun _ => some (-1)) (fun k => ?_) (Ev.now _), ?_⟩
      · rw [slices_Compare_int_int.l0, if_neg (by omega), if_pos (by omega)]
      · rw [e1, e2, iless_app]; simp [iless]
  | cons a x' ih =>
    intro p y' e1 e2
    have n1 := congrArg List.length e1
    have n2 := congrArg List.length e2
    simp only [List.length_append, List.length_cons] at n1 n2
    have r1 : rd x p.length = a := by rw [e1]; exact rd_mid p a x'
    cases y' with
    | nil =>
      simp only [List.length_nil] at n2
      refine ⟨1, Ev.step (f := fun _ => some 1) (fun k => ?_) (Ev.now _), ?_⟩
      · rw [slices_Compare_int_int.l0, if_pos (by omega), if_pos (by omega), if_pos (by omega), if_pos (by omega)]
      · rw [e1, e2, iless_app]; simp [iless]
    | cons b y' =>
      simp only [List.length_cons] at n2
      have r2 : rd y p.length = b := by rw [e2]; exact rd_mid p b y'
      by_cases c : a = b
      · subst c
        obtain ⟨c, h1, h2⟩ := ih (p ++ [a]) y' (by rw [e1]; simp) (by rw [e2]; simp)
        simp only [List.length_append, List.length_cons, List.length_nil] at h1
        refine ⟨c, Ev.step (fun k => ?_) h1, h2⟩
        rw [slices_Compare_int_int.l0, if_pos (by omega), if_pos (by omega), if_pos (by omega), if_neg (by omega), if_pos (by omega), r1, r2, cmpInt]
        simp only [Option.bind_some]
        simp only [Int.lt_irrefl, if_false, gt_iff_lt, if_true]
        rw [w64 (by omega) (by omega)]; rfl
      · have hc := cmpInt a b
        refine ⟨if a < b then -1 else if a > b then 1 else 0, Ev.step (f := fun _ => some (if a < b then -1 else if a > b then 1 else 0)) (fun k => ?_) (Ev.now _), ?_⟩
        · rw [slices_Compare_int_int.l0, if_pos (by omega), if_pos (by omega), if_pos (by omega), if_neg (by omega), if_pos (by omega), r1, r2, cmpInt]
          simp only [Option.bind_some]
          rw [if_neg]
          by_cases d : a < b
          · rw [if_pos d]; decide
          · rw [if_neg d, if_pos (by omega)]; decide
        · rw [e1, e2, iless_app]
          by_cases d : a < b
          · simp [iless, d]
          · rw [if_neg d, if_pos (by omega)]; simp [iless, d, c]
theorem compareInts (x y : List Int) (hx : x.length < 100000000) (hy : y.length < 100000000) : ∃ c, Ev (fun k => slices_Compare_int_int.f k x y) c ∧ decide (c < 0) = iless x y := by
  obtain ⟨c, h1, h2⟩ := compare_l0 x y hx hy x [] y rfl rfl
  refine ⟨c, h1, ?_⟩
  by_cases d : iless x y = true
  · rw [d, decide_eq_true (h2.2 d)]
  · rw [Bool.not_eq_true] at d
    rw [d, decide_eq_false (fun h => by have := h2.1 h; rw [d] at this; cases this)]
theorem l2Less_l0 (x y : List Int) (hx : x.length < 100000000) (hy : y.length < 100000000) (x' : List Int) : ∀ (p y' : List Int), x = p ++ x' → y = p ++ y' →
    Ev (fun k => spec_l2Less.l0 k x y x x.length p.length) (iless x y) := by
  induction x' with
  | nil =>
    intro p y' e1 e2
    have n1 := congrArg List.length e1
    have n2 := congrArg List.length e2
    simp only [List.length_append, List.length_nil] at n1 n2
    have : decide (x.length < y.length) = iless x y := by
      rw [e1, e2, iless_app]
      cases y' with
      | nil => simp [iless]
      | cons => simp [iless]
    rw [← this]
    refine Ev.step (f := fun _ => some (decide (x.length < y.length))) (fun k => ?_) (Ev.now _)
    rw [spec_l2Less.l0, if_neg (by omega)]
  | cons a x' ih =>
    intro p y' e1 e2
    have n1 := congrArg List.length e1
    have n2 := congrArg List.length e2
    simp only [List.length_append, List.length_cons] at n1 n2
    have r1 : rd x p.length = a := by rw [e1]; exact rd_mid p a x'
    cases y' with
    | nil =>
      simp only [List.length_nil] at n2
      have : iless x y = false := by rw [e1, e2, iless_app]; simp [iless]
      rw [this]
      refine Ev.step (f := fun k => spec_l2Less.j1 k x y p.length a x x.length p.length true) (fun k => ?_) (Ev.step (f := fun _ => some false) (fun k => ?_) (Ev.now _))
      · rw [spec_l2Less.l0, if_pos (by omega), if_pos (by omega), if_pos (by omega), if_pos (by omega), r1]
      · rw [spec_l2Less.j1, if_pos rfl]
    | cons b y' =>
      simp only [List.length_cons] at n2
      have r2 : rd y p.length = b := by rw [e2]; exact rd_mid p b y'
      refine Ev.step (f := fun k => spec_l2Less.j1 k x y p.length a x x.length p.length (decide (a > b))) (fun k => ?_) ?_
      · rw [spec_l2Less.l0, if_pos (by omega), if_pos (by omega), if_pos (by omega), if_neg (by omega), if_pos (by omega), r1, r2]
      rcases Int.lt_trichotomy a b with h | h | h
      · have : iless x y = true := by rw [e1, e2, iless_app]; simp [iless, h]
        rw [this]
        refine Ev.step (f := fun _ => some true) (fun k => ?_) (Ev.now _)
        rw [spec_l2Less.j1, decide_eq_false (by omega), if_neg (by decide), if_pos (by omega), if_pos (by omega), r2, if_pos h]
      · subst h
        have := ih (p ++ [a]) y' (by rw [e1]; simp) (by rw [e2]; simp)
        simp only [List.length_append, List.length_cons, List.length_nil] at this
        refine Ev.step (fun k => ?_) this
        rw [spec_l2Less.j1, decide_eq_false (by omega), if_neg (by decide), if_pos (by omega), if_pos (by omega), r2, if_neg (by omega), w64 (by omega) (by omega)]; rfl
      · have : iless x y = false := by
          rw [e1, e2, iless_app]
          simp only [iless, List.cons_append, Bool.or_eq_false_iff, decide_eq_false_iff_not, Bool.and_eq_false_iff, beq_eq_false_iff_ne]; omega
        rw [this]
        refine Ev.step (f := fun _ => some false) (fun k => ?_) (Ev.now _)
        rw [spec_l2Less.j1, decide_eq_true h, if_pos rfl]
theorem l2Less (x y : List Int) (hx : x.length < 100000000) (hy : y.length < 100000000) : Ev (fun k => spec_l2Less.f k x y) (iless x y) := l2Less_l0 x y hx hy x [] y rfl rfl

def Lp (a b : ByteArray) : Bool × Bool := if (R a).2 = true ∧ (R b).2 = true then (iless (prs (R a).1) (prs (R b).1), true) else (false, false)
theorem R_len (s : ByteArray) : (R s).1.length ≤ 60 := by
  rcases h : R s with ⟨l, ok⟩
  cases ok with
  | true => exact (R_true h).2.2.1
  | false => have := R_false (s := s) (by rw [h]); rw [h] at this; simp only at this ⊢; rw [this]; simp
theorem R_goods (s : ByteArray) (h : (R s).2 = true) : Goods (R s).1 := by
  rcases e : R s with ⟨l, ok⟩
  rw [e] at h
  simp only at h
  subst h
  exact (R_true e).1
theorem lessImpl (a b : ByteArray) (ha : a.size < 1000000) (hb : b.size < 1000000) : Ev (fun k => impl_LessPairs.f k a b) (Lp a b) := by
  unfold impl_LessPairs.f Lp
  have la := R_len a
  have lb := R_len b
  refine Ev.bind (runesOfImpl a (by omega)) (Ev.bind (runesOfImpl b (by omega)) ?_)
  by_cases c : (R a).2 = true
  · simp only [c, if_true, true_and]
    by_cases d : (R b).2 = true
    · simp only [d, if_true, Bool.not_true]
      have pa := prs_length (R a).1
      have pb := prs_length (R b).1
      obtain ⟨v, h1, h2⟩ := compareInts (prs (R a).1) (prs (R b).1) (by omega) (by omega)
      refine Ev.step (f := fun k => impl_LessPairs.j0 (k + 1) (R a).1 (R b).1 false) (fun k => rfl) ?_
      simp only [impl_LessPairs.j0, Bool.false_eq_true, if_false]
      refine Ev.bind (pairsImpl _ (R_goods a c) (by omega)) (Ev.bind (pairsImpl _ (R_goods b d) (by omega)) (Ev.bind h1 ?_))
      simp only [h2]; exact Ev.now _
    · rw [Bool.not_eq_true] at d
      simp only [d, Bool.false_eq_true, if_false, Bool.not_false]
      refine Ev.step (f := fun _ => some (false, false)) (fun k => ?_) (Ev.now _)
      rw [impl_LessPairs.j0, if_pos rfl]
  · rw [Bool.not_eq_true] at c
    simp only [c, Bool.false_eq_true, if_false, false_and]
    refine Ev.step (f := fun _ => some (false, false)) (fun k => ?_) (Ev.now _)
    rw [impl_LessPairs.j0, if_pos rfl]
theorem lessSpec (a b : ByteArray) (ha : a.size < 1000000) (hb : b.size < 1000000) : Ev (fun k => spec_LessPairs.f k a b) (Lp a b) := by
  unfold spec_LessPairs.f Lp
  have la := R_len a
  have lb := R_len b
  refine Ev.bind (runesOfSpec a (by omega)) (Ev.bind (runesOfSpec b (by omega)) ?_)
  by_cases c : (R a).2 = true
  · simp only [c, if_true, true_and]
    by_cases d : (R b).2 = true
    · simp only [d, if_true, Bool.not_true]
      have pa := prs_length (R a).1
      have pb := prs_length (R b).1
      refine Ev.step (f := fun k => spec_LessPairs.j0 (k + 1) (R a).1 (R b).1 false) (fun k => rfl) ?_
      simp only [spec_LessPairs.j0, Bool.false_eq_true, if_false]
      exact Ev.bind (pairsSpec _ (R_goods a c) (by omega)) (Ev.bind (pairsSpec _ (R_goods b d) (by omega)) (Ev.bind (l2Less _ _ (by omega) (by omega)) (Ev.now _)))
    · rw [Bool.not_eq_true] at d
      simp only [d, Bool.false_eq_true, if_false, Bool.not_false]
      refine Ev.step (f := fun _ => some (false, false)) (fun k => ?_) (Ev.now _)
      rw [spec_LessPairs.j0, if_pos rfl]
  · rw [Bool.not_eq_true] at c
    simp only [c, Bool.false_eq_true, if_false, false_and]
    refine Ev.step (f := fun _ => some (false, false)) (fun k => ?_) (Ev.now _)
    rw [spec_LessPairs.j0, if_pos rfl]

/-! OfPairs -/
def Of (l : List Int) : List Int × Bool := if l.length > 120 then ([], false) else match decP l with
  | some r => if r.length > 60 then ([], false) else (r, true)
  | none => ([], false)
def fI (acc : List Int) : Option (List Int) → List Int × Bool
  | some r => if (acc ++ r).length > 60 then ([], false) else (acc ++ r, true)
  | none => ([], false)
def fS (acc : List Int) : Option (List Int) → List Int × Bool
  | some r => if (acc ++ r).length ≤ 60 ∧ Goods (acc ++ r) then (acc ++ r, true) else ([], false)
  | none => ([], false)
theorem withinI (a lo hi : Int) : impl_within.f a lo hi = some (decide (lo ≤ a ∧ a ≤ hi)) := by
  unfold impl_within.f
  by_cases c : a ≥ lo
  · rw [if_pos c]; simp; omega
  · rw [if_neg c]; simp; omega
theorem withinS (a lo hi : Int) : spec_l1In.f a lo hi = some (decide (lo ≤ a ∧ a ≤ hi)) := withinI a lo hi
theorem rd_mid2 (a : List Int) (n m : Int) (b : List Int) : rd (a ++ n :: m :: b) (a.length + 1) = m := by
  have h := rd_mid (a ++ [n]) m b
  simp only [List.length_append, List.length_cons, List.length_nil, List.append_assoc, List.cons_append, List.nil_append] at h
  have e : (((a.length + (0 + 1) : Nat)) : Int) = (a.length : Int) + 1 := by omega
  rw [e] at h; exact h
theorem comb_w {x y : Int} (hx : isHi x) (hy : isLo y) : wrap64 (wrap64 (wrap64 (65536 + wrap64 (wrap64 (x - 55296) * 1024)) + y) - 56320) = comb x y := by
  unfold isHi at hx; unfold isLo at hy; unfold comb
  rw [w64 (n := x - 55296) (by omega) (by omega), w64 (n := (x - 55296) * 1024) (by omega) (by omega), w64 (n := 65536 + (x - 55296) * 1024) (by omega) (by omega), w64 (n := 65536 + (x - 55296) * 1024 + y) (by omega) (by omega), w64 (by omega) (by omega)]
theorem ofPairsI_l0 (f : Nat) : ∀ (d a acc : List Int), d.length < f → (a ++ d).length < 100000 → acc.length ≤ a.length → Ev (fun k => impl_OfPairs.l0 k (a ++ d) acc a.length) (fI acc (decP d)) := by
  induction f with
  | zero => intro d a acc h; omega
  | succ f ih =>
  intro d a acc hf h1 h2
  rcases d with _ | ⟨n, _ | ⟨m, t⟩⟩
  case nil =>
    refine Ev.step (f := fun _ => some (fI acc (decP []))) (fun k => ?_) (Ev.now _)
    rw [impl_OfPairs.l0, if_neg (by simp)]
    simp only [decP, fI, List.append_nil]
    by_cases c : acc.length > 60
    · rw [if_pos c, if_pos (by omega)]
    · rw [if_neg c, if_neg (by omega)]
  case cons.nil =>
    have hl : (a ++ [n]).length = a.length + 1 := by simp
    refine Ev.step (f := fun k => impl_OfPairs.j1 k (a ++ [n]) acc a.length n false) (fun k => ?_) ?_
    · rw [impl_OfPairs.l0, if_pos (by omega), if_pos (by omega), rd_mid, withinI]
      simp only [Option.bind_some]
      by_cases c : 55296 ≤ n ∧ n ≤ 56319
      · rw [decide_eq_true c, if_pos rfl, w64 (by omega) (by omega), if_neg (by omega)]
      · rw [decide_eq_false c, if_neg (by decide)]
    · unfold decP
      by_cases g : Good n ∧ n ≤ 65535
      · rw [if_pos g]
        have hi := ih [] (a ++ [n]) (acc ++ [n]) (by simp at hf ⊢; omega) (by simp; omega) (by simp; omega)
        simp only [List.append_nil, List.length_append, List.length_cons, List.length_nil, decP, Nat.zero_add, Int.natCast_add, Int.natCast_one] at hi
        have e : fI (acc ++ [n]) (some []) = fI acc (some [n]) := by simp [fI]
        rw [← e]
        refine Ev.step (fun k => ?_) hi
        rw [impl_OfPairs.j1, if_neg (by decide), isRune, decide_eq_true g.1]
        simp only [Option.bind_some]
        rw [if_pos trivial, if_neg (by omega), if_pos (by omega), w64 (by omega) (by omega)]
      · rw [if_neg g]
        refine Ev.step (f := fun _ => some (([] : List Int), false)) (fun k => ?_) (Ev.now _)
        rw [impl_OfPairs.j1, if_neg (by decide), isRune]
        simp only [Option.bind_some]
        by_cases q : Good n
        · rw [decide_eq_true q, if_pos rfl, if_pos (Int.not_le.1 (fun h => g ⟨q, h⟩))]
        · rw [decide_eq_false q, if_neg (by decide)]
  case cons.cons =>
    have hl : (a ++ n :: m :: t).length = a.length + (t.length + 2) := by simp
    unfold decP
    by_cases c : isHi n ∧ isLo m
    · rw [if_pos c]
      have hi := ih t (a ++ [n, m]) (acc ++ [comb n m]) (by simp at hf; omega) (by simp at h1 ⊢; omega) (by simp; omega)
      simp only [List.append_assoc, List.cons_append, List.nil_append, List.length_append, List.length_cons, List.length_nil, Nat.zero_add, Int.natCast_add, Int.natCast_one, ← Int.add_assoc] at hi
      have e : ∀ o : Option (List Int), fI (acc ++ [comb n m]) o = fI acc (o.map (comb n m :: ·)) := by
        intro o; cases o with
        | none => rfl
        | some r => simp [fI]
      rw [← e]
      refine Ev.step (f := fun k => impl_OfPairs.j1 k (a ++ n :: m :: t) acc a.length n true) (fun k => ?_) (Ev.step (fun k => ?_) hi)
      · rw [impl_OfPairs.l0, if_pos (by omega), if_pos (by omega), rd_mid, withinI]
        simp only [Option.bind_some]
        rw [decide_eq_true (p := 55296 ≤ n ∧ n ≤ 56319) c.1, if_pos rfl, w64 (by omega) (by omega), if_pos (by omega), if_pos (by omega), rd_mid2, withinI]
        simp only [Option.bind_some]
        rw [decide_eq_true (p := 56320 ≤ m ∧ m ≤ 57343) c.2]
      · rw [impl_OfPairs.j1, if_pos rfl, w64 (n := (a.length : Int) + 1) (by omega) (by omega), if_pos (by omega), if_pos (by omega), if_pos (by omega), rd_mid2, comb_w c.1 c.2, w64 (by omega) (by omega)]
    · rw [if_neg c]
      refine Ev.step (f := fun k => impl_OfPairs.j1 k (a ++ n :: m :: t) acc a.length n false) (fun k => ?_) ?_
      · rw [impl_OfPairs.l0, if_pos (by omega), if_pos (by omega), rd_mid, withinI]
        simp only [Option.bind_some]
        by_cases q : isHi n
        · rw [decide_eq_true (p := 55296 ≤ n ∧ n ≤ 56319) q, if_pos rfl, w64 (by omega) (by omega), if_pos (by omega), if_pos (by omega), rd_mid2, withinI]
          simp only [Option.bind_some]
          rw [decide_eq_false (p := 56320 ≤ m ∧ m ≤ 57343) (fun h => c ⟨q, h⟩)]
        · rw [decide_eq_false (p := 55296 ≤ n ∧ n ≤ 56319) q, if_neg (by decide)]
      · by_cases g : Good n ∧ n ≤ 65535
        · rw [if_pos g]
          have hi := ih (m :: t) (a ++ [n]) (acc ++ [n]) (by simp at hf ⊢; omega) (by simp at h1 ⊢; omega) (by simp; omega)
          simp only [List.append_assoc, List.cons_append, List.nil_append, List.length_append, List.length_cons, List.length_nil, Nat.zero_add, Int.natCast_add, Int.natCast_one, ← Int.add_assoc] at hi
          have e : ∀ o : Option (List Int), fI (acc ++ [n]) o = fI acc (o.map (n :: ·)) := by
            intro o; cases o with
            | none => rfl
            | some r => simp [fI]
          rw [← e]
          refine Ev.step (fun k => ?_) hi
          rw [impl_OfPairs.j1, if_neg (by decide), isRune, decide_eq_true g.1]
          simp only [Option.bind_some]
          rw [if_pos trivial, if_neg (by omega), if_pos (by omega), w64 (by omega) (by omega)]
        · rw [if_neg g]
          refine Ev.step (f := fun _ => some (([] : List Int), false)) (fun k => ?_) (Ev.now _)
          rw [impl_OfPairs.j1, if_neg (by decide), isRune]
          simp only [Option.bind_some]
          by_cases q : Good n
          · rw [decide_eq_true q, if_pos rfl, if_pos (Int.not_le.1 (fun h => g ⟨q, h⟩))]
          · rw [decide_eq_false q, if_neg (by decide)]
theorem ofPairsS_l0 (f : Nat) : ∀ (d a acc : List Int), d.length < f → (a ++ d).length < 100000 → acc.length ≤ a.length → Ev (fun k => spec_OfPairs.l0 k (a ++ d) acc a.length) (fS acc (decS d)) := by
  induction f with
  | zero => intro d a acc h; omega
  | succ f ih =>
  intro d a acc hf h1 h2
  rcases d with _ | ⟨n, _ | ⟨m, t⟩⟩
  case nil =>
    have h3 := l2All acc (by simp at h1; omega)
    refine Ev.step (f := fun k => (spec_l2All.f k acc).bind fun b => if b = true then some (acc, true) else some (([] : List Int), false)) (fun k => ?_) (Ev.bind h3 ?_)
    · rw [spec_OfPairs.l0, if_neg (by simp)]
    · simp only [decS, fS, List.append_nil, decide_eq_true_eq]
      by_cases c : acc.length ≤ 60 ∧ Goods acc
      · simp only [c, and_self, if_true]; exact Ev.now _
      · simp only [c, if_false]; exact Ev.now _
  case cons.nil =>
    have hl : (a ++ [n]).length = a.length + 1 := by simp
    refine Ev.step (f := fun k => spec_OfPairs.j1 k (a ++ [n]) acc a.length n false) (fun k => ?_) ?_
    · rw [spec_OfPairs.l0, if_pos (by omega), if_pos (by omega), rd_mid, withinS]
      simp only [Option.bind_some]
      by_cases c : 55296 ≤ n ∧ n ≤ 56319
      · rw [decide_eq_true c, if_pos rfl, w64 (by omega) (by omega), if_neg (by omega)]
      · rw [decide_eq_false c, if_neg (by decide)]
    · unfold decS
      by_cases g : 0 ≤ n ∧ n ≤ 65535
      · rw [if_pos g]
        have hi := ih [] (a ++ [n]) (acc ++ [n]) (by simp at hf ⊢; omega) (by simp; omega) (by simp; omega)
        simp only [List.append_nil, List.length_append, List.length_cons, List.length_nil, decS, Nat.zero_add, Int.natCast_add, Int.natCast_one] at hi
        have e : fS (acc ++ [n]) (some []) = fS acc (some [n]) := by simp [fS]
        rw [← e]
        refine Ev.step (fun k => ?_) hi
        rw [spec_OfPairs.j1, if_neg (by decide), withinS, decide_eq_true g]
        simp only [Option.bind_some]
        rw [if_pos trivial, if_pos (by omega), w64 (by omega) (by omega)]
      · rw [if_neg g]
        refine Ev.step (f := fun _ => some (([] : List Int), false)) (fun k => ?_) (Ev.now _)
        rw [spec_OfPairs.j1, if_neg (by decide), withinS, decide_eq_false g]
        rfl
  case cons.cons =>
    have hl : (a ++ n :: m :: t).length = a.length + (t.length + 2) := by simp
    unfold decS
    by_cases c : isHi n ∧ isLo m
    · rw [if_pos c]
      have hi := ih t (a ++ [n, m]) (acc ++ [comb n m]) (by simp at hf; omega) (by simp at h1 ⊢; omega) (by simp; omega)
      simp only [List.append_assoc, List.cons_append, List.nil_append, List.length_append, List.length_cons, List.length_nil, Nat.zero_add, Int.natCast_add, Int.natCast_one, ← Int.add_assoc] at hi
      have e : ∀ o : Option (List Int), fS (acc ++ [comb n m]) o = fS acc (o.map (comb n m :: ·)) := by
        intro o; cases o with
        | none => rfl
        | some r => simp [fS]
      rw [← e]
      refine Ev.step (f := fun k => spec_OfPairs.j1 k (a ++ n :: m :: t) acc a.length n true) (fun k => ?_) (Ev.step (fun k => ?_) hi)
      · rw [spec_OfPairs.l0, if_pos (by omega), if_pos (by omega), rd_mid, withinS]
        simp only [Option.bind_some]
        rw [decide_eq_true (p := 55296 ≤ n ∧ n ≤ 56319) c.1, if_pos rfl, w64 (by omega) (by omega), if_pos (by omega), if_pos (by omega), rd_mid2, withinS]
        simp only [Option.bind_some]
        rw [decide_eq_true (p := 56320 ≤ m ∧ m ≤ 57343) c.2]
      · rw [spec_OfPairs.j1, if_pos rfl, w64 (n := (a.length : Int) + 1) (by omega) (by omega), if_pos (by omega), if_pos (by omega), if_pos (by omega), rd_mid2, comb_w c.1 c.2, w64 (by omega) (by omega)]
    · rw [if_neg c]
      refine Ev.step (f := fun k => spec_OfPairs.j1 k (a ++ n :: m :: t) acc a.length n false) (fun k => ?_) ?_
      · rw [spec_OfPairs.l0, if_pos (by omega), if_pos (by omega), rd_mid, withinS]
        simp only [Option.bind_some]
        by_cases q : isHi n
        · rw [decide_eq_true (p := 55296 ≤ n ∧ n ≤ 56319) q, if_pos rfl, w64 (by omega) (by omega), if_pos (by omega), if_pos (by omega), rd_mid2, withinS]
          simp only [Option.bind_some]
          rw [decide_eq_false (p := 56320 ≤ m ∧ m ≤ 57343) (fun h => c ⟨q, h⟩)]
        · rw [decide_eq_false (p := 55296 ≤ n ∧ n ≤ 56319) q, if_neg (by decide)]
      · by_cases g : 0 ≤ n ∧ n ≤ 65535
        · rw [if_pos g]
          have hi := ih (m :: t) (a ++ [n]) (acc ++ [n]) (by simp at hf ⊢; omega) (by simp at h1 ⊢; omega) (by simp; omega)
          simp only [List.append_assoc, List.cons_append, List.nil_append, List.length_append, List.length_cons, List.length_nil, Nat.zero_add, Int.natCast_add, Int.natCast_one, ← Int.add_assoc] at hi
          have e : ∀ o : Option (List Int), fS (acc ++ [n]) o = fS acc (o.map (n :: ·)) := by
            intro o; cases o with
            | none => rfl
            | some r => simp [fS]
          rw [← e]
          refine Ev.step (fun k => ?_) hi
          rw [spec_OfPairs.j1, if_neg (by decide), withinS, decide_eq_true g]
          simp only [Option.bind_some]
          rw [if_pos trivial, if_pos (by omega), w64 (by omega) (by omega)]
        · rw [if_neg g]
          refine Ev.step (f := fun _ => some (([] : List Int), false)) (fun k => ?_) (Ev.now _)
          rw [spec_OfPairs.j1, if_neg (by decide), withinS, decide_eq_false g]
          rfl
theorem ofPairsI (l : List Int) (hl : l.length < 10000) : Ev (fun k => impl_OfPairs.f k l) (Of l) := by
  unfold impl_OfPairs.f Of
  by_cases c : l.length > 120
  · simp only [show (l.length : Int) > 120 by omega, if_true, c]; exact Ev.now _
  · simp only [show ¬ (l.length : Int) > 120 by omega, if_false, c]
    have := ofPairsI_l0 (l.length + 1) l [] [] (by omega) (by simp; omega) (by simp)
    simp only [List.nil_append, List.length_nil, Int.ofNat_zero] at this
    exact this
theorem ofPairsS (l : List Int) (hl : l.length < 10000) : Ev (fun k => spec_OfPairs.f k l) (Of l) := by
  unfold spec_OfPairs.f Of
  by_cases c : l.length > 120
  · simp only [show (l.length : Int) > 120 by omega, if_true, c]; exact Ev.now _
  · simp only [show ¬ (l.length : Int) > 120 by omega, if_false, c]
    have := ofPairsS_l0 (l.length + 1) l [] [] (by omega) (by simp; omega) (by simp)
    simp only [List.nil_append, List.length_nil, Int.ofNat_zero] at this
    obtain ⟨h1, h2⟩ := decP_decS l
    have e : fS [] (decS l) = match decP l with
      | some r => if r.length > 60 then ([], false) else (r, true)
      | none => ([], false) := by
      cases q : decP l with
      | some r =>
        obtain ⟨h3, h4⟩ := h1 r q
        rw [h3]
        simp only [fS, List.nil_append, h4, and_true]
        by_cases g : r.length > 60
        · rw [if_pos g, if_neg (by omega)]
        · rw [if_neg g, if_pos (by omega)]
      | none =>
        cases u : decS l with
        | none => rfl
        | some r =>
          simp only [fS, List.nil_append]
          rw [if_neg (fun h => h2 q r u h.2)]
    rw [← e]; exact this
theorem Of_true {l r : List Int} (h : Of l = (r, true)) : Goods r ∧ prs r = l ∧ r.length ≤ 60 := by
  unfold Of at h
  by_cases c : l.length > 120
  · rw [if_pos c] at h; simp at h
  · rw [if_neg c] at h
    cases q : decP l with
    | none => rw [q] at h; simp at h
    | some u =>
      rw [q] at h
      simp only at h
      by_cases g : u.length > 60
      · rw [if_pos g] at h; simp at h
      · rw [if_neg g] at h
        obtain rfl : u = r := congrArg Prod.fst h
        exact ⟨((decP_decS l).1 u q).2, decP_prs l u q, by omega⟩
theorem Of_mk {l : List Int} (h1 : Goods l) (h2 : l.length ≤ 60) : Of (prs l) = (l, true) := by
  have := prs_length l
  unfold Of
  rw [if_neg (by omega), prs_decP l h1]
  simp only
  rw [if_neg (by omega)]
theorem Of_len (l : List Int) : (Of l).1.length ≤ 60 := by
  rcases h : Of l with ⟨r, ok⟩
  cases ok with
  | true => exact (Of_true h).2.2
  | false =>
    unfold Of at h
    split at h
    · obtain rfl : [] = r := congrArg Prod.fst h; simp
    · split at h
      · split at h
        · obtain rfl : [] = r := congrArg Prod.fst h; simp
        · have := congrArg Prod.snd h; simp at this
      · obtain rfl : [] = r := congrArg Prod.fst h; simp

/-! PairsOf -/
def Pf (l : List Int) : List Int × Bool := if l.length ≤ 60 ∧ Goods l then (prs l, true) else ([], false)
theorem notRune (x : Int) : impl_PairsOf_1.f x = some (!decide (Good x)) := by unfold impl_PairsOf_1.f; rw [isRune]; rfl
theorem containsBad (l : List Int) : ∃ b, slices_ContainsFunc_int_int.f l 107 = some b ∧ (b = true ↔ ¬ Goods l) := by
  unfold slices_ContainsFunc_int_int.f
  have h : ∃ p : Int → Bool, ∀ x, impl_PairsOf_1.f x = some (p x) := ⟨fun x => !decide (Good x), notRune⟩
  rw [if_pos rfl, dif_pos h]
  refine ⟨_, rfl, ?_⟩
  have hp : ∀ x, h.choose x = !decide (Good x) := fun x => Option.some.inj ((h.choose_spec x).symm.trans (notRune x))
  simp only [List.any_eq_true, hp, Bool.not_eq_true', decide_eq_false_iff_not]
  unfold Goods
  constructor
  · rintro ⟨x, hx, hg⟩ h2; exact hg (h2 x hx)
  · intro h2
    by_cases e : ∃ x, x ∈ l ∧ ¬ Good x
    · exact e
    · exact absurd (fun n hn => Classical.byContradiction fun hg => e ⟨n, hn, hg⟩) h2
theorem pairsOfI (l : List Int) (hl : l.length < 10000000) : Ev (fun k => impl_PairsOf.f k l) (Pf l) := by
  unfold impl_PairsOf.f Pf
  obtain ⟨b, h1, h2⟩ := containsBad l
  by_cases c : l.length ≤ 60
  · simp only [show ¬ (l.length : Int) > 60 by omega, if_false, h1, Option.bind_some, c, true_and]
    by_cases g : Goods l
    · have : b = false := by
        cases b with
        | false => rfl
        | true => exact absurd g (h2.1 rfl)
      simp only [this, Bool.false_eq_true, if_false, g, if_true]
      exact Ev.bind (pairsImpl l g hl) (Ev.now _)
    · simp only [h2.2 g, if_true, g, if_false]; exact Ev.now _
  · simp only [show (l.length : Int) > 60 by omega, if_true, c, false_and, if_false]; exact Ev.now _
theorem pairsOfS (l : List Int) (hl : l.length < 10000000) : Ev (fun k => spec_PairsOf.f k l) (Pf l) := by
  unfold spec_PairsOf.f Pf
  refine Ev.bind (l2All l (by omega)) ?_
  by_cases c : l.length ≤ 60 ∧ Goods l
  · simp only [c, and_self, decide_true, if_true]
    exact Ev.bind (pairsSpec l c.2 hl) (Ev.now _)
  · simp only [c, decide_false, Bool.false_eq_true, if_false]; exact Ev.now _
theorem Pf_len (l : List Int) : (Pf l).1.length ≤ 120 := by
  unfold Pf; split
  · rename_i h; have := prs_length l; simp only; omega
  · simp
/-! draws -/
theorem drawOfPairs (l : List Int) (hl : Bytes8 l) : ∃ r, Ev (fun k => spec_DrawOfPairs.f k l) r ∧ r.length ≤ 200 := by
  obtain ⟨n, a1, s1, p1, q1, q2, q3, q4⟩ := cur_pick l hl 0 0 7 (by omega) (by omega) (by omega)
  have q4 := q4 (by omega)
  obtain ⟨m, a2, s2, ev, v, v2, v3⟩ := cur_runes_l0 l hl n.toNat [] n a1 s1 (by omega) (by omega) (by simp; omega) (by omega)
  have hm := pairsOfS m (by omega)
  have hpl := Pf_len m
  obtain ⟨b, a3, s3, p3, u1, u2⟩ := cur_one l hl a2 s2 3 (by omega) (by omega) (by omega)
  have done : ∀ (at_ s : Int), Ev (fun k => spec_DrawOfPairs.j0 k (Pf m).1 false l at_ s) (Pf m).1 := fun at_ s =>
    Ev.step (f := fun _ => some (Pf m).1) (fun k => by rw [spec_DrawOfPairs.j0, if_neg (by decide)]) (Ev.now _)
  have start : ∀ r, Ev (fun k => if ((Pf m).1.length : Int) > 0 then (spec_l1Cur_one.f l a2 s2 3).bind fun bt => spec_DrawOfPairs.j0 k (Pf m).1 bt.1 l bt.2.1 bt.2.2 else spec_DrawOfPairs.j0 k (Pf m).1 false l a2 s2) r → Ev (fun k => spec_DrawOfPairs.f k l) r := by
    intro r hr
    unfold spec_DrawOfPairs.f spec_l1Cur_runes.f
    rw [p1]
    simp only [Option.bind_some]
    exact Ev.bind ev (Ev.bind hm hr)
  by_cases c : ((Pf m).1.length : Int) > 0
  · cases b with
    | false =>
      refine ⟨(Pf m).1, start _ ?_, by omega⟩
      simp only [c, if_true, p3, Option.bind_some]
      exact done _ _
    | true =>
      obtain ⟨i, a4, s4, p4, w1, w2, w3, w4⟩ := cur_pick l hl a3 s3 (Pf m).1.length (by omega) (by omega) (by omega)
      have w4 := w4 (by omega)
      obtain ⟨x, a5, s5, p5, x1, x2, x3⟩ := cur_among l hl a4 s4 [55296, 56320, 57343, 65536, -1, 97] (by decide) (by decide) (by omega) (by omega)
      refine ⟨(Pf m).1.set i.toNat x, start _ ?_, by rw [List.length_set]; omega⟩
      simp only [c, if_true, p3, Option.bind_some]
      refine Ev.step (f := fun _ => some ((Pf m).1.set i.toNat x)) (fun k => ?_) (Ev.now _)
      rw [spec_DrawOfPairs.j0, if_pos rfl, p4]
      simp only [Option.bind_some]
      rw [p5]
      simp only [Option.bind_some]
      rw [if_pos w3, if_pos w4]
  · refine ⟨(Pf m).1, start _ ?_, by omega⟩
    simp only [c, if_false]
    exact done _ _
theorem drawPairsOf (l : List Int) (hl : Bytes8 l) : ∃ r, Ev (fun k => spec_DrawPairsOf.f k l) r ∧ r.length ≤ 100 := by
  obtain ⟨r, h, h2⟩ := drawTextOf l hl
  exact ⟨r, Ev.bind h (Ev.now _), h2⟩
theorem drawLessPairs (l : List Int) (hl : Bytes8 l) : ∃ a b, Ev (fun k => spec_DrawLessPairs.f k l) (a, b) ∧ a.size ≤ 2000 ∧ b.size ≤ 2000 := by
  obtain ⟨a, a1, s1, ev, v1, v2, v3⟩ := cur_runeText l hl 0 0 (by omega) (by omega)
  obtain ⟨b, a2, s2, p2, q1, q2⟩ := cur_one l hl a1 s1 4 (by omega) (by omega) (by omega)
  have z : (⟨#[122]⟩ : ByteArray).size = 1 := rfl
  unfold spec_DrawLessPairs.f
  cases b with
  | true =>
    refine ⟨a, a ++ ⟨#[122]⟩, Ev.bind ev ?_, by omega, by rw [ByteArray.size_append, z]; omega⟩
    simp only [p2, Option.bind_some, if_true, show a.size + 1 ≤ 9223372036854775807 by omega]
    exact Ev.now _
  | false =>
    obtain ⟨c, a3, s3, ev3, w1, w2, w3⟩ := cur_runeText l hl a2 s2 (by omega) (by omega)
    refine ⟨a, c, Ev.bind ev ?_, by omega, by omega⟩
    simp only [p2, Option.bind_some, Bool.false_eq_true, if_false]
    exact Ev.bind ev3 (Ev.now _)
/-! the law -/
theorem j3 (l : List Int) (hl : Bytes8 l) : Ev (fun k => laws_FnPairs.j3 k l) true := by
  obtain ⟨a, b, h1, ha, hb⟩ := drawLessPairs l hl
  have h2 := lessImpl a b (by omega) (by omega)
  have h3 := lessSpec a b (by omega) (by omega)
  refine Ev.step (f := fun k => laws_FnPairs.j3 (k + 1) l) (fun k => rfl) ?_
  simp only [laws_FnPairs.j3]
  refine Ev.bind h1 (Ev.bind h2 (Ev.bind h3 ?_))
  simp only [bne_self_eq_false, Bool.false_eq_true, if_false]
  refine Ev.step (f := fun k => laws_FnPairs.j4 (k + 1) a b (Lp a b).1 (Lp a b).2 false) (fun k => rfl) ?_
  simp only [laws_FnPairs.j4, Bool.false_eq_true, if_false]
  by_cases c : (R a).2 = true ∧ (R b).2 = true
  · have e1 : Lp a b = (iless (prs (R a).1) (prs (R b).1), true) := by unfold Lp; rw [if_pos c]
    have e2 : Lp b a = (iless (prs (R b).1) (prs (R a).1), true) := by unfold Lp; rw [if_pos ⟨c.2, c.1⟩]
    have h4 := lessImpl b a (by omega) (by omega)
    rw [e2] at h4
    simp only [e1, if_true]
    refine Ev.bind h4 ?_
    simp only [if_true]
    cases x : iless (prs (R a).1) (prs (R b).1) with
    | true => simp only [if_true, iless_asymm _ _ x, Bool.false_eq_true, if_false]; exact Ev.now _
    | false =>
      simp only [Bool.false_eq_true, if_false]
      cases y : iless (prs (R b).1) (prs (R a).1) with
      | true => simp only [if_true]; exact Ev.now _
      | false =>
        simp only [Bool.false_eq_true, if_false]
        have h5 := prs_inj (R_goods a c.1) (R_goods b c.2) (iless_total _ _ x y)
        obtain ⟨_, f1, _⟩ := R_true (s := a) (l := (R a).1) (by rw [← c.1])
        obtain ⟨_, f2, _⟩ := R_true (s := b) (l := (R b).1) (by rw [← c.2])
        obtain rfl : a = b := nb_inj (by rw [f1, f2, h5])
        rw [beq_self_eq_true]; exact Ev.now _
  · have e1 : Lp a b = (false, false) := by unfold Lp; rw [if_neg c]
    simp only [e1, Bool.false_eq_true, if_false]; exact Ev.now _
theorem j1 (l : List Int) (hl : Bytes8 l) : Ev (fun k => laws_FnPairs.j1 k l) true := by
  obtain ⟨m, h1, hm⟩ := drawOfPairs l hl
  have h2 := ofPairsI m (by omega)
  have h3 := ofPairsS m (by omega)
  have hlen := Of_len m
  refine Ev.step (f := fun k => laws_FnPairs.j1 (k + 1) l) (fun k => rfl) ?_
  simp only [laws_FnPairs.j1]
  refine Ev.bind h1 (Ev.bind h2 (Ev.bind h3 ?_))
  simp only [bne_self_eq_false, Bool.false_eq_true, if_false]
  refine Ev.bind (sameInts_self _ (by omega)) ?_
  refine Ev.step (f := fun k => laws_FnPairs.j2 (k + 1) l m (Of m).1 (Of m).2 false) (fun k => rfl) ?_
  simp only [laws_FnPairs.j2, Bool.false_eq_true, if_false]
  cases c : (Of m).2 with
  | false => simp only [Bool.false_eq_true, if_false]; exact j3 l hl
  | true =>
    obtain ⟨g1, g2, g3⟩ := Of_true (l := m) (r := (Of m).1) (by rw [← c])
    have h4 := pairsOfI (Of m).1 (by omega)
    have e : Pf (Of m).1 = (m, true) := by unfold Pf; rw [if_pos ⟨g3, g1⟩, g2]
    rw [e] at h4
    simp only [if_true]
    refine Ev.bind h4 ?_
    simp only [if_true]
    refine Ev.bind (sameInts_self m (by omega)) ?_
    simp only [if_true]
    exact j3 l hl
theorem FnPairs : laws_FnPairs.Pure := by
  intro l0 l1 _ y0 w0 _ y1 w1
  have hl0 := bytes_of_wf w0
  have hl1 := bytes_of_wf w1
  refine Ev.rounds (g := fun k => laws_FnPairs.f k l0 l1) ?_
  unfold laws_FnPairs.f
  rw [w64 (by omega) (by omega)]
  by_cases c : (l0.length : Int) + (l1.length : Int) > 1048576
  · simp only [c, if_true]; exact Ev.now _
  · simp only [c, if_false]
    obtain ⟨m, h1, hm⟩ := drawPairsOf l0 hl0
    have h2 := pairsOfI m (by omega)
    have h3 := pairsOfS m (by omega)
    have hlen := Pf_len m
    refine Ev.bind h1 (Ev.bind h2 (Ev.bind h3 ?_))
    simp only [bne_self_eq_false, Bool.false_eq_true, if_false]
    refine Ev.bind (sameInts_self _ (by omega)) ?_
    refine Ev.step (f := fun k => laws_FnPairs.j0 (k + 1) l1 m (Pf m).1 (Pf m).2 false) (fun k => rfl) ?_
    simp only [laws_FnPairs.j0, Bool.false_eq_true, if_false]
    by_cases q : m.length ≤ 60 ∧ Goods m
    · have e : Pf m = (prs m, true) := by unfold Pf; rw [if_pos q]
      have h4 := ofPairsI (prs m) (by have := prs_length m; omega)
      rw [Of_mk q.2 q.1] at h4
      simp only [e, if_true]
      refine Ev.bind h4 ?_
      simp only [if_true]
      refine Ev.bind (sameInts_self m (by omega)) ?_
      have := prs_length m
      simp only [if_true, show ¬ ((prs m).length : Int) < (m.length : Int) by omega, if_false]
      exact j1 l1 hl1
    · have e : Pf m = ([], false) := by unfold Pf; rw [if_neg q]
      simp only [e, Bool.false_eq_true, if_false]
      exact j1 l1 hl1

end Go.Proofs.YtgoedenbekedbaaDoor.Pure
