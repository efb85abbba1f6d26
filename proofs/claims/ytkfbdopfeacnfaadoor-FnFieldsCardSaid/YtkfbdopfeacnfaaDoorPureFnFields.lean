/-
The pure statement of FnFields is proved: for drawn records, what is put at a key is there, all other keys keep theirs, a member's depth is below its record's, and the program and the reference agree on all of it.
Conditions: the two arguments are lists of bytes that Go can hold. None besides.
-/
import Derived.Test.YtkfbdopfeacnfaaDoorPFnFieldsx14
set_option linter.unusedVariables false
set_option linter.unusedSimpArgs false
namespace Go.Proofs.YtkfbdopfeacnfaaDoor.Pure
open Go.RowKit Go.Proofs.YtkfbdopfeacnfaaDoor.PFnFields Go.Proofs.YtkfbdopfeacnfaaDoorW.PrintWords Go.Proofs.YtkfbdopfeacnfaaDoorW.PrintLast Go.Proofs.YtkfbdopfeacnfaaDoorW.PrintMore

theorem w64 {n : Int} (h0 : -9223372036854775808 ≤ n) (h1 : n ≤ 9223372036854775807) : wrap64 n = n := by unfold wrap64; omega
def z23 (l : List Int) : Prop := ∀ x ∈ l, 0 ≤ x ∧ x ≤ 255
theorem z66 {l : List Int} (h : ∀ x ∈ l, (Lit.int .u8 x).wf = true) : z23 l := fun x hx => by
 have := h x hx
 simpa [Lit.wf, IntKind.min, IntKind.max, IntKind.signed, IntKind.bits] using this
theorem bytes_rd {l : List Int} (h : z23 l) (i : Int) (h0 : 0 ≤ i) (h1 : i < l.length) : 0 ≤ rd l i ∧ rd l i ≤ 255 := by
 have hi : i.toNat < l.length := by omega
 have : rd l i = l[i.toNat] := by simp [rd, List.getD_eq_getElem?_getD, hi]
 rw [this]; exact h _ (List.getElem_mem hi)
theorem and255 (x : Int) (h0 : 0 ≤ x) (h1 : x < 18446744073709551616) : Go.bits .and .u64 x 255 = x % 256 := by
 have h := bits_mask .u64 64 (by decide) (fun n h₀ h₁ => by simp [IntKind.wrap, IntKind.bits, IntKind.signed]; omega) 8 (by decide) x h0 (by omega)
 simpa using h
theorem u64_range (x : Int) : 0 ≤ IntKind.u64.wrap x ∧ IntKind.u64.wrap x < 18446744073709551616 := by simp [IntKind.wrap, IntKind.bits, IntKind.signed]; omega
theorem z134 (l : List Int) (hl : z23 l) (at_ s : Int) (h0 : 0 ≤ at_) (h1 : at_ < 4611686018427387904) : ∃ r s', spec_l1Cur_next.f l at_ s = some (r, at_ + 1, s') ∧ 0 ≤ r ∧ r ≤ 255 := by
 have hw : wrap64 (at_ + 1) = at_ + 1 := w64 (by omega) (by omega)
 have hseed : ∀ x : Int, 0 ≤ wrap64 (Go.bits .and .u64 (IntKind.u64.wrap x / 1099511627776) 255) ∧ wrap64 (Go.bits .and .u64 (IntKind.u64.wrap x / 1099511627776) 255) ≤ 255 := fun x => by
  have hx := u64_range x
  rw [and255 _ (by omega) (by omega), w64 (by omega) (by omega)]; omega
 unfold spec_l1Cur_next.f
 rw [hw]
 by_cases hlt : at_ < (l.length : Int)
 ·have hb := bytes_rd hl at_ h0 hlt
  rw [if_pos hlt, if_pos h0]
  split
  ·exact ⟨_, _, rfl, by rw [w64 (by omega) (by omega)]; exact hb.1, by rw [w64 (by omega) (by omega)]; exact hb.2⟩
  ·exact ⟨_, _, rfl, (hseed _).1, (hseed _).2⟩
 ·rw [if_neg hlt]
  split
  ·exact ⟨_, _, rfl, by omega, by omega⟩
  ·exact ⟨_, _, rfl, (hseed _).1, (hseed _).2⟩
theorem z19 (l : List Int) (hl : z23 l) (at_ s n : Int) (h0 : 0 ≤ at_) (h1 : at_ < 2305843009213693952) (hn : n < 4611686018427387904) : ∃ r a' s', spec_l1Cur_pick.f l at_ s n = some (r, a', s') ∧ at_ ≤ a' ∧ a' ≤ at_ + 2 ∧ 0 ≤ r ∧ (1 ≤ n → r < n) := by
 unfold spec_l1Cur_pick.f
 by_cases hs : n ≤ 1
 ·rw [if_pos hs]; exact ⟨0, at_, s, rfl, by omega, by omega, by omega, by omega⟩
 rw [if_neg hs]
 obtain ⟨r, s', h, hr0, hr1⟩ := z134 l hl at_ s h0 (by omega)
 rw [h]
 simp only [Option.bind_some]
 by_cases hb : n > 200
 ·obtain ⟨r2, s2, h2, h3, h4⟩ := z134 l hl (at_ + 1) s' (by omega) (by omega)
  rw [if_pos hb, h2]
  simp only [Option.bind_some]
  rw [if_neg (by omega), w64 (n := r * 256) (by omega) (by omega), w64 (by omega) (by omega), Int.tmod_eq_emod_of_nonneg (by omega)]
  exact ⟨_, _, _, rfl, by omega, by omega, Int.emod_nonneg _ (by omega), fun _ => Int.emod_lt_of_pos _ (by omega)⟩
 ·rw [if_neg hb, if_neg (by omega), Int.tmod_eq_emod_of_nonneg (by omega)]
  exact ⟨_, _, _, rfl, by omega, by omega, Int.emod_nonneg _ (by omega), fun _ => Int.emod_lt_of_pos _ (by omega)⟩
theorem cur_one (l : List Int) (hl : z23 l) (at_ s n : Int) (h0 : 0 ≤ at_) (h1 : at_ < 2305843009213693952) (hn : n < 4611686018427387904) : ∃ b a' s', spec_l1Cur_one.f l at_ s n = some (b, a', s') ∧ at_ ≤ a' ∧ a' ≤ at_ + 2 := by
 obtain ⟨r, a', s', h, h2, h3, _⟩ := z19 l hl at_ s n h0 h1 hn
 unfold spec_l1Cur_one.f
 rw [h]
 exact ⟨_, _, _, rfl, h2, h3⟩
theorem cur_among (l : List Int) (hl : z23 l) (at_ s : Int) (m : List Int) (hm : 1 ≤ m.length) (hm2 : m.length < 4000000000) (h0 : 0 ≤ at_) (h1 : at_ < 2305843009213693952) : ∃ r a' s', spec_l1Cur_among.f l at_ s m = some (r, a', s') ∧ at_ ≤ a' ∧ a' ≤ at_ + 2 ∧ r ∈ m := by
 obtain ⟨r, a', s', h, h2, h3, h4, h5⟩ := z19 l hl at_ s m.length h0 h1 (by omega)
 have h5 := h5 (by omega)
 unfold spec_l1Cur_among.f
 rw [h]
 simp only [Option.bind_some]
 rw [if_pos h4, if_pos h5]
 refine ⟨_, _, _, rfl, h2, h3, ?_⟩
 have hi : r.toNat < m.length := by omega
 have : rd m r = m[r.toNat] := by simp [rd, List.getD_eq_getElem?_getD, hi]
 rw [this]; exact List.getElem_mem hi
theorem cur_of (l : List Int) (hl : z23 l) (at_ s : Int) (m : List ByteArray) (hm : 1 ≤ m.length) (hm2 : m.length < 4000000000) (h0 : 0 ≤ at_) (h1 : at_ < 2305843009213693952) : ∃ r a' s', spec_l1Cur_of.f l at_ s m = some (r, a', s') ∧ at_ ≤ a' ∧ a' ≤ at_ + 2 ∧ r ∈ m := by
 obtain ⟨r, a', s', h2, h3, h4, h5, h6⟩ := z19 l hl at_ s m.length h0 h1 (by omega)
 have h7 := h6 (by omega)
 refine ⟨rdOf ByteArray.empty m r, a', s', ?_, h3, h4, ?_⟩
 ·unfold spec_l1Cur_of.f
  rw [h2, Option.bind_some, if_pos h5, if_pos h7]
 ·have hr : r.toNat < m.length := by omega
  have : rdOf ByteArray.empty m r = m[r.toNat] := by simp [rdOf, List.getD_eq_getElem?_getD, hr]
  rw [this]; exact List.getElem_mem _
def Good (n : Int) : Prop := 0 ≤ n ∧ n ≤ 1114111 ∧ ¬ (55296 ≤ n ∧ n ≤ 57343)
instance (n : Int) : Decidable (Good n) := by unfold Good; infer_instance
def eb (n : Nat) : List Nat :=
 if n < 128 then [n] else if n < 2048 then [192 + n / 64, 128 + n % 64]
 else if n < 65536 then [224 + n / 4096, 128 + n / 64 % 64, 128 + n % 64]
 else [240 + n / 262144, 128 + n / 4096 % 64, 128 + n / 64 % 64, 128 + n % 64]
def nb (s : ByteArray) : List Nat := s.data.toList.map UInt8.toNat
theorem z3 (s : ByteArray) : (nb s).length = s.size := by rw [nb, List.length_map, Array.length_toList]; rfl
theorem toNat_inj : ∀ {a b : List UInt8}, a.map UInt8.toNat = b.map UInt8.toNat → a = b
 | [], [], _ => rfl
 | [], _ :: _, h => by simp at h
 | _ :: _, [], h => by simp at h
 | x :: a, y :: b, h => by
  simp only [List.map_cons, List.cons.injEq] at h
  rw [toNat_inj h.2, UInt8.toNat_inj.1 h.1]
theorem nb_inj {a b : ByteArray} (h : nb a = nb b) : a = b := by
 cases a; cases b
 simp only [nb] at h
 have := toNat_inj h
 congr 1
 exact Array.ext' this
theorem nb_lt {s : ByteArray} {x : Nat} (h : x ∈ nb s) : x < 256 := by
 obtain ⟨y, _, rfl⟩ := List.mem_map.1 h
 exact y.toNat_lt
theorem z32 (n : Nat) : 1 ≤ (eb n).length ∧ (eb n).length ≤ 4 := by
 unfold eb; split
 ·simp
 split
 ·simp
 split <;> simp
theorem z101 (n : Int) (h : Good n) : nb (Utf8.encode n) = eb n.toNat := by
 obtain ⟨m, rfl⟩ := Int.eq_ofNat_of_zero_le h.1
 have hv : Utf8.valid (m : Int) = true := by
  unfold Utf8.valid
  have := h.2.1; have := h.2.2
  simp only [Bool.or_eq_true, Bool.and_eq_true, decide_eq_true_eq]
  omega
 have hm : m ≤ 1114111 := by have := h.2.1; omega
 unfold Utf8.encode eb nb
 rw [if_pos hv]
 simp only [Int.toNat_natCast]
 split
 ·simp; omega
 split
 ·simp; omega
 split <;> (simp; omega)
def dl (l : List Nat) : Nat × Nat := Lib.decodeN l.length (l.getD 0 0) (l.getD 1 0) (l.getD 2 0) (l.getD 3 0)
theorem dl_eb (n : Nat) (h : Good n) (t : List Nat) : dl (eb n ++ t) = (n, (eb n).length) := by
 have h1 := h.2.1
 have h2 := h.2.2
 unfold eb
 split
 ·simp [dl, Lib.decodeN, *]
 rename_i g1
 split
 ·rename_i g2
  simp only [dl, List.length_append, List.length_cons, List.length_nil, List.cons_append, List.nil_append, List.getD_cons_zero, List.getD_cons_succ, Lib.decodeN]
  rw [if_neg (by omega), if_pos (by omega), if_pos (by omega)]
  simp; omega
 rename_i g2
 split
 ·rename_i g3
  simp only [dl, List.length_append, List.length_cons, List.length_nil, List.cons_append, List.nil_append, List.getD_cons_zero, List.getD_cons_succ, Lib.decodeN]
  rw [if_neg (by omega), if_neg (by omega), if_pos (by omega), if_pos (by omega)]
  simp; omega
 ·rename_i g3
  simp only [dl, List.length_append, List.length_cons, List.length_nil, List.cons_append, List.nil_append, List.getD_cons_zero, List.getD_cons_succ, Lib.decodeN]
  rw [if_neg (by omega), if_neg (by omega), if_neg (by omega), if_pos (by omega), if_pos (by omega)]
  simp; omega
theorem eb1 {n : Nat} (h : n < 128) : eb n = [n] := by unfold eb; rw [if_pos h]
theorem eb2 {n : Nat} (h : ¬ n < 128) (h2 : n < 2048) : eb n = [192 + n / 64, 128 + n % 64] := by unfold eb; rw [if_neg h, if_pos h2]
theorem eb3 {n : Nat} (h : ¬ n < 2048) (h2 : n < 65536) : eb n = [224 + n / 4096, 128 + n / 64 % 64, 128 + n % 64] := by unfold eb; rw [if_neg (by omega), if_neg h, if_pos h2]
theorem eb4 {n : Nat} (h : ¬ n < 65536) : eb n = [240 + n / 262144, 128 + n / 4096 % 64, 128 + n / 64 % 64, 128 + n % 64] := by unfold eb; rw [if_neg (by omega), if_neg (by omega), if_neg h]
theorem front1 {l : List Nat} (h : 1 ≤ l.length) : l = l.getD 0 0 :: l.drop 1 := by
 cases l with
 | nil => simp at h
 | cons a t => simp
theorem front2 {l : List Nat} (h : 2 ≤ l.length) : l = l.getD 0 0 :: l.getD 1 0 :: l.drop 2 := by
 match l, h with
 | a :: b :: t, _ => simp
theorem front3 {l : List Nat} (h : 3 ≤ l.length) : l = l.getD 0 0 :: l.getD 1 0 :: l.getD 2 0 :: l.drop 3 := by
 match l, h with
 | a :: b :: c :: t, _ => simp
theorem front4 {l : List Nat} (h : 4 ≤ l.length) : l = l.getD 0 0 :: l.getD 1 0 :: l.getD 2 0 :: l.getD 3 0 :: l.drop 4 := by
 match l, h with
 | a :: b :: c :: d :: t, _ => simp
theorem z29 {l : List Nat} (h : ∀ x ∈ l, x < 256) (i : Nat) : l.getD i 0 < 256 := by
 rw [List.getD_eq_getElem?_getD]
 by_cases hi : i < l.length
 ·rw [List.getElem?_eq_getElem hi]; exact h _ (List.getElem_mem hi)
 ·rw [List.getElem?_eq_none (by omega)]; decide
theorem dl_ok (l : List Nat) (hl : ∀ x ∈ l, x < 256) (h0 : l ≠ []) (h : ¬ ((dl l).1 = 65533 ∧ (dl l).2 < 2)) :
  Good (dl l).1 ∧ l = eb (dl l).1 ++ l.drop (dl l).2 ∧ (dl l).2 = (eb (dl l).1).length := by
 have hlen : 1 ≤ l.length := by cases l with | nil => exact absurd rfl h0 | cons => simp
 have b0 := z29 hl 0
 have b1 := z29 hl 1
 have b2 := z29 hl 2
 have b3 := z29 hl 3
 have f1 := front1 hlen
 unfold dl Lib.decodeN at h ⊢
 generalize hb0 : l.getD 0 0 = x0 at *
 generalize hb1 : l.getD 1 0 = x1 at *
 generalize hb2 : l.getD 2 0 = x2 at *
 generalize hb3 : l.getD 3 0 = x3 at *
 split
 ·rename_i g
  refine ⟨⟨by omega, by simp only; omega, by simp only; omega⟩, ?_, ?_⟩
  ·rw [eb1 (by simpa using g)]; exact f1
  ·rw [eb1 (by simpa using g)]; rfl
 rename_i g1
 rw [if_neg g1] at h
 split
 ·rename_i g2
  rw [if_pos g2] at h
  split
  ·rename_i g3
   have f2 := front2 (l := l) (by omega)
   rw [hb0, hb1] at f2
   have e := eb2 (n := x0 % 32 * 64 + x1 % 64) (by omega) (by omega)
   refine ⟨⟨by simp only; omega, by simp only; omega, by simp only; omega⟩, ?_, ?_⟩
   ·simp only; rw [e]; rw [f2]; simp; omega
   ·simp only; rw [e]; rfl
  ·rename_i g3
   rw [if_neg g3] at h
   exact absurd ⟨rfl, by decide⟩ h
 rename_i g2
 rw [if_neg g2] at h
 split
 ·rename_i g3
  rw [if_pos g3] at h
  split
  ·rename_i g4
   have f2 := front3 (l := l) (by omega)
   rw [hb0, hb1, hb2] at f2
   have e := eb3 (n := x0 % 16 * 4096 + x1 % 64 * 64 + x2 % 64) (by omega) (by omega)
   refine ⟨⟨by simp only; omega, by simp only; omega, by simp only; omega⟩, ?_, ?_⟩
   ·simp only; rw [e]; rw [f2]; simp; omega
   ·simp only; rw [e]; rfl
  ·rename_i g4
   rw [if_neg g4] at h
   exact absurd ⟨rfl, by decide⟩ h
 rename_i g3
 rw [if_neg g3] at h
 split
 ·rename_i g4
  rw [if_pos g4] at h
  split
  ·rename_i g5
   have f2 := front4 (l := l) (by omega)
   rw [hb0, hb1, hb2, hb3] at f2
   have e := eb4 (n := x0 % 8 * 262144 + x1 % 64 * 4096 + x2 % 64 * 64 + x3 % 64) (by omega)
   refine ⟨⟨by simp only; omega, by simp only; omega, by simp only; omega⟩, ?_, ?_⟩
   ·simp only; rw [e]; rw [f2]; simp; omega
   ·simp only; rw [e]; rfl
  ·rename_i g5
   rw [if_neg g5] at h
   exact absurd ⟨rfl, by decide⟩ h
 ·rename_i g4
  rw [if_neg g4] at h
  exact absurd ⟨rfl, by decide⟩ h
theorem get_nb (s : ByteArray) (k : Nat) : (s.get! k).toNat = (nb s).getD k 0 := by
 rw [List.getD_eq_getElem?_getD]
 by_cases h : k < s.size
 ·rw [Utf8W.get!_of_lt s k h, List.getElem?_eq_getElem (by rw [z3]; exact h)]
  simp [nb]; rfl
 ·rw [List.getElem?_eq_none (by rw [z3]; omega)]
  cases s with
  | mk d =>
   have : d[k]! = default := getElem!_neg d k (by simpa [ByteArray.size] using h)
   show (d[k]!).toNat = _
   rw [this]; rfl
theorem z74 (s : ByteArray) (i j : Nat) : nb (s.extract i j) = ((nb s).take j).drop i := by
 unfold nb
 rw [← List.map_take, ← List.map_drop]
 congr 1
 simp [ByteArray.data_extract, List.drop_take]
theorem z118 (s : ByteArray) : Lib.decodeGo s = if nb s = [] then (65533, 0) else dl (nb s) := by
 unfold Lib.decodeGo
 by_cases h : s.size = 0
 ·rw [if_pos h, if_pos (by rw [← z3] at h; exact List.eq_nil_of_length_eq_zero h)]
 ·rw [if_neg h, if_neg (fun e => h (by rw [← z3, e]; rfl)), Lib.decode_at]
  simp only [get_nb, dl, Nat.sub_zero, z3, Nat.zero_add]
theorem bt_nb (s : ByteArray) (i : Int) (h : i.toNat < s.size) : bt s i = ((nb s).getD i.toNat 0 : Nat) := by
 unfold bt
 rw [dif_pos h, List.getD_eq_getElem?_getD, List.getElem?_eq_getElem (by rw [z3]; exact h)]
 simp [nb]; rfl
theorem toList_nb (a b : ByteArray) : a.toList = b.toList ↔ nb a = nb b := by
 rw [ByteArray.toList_eq, ByteArray.toList_eq] 
 constructor
 ·intro h; unfold nb; rw [h]
 ·intro h; exact toNat_inj h
def encs (l : List Int) : List Nat := l.flatMap fun n => eb n.toNat
def z34 (l : List Int) : Prop := ∀ n ∈ l, Good n
theorem goods_cons {n : Int} {l : List Int} : z34 (n :: l) ↔ Good n ∧ z34 l := by simp [z34]
theorem z65 (n : Int) (l : List Int) : encs (n :: l) = eb n.toNat ++ encs l := rfl
theorem z70 (l : List Int) : (encs l).length ≤ 4 * l.length := by
 induction l with
 | nil => simp [encs]
 | cons n l ih => have := (z32 n.toNat).2; rw [z65]; simp; omega
def z17 : Nat → List Nat → Option (List Int)
 | 0, _ => none
 | f + 1, d => if d = [] then some [] else if (dl d).1 = 65533 ∧ (dl d).2 < 2 then none else (z17 f (d.drop (dl d).2)).map (fun r => ((dl d).1 : Int) :: r)
theorem dl_pos (l : List Nat) : 1 ≤ (dl l).2 := by
 unfold dl Lib.decodeN
 repeat' split
 all_goals simp
theorem z119 {f : Nat} : ∀ {d : List Nat} {l : List Int}, (∀ x ∈ d, x < 256) → z17 f d = some l → z34 l ∧ d = encs l := by
 induction f with
 | zero => intro d l hd h; cases h
 | succ f ih =>
  intro d l hd h
  unfold z17 at h
  by_cases e : d = []
  ·rw [if_pos e] at h; obtain rfl := Option.some.inj h; exact ⟨fun n hn => by simp at hn, e⟩
  rw [if_neg e] at h
  by_cases b : (dl d).1 = 65533 ∧ (dl d).2 < 2
  ·rw [if_pos b] at h; cases h
  rw [if_neg b] at h
  obtain ⟨r, hr, rfl⟩ := Option.map_eq_some_iff.1 h
  obtain ⟨g1, g2, g3⟩ := dl_ok d hd e b
  obtain ⟨i1, i2⟩ := ih (fun x hx => hd x (List.mem_of_mem_drop hx)) hr
  refine ⟨fun n hn => ?_, ?_⟩
  ·rcases List.mem_cons.1 hn with rfl | hn
   ·exact g1
   ·exact i1 n hn
  ·rw [z65, ← i2]; exact g2
theorem z120 {l : List Int} (hg : z34 l) : ∀ {f : Nat}, (encs l).length < f → z17 f (encs l) = some l := by
 induction l with
 | nil => intro f hf; obtain ⟨f, rfl⟩ : ∃ m, f = m + 1 := ⟨f - 1, by omega⟩; simp [z17, encs]
 | cons n l ih =>
  intro f hf
  obtain ⟨f, rfl⟩ : ∃ m, f = m + 1 := ⟨f - 1, by omega⟩
  have hn := hg n (List.mem_cons_self ..)
  obtain ⟨m, rfl⟩ := Int.eq_ofNat_of_zero_le hn.1
  have e := dl_eb m hn (encs l)
  have hp := z32 m
  rw [z65] at hf ⊢
  simp only [Int.toNat_natCast, List.length_append] at hf ⊢
  unfold z17
  rw [if_neg (by intro h; have := congrArg List.length h; rw [List.length_append, List.length_nil] at this; omega), e]
  have hbad : ¬ (m = 65533 ∧ (eb m).length < 2) := by
   rintro ⟨rfl, h⟩; revert h; decide
  rw [if_neg hbad, List.drop_left, ih (fun x hx => hg x (List.mem_cons_of_mem _ hx)) (by omega)]
  rfl
def z4 : List Int → List Int → Bool
 | _, [] => false
 | [], _ :: _ => true
 | a :: x, b :: y => a < b || (a == b && z4 x y)
theorem z12 : ∀ (p x y : List Int), z4 (p ++ x) (p ++ y) = z4 x y
 | [], _, _ => rfl
 | a :: p, x, y => by simp [z4, z12 p x y]
theorem z72 (a : List Int) (n : Int) (b : List Int) : rd (a ++ n :: b) a.length = n := by simp [rd, List.getD_eq_getElem?_getD]
instance goodsDec (l : List Int) : Decidable (z34 l) := by unfold z34; infer_instance
def pr (n : Int) : List Int := if n < 65536 then [n] else [55296 + (n - 65536) / 1024, 56320 + (n - 65536) % 1024]
def prs (l : List Int) : List Int := l.flatMap pr
theorem z56 (n : Int) (l : List Int) : prs (n :: l) = pr n ++ prs l := rfl
theorem z61 (n : Int) : 1 ≤ (pr n).length ∧ (pr n).length ≤ 2 := by unfold pr; split <;> simp
theorem z36 (l : List Int) : l.length ≤ (prs l).length ∧ (prs l).length ≤ 2 * l.length := by
 induction l with
 | nil => simp [prs]
 | cons n l ih => have := z61 n; rw [z56, List.length_append, List.length_cons]; omega
def isHi (n : Int) : Prop := 55296 ≤ n ∧ n ≤ 56319
def isLo (n : Int) : Prop := 56320 ≤ n ∧ n ≤ 57343
instance (n : Int) : Decidable (isHi n) := inferInstanceAs (Decidable (55296 ≤ n ∧ n ≤ 56319))
instance (n : Int) : Decidable (isLo n) := inferInstanceAs (Decidable (56320 ≤ n ∧ n ≤ 57343))
def comb (a b : Int) : Int := 65536 + (a - 55296) * 1024 + b - 56320
def decP : List Int → Option (List Int)
 | [] => some []
 | [a] => if Good a ∧ a ≤ 65535 then some [a] else none
 | a :: b :: t => if isHi a ∧ isLo b then (decP t).map (comb a b :: ·) else if Good a ∧ a ≤ 65535 then (decP (b :: t)).map (a :: ·) else none
theorem z87 : ∀ (l : List Int), z34 l → decP (prs l) = some l
 | [], _ => rfl
 | n :: l, h => by
  have gn := h n (List.mem_cons_self ..)
  have ih := z87 l (fun x hx => h x (List.mem_cons_of_mem _ hx))
  rw [z56]
  unfold pr
  by_cases c : n < 65536
  ·rw [if_pos c]
   have hh : ¬ isHi n := by have := gn.2.2; unfold isHi; omega
   cases e : prs l with
   | nil =>
    rw [e] at ih
    have : l = [] := by simpa [decP] using ih.symm
    subst this
    show decP [n] = _
    unfold decP; rw [if_pos ⟨gn, by omega⟩]
   | cons b t =>
    rw [e] at ih
    show decP (n :: b :: t) = _
    unfold decP; rw [if_neg (fun q => hh q.1), if_pos ⟨gn, by omega⟩, ih]; rfl
  ·rw [if_neg c]
   have g2 := gn.2.1
   show decP (_ :: _ :: prs l) = _
   unfold decP
   rw [if_pos (by unfold isHi isLo; omega), ih]
   simp only [Option.map_some, Option.some.injEq, List.cons.injEq, and_true]
   unfold comb; omega
theorem prs_inj {a b : List Int} (ha : z34 a) (hb : z34 b) (h : prs a = prs b) : a = b := by
 have := z87 a ha
 rw [h, z87 b hb] at this
 exact (Option.some.inj this).symm
theorem z44 : ∀ (x y : List Int), z4 x y = true → z4 y x = false
 | _, [], h => by cases ‹List Int› <;> simp [z4] at h
 | [], _ :: _, _ => rfl
 | a :: x, b :: y, h => by
  simp only [z4, Bool.or_eq_true, decide_eq_true_eq, Bool.and_eq_true, beq_iff_eq] at h
  simp only [z4, Bool.or_eq_false_iff, decide_eq_false_iff_not, Bool.and_eq_false_iff, beq_eq_false_iff_ne]
  rcases h with h | ⟨rfl, h⟩
  ·exact ⟨by omega, .inl (by omega)⟩
  ·exact ⟨by omega, .inr (z44 x y h)⟩
theorem z28 : ∀ (x y : List Int), z4 x y = false → z4 y x = false → x = y
 | [], [], _, _ => rfl
 | _ :: _, [], _, h => by simp [z4] at h
 | [], _ :: _, h, _ => by simp [z4] at h
 | a :: x, b :: y, h1, h2 => by
  simp only [z4, Bool.or_eq_false_iff, decide_eq_false_iff_not, Bool.and_eq_false_iff, beq_eq_false_iff_ne] at h1 h2
  have e : a = b := by omega
  subst e
  rw [z28 x y (by simpa using h1.2) (by simpa using h2.2)]
theorem and1023 (x : Int) (h0 : 0 ≤ x) (h1 : x < 9223372036854775808) : Go.bits .and .i64 x 1023 = x % 1024 := by
 have h := bits_mask .i64 63 (by decide) (fun n h₀ h₁ => by rw [IntKind.wrap_i64]; omega) 10 (by decide) x h0 (by omega)
 simpa using h
theorem z69 (b : List Int) : ∀ (a acc : List Int), z34 b → (a ++ b).length < 100000000 → acc.length + 2 * b.length < 1000000000 →
  Ev (fun k => impl_pairsOf.l0 k acc (a ++ b) (a ++ b).length a.length) (acc ++ prs b) := by
 induction b with
 | nil =>
  intro a acc _ h1 h2
  refine Ev.step (f := fun _ => some (acc ++ prs [])) (fun k => ?_) (Ev.now _)
  rw [impl_pairsOf.l0, if_neg (by simp)]; simp [prs]
 | cons n b ih =>
  intro a acc hg h1 h2
  have hl : (a ++ n :: b).length = a.length + (b.length + 1) := by simp
  have gn := (goods_cons.1 hg).1
  have g0 := gn.1; have g1 := gn.2.1
  simp only [List.length_cons] at h2
  have hi := ih (a ++ [n]) (acc ++ pr n) (goods_cons.1 hg).2 (by simpa using h1) (by have := z61 n; rw [List.length_append]; omega)
  simp only [List.append_assoc, List.cons_append, List.nil_append, List.length_append, List.length_cons, List.length_nil, Nat.zero_add] at hi
  rw [z56]
  refine Ev.step (fun k => ?_) hi
  rw [impl_pairsOf.l0, if_pos (by omega), if_pos (by omega), if_pos (by omega), z72]
  unfold pr
  by_cases c : n < 65536
  ·rw [if_pos c, if_pos c, if_pos (by omega), w64 (by omega) (by omega), hl]; rfl
  ·rw [if_neg c, if_neg c]
   simp only [Option.bind_some]
   rw [if_pos (by simp; omega), w64 (n := n - 65536) (by omega) (by omega), and1023 _ (by omega) (by omega), w64 (n := 55296 + (n - 65536) / 1024) (by omega) (by omega), w64 (n := 56320 + (n - 65536) % 1024) (by omega) (by omega), w64 (by omega) (by omega), hl]; rfl
theorem z68 (b : List Int) : ∀ (a acc : List Int), z34 b → (a ++ b).length < 100000000 → acc.length + 2 * b.length < 1000000000 →
  Ev (fun k => spec_l2Pairs.l0 k acc (a ++ b) (a ++ b).length a.length) (acc ++ prs b) := by
 induction b with
 | nil =>
  intro a acc _ h1 h2
  refine Ev.step (f := fun _ => some (acc ++ prs [])) (fun k => ?_) (Ev.now _)
  rw [spec_l2Pairs.l0, if_neg (by simp)]; simp [prs]
 | cons n b ih =>
  intro a acc hg h1 h2
  have hl : (a ++ n :: b).length = a.length + (b.length + 1) := by simp
  have gn := (goods_cons.1 hg).1
  have g0 := gn.1; have g1 := gn.2.1
  simp only [List.length_cons] at h2
  have hi := ih (a ++ [n]) (acc ++ pr n) (goods_cons.1 hg).2 (by simpa using h1) (by have := z61 n; rw [List.length_append]; omega)
  simp only [List.append_assoc, List.cons_append, List.nil_append, List.length_append, List.length_cons, List.length_nil, Nat.zero_add] at hi
  rw [z56]
  refine Ev.step (fun k => ?_) hi
  rw [spec_l2Pairs.l0, if_pos (by omega), if_pos (by omega), if_pos (by omega), z72]
  unfold pr
  by_cases c : n < 65536
  ·rw [if_pos c, if_pos c, if_pos (by omega), w64 (by omega) (by omega), hl]; rfl
  ·rw [if_neg c, if_neg c]
   simp only [Option.bind_some]
   rw [if_pos (by simp; omega), w64 (n := n - 65536) (by omega) (by omega), and1023 _ (by omega) (by omega), w64 (n := 55296 + (n - 65536) / 1024) (by omega) (by omega), w64 (n := 56320 + (n - 65536) % 1024) (by omega) (by omega), w64 (by omega) (by omega), hl]; rfl
theorem z100 (l : List Int) (hg : z34 l) (hl : l.length < 10000000) : Ev (fun k => impl_pairsOf.f k l) (prs l) := by
 have := z69 l [] [] hg (by simp; omega) (by simp; omega)
 unfold impl_pairsOf.f
 simpa using this
theorem z99 (l : List Int) (hg : z34 l) (hl : l.length < 10000000) : Ev (fun k => spec_l2Pairs.f k l) (prs l) := by
 have := z68 l [] [] hg (by simp; omega) (by simp; omega)
 unfold spec_l2Pairs.f
 simpa using this
theorem cmpInt (a b : Int) : cmp_Compare_int.f a b = some (if a < b then -1 else if a > b then 1 else 0) := by
 unfold cmp_Compare_int.f cmp_isNaN_int.f
 simp only [Option.bind_some, bne_self_eq_false, Bool.false_eq_true, if_false]
 by_cases c : a < b
 ·rw [if_pos c, if_pos c]
 ·rw [if_neg c, if_neg c]
  by_cases d : a > b
  ·rw [if_pos d, if_pos d]
  ·rw [if_neg d, if_neg d]
theorem compare_l0 (x y : List Int) (hx : x.length < 100000000) (hy : y.length < 100000000) (x' : List Int) : ∀ (p y' : List Int), x = p ++ x' → y = p ++ y' →
  ∃ c, Ev (fun k => slices_Compare_int_int.l0 k x y x x.length p.length) c ∧ (c < 0 ↔ z4 x y = true) := by
 induction x' with
 | nil =>
  intro p y' e1 e2
  have n1 := congrArg List.length e1
  have n2 := congrArg List.length e2
  simp only [List.length_append, List.length_nil] at n1 n2
  cases y' with
  | nil =>
   simp only [List.length_nil] at n2
   refine ⟨0, Ev.step (f := fun _ => some 0) (fun k => ?_) (Ev.now _), ?_⟩
   ·rw [slices_Compare_int_int.l0, if_neg (by omega), if_neg (by omega)]
   ·rw [e1, e2, z12]; simp [z4]
  | cons b y' =>
   simp only [List.length_cons] at n2
   refine ⟨-1, Ev.step (f := fun _ => some (-1)) (fun k => ?_) (Ev.now _), ?_⟩
   ·rw [slices_Compare_int_int.l0, if_neg (by omega), if_pos (by omega)]
   ·rw [e1, e2, z12]; simp [z4]
 | cons a x' ih =>
  intro p y' e1 e2
  have n1 := congrArg List.length e1
  have n2 := congrArg List.length e2
  simp only [List.length_append, List.length_cons] at n1 n2
  have r1 : rd x p.length = a := by rw [e1]; exact z72 p a x'
  cases y' with
  | nil =>
   simp only [List.length_nil] at n2
   refine ⟨1, Ev.step (f := fun _ => some 1) (fun k => ?_) (Ev.now _), ?_⟩
   ·rw [slices_Compare_int_int.l0, if_pos (by omega), if_pos (by omega), if_pos (by omega), if_pos (by omega)]
   ·rw [e1, e2, z12]; simp [z4]
  | cons b y' =>
   simp only [List.length_cons] at n2
   have r2 : rd y p.length = b := by rw [e2]; exact z72 p b y'
   by_cases c : a = b
   ·subst c
    obtain ⟨c, h1, h2⟩ := ih (p ++ [a]) y' (by rw [e1]; simp) (by rw [e2]; simp)
    simp only [List.length_append, List.length_cons, List.length_nil] at h1
    refine ⟨c, Ev.step (fun k => ?_) h1, h2⟩
    rw [slices_Compare_int_int.l0, if_pos (by omega), if_pos (by omega), if_pos (by omega), if_neg (by omega), if_pos (by omega), r1, r2, cmpInt]
    simp only [Option.bind_some]
    simp only [Int.lt_irrefl, if_false, gt_iff_lt, if_true]
    rw [w64 (by omega) (by omega)]; rfl
   ·have hc := cmpInt a b
    refine ⟨if a < b then -1 else if a > b then 1 else 0, Ev.step (f := fun _ => some (if a < b then -1 else if a > b then 1 else 0)) (fun k => ?_) (Ev.now _), ?_⟩
    ·rw [slices_Compare_int_int.l0, if_pos (by omega), if_pos (by omega), if_pos (by omega), if_neg (by omega), if_pos (by omega), r1, r2, cmpInt]
     simp only [Option.bind_some]
     rw [if_neg]
     by_cases d : a < b
     ·rw [if_pos d]; decide
     ·rw [if_neg d, if_pos (by omega)]; decide
    ·rw [e1, e2, z12]
     by_cases d : a < b
     ·simp [z4, d]
     ·rw [if_neg d, if_pos (by omega)]; simp [z4, d, c]
theorem z121 (x y : List Int) (hx : x.length < 100000000) (hy : y.length < 100000000) : ∃ c, Ev (fun k => slices_Compare_int_int.f k x y) c ∧ decide (c < 0) = z4 x y := by
 obtain ⟨c, h1, h2⟩ := compare_l0 x y hx hy x [] y rfl rfl
 refine ⟨c, h1, ?_⟩
 by_cases d : z4 x y = true
 ·rw [d, decide_eq_true (h2.2 d)]
 ·rw [Bool.not_eq_true] at d
  rw [d, decide_eq_false (fun h => by have := h2.1 h; rw [d] at this; cases this)]
theorem l2Less_l0 (x y : List Int) (hx : x.length < 100000000) (hy : y.length < 100000000) (x' : List Int) : ∀ (p y' : List Int), x = p ++ x' → y = p ++ y' →
  Ev (fun k => spec_l2Less.l0 k x y x x.length p.length) (z4 x y) := by
 induction x' with
 | nil =>
  intro p y' e1 e2
  have n1 := congrArg List.length e1
  have n2 := congrArg List.length e2
  simp only [List.length_append, List.length_nil] at n1 n2
  have : decide (x.length < y.length) = z4 x y := by
   rw [e1, e2, z12]
   cases y' with
   | nil => simp [z4]
   | cons => simp [z4]
  rw [← this]
  refine Ev.step (f := fun _ => some (decide (x.length < y.length))) (fun k => ?_) (Ev.now _)
  rw [spec_l2Less.l0, if_neg (by omega)]
 | cons a x' ih =>
  intro p y' e1 e2
  have n1 := congrArg List.length e1
  have n2 := congrArg List.length e2
  simp only [List.length_append, List.length_cons] at n1 n2
  have r1 : rd x p.length = a := by rw [e1]; exact z72 p a x'
  cases y' with
  | nil =>
   simp only [List.length_nil] at n2
   have : z4 x y = false := by rw [e1, e2, z12]; simp [z4]
   rw [this]
   refine Ev.step (f := fun k => spec_l2Less.j1 k x y p.length a x x.length p.length true) (fun k => ?_) (Ev.step (f := fun _ => some false) (fun k => ?_) (Ev.now _))
   ·rw [spec_l2Less.l0, if_pos (by omega), if_pos (by omega), if_pos (by omega), if_pos (by omega), r1]
   ·rw [spec_l2Less.j1, if_pos rfl]
  | cons b y' =>
   simp only [List.length_cons] at n2
   have r2 : rd y p.length = b := by rw [e2]; exact z72 p b y'
   refine Ev.step (f := fun k => spec_l2Less.j1 k x y p.length a x x.length p.length (decide (a > b))) (fun k => ?_) ?_
   ·rw [spec_l2Less.l0, if_pos (by omega), if_pos (by omega), if_pos (by omega), if_neg (by omega), if_pos (by omega), r1, r2]
   rcases Int.lt_trichotomy a b with h | h | h
   ·have : z4 x y = true := by rw [e1, e2, z12]; simp [z4, h]
    rw [this]
    refine Ev.step (f := fun _ => some true) (fun k => ?_) (Ev.now _)
    rw [spec_l2Less.j1, decide_eq_false (by omega), if_neg (by decide), if_pos (by omega), if_pos (by omega), r2, if_pos h]
   ·subst h
    have := ih (p ++ [a]) y' (by rw [e1]; simp) (by rw [e2]; simp)
    simp only [List.length_append, List.length_cons, List.length_nil] at this
    refine Ev.step (fun k => ?_) this
    rw [spec_l2Less.j1, decide_eq_false (by omega), if_neg (by decide), if_pos (by omega), if_pos (by omega), r2, if_neg (by omega), w64 (by omega) (by omega)]; rfl
   ·have : z4 x y = false := by
     rw [e1, e2, z12]
     simp only [z4, List.cons_append, Bool.or_eq_false_iff, decide_eq_false_iff_not, Bool.and_eq_false_iff, beq_eq_false_iff_ne]; omega
    rw [this]
    refine Ev.step (f := fun _ => some false) (fun k => ?_) (Ev.now _)
    rw [spec_l2Less.j1, decide_eq_true h, if_pos rfl]
theorem l2Less (x y : List Int) (hx : x.length < 100000000) (hy : y.length < 100000000) : Ev (fun k => spec_l2Less.f k x y) (z4 x y) := l2Less_l0 x y hx hy x [] y rfl rfl
theorem z89 (xs : List Int) : nb (strOfNums xs) = xs.map fun x => x.toNat % 256 := by simp [nb, strOfNums]
theorem and63 (x : Int) (h0 : 0 ≤ x) (h1 : x < 9223372036854775808) : Go.bits .and .i64 x 63 = x % 64 := by
 have h := bits_mask .i64 63 (by decide) (fun n h₀ h₁ => by rw [IntKind.wrap_i64]; omega) 6 (by decide) x h0 (by omega)
 simpa using h
theorem l2Bytes (n : Int) (h : Good n) : spec_l2Bytes.f n = some (Utf8.encode n) := by
 have h0 := h.1
 have h1 := h.2.1
 have e : ∀ {x : ByteArray}, nb x = eb n.toNat → some x = some (Utf8.encode n) := fun {x} hx => by
  rw [nb_inj (hx.trans (z101 n h).symm)]
 unfold spec_l2Bytes.f
 by_cases a : n < 128
 ·rw [if_pos a]
  refine e ?_
  rw [eb1 (by omega), z89]
  simp; omega
 rw [if_neg a]
 by_cases b : n < 2048
 ·rw [if_pos b]
  refine e ?_
  rw [eb2 (by omega) (by omega), z89, and63 _ h0 (by omega), w64 (by omega) (by omega), w64 (by omega) (by omega)]
  simp; omega
 rw [if_neg b]
 by_cases c : n < 65536
 ·rw [if_pos c]
  refine e ?_
  rw [eb3 (by omega) (by omega), z89, and63 _ h0 (by omega), and63 _ (by omega) (by omega), w64 (by omega) (by omega), w64 (by omega) (by omega), w64 (by omega) (by omega)]
  simp; omega
 ·rw [if_neg c]
  refine e ?_
  rw [eb4 (by omega), z89, and63 _ h0 (by omega), and63 (n / 4096) (by omega) (by omega), and63 (n / 64) (by omega) (by omega), w64 (by omega) (by omega), w64 (by omega) (by omega), w64 (by omega) (by omega), w64 (by omega) (by omega)]
  simp; omega
def bad (d : List Nat) : Prop := (dl d).1 = 65533 ∧ (dl d).2 < 2
instance (d : List Nat) : Decidable (bad d) := by unfold bad; infer_instance
theorem z33 (s : ByteArray) (i : Nat) : ∀ x ∈ (nb s).drop i, x < 256 := fun x hx => nb_lt (List.mem_of_mem_drop hx)
theorem z117 (s : ByteArray) (i : Nat) (h : i < s.size) : (nb s).drop i ≠ [] := by
 intro e; have := congrArg List.length e; rw [List.length_drop, z3, List.length_nil] at this; omega
theorem dl_le (s : ByteArray) (i : Nat) (h : i < s.size) : (dl ((nb s).drop i)).1 ≤ 1114111 ∧ (dl ((nb s).drop i)).2 ≤ 4 ∧ i + (dl ((nb s).drop i)).2 ≤ s.size := by
 by_cases hb : bad ((nb s).drop i)
 ·refine ⟨by rw [hb.1]; decide, by have := hb.2; omega, by have := hb.2; omega⟩
 ·obtain ⟨g, e, w⟩ := dl_ok _ (z33 s i) (z117 s i h) hb
  have h4 := (z32 (dl ((nb s).drop i)).1).2
  have hl := congrArg List.length e
  rw [List.length_append, List.length_drop, List.length_drop, z3, ← w] at hl
  have := dl_pos ((nb s).drop i)
  refine ⟨by have := g.2.1; omega, by omega, ?_⟩
  have hw : (dl ((nb s).drop i)).2 ≤ ((nb s).drop i).length := by
   have h2 := congrArg List.length e
   rw [List.length_append, ← w] at h2; omega
  rw [List.length_drop, z3] at hw
  omega
theorem runeAtImpl (s : ByteArray) (at_ : Int) (h0 : 0 ≤ at_) (h1 : at_ < s.size) (hs : s.size < 1000000000000) :
  impl_runeAt.f s at_ = some (if bad ((nb s).drop at_.toNat) then (0, 0, false) else (((dl ((nb s).drop at_.toNat)).1 : Int), at_ + ((dl ((nb s).drop at_.toNat)).2 : Int), true)) := by
 have hle := dl_le s at_.toNat (by omega)
 unfold impl_runeAt.f utf8_DecodeRuneInString.f
 rw [if_pos h0, if_pos (by omega), z118, z74, List.take_of_length_le (by rw [z3]; omega), if_neg (z117 s _ (by omega))]
 simp only [Option.bind_some]
 rw [w64 (by omega) (by omega), w64 (by omega) (by omega)]
 by_cases c : ((dl ((nb s).drop at_.toNat)).1 : Int) = 65533
 ·rw [if_pos c]
  by_cases e : ((dl ((nb s).drop at_.toNat)).2 : Int) < 2
  ·rw [if_pos e, if_pos (show bad _ from ⟨by omega, by omega⟩)]
  ·rw [if_neg e, if_neg (fun hb : bad _ => e (by have := hb.2; omega))]
 ·rw [if_neg c, if_neg (fun hb : bad _ => c (by have := hb.1; omega))]
theorem goodRune (n : Int) : spec_GoodRune.f n = some (decide (Good n)) := by
 unfold spec_GoodRune.f spec_l1In.f Good
 by_cases a : n ≥ 0
 ·rw [if_pos a]
  simp only [Option.bind_some]
  by_cases b : n ≤ 1114111
  ·rw [decide_eq_true b, if_pos rfl]
   by_cases c : n ≥ 55296
   ·rw [if_pos c]; simp only [Option.bind_some]; congr 1
    by_cases d : n ≤ 57343 <;> simp [a, b, c, d] <;> omega
   ·rw [if_neg c]; simp only [Option.bind_some]; congr 1
    simp [b]; omega
  ·rw [decide_eq_false b, if_neg (by decide)]; congr 1
   simp [b]
 ·rw [if_neg a]
  simp only [Option.bind_some]
  rw [if_neg (by decide)]; congr 1
  simp; omega
theorem or_and (v b : Int) (h0 : 0 ≤ v) (h1 : v < 2147483648) (h2 : 0 ≤ b) (h3 : b < 256) : Go.bits .or .i64 (wrap64 (v * 64)) (wrap64 (Go.bits .and .u8 b 63)) = v * 64 + b % 64 := by
 rw [u8_and63 b h2 h3, w64 (by omega) (by omega), w64 (by omega) (by omega)]
 exact bits_join .i64 63 (by decide) (fun n h₀ h₁ => by rw [IntKind.wrap_i64]; omega) 6 _ _ (by omega) (by omega) (by omega) (by omega) (by omega) (by omega)
def fin2 (d : List Nat) (v : Nat) (many : Nat) : Int × Int := if Good v ∧ eb v = d.take many then ((v : Int), (many : Int)) else (0, 0)
theorem z58 (s : ByteArray) (at_ : Int) (h0 : 0 ≤ at_) (hs : s.size < 1000000000000) (v many : Nat) (hm : at_ + many ≤ s.size) : Ev (fun k => spec_l2At.l0 k s at_ v many many) (fin2 ((nb s).drop at_.toNat) v many) := by
 refine Ev.step (f := fun _ => some (fin2 ((nb s).drop at_.toNat) v many)) (fun k => ?_) (Ev.now _)
 rw [spec_l2At.l0, if_neg (by omega), goodRune]
 simp only [Option.bind_some]
 unfold fin2
 by_cases g : Good (v : Int)
 ·rw [decide_eq_true g, if_pos rfl, l2Bytes _ g]
  simp only [Option.bind_some]
  rw [if_pos h0, w64 (by omega) (by omega), if_pos (by omega), if_pos hm]
  have e : (Utf8.encode (v : Int)).toList = (s.extract at_.toNat (at_ + many).toNat).toList ↔ eb v = ((nb s).drop at_.toNat).take many := by
   rw [toList_nb, z101 _ g, z74, List.drop_take, Int.toNat_natCast, show (at_ + many).toNat - at_.toNat = many by omega]
  by_cases c : eb v = ((nb s).drop at_.toNat).take many
  ·rw [if_pos (e.2 c), if_pos ⟨g, c⟩]
  ·rw [if_neg (fun h => c (e.1 h)), if_neg (fun h => c h.2)]
 ·rw [decide_eq_false g, if_neg (by decide), if_neg (fun h => g h.1)]
theorem bt_drop (s : ByteArray) (at_ i : Int) (h0 : 0 ≤ at_) (hi : 0 ≤ i) (h : at_ + i < s.size) : bt s (at_ + i) = (((nb s).drop at_.toNat).getD i.toNat 0 : Nat) := by
 rw [bt_nb s _ (by omega), List.getD_eq_getElem?_getD, List.getD_eq_getElem?_getD, List.getElem?_drop, show at_.toNat + i.toNat = (at_ + i).toNat by omega]
theorem z24 (s : ByteArray) (at_ : Int) (h0 : 0 ≤ at_) (hs : s.size < 1000000000000) (v many i : Nat) (hv : v < 2147483648) (hi : i < many) (hm : at_ + many ≤ s.size) {r : Int × Int}
  (h : Ev (fun k => spec_l2At.l0 k s at_ ((v * 64 + ((nb s).drop at_.toNat).getD i 0 % 64 : Nat) : Int) many ((i + 1 : Nat) : Int)) r) : Ev (fun k => spec_l2At.l0 k s at_ v many i) r := by
 have hb := z29 (z33 s at_.toNat) i
 refine Ev.step (fun k => ?_) h
 rw [spec_l2At.l0, if_pos (by omega), w64 (n := at_ + i) (by omega) (by omega), if_pos (by omega), if_pos (by omega), bt_drop s at_ i h0 (by omega) (by omega), Int.toNat_natCast, or_and _ _ (by omega) (by omega) (by omega) (by omega), w64 (by omega) (by omega)]
 norm_cast
def val2 (d : List Nat) (n0 many : Nat) : Nat :=
 if many = 1 then n0 else if many = 2 then n0 * 64 + d.getD 1 0 % 64 else if many = 3 then (n0 * 64 + d.getD 1 0 % 64) * 64 + d.getD 2 0 % 64
 else ((n0 * 64 + d.getD 1 0 % 64) * 64 + d.getD 2 0 % 64) * 64 + d.getD 3 0 % 64
theorem l2At_j0 (s : ByteArray) (at_ : Int) (h0 : 0 ≤ at_) (h1 : at_ < s.size) (hs : s.size < 1000000000000) (n0 many : Nat) (hn : n0 < 256) (h2 : 1 ≤ many) (h3 : many ≤ 4) :
  Ev (fun k => spec_l2At.j0 k s at_ n0 many) (if ((nb s).drop at_.toNat).length < many then (0, 0) else fin2 ((nb s).drop at_.toNat) (val2 ((nb s).drop at_.toNat) n0 many) many) := by
 have hl : ((nb s).drop at_.toNat).length = s.size - at_.toNat := by rw [List.length_drop, z3]
 by_cases c : ((nb s).drop at_.toNat).length < many
 ·rw [if_pos c]
  refine Ev.step (f := fun _ => some (0, 0)) (fun k => ?_) (Ev.now _)
  rw [spec_l2At.j0, w64 (by omega) (by omega), if_pos (by omega)]
 rw [if_neg c]
 have hm : at_ + many ≤ s.size := by omega
 refine Ev.step (f := fun k => spec_l2At.l0 k s at_ n0 many ((1 : Nat) : Int)) (fun k => ?_) ?_
 ·rw [spec_l2At.j0, w64 (by omega) (by omega), if_neg (by omega)]; rfl
 have b1 := z29 (z33 s at_.toNat) 1
 have b2 := z29 (z33 s at_.toNat) 2
 have b3 := z29 (z33 s at_.toNat) 3
 unfold val2
 rcases (show many = 1 ∨ many = 2 ∨ many = 3 ∨ many = 4 by omega) with rfl | rfl | rfl | rfl
 ·rw [if_pos rfl]; exact z58 s at_ h0 hs n0 1 hm
 ·rw [if_neg (by decide), if_pos rfl]
  exact z24 s at_ h0 hs n0 2 1 (by omega) (by omega) hm (z58 s at_ h0 hs _ 2 hm)
 ·rw [if_neg (by decide), if_neg (by decide), if_pos rfl]
  exact z24 s at_ h0 hs n0 3 1 (by omega) (by omega) hm (z24 s at_ h0 hs _ 3 2 (by omega) (by omega) hm (z58 s at_ h0 hs _ 3 hm))
 ·rw [if_neg (by decide), if_neg (by decide), if_neg (by decide)]
  exact z24 s at_ h0 hs n0 4 1 (by omega) (by omega) hm (z24 s at_ h0 hs _ 4 2 (by omega) (by omega) hm (z24 s at_ h0 hs _ 4 3 (by omega) (by omega) hm (z58 s at_ h0 hs _ 4 hm)))
theorem z46 (n : Nat) : (eb n).length = if n < 128 then 1 else if n < 2048 then 2 else if n < 65536 then 3 else 4 := by
 unfold eb; repeat' split
 all_goals rfl
theorem eb_head (n : Nat) : (eb n).getD 0 0 = if n < 128 then n else if n < 2048 then 192 + n / 64 else if n < 65536 then 224 + n / 4096 else 240 + n / 262144 := by
 unfold eb; repeat' split
 all_goals rfl
theorem val2_eb (n : Nat) (t : List Nat) (hn : n ≤ 1114111) : val2 (eb n ++ t) ((eb n).getD 0 0 - if n < 128 then 0 else if n < 2048 then 192 else if n < 65536 then 224 else 240) (eb n).length = n := by
 by_cases a : n < 128
 ·rw [eb1 a, if_pos a]; simp [val2]
 by_cases b : n < 2048
 ·rw [eb2 a b, if_neg a, if_pos b]; simp [val2]; omega
 by_cases c : n < 65536
 ·rw [eb3 b c, if_neg a, if_neg b, if_pos c]; simp [val2]; omega
 ·rw [eb4 c, if_neg a, if_neg b, if_neg c]; simp [val2]; omega
theorem fin2_eq (d : List Nat) (hd : ∀ x ∈ d, x < 256) (h0 : d ≠ []) (n0 many : Nat) (h2 : 1 ≤ many)
  (hc : ∀ n, n ≤ 1114111 → (eb n).getD 0 0 = d.getD 0 0 → (eb n).length = many ∧ n0 = d.getD 0 0 - if n < 128 then 0 else if n < 2048 then 192 else if n < 65536 then 224 else 240) :
  (if d.length < many then (0, 0) else fin2 d (val2 d n0 many) many) = if bad d then (0, 0) else (((dl d).1 : Int), ((dl d).2 : Int)) := by
 by_cases hb : bad d
 ·rw [if_pos hb]
  by_cases hl : d.length < many
  ·rw [if_pos hl]
  rw [if_neg hl]
  unfold fin2
  rw [if_neg]
  rintro ⟨g, e⟩
  have h := dl_eb (val2 d n0 many) g (d.drop many)
  rw [e, List.take_append_drop] at h
  have hl2 : (d.take many).length = many := by rw [List.length_take]; omega
  rw [hl2] at h
  have e1 := hb.1
  have e2 := hb.2
  rw [h] at e1 e2
  simp only at e1 e2
  have e3 := congrArg List.length e
  rw [hl2, e1] at e3
  have : (eb 65533).length = 3 := by decide
  omega
 ·rw [if_neg hb]
  obtain ⟨g, e, w⟩ := dl_ok d hd h0 hb
  have hn : (dl d).1 ≤ 1114111 := by have := g.2.1; omega
  have hp := z32 (dl d).1
  have hh : (eb (dl d).1).getD 0 0 = d.getD 0 0 := by
   conv => rhs; rw [e]
   rw [List.getD_eq_getElem?_getD, List.getD_eq_getElem?_getD, List.getElem?_append_left (by omega)]
  obtain ⟨c1, c2⟩ := hc _ hn hh
  have hle : ¬ d.length < many := by
   have := congrArg List.length e
   rw [List.length_append] at this; omega
  rw [if_neg hle]
  generalize (dl d).1 = c at *
  generalize (dl d).2 = m at *
  generalize d.drop m = t at e
  subst e
  subst c1
  have hv : val2 (eb c ++ t) n0 (eb c).length = c := by rw [c2, ← hh]; exact val2_eb c t hn
  unfold fin2
  rw [hv, if_pos ⟨g, by rw [List.take_left]⟩, w]
theorem heads (n x : Nat) (hn : n ≤ 1114111) (he : (eb n).getD 0 0 = x) : (x < 128 ∧ n < 128) ∨ (192 ≤ x ∧ x ≤ 223 ∧ ¬ n < 128 ∧ n < 2048) ∨ (224 ≤ x ∧ x ≤ 239 ∧ ¬ n < 128 ∧ ¬ n < 2048 ∧ n < 65536) ∨ (240 ≤ x ∧ x ≤ 244 ∧ ¬ n < 128 ∧ ¬ n < 2048 ∧ ¬ n < 65536) := by
 rw [eb_head] at he
 by_cases a : n < 128
 ·rw [if_pos a] at he; omega
 rw [if_neg a] at he
 by_cases b : n < 2048
 ·rw [if_pos b] at he; omega
 rw [if_neg b] at he
 by_cases c : n < 65536
 ·rw [if_pos c] at he; omega
 rw [if_neg c] at he; omega
theorem l2At (s : ByteArray) (at_ : Int) (h0 : 0 ≤ at_) (h1 : at_ < s.size) (hs : s.size < 1000000000000) :
  Ev (fun k => spec_l2At.f k s at_) (if bad ((nb s).drop at_.toNat) then (0, 0) else (((dl ((nb s).drop at_.toNat)).1 : Int), ((dl ((nb s).drop at_.toNat)).2 : Int))) := by
 have hb := z29 (z33 s at_.toNat) 0
 have hne := z117 s at_.toNat (by omega)
 have hb0 := bt_drop s at_ 0 h0 (by omega) (by omega)
 rw [Int.add_zero] at hb0
 simp only [Int.toNat_zero] at hb0
 unfold spec_l2At.f spec_l1In.f
 simp only [if_pos h0, if_pos h1, hb0]
 generalize hx : ((nb s).drop at_.toNat).getD 0 0 = x at *
 rw [w64 (n := (x : Int)) (by omega) (by omega)]
 have key : ∀ (n0 many : Nat), n0 < 256 → 1 ≤ many → many ≤ 4 → (∀ n, n ≤ 1114111 → (eb n).getD 0 0 = x → (eb n).length = many ∧ n0 = x - if n < 128 then 0 else if n < 2048 then 192 else if n < 65536 then 224 else 240) →
   Ev (fun k => spec_l2At.j0 k s at_ n0 many) (if bad ((nb s).drop at_.toNat) then (0, 0) else (((dl ((nb s).drop at_.toNat)).1 : Int), ((dl ((nb s).drop at_.toNat)).2 : Int))) := by
  intro n0 many a1 a2 a3 a4
  rw [← fin2_eq _ (z33 s at_.toNat) hne n0 many a2 (by rw [hx]; exact a4)]
  exact l2At_j0 s at_ h0 h1 hs n0 many a1 a2 a3
 by_cases c1 : 192 ≤ x ∧ x ≤ 223
 ·have k := key (x - 192) 2 (by omega) (by omega) (by omega) (fun n hn he => by
   rcases heads n x hn he with h | ⟨_, _, g1, g2⟩ | h | h
   ·omega
   ·rw [z46, if_neg g1, if_pos g2, if_neg g1, if_pos g2]; exact ⟨rfl, rfl⟩
   ·omega
   ·omega)
  have e : ((x - 192 : Nat) : Int) = (x : Int) - 192 := by omega
  rw [e] at k
  simp only [ge_iff_le, show (192 : Int) ≤ x by omega, show (x : Int) ≤ 223 by omega, decide_true, if_true, Option.bind_some]
  rw [w64 (by omega) (by omega)]; exact k
 have n1 : (if (x : Int) ≥ 192 then some (decide ((x : Int) ≤ 223)) else some false) = some false := by
  by_cases q : (x : Int) ≥ 192
  ·rw [if_pos q, decide_eq_false (by omega)]
  ·rw [if_neg q]
 simp only [n1, Option.bind_some, Bool.false_eq_true, if_false]
 by_cases c2 : 224 ≤ x ∧ x ≤ 239
 ·have k := key (x - 224) 3 (by omega) (by omega) (by omega) (fun n hn he => by
   rcases heads n x hn he with h | h | ⟨_, _, g1, g2, g3⟩ | h
   ·omega
   ·omega
   ·rw [z46, if_neg g1, if_neg g2, if_pos g3, if_neg g1, if_neg g2, if_pos g3]; exact ⟨rfl, rfl⟩
   ·omega)
  have e : ((x - 224 : Nat) : Int) = (x : Int) - 224 := by omega
  rw [e] at k
  simp only [ge_iff_le, show (224 : Int) ≤ x by omega, show (x : Int) ≤ 239 by omega, decide_true, if_true, Option.bind_some]
  rw [w64 (by omega) (by omega)]; exact k
 have n2 : (if (x : Int) ≥ 224 then some (decide ((x : Int) ≤ 239)) else some false) = some false := by
  by_cases q : (x : Int) ≥ 224
  ·rw [if_pos q, decide_eq_false (by omega)]
  ·rw [if_neg q]
 simp only [n2, Option.bind_some, Bool.false_eq_true, if_false]
 by_cases c3 : 240 ≤ x ∧ x ≤ 247
 ·have k := key (x - 240) 4 (by omega) (by omega) (by omega) (fun n hn he => by
   rcases heads n x hn he with h | h | h | ⟨_, _, g1, g2, g3⟩
   ·omega
   ·omega
   ·omega
   ·rw [z46, if_neg g1, if_neg g2, if_neg g3, if_neg g1, if_neg g2, if_neg g3]; exact ⟨rfl, rfl⟩)
  have e : ((x - 240 : Nat) : Int) = (x : Int) - 240 := by omega
  rw [e] at k
  simp only [ge_iff_le, show (240 : Int) ≤ x by omega, show (x : Int) ≤ 247 by omega, decide_true, if_true, Option.bind_some]
  rw [w64 (by omega) (by omega)]; exact k
 have n3 : (if (x : Int) ≥ 240 then some (decide ((x : Int) ≤ 247)) else some false) = some false := by
  by_cases q : (x : Int) ≥ 240
  ·rw [if_pos q, decide_eq_false (by omega)]
  ·rw [if_neg q]
 simp only [n3, Option.bind_some, Bool.false_eq_true, if_false]
 by_cases c4 : (x : Int) ≥ 128
 ·simp only [c4, if_true]
  have hbad : bad ((nb s).drop at_.toNat) := by
   by_cases hb' : bad ((nb s).drop at_.toNat)
   ·exact hb'
   exfalso
   obtain ⟨g, e, w⟩ := dl_ok _ (z33 s at_.toNat) hne hb'
   have hp := (z32 (dl ((nb s).drop at_.toNat)).1).1
   have hh : (eb (dl ((nb s).drop at_.toNat)).1).getD 0 0 = x := by
    rw [← hx]
    conv => rhs; rw [e]
    rw [List.getD_eq_getElem?_getD, List.getD_eq_getElem?_getD, List.getElem?_append_left (by omega)]
   rcases heads _ x (by have := g.2.1; omega) hh with h | h | h | h <;> omega
  rw [if_pos hbad]; exact Ev.now _
 ·simp only [c4, if_false]
  have k := key x 1 (by omega) (by omega) (by omega) (fun n hn he => by
   rcases heads n x hn he with ⟨_, g1⟩ | h | h | h
   ·rw [z46, if_pos g1, if_pos g1]; exact ⟨rfl, rfl⟩
   ·omega
   ·omega
   ·omega)
  exact k
def rimp (acc : List Int) : Option (List Int) → List Int × Bool
 | some l => if acc.length + l.length ≤ 60 then (acc ++ l, true) else ([], false)
 | none => ([], false)
def z94 (acc : List Int) : Option (List Int) → List Int × Bool
 | some l => (acc ++ l, true)
 | none => ([], false)
theorem z59 (s : ByteArray) (at_ : Int) (h0 : 0 ≤ at_) : (nb s).drop at_.toNat = [] ↔ (s.size : Int) ≤ at_ := by
 rw [List.drop_eq_nil_iff, z3]; omega
theorem z54 (s : ByteArray) (at_ : Int) (h0 : 0 ≤ at_) (w : Nat) : ((nb s).drop at_.toNat).drop w = (nb s).drop (at_ + w).toNat := by
 rw [List.drop_drop]; congr 1; omega
theorem z38 (s : ByteArray) (hs : s.size < 1000000000000) (f : Nat) : ∀ (acc : List Int) (at_ : Int), 0 ≤ at_ → at_ ≤ s.size → ((nb s).drop at_.toNat).length < f → acc.length ≤ 60 →
  Ev (fun k => impl_runesOf.l0 k s acc at_) (rimp acc (z17 f ((nb s).drop at_.toNat))) := by
 induction f with
 | zero => intro acc at_ h0 h1 hf; omega
 | succ f ih =>
  intro acc at_ h0 h1 hf ha
  unfold z17
  by_cases c : (nb s).drop at_.toNat = []
  ·rw [if_pos c]
   have := (z59 s at_ h0).1 c
   refine Ev.step (f := fun _ => some (rimp acc (some []))) (fun k => ?_) (Ev.now _)
   rw [impl_runesOf.l0, if_neg (by omega)]
   simp [rimp]; omega
  ·rw [if_neg c]
   have hlt : at_ < s.size := by
    rcases Int.lt_or_le at_ s.size with h | h
    ·exact h
    ·exact absurd ((z59 s at_ h0).2 h) c
   have hr := runeAtImpl s at_ h0 hlt hs
   have hle := dl_le s at_.toNat (by omega)
   have hp := dl_pos ((nb s).drop at_.toNat)
   by_cases b : bad ((nb s).drop at_.toNat)
   ·rw [if_pos b] at hr
    rw [if_pos (show (dl ((nb s).drop at_.toNat)).1 = 65533 ∧ (dl ((nb s).drop at_.toNat)).2 < 2 from b)]
    refine Ev.step (f := fun _ => some (([] : List Int), false)) (fun k => ?_) (Ev.now _)
    rw [impl_runesOf.l0, if_pos hlt, hr]
    simp only [Option.bind_some]
    rw [if_neg (by decide)]
   ·rw [if_neg b] at hr
    rw [if_neg (show ¬ ((dl ((nb s).drop at_.toNat)).1 = 65533 ∧ (dl ((nb s).drop at_.toNat)).2 < 2) from b)]
    by_cases e : acc.length = 60
    ·have hres : rimp acc ((z17 f (((nb s).drop at_.toNat).drop (dl ((nb s).drop at_.toNat)).2)).map fun r => ((dl ((nb s).drop at_.toNat)).1 : Int) :: r) = ([], false) := by
      cases z17 f (((nb s).drop at_.toNat).drop (dl ((nb s).drop at_.toNat)).2) with
      | none => rfl
      | some l => simp [rimp, e]
     rw [hres]
     refine Ev.step (f := fun _ => some (([] : List Int), false)) (fun k => ?_) (Ev.now _)
     rw [impl_runesOf.l0, if_pos hlt, hr]
     simp only [Option.bind_some]
     rw [if_pos trivial, if_pos (by omega)]
    ·have hne : 1 ≤ ((nb s).drop at_.toNat).length := List.length_pos_iff.2 c
     have hl : (((nb s).drop at_.toNat).drop (dl ((nb s).drop at_.toNat)).2).length < f := by rw [List.length_drop]; omega
     rw [z54 s at_ h0] at hl ⊢
     have hi := ih (acc ++ [((dl ((nb s).drop at_.toNat)).1 : Int)]) (at_ + (dl ((nb s).drop at_.toNat)).2) (by omega) (by omega) hl (by simp; omega)
     have hres : ∀ o : Option (List Int), rimp (acc ++ [((dl ((nb s).drop at_.toNat)).1 : Int)]) o = rimp acc (o.map fun r => ((dl ((nb s).drop at_.toNat)).1 : Int) :: r) := by
      intro o
      cases o with
      | none => rfl
      | some l => simp only [rimp, Option.map_some, List.length_append, List.length_cons, List.length_nil, List.append_assoc, List.cons_append, List.nil_append, Nat.add_assoc, Nat.add_comm 1 l.length]
     rw [← hres]
     refine Ev.step (fun k => ?_) hi
     rw [impl_runesOf.l0, if_pos hlt, hr]
     simp only [Option.bind_some]
     rw [if_pos trivial, if_neg (by omega), if_pos (by omega)]
theorem z93 (s : ByteArray) (hs : s.size < 1000000000000) (f : Nat) : ∀ (acc : List Int) (at_ : Int), 0 ≤ at_ → at_ ≤ s.size → ((nb s).drop at_.toNat).length < f → acc.length + s.size < 10000000000000 + at_ →
  Ev (fun k => spec_l2Runes.l0 k s acc at_) (z94 acc (z17 f ((nb s).drop at_.toNat))) := by
 induction f with
 | zero => intro acc at_ h0 h1 hf; omega
 | succ f ih =>
  intro acc at_ h0 h1 hf ha
  unfold z17
  by_cases c : (nb s).drop at_.toNat = []
  ·rw [if_pos c]
   have := (z59 s at_ h0).1 c
   refine Ev.step (f := fun _ => some (z94 acc (some []))) (fun k => ?_) (Ev.now _)
   rw [spec_l2Runes.l0, if_neg (by omega)]
   simp [z94]
  ·rw [if_neg c]
   have hlt : at_ < s.size := by
    rcases Int.lt_or_le at_ s.size with h | h
    ·exact h
    ·exact absurd ((z59 s at_ h0).2 h) c
   have hr := l2At s at_ h0 hlt hs
   have hle := dl_le s at_.toNat (by omega)
   have hp := dl_pos ((nb s).drop at_.toNat)
   by_cases b : bad ((nb s).drop at_.toNat)
   ·rw [if_pos b] at hr
    rw [if_pos (show (dl ((nb s).drop at_.toNat)).1 = 65533 ∧ (dl ((nb s).drop at_.toNat)).2 < 2 from b)]
    refine Ev.step (f := fun k => (spec_l2At.f k s at_).bind fun b => if b.2 = 0 then some (([] : List Int), false) else if acc.length < 17592186044416 then spec_l2Runes.l0 k s (acc ++ [b.1]) (wrap64 (at_ + b.2)) else none) (fun k => ?_) (Ev.bind hr ?_)
    ·rw [spec_l2Runes.l0, if_pos hlt]
    ·simp only [if_true]; exact Ev.now _
   ·rw [if_neg b] at hr
    rw [if_neg (show ¬ ((dl ((nb s).drop at_.toNat)).1 = 65533 ∧ (dl ((nb s).drop at_.toNat)).2 < 2) from b)]
    have hne : 1 ≤ ((nb s).drop at_.toNat).length := List.length_pos_iff.2 c
    have hl : (((nb s).drop at_.toNat).drop (dl ((nb s).drop at_.toNat)).2).length < f := by rw [List.length_drop]; omega
    rw [z54 s at_ h0] at hl ⊢
    have hi := ih (acc ++ [((dl ((nb s).drop at_.toNat)).1 : Int)]) (at_ + (dl ((nb s).drop at_.toNat)).2) (by omega) (by omega) hl (by simp; omega)
    have hres : ∀ o : Option (List Int), z94 (acc ++ [((dl ((nb s).drop at_.toNat)).1 : Int)]) o = z94 acc (o.map fun r => ((dl ((nb s).drop at_.toNat)).1 : Int) :: r) := by
     intro o
     cases o with
     | none => rfl
     | some l => simp [z94]
    rw [← hres]
    refine Ev.step (f := fun k => (spec_l2At.f k s at_).bind fun b => if b.2 = 0 then some (([] : List Int), false) else if acc.length < 17592186044416 then spec_l2Runes.l0 k s (acc ++ [b.1]) (wrap64 (at_ + b.2)) else none) (fun k => ?_) (Ev.bind hr ?_)
    ·rw [spec_l2Runes.l0, if_pos hlt]
    ·simp only
     rw [w64 (by omega) (by omega)]
     simp only [show ¬ ((dl ((nb s).drop at_.toNat)).2 : Int) = 0 by omega, if_false, show acc.length < 17592186044416 by omega, if_true]
     exact hi
def R (s : ByteArray) : List Int × Bool := if s.size ≤ 240 then rimp [] (z17 (s.size + 1) (nb s)) else ([], false)
theorem z60 (s : ByteArray) (hs : s.size < 1000000000000) : Ev (fun k => impl_RunesOf.f k s) (R s) := by
 unfold impl_RunesOf.f impl_runesOf.f R
 by_cases c : s.size ≤ 240
 ·have := z38 s hs (s.size + 1) [] 0 (by omega) (by omega) (by rw [List.length_drop, z3]; omega) (by simp)
  simp only [Int.toNat_zero, List.drop_zero] at this
  simp only [c, if_true, show ¬ (s.size : Int) > 240 by omega, if_false]
  exact Ev.bind this (Ev.now _)
 ·simp only [c, if_false, show (s.size : Int) > 240 by omega, if_true]
  exact Ev.now _
theorem z41 (s : ByteArray) (hs : s.size < 1000000000000) : Ev (fun k => spec_RunesOf.f k s) (R s) := by
 unfold spec_RunesOf.f spec_l2Long.f spec_l2Runes.f R
 by_cases c : s.size ≤ 240
 ·have := z93 s hs (s.size + 1) [] 0 (by omega) (by omega) (by rw [List.length_drop, z3]; omega) (by simp; omega)
  simp only [Int.toNat_zero, List.drop_zero] at this
  simp only [c, if_true, show (s.size : Int) ≤ 240 by omega, decide_true, Option.bind_some]
  refine Ev.bind this ?_
  cases z17 (s.size + 1) (nb s) with
  | none => simp only [z94, rimp, Bool.false_eq_true, if_false]; exact Ev.now _
  | some l =>
   simp only [z94, rimp, if_true, List.nil_append, List.length_nil, Nat.zero_add]
   by_cases g : l.length ≤ 60
   ·simp only [g, if_true, show ¬ (l.length : Int) > 60 by omega, if_false]; exact Ev.now _
   ·simp only [g, if_false, show (l.length : Int) > 60 by omega, if_true]; exact Ev.now _
 ·simp only [c, if_false, show ¬ (s.size : Int) ≤ 240 by omega, decide_false, Option.bind_some, Bool.false_eq_true]
  exact Ev.now _
theorem z109 {s : ByteArray} {l : List Int} (h : R s = (l, true)) : z34 l ∧ nb s = encs l ∧ l.length ≤ 60 ∧ s.size ≤ 240 := by
 unfold R at h
 by_cases c : s.size ≤ 240
 ·rw [if_pos c] at h
  cases e : z17 (s.size + 1) (nb s) with
  | none => rw [e] at h; simp [rimp] at h
  | some m =>
   rw [e] at h
   simp only [rimp, List.length_nil, Nat.zero_add, List.nil_append] at h
   by_cases g : m.length ≤ 60
   ·rw [if_pos g] at h
    obtain rfl : m = l := congrArg Prod.fst h
    obtain ⟨h1, h2⟩ := z119 (fun x hx => nb_lt hx) e
    exact ⟨h1, h2, g, c⟩
   ·rw [if_neg g] at h; simp at h
 ·rw [if_neg c] at h; simp at h
theorem R_mk {s : ByteArray} {l : List Int} (h1 : z34 l) (h2 : nb s = encs l) (h3 : l.length ≤ 60) : R s = (l, true) := by
 have hl := congrArg List.length h2
 have := z70 l
 rw [z3] at hl
 unfold R
 rw [if_pos (by omega), h2, z120 h1 (by omega)]
 simp [rimp, h3]
theorem R_false {s : ByteArray} (h : (R s).2 = false) : (R s).1 = [] := by
 unfold R at h ⊢
 split
 ·rename_i c
  rw [if_pos c] at h
  cases e : z17 (s.size + 1) (nb s) with
  | none => rfl
  | some m =>
   rw [e] at h
   simp only [rimp] at h ⊢
   split
   ·rename_i g; rw [if_pos g] at h; simp at h
   ·rfl
 ·rfl
def Lp (a b : ByteArray) : Bool × Bool := if (R a).2 = true ∧ (R b).2 = true then (z4 (prs (R a).1) (prs (R b).1), true) else (false, false)
theorem R_len (s : ByteArray) : (R s).1.length ≤ 60 := by
 rcases h : R s with ⟨l, ok⟩
 cases ok with
 | true => exact (z109 h).2.2.1
 | false => have := R_false (s := s) (by rw [h]); rw [h] at this; simp only at this ⊢; rw [this]; simp
theorem z52 (s : ByteArray) (h : (R s).2 = true) : z34 (R s).1 := by
 rcases e : R s with ⟨l, ok⟩
 rw [e] at h
 simp only at h
 subst h
 exact (z109 e).1
theorem lessSpec (a b : ByteArray) (ha : a.size < 1000000000000) (hb : b.size < 1000000000000) : Ev (fun k => spec_LessPairs.f k a b) (Lp a b) := by
 unfold spec_LessPairs.f Lp
 have la := R_len a
 have lb := R_len b
 refine Ev.bind (z41 a (by omega)) (Ev.bind (z41 b (by omega)) ?_)
 by_cases c : (R a).2 = true
 ·simp only [c, if_true, true_and]
  by_cases d : (R b).2 = true
  ·simp only [d, if_true, Bool.not_true]
   have pa := z36 (R a).1
   have pb := z36 (R b).1
   refine Ev.step (f := fun k => spec_LessPairs.j0 (k + 1) (R a).1 (R b).1 false) (fun k => rfl) ?_
   simp only [spec_LessPairs.j0, Bool.false_eq_true, if_false]
   exact Ev.bind (z99 _ (z52 a c) (by omega)) (Ev.bind (z99 _ (z52 b d) (by omega)) (Ev.bind (l2Less _ _ (by omega) (by omega)) (Ev.now _)))
  ·rw [Bool.not_eq_true] at d
   simp only [d, Bool.false_eq_true, if_false, Bool.not_false]
   refine Ev.step (f := fun _ => some (false, false)) (fun k => ?_) (Ev.now _)
   rw [spec_LessPairs.j0, if_pos rfl]
 ·rw [Bool.not_eq_true] at c
  simp only [c, Bool.false_eq_true, if_false, false_and]
  refine Ev.step (f := fun _ => some (false, false)) (fun k => ?_) (Ev.now _)
  rw [spec_LessPairs.j0, if_pos rfl]
def less (a b : ByteArray) : Bool := (Lp a b).1
theorem z127 (a b : ByteArray) (ha : a.size < 1000000000000) (hb : b.size < 1000000000000) : Ev (fun k => spec_l7LessKey.f k a b) (less a b) := by
 unfold spec_l7LessKey.f
 exact Ev.bind (lessSpec a b ha hb) (Ev.now _)
theorem runesI (s : ByteArray) (hs : s.size < 1000000000000) (h : (R s).2 = true) : Ev (fun k => impl_runesOf.f k s) (R s) := by
 have c : s.size ≤ 240 := by
  rcases e : R s with ⟨l, ok⟩
  rw [e] at h
  simp only at h
  subst h
  exact (z109 e).2.2.2
 unfold impl_runesOf.f R
 have := z38 s hs (s.size + 1) [] 0 (by omega) (by omega) (by rw [List.length_drop, z3]; omega) (by simp)
 simp only [Int.toNat_zero, List.drop_zero] at this
 simp only [c, if_true]
 exact this
theorem cmpKeyI (a b : ByteArray) (ha : a.size < 1000000000000) (hb : b.size < 1000000000000) (ta : (R a).2 = true) (tb : (R b).2 = true) : ∃ c, Ev (fun k => impl_compareKeys.f k a b) c ∧ decide (0 ≤ c) = !less a b := by
 have la := R_len a
 have lb := R_len b
 have pa := z36 (R a).1
 have pb := z36 (R b).1
 obtain ⟨c, e, hc⟩ := z121 (prs (R a).1) (prs (R b).1) (by omega) (by omega)
 refine ⟨c, ?_, ?_⟩
 ·unfold impl_compareKeys.f
  exact Ev.bind (runesI a ha ta) (Ev.bind (runesI b hb tb) (Ev.bind (z100 _ (z52 a ta) (by omega)) (Ev.bind (z100 _ (z52 b tb) (by omega)) (Ev.bind e (Ev.now _)))))
 ·unfold less Lp
  rw [if_pos ⟨ta, tb⟩]
  simp only
  rw [← hc]
  by_cases h : c < 0
  ·rw [decide_eq_true h, decide_eq_false (by omega)]; rfl
  ·rw [decide_eq_false h, decide_eq_true (by omega)]; rfl
theorem z31 : ∀ (x : List Int), z4 x x = false
 | [] => rfl
 | a :: x => by simp [z4, z31 x]
theorem z27 : ∀ (x y z : List Int), z4 x y = true → z4 y z = true → z4 x z = true
 | _, [], _, h, _ => by simp [z4] at h
 | _, _ :: _, [], _, h => by simp [z4] at h
 | [], _ :: _, _ :: _, _, _ => rfl
 | a :: x, b :: y, c :: z, h, k => by
  simp only [z4, Bool.or_eq_true, decide_eq_true_eq, Bool.and_eq_true, beq_iff_eq] at h k ⊢
  rcases h with h | ⟨rfl, h⟩ <;> rcases k with k | ⟨rfl, k⟩
  ·exact .inl (Int.lt_trans h k)
  ·exact .inl h
  ·exact .inl k
  ·exact .inr ⟨rfl, z27 x y z h k⟩
def kp_ (a : ByteArray) : List Int := prs (R a).1
theorem z16 {a b : ByteArray} (ha : (R a).2 = true) (hb : (R b).2 = true) : less a b = z4 (kp_ a) (kp_ b) := by
 unfold less Lp
 rw [if_pos ⟨ha, hb⟩]; rfl
theorem kp_inj {a b : ByteArray} (ha : (R a).2 = true) (hb : (R b).2 = true) (h : kp_ a = kp_ b) : a = b := by
 have h1 := prs_inj (z52 a ha) (z52 b hb) h
 have ea : nb a = encs (R a).1 := by
  rcases e : R a with ⟨l, ok⟩
  rw [e] at ha; simp only at ha; subst ha
  exact (z109 e).2.1
 have eb : nb b = encs (R b).1 := by
  rcases e : R b with ⟨l, ok⟩
  rw [e] at hb; simp only at hb; subst hb
  exact (z109 e).2.1
 have e := toNat_inj (show a.data.toList.map UInt8.toNat = b.data.toList.map UInt8.toNat by show nb a = nb b; rw [ea, eb, h1])
 obtain ⟨⟨x⟩⟩ := a
 obtain ⟨⟨y⟩⟩ := b
 simp only at e
 subst e; rfl
theorem z57 {a b : ByteArray} (h : a.toList = b.toList) : a = b := by
 rw [ByteArray.toList_eq, ByteArray.toList_eq] at h
 obtain ⟨⟨x⟩⟩ := a
 obtain ⟨⟨y⟩⟩ := b
 simp only at h
 subst h; rfl
theorem z126 {a b : ByteArray} (ha : (R a).2 = true) (hb : (R b).2 = true) : less a b = true ∨ a = b ∨ less b a = true := by
 rw [z16 ha hb, z16 hb ha]
 cases h : z4 (kp_ a) (kp_ b) with
 | true => exact .inl rfl
 | false =>
  cases k : z4 (kp_ b) (kp_ a) with
  | true => exact .inr (.inr rfl)
  | false => exact .inr (.inl (kp_inj ha hb (z28 _ _ h k)))
theorem z42 {a : ByteArray} (ha : (R a).2 = true) : less a a = false := by rw [z16 ha ha]; exact z31 _
theorem less_asymm {a b : ByteArray} (ha : (R a).2 = true) (hb : (R b).2 = true) (h : less a b = true) : less b a = false := by
 rw [z16 ha hb] at h
 rw [z16 hb ha]
 exact z44 _ _ h
theorem z75 {a b c : ByteArray} (ha : (R a).2 = true) (hb : (R b).2 = true) (hc : (R c).2 = true) (h : less a b = true) (k : less b c = true) : less a c = true := by
 rw [z16 ha hb] at h
 rw [z16 hb hc] at k
 rw [z16 ha hc]
 exact z27 _ _ _ h k
def hdk (m : List S61) : ByteArray := (rd_T61 m 0).f0
def ile (x y : List S61) : Bool := !z4 (kp_ (hdk y)) (kp_ (hdk x))
theorem z103 (x y z : List S61) (h : ile x y = true) (k : ile y z = true) : ile x z = true := by
 unfold ile at *
 simp only [Bool.not_eq_true'] at *
 cases e : z4 (kp_ (hdk z)) (kp_ (hdk x)) with
 | false => rfl
 | true =>
  exfalso
  cases e1 : z4 (kp_ (hdk x)) (kp_ (hdk y)) with
  | true => rw [z27 _ _ _ e e1] at k; cases k
  | false => rw [z28 _ _ e1 h] at e; rw [e] at k; cases k
theorem ile_total (x y : List S61) : (ile x y || ile y x) = true := by
 unfold ile
 cases e : z4 (kp_ (hdk y)) (kp_ (hdk x)) with
 | false => rfl
 | true => rw [z44 _ _ e]; rfl
theorem ev_all {α : Type} (ms : List α) (cmp : Nat → α → α → Option Int) (V : α → α → Int) (h : ∀ x ∈ ms, ∀ y ∈ ms, Ev (fun k => cmp k x y) (V x y)) : ∃ K, ∀ k, K ≤ k → ∀ x ∈ ms, ∀ y ∈ ms, cmp k x y = some (V x y) := by
 have h1 : ∀ x ∈ ms, ∀ l : List α, (∀ y ∈ l, y ∈ ms) → ∃ K, ∀ k, K ≤ k → ∀ y ∈ l, cmp k x y = some (V x y) := by
  intro x hx l
  induction l with
  | nil => exact fun _ => ⟨0, fun k _ y hy => by cases hy⟩
  | cons a l ih =>
   intro hl
   obtain ⟨K1, h1⟩ := ih (fun y hy => hl y (List.mem_cons_of_mem _ hy))
   obtain ⟨K2, h2⟩ := h x hx a (hl a List.mem_cons_self)
   refine ⟨max K1 K2, fun k hk y hy => ?_⟩
   rcases List.mem_cons.1 hy with rfl | hy
   ·exact h2 k (by omega)
   ·exact h1 k (by omega) y hy
 have h2 : ∀ l : List α, (∀ x ∈ l, x ∈ ms) → ∃ K, ∀ k, K ≤ k → ∀ x ∈ l, ∀ y ∈ ms, cmp k x y = some (V x y) := by
  intro l
  induction l with
  | nil => exact fun _ => ⟨0, fun k _ x hx => by cases hx⟩
  | cons a l ih =>
   intro hl
   obtain ⟨K1, h3⟩ := ih (fun y hy => hl y (List.mem_cons_of_mem _ hy))
   obtain ⟨K2, h4⟩ := h1 a (hl a List.mem_cons_self) ms (fun _ hy => hy)
   refine ⟨max K1 K2, fun k hk x hx => ?_⟩
   rcases List.mem_cons.1 hx with rfl | hx
   ·exact h4 k (by omega)
   ·exact h3 k (by omega) x hx
 exact h2 ms (fun _ hx => hx)
theorem recordI (key : ByteArray) (ms : List (List S61)) (hp : ∀ x ∈ ms, 0 < x.length) (ht : ∀ x ∈ ms, (R (hdk x)).2 = true) (hs : ∀ x ∈ ms, (hdk x).size < 1000000000000) (hd : ms.Pairwise (fun x y => hdk x ≠ hdk y)) (hsum : rc_sum ms < 1099511627776) (hlen : ms.length < 1099511627776) :
  Ev (fun k => impl_record.f k key ms) (⟨key, 7, 0, ⟨#[]⟩, (ms.length : Int)⟩ :: (ms.mergeSort ile).flatten) := by
 have hc : ∀ x ∈ ms, ∀ y ∈ ms, ∃ c, Ev (fun k => impl_compareKeys.f k (hdk x) (hdk y)) c ∧ decide (0 ≤ c) = !less (hdk x) (hdk y) := fun x hx y hy => cmpKeyI _ _ (hs x hx) (hs y hy) (ht x hx) (ht y hy)
 obtain ⟨V, hV⟩ : ∃ V : List S61 → List S61 → Int, ∀ x ∈ ms, ∀ y ∈ ms, Ev (fun k => impl_compareKeys.f k (hdk x) (hdk y)) (V x y) ∧ decide (0 ≤ V x y) = !less (hdk x) (hdk y) := by
  classical
  refine ⟨fun x y => if h : ∃ c, Ev (fun k => impl_compareKeys.f k (hdk x) (hdk y)) c ∧ decide (0 ≤ c) = !less (hdk x) (hdk y) then h.choose else 0, fun x hx y hy => ?_⟩
  have h := hc x hx y hy
  simp only [h, dif_pos]
  exact h.choose_spec
 obtain ⟨K, hK⟩ := ev_all ms (fun k x y => impl_compareKeys.f k (hdk x) (hdk y)) V (fun x hx y hy => (hV x hx y hy).1)
 refine ⟨K, fun k hk => ?_⟩
 have hcmp : ∀ x ∈ ms, ∀ y ∈ ms, impl_compareKeys.f k (hdk x) (hdk y) = some (V x y) := hK k hk
 have hlt : ∀ x ∈ ms, ∀ y ∈ ms, rc_lt k x y = z4 (kp_ (hdk x)) (kp_ (hdk y)) := fun x hx y hy => by
  unfold rc_lt rc_cmpK
  have h1 := hcmp x hx y hy
  unfold hdk at h1
  rw [h1, ← z16 (ht x hx) (ht y hy)]
  have h2 := (hV x hx y hy).2
  show decide (V x y < 0) = _
  cases e : less (hdk x) (hdk y) with
  | true => rw [e] at h2; exact decide_eq_true (by have := of_decide_eq_false h2; omega)
  | false => rw [e] at h2; exact decide_eq_false (by have := of_decide_eq_true h2; omega)
 have ok : rc_ok k ms := by
  refine ⟨hp, fun x hx y hy => ⟨_, hcmp x hx y hy⟩, fun x hx => ?_, fun x hx y hy z hz a b => ?_, fun x hx y hy z hz a b => ?_, ?_, hsum, hlen⟩
  ·rw [hlt x hx x hx]; exact z31 _
  ·rw [hlt x hx y hy] at a; rw [hlt y hy z hz] at b; rw [hlt x hx z hz]; exact z27 _ _ _ a b
  ·rw [hlt x hx y hy] at a; rw [hlt y hy z hz] at b; rw [hlt x hx z hz]
   have := z103 z y x (by unfold ile; rw [b]; rfl) (by unfold ile; rw [a]; rfl)
   unfold ile at this
   simpa using this
  ·refine hd.imp_of_mem (fun {x y} hx hy h => ?_)
   rw [hlt x hx y hy, hlt y hy x hx, ← z16 (ht x hx) (ht y hy), ← z16 (ht y hy) (ht x hx)]
   rcases z126 (ht x hx) (ht y hy) with a | a | a
   ·exact .inl a
   ·exact absurd a h
   ·exact .inr a
 show impl_record.f k key ms = _
 unfold impl_record.f
 rw [if_pos ok]
 have : rc_sorted k ms = ms.mergeSort ile := by
  unfold rc_sorted
  have h := List.map_mergeSort (r := fun x y => !rc_lt k y x) (s := ile) (f := id) (l := ms) (fun a ha b hb => by simp only [id]; unfold ile; rw [hlt b hb a ha])
  rw [List.map_id, List.map_id] at h
  exact h
 rw [this]
theorem sorted_is (ms tg : List (List S61)) (hp : tg.Perm ms) (ht : ∀ x ∈ tg, (R (hdk x)).2 = true) (ho : tg.Pairwise (fun x y => less (hdk x) (hdk y) = true)) : ms.mergeSort ile = tg := by
 have h1 := List.pairwise_mergeSort z103 ile_total ms
 have h2 : tg.Pairwise (fun a b => ile a b = true) := ho.imp_of_mem (fun {x y} hx hy h => by
  unfold ile
  rw [← z16 (ht y hy) (ht x hx), less_asymm (ht x hx) (ht y hy) h]; rfl)
 have hpm : (ms.mergeSort ile).Perm tg := (List.mergeSort_perm ms ile).trans hp.symm
 refine List.Perm.eq_of_pairwise (le := fun a b => ile a b = true) (fun a b ha hb h3 h4 => ?_) h1 h2 hpm
 have ha' := hpm.mem_iff.1 ha
 have hk : kp_ (hdk a) = kp_ (hdk b) := by
  unfold ile at h3 h4
  simp only [Bool.not_eq_true'] at h3 h4
  exact (z28 _ _ h3 h4).symm
 have hkey := kp_inj (ht a ha') (ht b hb) hk
 obtain ⟨i, hi, rfl⟩ := List.mem_iff_getElem.1 ha'
 obtain ⟨j, hj, rfl⟩ := List.mem_iff_getElem.1 hb
 rcases Nat.lt_trichotomy i j with h | h | h
 ·have := List.pairwise_iff_getElem.1 ho i j hi hj h
  rw [hkey, z42 (ht _ (List.getElem_mem hj))] at this; cases this
 ·subst h; rfl
 ·have := List.pairwise_iff_getElem.1 ho j i hj hi h
  rw [hkey, z42 (ht _ (List.getElem_mem hj))] at this; cases this
def z11 (x : S61) : Bool :=
 if x.f1 = 1 ∨ x.f1 = 2 ∨ x.f1 = 3 then x.f2 == 0 && (x.f3.toList.isEmpty && x.f4 == 0)
 else if x.f1 = 4 then decide (-9007199254740991 ≤ x.f2 ∧ x.f2 ≤ 9007199254740991) && (x.f3.toList.isEmpty && x.f4 == 0)
 else if x.f1 = 5 then x.f2 == 0 && ((R x.f3).2 && x.f4 == 0)
 else if x.f1 = 6 ∨ x.f1 = 7 then x.f2 == 0 && x.f3.toList.isEmpty
 else false
theorem isTextI (s : ByteArray) (hs : s.size < 1000000000000) : Ev (fun k => impl_isText.f k s) (R s).2 := by
 unfold impl_isText.f
 exact Ev.bind (z60 s hs) (Ev.now _)
theorem z92 (s : ByteArray) (hs : s.size < 1000000000000) : Ev (fun k => spec_l7Runes.f k s) (R s).2 := by
 unfold spec_l7Runes.f
 exact Ev.bind (z41 s hs) (Ev.now _)
theorem z83 (a b c : Int) : impl_within.f a b c = some (decide (b ≤ a ∧ a ≤ c)) := by
 unfold impl_within.f
 by_cases h : a ≥ b
 ·rw [if_pos h]; simp [h]
 ·rw [if_neg h]; simp; intro h2; omega
theorem z110 (a b c : Int) : spec_l1In.f a b c = some (decide (b ≤ a ∧ a ≤ c)) := by
 unfold spec_l1In.f
 by_cases h : a ≥ b
 ·rw [if_pos h]; simp [h]
 ·rw [if_neg h]; simp; intro h2; omega
theorem z14 (l : List UInt8) : (l == ([] : List UInt8)) = l.isEmpty := by cases l <;> rfl
theorem isEmpty_iff (l : List UInt8) : l = ([] : List UInt8) ↔ l.isEmpty = true := by cases l <;> simp
theorem isNodeI (x : S61) (hs : x.f3.size < 1000000000000) : Ev (fun k => impl_isNode.f k x.f0 x.f1 x.f2 x.f3 x.f4) (z11 x) := by
 unfold impl_isNode.f z11
 have hz : ((⟨#[]⟩ : ByteArray).toList == ([] : List UInt8)) = true := by rw [ByteArray.toList]; unfold ByteArray.toList.loop; rfl
 by_cases c1 : x.f1 = 1
 ·simp only [c1, if_true]
  refine Ev.step (f := fun _ => some (x.f2 == 0 && (x.f3.toList.isEmpty && x.f4 == 0))) (fun k => ?_) (Ev.now _)
  simp only [impl_isNode.j0]
  simp [hz, z14]
 by_cases c2 : x.f1 = 2
 ·simp only [c2]
  refine Ev.step (f := fun _ => some (x.f2 == 0 && (x.f3.toList.isEmpty && x.f4 == 0))) (fun k => ?_) (Ev.now _)
  simp only [impl_isNode.j0]
  simp [hz, z14]
 by_cases c3 : x.f1 = 3
 ·simp only [c3]
  refine Ev.step (f := fun _ => some (x.f2 == 0 && (x.f3.toList.isEmpty && x.f4 == 0))) (fun k => ?_) (Ev.now _)
  simp only [impl_isNode.j0]
  simp [hz, z14]
 have c3b : (x.f1 == 3) = false := beq_eq_false_iff_ne.mpr c3
 simp only [c1, c2, c3, c3b, if_false, or_false, false_or]
 by_cases c4 : x.f1 = 4
 ·simp only [c4, if_true]
  refine Ev.step (f := fun _ => some (decide (-9007199254740991 ≤ x.f2 ∧ x.f2 ≤ 9007199254740991) && (x.f3.toList.isEmpty && x.f4 == 0))) (fun k => ?_) (Ev.now _)
  simp only [impl_isNode.j0, z83, hz, z14, Bool.false_eq_true, if_false, if_true, Option.bind_some]
  cases x.f3.toList.isEmpty <;> cases (x.f4 == 0) <;> simp
 by_cases c5 : x.f1 = 5
 ·simp only [c5, c4, if_true, if_false]
  refine Ev.step (f := fun k => if (x.f2 == 0 && x.f4 == 0) = true then (impl_isText.f k x.f3).bind fun t => some t else some false) (fun k => ?_) ?_
  ·simp only [impl_isNode.j0, hz, Bool.false_eq_true, if_false, if_true, Bool.true_and, show ((0 : Int) == 0) = true from rfl]
   rfl
  ·cases (x.f2 == 0) <;> cases (x.f4 == 0) <;> simp only [Bool.false_and, Bool.and_false, Bool.true_and, Bool.and_true, if_true, if_false, Bool.false_eq_true]
   ·exact Ev.now _
   ·exact Ev.now _
   ·exact Ev.now _
   ·exact Ev.bind (isTextI _ hs) (Ev.now _)
 by_cases c6 : x.f1 = 6
 ·simp only [c6]
  refine Ev.step (f := fun _ => some (x.f2 == 0 && x.f3.toList.isEmpty)) (fun k => ?_) (Ev.now _)
  simp only [impl_isNode.j0]
  simp [hz, z14]
 by_cases c7 : x.f1 = 7
 ·simp only [c7]
  refine Ev.step (f := fun _ => some (x.f2 == 0 && x.f3.toList.isEmpty)) (fun k => ?_) (Ev.now _)
  simp only [impl_isNode.j0]
  simp [hz, z14]
 simp only [c4, c5, c6, c7, if_false, or_self]
 refine Ev.step (f := fun _ => some false) (fun k => ?_) (Ev.now _)
 simp only [impl_isNode.j0, c4, c5, c6, c7, if_false, Bool.false_eq_true]
def z39 (x : S61) (ir : Bool) : Bool := (ir || x.f0.toList.isEmpty) && ((R x.f0).2 && (z11 x && (decide (x.f1 < 6) || decide (0 ≤ x.f4 ∧ x.f4 ≤ 40))))
theorem z64 (x : S61) (hs : x.f3.size < 1000000000000) (b : Bool) : Ev (fun k => spec_l7Node.j0 k (!b) x.f0 x.f1 x.f2 x.f3 x.f4) (b && (z11 x && (decide (x.f1 < 6) || decide (0 ≤ x.f4 ∧ x.f4 ≤ 40)))) := by
 cases b with
 | false => exact Ev.step (f := fun _ => some false) (fun k => by simp [spec_l7Node.j0]) (Ev.now _)
 | true =>
 unfold z11
 simp only [Bool.not_true, Bool.true_and]
 by_cases c1 : x.f1 = 1
 ·refine Ev.step (f := fun k => spec_l7Node.j1 k 1 true x.f0 1 x.f2 x.f3 x.f4) (fun k => by simp [spec_l7Node.j0, c1]) (Ev.step (f := fun _ => some (x.f2 == 0 && (x.f3.toList.isEmpty && x.f4 == 0))) (fun k => ?_) (by simp [c1]; exact Ev.now _))
  simp only [spec_l7Node.j1, if_true, isEmpty_iff]
  by_cases h2 : x.f2 = 0 <;> cases x.f3.toList.isEmpty <;> simp [h2]
 by_cases c2 : x.f1 = 2
 ·refine Ev.step (f := fun k => spec_l7Node.j1 k 2 true x.f0 2 x.f2 x.f3 x.f4) (fun k => by simp [spec_l7Node.j0, c2]) (Ev.step (f := fun _ => some (x.f2 == 0 && (x.f3.toList.isEmpty && x.f4 == 0))) (fun k => ?_) (by simp [c2]; exact Ev.now _))
  simp only [spec_l7Node.j1, if_true, isEmpty_iff]
  by_cases h2 : x.f2 = 0 <;> cases x.f3.toList.isEmpty <;> simp [h2]
 by_cases c3 : x.f1 = 3
 ·refine Ev.step (f := fun k => spec_l7Node.j1 k 3 true x.f0 3 x.f2 x.f3 x.f4) (fun k => by simp [spec_l7Node.j0, c3]) (Ev.step (f := fun _ => some (x.f2 == 0 && (x.f3.toList.isEmpty && x.f4 == 0))) (fun k => ?_) (by simp [c3]; exact Ev.now _))
  simp only [spec_l7Node.j1, if_true, isEmpty_iff]
  by_cases h2 : x.f2 = 0 <;> cases x.f3.toList.isEmpty <;> simp [h2]
 have c3b : (x.f1 == 3) = false := beq_eq_false_iff_ne.mpr c3
 refine Ev.step (f := fun k => spec_l7Node.j1 k x.f1 false x.f0 x.f1 x.f2 x.f3 x.f4) (fun k => by simp [spec_l7Node.j0, c1, c2, c3b]) ?_
 simp only [c1, c2, c3, or_false, false_or, if_false]
 by_cases c4 : x.f1 = 4
 ·refine Ev.step (f := fun _ => some (decide (-9007199254740991 ≤ x.f2 ∧ x.f2 ≤ 9007199254740991) && (x.f3.toList.isEmpty && x.f4 == 0))) (fun k => ?_) (by simp [c4]; exact Ev.now _)
  simp only [spec_l7Node.j1, c4, if_true, Bool.false_eq_true, if_false, isEmpty_iff, z110, Option.bind_some]
  cases x.f3.toList.isEmpty <;> by_cases h : (-9007199254740991 ≤ x.f2 ∧ x.f2 ≤ 9007199254740991) <;> simp [h]
 by_cases c5 : x.f1 = 5
 ·refine Ev.step (f := fun k => if x.f2 = 0 then (spec_l7Runes.f k x.f3).bind fun t => if t = true then some (x.f4 == 0) else some false else some false) (fun k => by simp [spec_l7Node.j1, c5]) ?_
  by_cases h : x.f2 = 0
  ·simp only [h, if_true, c5]
   refine Ev.bind (z92 _ hs) ?_
   cases (R x.f3).2 <;> simp <;> exact Ev.now _
  ·have hb : (x.f2 == 0) = false := beq_eq_false_iff_ne.mpr h
   simp only [h, if_false, hb, Bool.false_and, c5, if_true]; simp; exact Ev.now _
 by_cases c6 : x.f1 = 6
 ·refine Ev.step (f := fun _ => some ((x.f2 == 0 && x.f3.toList.isEmpty) && decide (0 ≤ x.f4 ∧ x.f4 ≤ 40))) (fun k => ?_) (by simp [c6]; exact Ev.now _)
  simp only [spec_l7Node.j1, c6, if_false, if_true, Bool.false_eq_true, isEmpty_iff, z110, Option.bind_some]
  by_cases h2 : x.f2 = 0 <;> cases x.f3.toList.isEmpty <;> simp [h2]
 by_cases c7 : x.f1 = 7
 ·refine Ev.step (f := fun _ => some ((x.f2 == 0 && x.f3.toList.isEmpty) && decide (0 ≤ x.f4 ∧ x.f4 ≤ 40))) (fun k => ?_) (by simp [c7]; exact Ev.now _)
  simp only [spec_l7Node.j1, c7, if_false, if_true, Bool.false_eq_true, isEmpty_iff, z110, Option.bind_some]
  by_cases h2 : x.f2 = 0 <;> cases x.f3.toList.isEmpty <;> simp [h2]
 refine Ev.step (f := fun _ => some false) (fun k => ?_) (by simp [c4, c5, c6, c7]; exact Ev.now _)
 simp [spec_l7Node.j1, c4, c5, c6, c7]
theorem l7NodeS (x : S61) (ir : Bool) (h0 : x.f0.size < 1000000000000) (hs : x.f3.size < 1000000000000) : Ev (fun k => spec_l7Node.f k x.f0 x.f1 x.f2 x.f3 x.f4 ir) (z39 x ir) := by
 unfold spec_l7Node.f z39
 cases ir with
 | true =>
  simp only [if_true, Bool.true_or, Bool.true_and]
  exact Ev.bind (z92 _ h0) (z64 x hs _)
 | false =>
  simp only [Bool.false_eq_true, if_false, Bool.false_or, isEmpty_iff]
  cases x.f0.toList.isEmpty with
  | true => simp only [if_true, Bool.true_and]; exact Ev.bind (z92 _ h0) (z64 x hs _)
  | false => simp only [Bool.false_eq_true, if_false, Bool.false_and]; exact z64 x hs false
def Sl (g : List S61 → Bool → Option (T7 × List S61)) (x : S61) : Nat → List T7 → List S61 → Option (T7 × List S61)
 | 0, acc, l => some (.mk x acc, l)
 | n + 1, acc, l => (g l (x.f1 == 7)).bind fun r => if x.f1 = 7 ∧ 0 < acc.length then acc.getLast?.bind fun u => if less u.x.f0 r.1.x.f0 = true then Sl g x n (acc ++ [r.1]) r.2 else none else Sl g x n (acc ++ [r.1]) r.2
def Sp : Nat → List S61 → Bool → Option (T7 × List S61)
 | 0, _, _ => none
 | d + 1, l, ir => l.head?.bind fun x => if z39 x ir = true then Sl (Sp d) x x.f4.toNat [] l.tail else none
theorem z108 {g : List S61 → Bool → Option (T7 × List S61)} (hg : ∀ l ir t r, g l ir = some (t, r) → r <:+ l) (x : S61) : ∀ (n : Nat) (acc : List T7) (l : List S61) (t : T7) (r : List S61), Sl g x n acc l = some (t, r) → r <:+ l ∧ t.x = x
 | 0, acc, l, t, r, h => by
  simp only [Sl, Option.some.injEq, Prod.mk.injEq] at h
  rw [← h.1, ← h.2]; exact ⟨List.suffix_refl _, rfl⟩
 | n + 1, acc, l, t, r, h => by
  simp only [Sl] at h
  obtain ⟨⟨t1, r1⟩, h1, h⟩ := Option.bind_eq_some_iff.mp h
  have h0 := hg _ _ _ _ h1
  have key : Sl g x n (acc ++ [t1]) r1 = some (t, r) := by
   by_cases c : x.f1 = 7 ∧ 0 < acc.length
   ·rw [if_pos c] at h
    obtain ⟨u, _, h⟩ := Option.bind_eq_some_iff.mp h
    by_cases e : less u.x.f0 t1.x.f0 = true
    ·rw [if_pos e] at h; exact h
    ·rw [if_neg e] at h; cases h
   ·rw [if_neg c] at h; exact h
  obtain ⟨a, b⟩ := z108 hg x n (acc ++ [t1]) r1 t r key
  exact ⟨a.trans h0, b⟩
theorem z107 : ∀ (d : Nat) (l : List S61) (ir : Bool) (t : T7) (r : List S61), Sp d l ir = some (t, r) → r <:+ l ∧ t.x ∈ l ∧ r.length < l.length
 | 0, l, ir, t, r, h => by cases h
 | d + 1, l, ir, t, r, h => by
  simp only [Sp] at h
  obtain ⟨x, hx, h⟩ := Option.bind_eq_some_iff.mp h
  by_cases c : z39 x ir = true
  ·rw [if_pos c] at h
   obtain ⟨a, b⟩ := z108 (fun l ir t r h => (z107 d l ir t r h).1) x _ _ _ t r h
   cases l with
   | nil => cases hx
   | cons y l =>
    injection hx with hx
    subst hx
    refine ⟨a.trans (List.suffix_cons _ _), by rw [b]; simp, ?_⟩
    have := a.length_le
    simp only [List.tail_cons, List.length_cons] at this ⊢
    omega
  ·rw [if_neg c] at h; cases h
def res (n : Nat) : Option (T7 × List S61) → Option T7 × Int
 | none => (none, -1)
 | some (t, r) => (some t, (n : Int) - r.length)
theorem drop_suffix {l r : List S61} {a : Nat} (h : r <:+ l.drop a) : r = l.drop (l.length - r.length) :=
 List.suffix_iff_eq_drop.1 (h.trans (List.drop_suffix a l))
theorem z122 (l : List S61) (hl : l.length ≤ 40) (hs : ∀ x ∈ l, x.f0.size < 1000000000000 ∧ x.f3.size < 1000000000000) (d a : Nat) (dp : Int) (x : S61) (hx : rd_T61 l a = x) (hdp : wrap64 (dp + 1) = dp + 1)
  (ih : ∀ (b : Nat) (ir : Bool), b ≤ l.length → Ev (fun k => spec_l7Tree.f k l b (dp + 1) ir) (res l.length (Sp d (l.drop b) ir))) : ∀ (n : Nat) (acc : List T7) (b : Nat), b ≤ l.length → acc.length + n = x.f4.toNat → acc.length + n ≤ 40 → (∀ u ∈ acc, u.x ∈ l) →
   Ev (fun k => spec_l7Tree.l k l a dp acc.length acc b) (res l.length (Sl (Sp d) x n acc (l.drop b)))
 | 0, acc, b, hb, hn, h40, hacc => by
  refine Ev.step (f := fun _ => some (some (.mk x acc), (b : Int))) (fun k => ?_) ?_
  ·rw [spec_l7Tree.l, hx, if_neg (by omega)]
  ·simp only [Sl, res, List.length_drop]
   rw [show ((l.length : Int) - ((l.length - b : Nat) : Int)) = b by omega]
   exact Ev.now _
 | n + 1, acc, b, hb, hn, h40, hacc => by
  refine Ev.step (f := fun k => (spec_l7Tree.f k l b (dp + 1) (x.f1 == 7)).bind fun r => if r.2 < 0 then some (none, -1) else r.1.bind fun t =>
     if x.f1 = 7 ∧ 0 < (acc.length : Int) then acc.getLast?.bind fun u => (spec_l7LessKey.f k u.x.f0 t.x.f0).bind fun b => if b = true then spec_l7Tree.l k l a dp (acc.length + 1) (acc ++ [t]) r.2 else some (none, -1)
     else spec_l7Tree.l k l a dp (acc.length + 1) (acc ++ [t]) r.2) (fun k => ?_) ?_
  ·rw [spec_l7Tree.l, hx, if_pos (by omega), if_pos (by omega), hdp, w64 (n := (acc.length : Int) + 1) (by omega) (by omega)]
  ·refine Ev.bind (ih b _ hb) ?_
   simp only [Sl]
   cases e : Sp d (l.drop b) (x.f1 == 7) with
   | none => simp only [res, Option.bind_none]; exact Ev.now _
   | some v =>
    obtain ⟨t, r⟩ := v
    obtain ⟨s1, s2, s3⟩ := z107 _ _ _ _ _ e
    have hr := drop_suffix s1
    have hrl : r.length ≤ l.length := Nat.le_trans s1.length_le (by rw [List.length_drop]; omega)
    have htl : t.x ∈ l := List.mem_of_mem_drop s2
    have hnn : ¬ ((l.length : Int) - r.length < 0) := by omega
    have next := z122 l hl hs d a dp x hx hdp ih n (acc ++ [t]) (l.length - r.length) (by omega) (by rw [List.length_append, List.length_singleton]; omega) (by rw [List.length_append, List.length_singleton]; omega) (fun u hu => by
     rcases List.mem_append.1 hu with h | h
     ·exact hacc u h
     ·rw [List.mem_singleton.1 h]; exact htl)
    rw [← hr, List.length_append, List.length_singleton, show (((l.length - r.length : Nat) : Int)) = (l.length : Int) - r.length by omega, show ((acc.length + 1 : Nat) : Int) = (acc.length : Int) + 1 by omega] at next
    simp only [res, hnn, if_false, Option.bind_some]
    by_cases c : x.f1 = 7 ∧ 0 < acc.length
    ·rw [if_pos c]
     simp only [if_pos (show x.f1 = 7 ∧ 0 < (acc.length : Int) from ⟨c.1, by omega⟩)]
     cases g : acc.getLast? with
     | none => rw [List.getLast?_eq_none_iff.1 g] at c; simp at c
     | some u =>
      have hu := hacc u (List.mem_of_getLast? g)
      simp only [Option.bind_some]
      refine Ev.bind (z127 _ _ (hs _ hu).1 (hs _ htl).1) ?_
      cases less u.x.f0 t.x.f0 with
      | true => simp only [if_true]; exact next
      | false => simp only [Bool.false_eq_true, if_false, res]; exact Ev.now _
    ·rw [if_neg c]
     simp only [if_neg (show ¬ (x.f1 = 7 ∧ 0 < (acc.length : Int)) from fun h => c ⟨h.1, by omega⟩)]
     exact next
theorem treeEv (l : List S61) (hl : l.length ≤ 40) (hs : ∀ x ∈ l, x.f0.size < 1000000000000 ∧ x.f3.size < 1000000000000) : ∀ (d : Nat), d ≤ 6 → ∀ (a : Nat) (ir : Bool), a ≤ l.length → Ev (fun k => spec_l7Tree.f k l a (7 - d) ir) (res l.length (Sp d (l.drop a) ir))
 | 0, _, a, ir, ha => by
  refine Ev.step (f := fun _ => some (none, -1)) (fun k => ?_) (Ev.now _)
  rw [spec_l7Tree.f]
  by_cases c : (a : Int) ≥ l.length
  ·rw [if_pos c]
  ·rw [if_neg c, if_pos (by omega)]
 | d + 1, hd, a, ir, ha => by
  by_cases c : (a : Int) ≥ l.length
  ·refine Ev.step (f := fun _ => some (none, -1)) (fun k => by rw [spec_l7Tree.f, if_pos c]) ?_
   rw [List.drop_of_length_le (by omega)]
   exact Ev.now _
  have ha' : a < l.length := by omega
  obtain ⟨x, hx⟩ : ∃ x, x = rd_T61 l a := ⟨_, rfl⟩
  have he : x = l[a] := by rw [hx]; simp [rd_T61, List.getD_eq_getElem?_getD, ha']
  have hxm : x ∈ l := by rw [he]; exact List.getElem_mem ha'
  refine Ev.step (f := fun k => (spec_l7Node.f k x.f0 x.f1 x.f2 x.f3 x.f4 ir).bind fun b => if b = true then spec_l7Tree.l k l a (7 - ((d + 1 : Nat) : Int)) 0 [] (a + 1) else some (none, -1)) (fun k => ?_) ?_
  ·rw [spec_l7Tree.f, if_neg c, if_neg (by omega), if_pos (by omega), ← hx, w64 (n := (a : Int) + 1) (by omega) (by omega)]
  ·refine Ev.bind (l7NodeS x ir (hs x hxm).1 (hs x hxm).2) ?_
   rw [List.drop_eq_getElem_cons ha', ← he]
   simp only [Sp, List.head?_cons, List.tail_cons, Option.bind_some]
   cases n : z39 x ir with
   | false => simp only [Bool.false_eq_true, if_false, res]; exact Ev.now _
   | true =>
    simp only [if_true]
    have h40 : x.f4.toNat ≤ 40 := by
     unfold z39 z11 at n
     simp only [Bool.and_eq_true, Bool.or_eq_true, decide_eq_true_eq] at n
     obtain ⟨_, _, n1, n2⟩ := n
     rcases n2 with h | h
     ·split at n1
      ·simp only [Bool.and_eq_true, beq_iff_eq] at n1; omega
      ·split at n1
       ·simp only [Bool.and_eq_true, beq_iff_eq] at n1; omega
       ·split at n1
        ·simp only [Bool.and_eq_true, beq_iff_eq] at n1; omega
        ·split at n1
         ·omega
         ·cases n1
     ·omega
    have := z122 l hl hs d a (7 - ((d + 1 : Nat) : Int)) x hx.symm (w64 (by omega) (by omega)) (fun b ir2 hb => by
     have := treeEv l hl hs d (by omega) b ir2 hb
     rw [show (7 - ((d + 1 : Nat) : Int)) + 1 = 7 - (d : Int) by omega]
     exact this) x.f4.toNat [] (a + 1) (by omega) (by simp) (by simpa using h40) (fun u hu => by cases hu)
    simpa using this
def z2 (l : List S61) : Bool := decide (l.length ≤ 40) && (match Sp 6 l false with | some (_, r) => r.isEmpty | none => false)
theorem ofS (l : List S61) (hl : l.length ≤ 40) (hs : ∀ x ∈ l, x.f0.size < 1000000000000 ∧ x.f3.size < 1000000000000) : Ev (fun k => spec_l7Of.f k l) ((res l.length (Sp 6 l false)).1, (res l.length (Sp 6 l false)).2 == (l.length : Int)) := by
 unfold spec_l7Of.f
 simp only [show ¬ (l.length : Int) > 40 by omega, if_false]
 have := treeEv l hl hs 6 (Nat.le_refl _) 0 false (by omega)
 simp only [List.drop_zero] at this
 exact Ev.bind this (Ev.now _)
theorem z86 (l : List S61) (v : Option (T7 × List S61)) : ((res l.length v).2 == (l.length : Int)) = (match v with | some (_, r) => r.isEmpty | none => false) := by
 cases v with
 | none => simp only [res]; exact beq_eq_false_iff_ne.mpr (by omega)
 | some v =>
  obtain ⟨t, r⟩ := v
  simp only [res]
  cases r with
  | nil => simp
  | cons y r => simp only [List.length_cons, List.isEmpty_cons]; exact beq_eq_false_iff_ne.mpr (by omega)
mutual
def flat : T7 → List S61
 | .mk x l => x :: z0 l
def z0 : List T7 → List S61
 | [] => []
 | t :: l => flat t ++ z0 l
end
mutual
def Sh : T7 → Prop
 | .mk x l => (x.f1 < 6 → l = []) ∧ (6 ≤ x.f1 → x.f4 = l.length ∧ l.length ≤ 40) ∧ Shs l
def Shs : List T7 → Prop
 | [] => True
 | t :: l => Sh t ∧ Shs l
end
def z37 (ir : Bool) (x : S61) : Bool := (ir || x.f0.toList.isEmpty) && (R x.f0).2
def z55 (kind : Int) (key last : ByteArray) (fst : Bool) : Bool :=
 if kind = 7 then (if (R key).2 = true then (if fst = true then false else !less last key) else true) else if kind = 6 then !key.toList.isEmpty else false
def Pl (g : T7 → Bool) (x : S61) : ByteArray → Bool → List T7 → Bool
 | _, _, [] => true
 | last, fst, t :: l => !z55 x.f1 t.x.f0 last fst && (g t && Pl g x t.x.f0 false l)
def Pt : Nat → T7 → Bool
 | 0, _ => false
 | d + 1, t => z11 t.x && Pl (Pt d) t.x ⟨#[]⟩ true t.kids
def z43 (acc : List T7) : ByteArray := match acc.getLast? with | some u => u.x.f0 | none => ⟨#[]⟩
theorem z49 (s : ByteArray) (h : s.toList.isEmpty = true) : (R s).2 = true := by
 have hs : s.toList = [] := List.isEmpty_iff.1 h
 have hn : nb s = encs [] := by
  rw [ByteArray.toList_eq] at hs
  unfold nb
  rw [hs]
  rfl
 have := R_mk (s := s) (l := []) (fun n hn => by cases hn) hn (by simp)
 rw [this]
theorem z129 (x t : S61) (acc : List T7) (hk : x.f1 = 6 ∨ x.f1 = 7) : (z37 (x.f1 == 7) t = true ∧ (x.f1 = 7 ∧ 0 < acc.length → ∃ u, acc.getLast? = some u ∧ less u.x.f0 t.f0 = true)) ↔ z55 x.f1 t.f0 (z43 acc) acc.isEmpty = false := by
 unfold z37 z55
 rcases hk with h | h
 ·rw [h]
  simp only [show ((6 : Int) == 7) = false from rfl, Bool.false_or, show ¬ ((6 : Int) = 7) by decide, if_false, if_true, false_and]
  constructor
  ·rintro ⟨a, _⟩
   simp only [Bool.and_eq_true] at a
   rw [a.1]; rfl
  ·intro a
   have a : t.f0.toList.isEmpty = true := by cases e : t.f0.toList.isEmpty <;> simp_all
   rw [a, z49 _ a]
   exact ⟨rfl, fun h => h.elim⟩
 ·rw [h]
  simp only [show ((7 : Int) == 7) = true from rfl, Bool.true_or, Bool.true_and, if_true, true_and]
  cases e : (R t.f0).2 with
  | false => simp
  | true =>
   simp only [if_true, true_and]
   rcases List.eq_nil_or_concat acc with rfl | ⟨a, u, rfl⟩
   ·simp
   ·simp [z43]
theorem Sl_iff (g : List S61 → Bool → Option (T7 × List S61)) (p : T7 → Bool) (hg : ∀ l ir t r, g l ir = some (t, r) ↔ l = flat t ++ r ∧ Sh t ∧ z37 ir t.x = true ∧ p t = true) (x : S61) :
  ∀ (n : Nat) (acc : List T7) (l : List S61) (t : T7) (r : List S61), (n = 0 ∨ x.f1 = 6 ∨ x.f1 = 7) → (Sl g x n acc l = some (t, r) ↔ ∃ ts, ts.length = n ∧ t = .mk x (acc ++ ts) ∧ l = z0 ts ++ r ∧ Shs ts ∧ Pl p x (z43 acc) acc.isEmpty ts = true)
 | 0, acc, l, t, r, _ => by
  simp only [Sl, Option.some.injEq, Prod.mk.injEq]
  constructor
  ·rintro ⟨rfl, rfl⟩; exact ⟨[], rfl, by simp, by simp [z0], by simp [Shs], rfl⟩
  ·rintro ⟨ts, h1, h2, h3, _, _⟩
   obtain rfl := List.length_eq_zero_iff.1 h1
   exact ⟨by rw [h2]; simp, by rw [h3]; simp [z0]⟩
 | n + 1, acc, l, t, r, hn => by
  have hk : x.f1 = 6 ∨ x.f1 = 7 := by
   rcases hn with h | h
   ·cases h
   ·exact h
  have hlast : ∀ t1 : T7, z43 (acc ++ [t1]) = t1.x.f0 ∧ (acc ++ [t1]).isEmpty = false := fun t1 => by simp [z43]
  constructor
  ·intro h
   simp only [Sl] at h
   obtain ⟨⟨t1, r1⟩, h1, h⟩ := Option.bind_eq_some_iff.mp h
   obtain ⟨g1, g2, g3, g4⟩ := (hg _ _ _ _).1 h1
   have key : (x.f1 = 7 ∧ 0 < acc.length → ∃ u, acc.getLast? = some u ∧ less u.x.f0 t1.x.f0 = true) ∧ Sl g x n (acc ++ [t1]) r1 = some (t, r) := by
    by_cases c : x.f1 = 7 ∧ 0 < acc.length
    ·rw [if_pos c] at h
     obtain ⟨u, hu, h⟩ := Option.bind_eq_some_iff.mp h
     by_cases e : less u.x.f0 t1.x.f0 = true
     ·rw [if_pos e] at h; exact ⟨fun _ => ⟨u, hu, e⟩, h⟩
     ·rw [if_neg e] at h; cases h
    ·rw [if_neg c] at h; exact ⟨fun h => absurd h c, h⟩
   obtain ⟨ts, i1, i2, i3, i4, i5⟩ := (Sl_iff g p hg x n (acc ++ [t1]) r1 t r (Or.inr hk)).1 key.2
   refine ⟨t1 :: ts, by simp [i1], by rw [i2]; simp, by rw [g1, i3]; simp [z0], by simp only [Shs]; exact ⟨g2, i4⟩, ?_⟩
   simp only [Pl]
   rw [(z129 x t1.x acc hk).1 ⟨g3, key.1⟩, g4]
   rw [(hlast t1).1, (hlast t1).2] at i5
   rw [i5]; rfl
  ·rintro ⟨ts, i1, i2, i3, i4, i5⟩
   cases ts with
   | nil => cases i1
   | cons t1 ts =>
    simp only [Pl, Bool.and_eq_true, Bool.not_eq_true'] at i5
    obtain ⟨b1, b2, b3⟩ := i5
    obtain ⟨k1, k2⟩ := (z129 x t1.x acc hk).2 b1
    simp only [Shs] at i4
    have h1 : g l (x.f1 == 7) = some (t1, z0 ts ++ r) := (hg _ _ _ _).2 ⟨by rw [i3]; simp [z0], i4.1, k1, b2⟩
    have h2 : Sl g x n (acc ++ [t1]) (z0 ts ++ r) = some (t, r) := (Sl_iff g p hg x n (acc ++ [t1]) _ t r (Or.inr hk)).2 ⟨ts, by simpa using i1, by rw [i2]; simp, rfl, i4.2, by rw [(hlast t1).1, (hlast t1).2]; exact b3⟩
    simp only [Sl, h1, Option.bind_some]
    by_cases c : x.f1 = 7 ∧ 0 < acc.length
    ·obtain ⟨u, hu, e⟩ := k2 c
     rw [if_pos c, hu]
     simp only [Option.bind_some]
     rw [if_pos e]; exact h2
    ·rw [if_neg c]; exact h2
theorem z95 (x : S61) (h : z11 x = true) : (x.f1 < 6 → x.f4 = 0) ∧ (6 ≤ x.f1 → x.f1 = 6 ∨ x.f1 = 7) := by
 unfold z11 at h
 split at h
 ·simp only [Bool.and_eq_true, beq_iff_eq] at h; exact ⟨fun _ => h.2.2, fun _ => by omega⟩
 ·split at h
  ·simp only [Bool.and_eq_true, beq_iff_eq] at h; exact ⟨fun _ => h.2.2, fun _ => by omega⟩
  ·split at h
   ·simp only [Bool.and_eq_true, beq_iff_eq] at h; exact ⟨fun _ => h.2.2, fun _ => by omega⟩
   ·split at h
    ·exact ⟨fun _ => by omega, fun _ => by omega⟩
    ·cases h
theorem z40 : ∀ (d : Nat) (l : List S61) (ir : Bool) (t : T7) (r : List S61), Sp d l ir = some (t, r) ↔ l = flat t ++ r ∧ Sh t ∧ z37 ir t.x = true ∧ Pt d t = true
 | 0, l, ir, t, r => by simp [Sp, Pt]
 | d + 1, l, ir, t, r => by
  have ih := Sl_iff (Sp d) (Pt d) (fun l ir t r => z40 d l ir t r)
  cases t with
  | mk y kids =>
  simp only [Sp, Pt, flat, T7.x, T7.kids]
  constructor
  ·intro h
   obtain ⟨x, hx, h⟩ := Option.bind_eq_some_iff.mp h
   by_cases c : z39 x ir = true
   ·rw [if_pos c] at h
    have c' := c
    unfold z39 at c'
    simp only [Bool.and_eq_true, Bool.or_eq_true, decide_eq_true_eq] at c'
    obtain ⟨c1, c2, c3, c4⟩ := c'
    have hk := z95 x c3
    have hn : x.f4.toNat = 0 ∨ x.f1 = 6 ∨ x.f1 = 7 := by
     by_cases h6 : x.f1 < 6
     ·exact Or.inl (by rw [hk.1 h6]; rfl)
     ·exact Or.inr (hk.2 (by omega))
    obtain ⟨ts, i1, i2, i3, i4, i5⟩ := (ih x _ [] _ _ _ hn).1 h
    injection i2 with i2a i2b
    subst i2a
    simp only [List.nil_append] at i2b
    subst i2b
    cases l with
    | nil => cases hx
    | cons z l =>
     injection hx with hx
     subst hx
     refine ⟨by simpa using i3, ?_, ?_, ?_⟩
     ·simp only [Sh]
      refine ⟨fun h6 => ?_, fun h6 => ?_, i4⟩
      ·have := hk.1 h6; rw [this] at i1; exact List.length_eq_zero_iff.1 i1
      ·omega
     ·unfold z37; simp only [Bool.and_eq_true, Bool.or_eq_true]; exact ⟨c1, c2⟩
     ·rw [c3]; simpa [z43] using i5
   ·rw [if_neg c] at h; cases h
  ·rintro ⟨h1, h2, h3, h4⟩
   simp only [Bool.and_eq_true] at h4
   simp only [Sh] at h2
   obtain ⟨s1, s2, s3⟩ := h2
   have hk := z95 y h4.1
   subst h1
   simp only [List.cons_append, List.head?_cons, List.tail_cons, Option.bind_some]
   have hat : z39 y ir = true := by
    unfold z39
    unfold z37 at h3
    simp only [Bool.and_eq_true, Bool.or_eq_true, decide_eq_true_eq] at h3 ⊢
    refine ⟨h3.1, h3.2, h4.1, ?_⟩
    by_cases h6 : y.f1 < 6
    ·exact Or.inl h6
    ·have := s2 (by omega); exact Or.inr (by omega)
   rw [if_pos hat]
   have hlen : kids.length = y.f4.toNat := by
    by_cases h6 : y.f1 < 6
    ·rw [s1 h6, hk.1 h6]; rfl
    ·have := s2 (by omega); omega
   have hn : y.f4.toNat = 0 ∨ y.f1 = 6 ∨ y.f1 = 7 := by
    by_cases h6 : y.f1 < 6
    ·exact Or.inl (by rw [hk.1 h6]; rfl)
    ·exact Or.inr (hk.2 (by omega))
   exact (ih y _ [] _ _ _ hn).2 ⟨kids, hlen, by simp, rfl, s3, by simpa [z43] using h4.2⟩
theorem z22 : ∀ (a b : List T7), z0 (a ++ b) = z0 a ++ z0 b
 | [], b => by simp [z0]
 | t :: a, b => by simp [z0, z22 a b]
theorem z51 : ∀ (a b : List T7), Shs (a ++ b) ↔ Shs a ∧ Shs b
 | [], b => by simp [Shs]
 | t :: a, b => by simp [Shs, z51 a b, and_assoc]
def szo : List S61 → Nat → Option Nat
 | [], o => if o = 0 then some 0 else none
 | x :: l, o => if o = 0 then some 0 else if 6 ≤ x.f1 then (if 0 ≤ x.f4 ∧ x.f4 ≤ 40 then (szo l (o - 1 + x.f4.toNat)).map (· + 1) else none) else (szo l (o - 1)).map (· + 1)
theorem z84 : ∀ (l : List S61) (o n : Nat), szo l o = some n → ∃ ts r, ts.length = o ∧ Shs ts ∧ (z0 ts).length = n ∧ l = z0 ts ++ r
 | [], o, n, h => by
  simp only [szo] at h
  by_cases c : o = 0
  ·rw [if_pos c] at h; injection h with h; exact ⟨[], [], by simp [c], by simp [Shs], by simp [z0, h], by simp [z0]⟩
  ·rw [if_neg c] at h; cases h
 | x :: l, o, n, h => by
  simp only [szo] at h
  by_cases c : o = 0
  ·rw [if_pos c] at h; injection h with h; exact ⟨[], x :: l, by simp [c], by simp [Shs], by simp [z0, h], by simp [z0]⟩
  rw [if_neg c] at h
  by_cases c6 : 6 ≤ x.f1
  ·rw [if_pos c6] at h
   by_cases c7 : 0 ≤ x.f4 ∧ x.f4 ≤ 40
   ·rw [if_pos c7] at h
    obtain ⟨m, hm, hmn⟩ := Option.map_eq_some_iff.1 h
    obtain ⟨ts, r, t1, t2, t3, t4⟩ := z84 l _ m hm
    have e := (List.take_append_drop x.f4.toNat ts).symm
    have s2 := (z51 _ _).1 (e ▸ t2)
    have hk : (ts.take x.f4.toNat).length = x.f4.toNat := by rw [List.length_take]; omega
    have f2 : z0 (ts.take x.f4.toNat) ++ z0 (ts.drop x.f4.toNat) = z0 ts := by rw [← z22, List.take_append_drop]
    refine ⟨.mk x (ts.take x.f4.toNat) :: ts.drop x.f4.toNat, r, by rw [List.length_cons, List.length_drop]; omega, ?_, ?_, ?_⟩
    ·simp only [Shs, Sh]; exact ⟨⟨fun h => by omega, fun _ => ⟨by omega, by omega⟩, s2.1⟩, s2.2⟩
    ·simp only [z0, flat, List.cons_append, f2, List.length_cons]; omega
    ·simp only [z0, flat, List.cons_append, f2, t4]
   ·rw [if_neg c7] at h; cases h
  ·rw [if_neg c6] at h
   obtain ⟨m, hm, hmn⟩ := Option.map_eq_some_iff.1 h
   obtain ⟨ts, r, t1, t2, t3, t4⟩ := z84 l _ m hm
   refine ⟨.mk x [] :: ts, r, by rw [List.length_cons]; omega, ?_, ?_, ?_⟩
   ·simp only [Shs, Sh]; exact ⟨⟨fun _ => trivial, fun h => absurd h c6, trivial⟩, t2⟩
   ·simp only [z0, flat, List.cons_append, List.nil_append, List.length_cons]; omega
   ·simp only [z0, flat, List.cons_append, List.nil_append, t4]
theorem z123 : ∀ (l : List S61) (ts : List T7) (r : List S61), l = z0 ts ++ r → Shs ts → szo l ts.length = some (z0 ts).length
 | l, [], r, h, hs => by cases l <;> simp [szo, z0]
 | [], .mk x kids :: ts, r, h, hs => by simp [z0, flat] at h
 | y :: l, .mk x kids :: ts, r, h, hs => by
  simp only [z0, flat, List.cons_append, List.cons.injEq] at h
  obtain ⟨rfl, h⟩ := h
  simp only [Shs, Sh] at hs
  obtain ⟨⟨s1, s2, s3⟩, s4⟩ := hs
  have := z123 l (kids ++ ts) r (by rw [z22]; exact h) ((z51 _ _).2 ⟨s3, s4⟩)
  simp only [szo, List.length_cons, Nat.add_eq_zero_iff, Nat.one_ne_zero, and_false, if_false]
  by_cases c6 : 6 ≤ y.f1
  ·have s2 := s2 c6
   rw [if_pos c6, if_pos ⟨by omega, by omega⟩, show ts.length + 1 - 1 + y.f4.toNat = (kids ++ ts).length by rw [List.length_append]; omega, this, z22]
   simp [z0, flat]
  ·have s1 := s1 (by omega)
   subst s1
   rw [if_neg c6, show ts.length + 1 - 1 = ([] ++ ts : List T7).length by simp, this]
   simp [z0, flat]
theorem z85 (l : List S61) (hl : l.length ≤ 40) : ∀ (m a o : Nat), a + m = l.length → o ≤ 100 + 40 * a → Ev (fun k => impl_sizeOf.l0 k l a o) (match szo (l.drop a) o with | some n => ((a + n : Nat) : Int) | none => 0)
 | 0, a, o, hm, ho => by
  rw [List.drop_of_length_le (by omega)]
  simp only [szo]
  by_cases c : o = 0
  ·subst c
   refine Ev.step (f := fun _ => some (a : Int)) (fun k => ?_) (Ev.now _)
   simp [impl_sizeOf.l0]
  ·simp only [c, if_false]
   refine Ev.step (f := fun k => impl_sizeOf.j1 k l a o true) (fun k => ?_) (Ev.step (f := fun _ => some 0) (fun k => ?_) (Ev.now _))
   ·rw [impl_sizeOf.l0, if_pos (by omega), if_pos (by omega)]
   ·rw [impl_sizeOf.j1, if_pos rfl]
 | m + 1, a, o, hm, ho => by
  have ha : a < l.length := by omega
  rw [List.drop_eq_getElem_cons ha]
  simp only [szo]
  by_cases c : o = 0
  ·subst c
   refine Ev.step (f := fun _ => some (a : Int)) (fun k => ?_) (Ev.now _)
   simp [impl_sizeOf.l0]
  simp only [c, if_false]
  obtain ⟨x, hx⟩ : ∃ x, x = l[a] := ⟨_, rfl⟩
  have hr : rd_T61 l a = x := by rw [hx]; simp [rd_T61, List.getD_eq_getElem?_getD, ha]
  rw [← hx]
  refine Ev.step (f := fun k => impl_sizeOf.j1 k l a o false) (fun k => ?_) ?_
  ·rw [impl_sizeOf.l0, if_pos (by omega), if_neg (by omega), beq_eq_false_iff_ne.mpr (show (a : Int) ≠ 40 by omega)]
  by_cases c6 : 6 ≤ x.f1
  ·simp only [c6, if_true]
   by_cases c7 : 0 ≤ x.f4 ∧ x.f4 ≤ 40
   ·have ih := z85 l hl m (a + 1) (o - 1 + x.f4.toNat) (by omega) (by omega)
    refine Ev.step (f := fun k => impl_sizeOf.l0 k l ((a + 1 : Nat) : Int) ((o - 1 + x.f4.toNat : Nat) : Int)) (fun k => ?_) ?_
    ·rw [impl_sizeOf.j1, if_neg (by decide), if_pos (by omega), if_pos (by omega), hr, if_pos c6, z83, decide_eq_true c7]
     simp only [Option.bind_some, if_true]
     rw [w64 (n := (a : Int) + 1) (by omega) (by omega), w64 (n := (o : Int) + x.f4) (by omega) (by omega), w64 (by omega) (by omega)]
     congr 1; omega
    ·simp only [c7, and_self, if_true]
     refine Ev.congr (fun k => rfl) ?_
     cases e : szo (l.drop (a + 1)) (o - 1 + x.f4.toNat) with
     | none => rw [e] at ih; exact ih
     | some n => rw [e] at ih; simp only [Option.map_some] at ih ⊢; rw [show a + (n + 1) = a + 1 + n by omega]; exact ih
   ·refine Ev.step (f := fun _ => some 0) (fun k => ?_) (by simp only [c7, if_false]; exact Ev.now _)
    rw [impl_sizeOf.j1, if_neg (by decide), if_pos (by omega), if_pos (by omega), hr, if_pos c6, z83, decide_eq_false c7]
    rfl
  ·simp only [c6, if_false]
   have ih := z85 l hl m (a + 1) (o - 1) (by omega) (by omega)
   refine Ev.step (f := fun k => impl_sizeOf.l0 k l ((a + 1 : Nat) : Int) ((o - 1 : Nat) : Int)) (fun k => ?_) ?_
   ·rw [impl_sizeOf.j1, if_neg (by decide), if_pos (by omega), if_pos (by omega), hr, if_neg c6]
    rw [w64 (n := (a : Int) + 1) (by omega) (by omega), w64 (n := (o : Int) - 1) (by omega) (by omega)]
    congr 1; omega
   ·cases e : szo (l.drop (a + 1)) (o - 1) with
    | none => rw [e] at ih; exact ih
    | some n => rw [e] at ih; simp only [Option.map_some] at ih ⊢; rw [show a + (n + 1) = a + 1 + n by omega]; exact ih
theorem sizeI (l : List S61) (hl : l.length ≤ 40) : Ev (fun k => impl_sizeOf.f k l) (match szo l 1 with | some n => (n : Int) | none => 0) := by
 unfold impl_sizeOf.f
 have := z85 l hl l.length 0 1 (by omega) (by omega)
 simpa using this
theorem z9 : ∀ (t : T7), 0 < (flat t).length
 | .mk x l => by simp [flat]
theorem z13 (t : T7) : rd_T61 (flat t) 0 = t.x := by cases t; simp [flat, rd_T61, T7.x]
theorem z98 : ∀ (ts : List T7) (acc : List (List S61)), Shs ts → (z0 ts).length ≤ 40 → acc.length + ts.length ≤ 100 → Ev (fun k => impl_partsOf.l0 k acc (z0 ts)) (acc ++ ts.map flat)
 | [], acc, _, _, _ => by
  refine Ev.step (f := fun _ => some acc) (fun k => ?_) (by simpa using Ev.now _)
  simp [impl_partsOf.l0, z0]
 | t :: ts, acc, hs, hl, ha => by
  have hp := z9 t
  simp only [Shs] at hs
  simp only [z0, List.length_append] at hl
  rw [List.length_cons] at ha
  have hz : szo (flat t ++ z0 ts) 1 = some (flat t).length := by
   have := z123 (flat t ++ z0 ts) [t] (z0 ts) (by simp [z0]) (by simp [Shs, hs.1])
   simpa [z0] using this
  have h1 := sizeI (flat t ++ z0 ts) (by rw [List.length_append]; exact hl)
  rw [hz] at h1
  have ih := z98 ts (acc ++ [flat t]) hs.2 (by omega) (by rw [List.length_append, List.length_singleton]; omega)
  refine Ev.step (f := fun k => (impl_sizeOf.f k (flat t ++ z0 ts)).bind fun n => (if 0 ≤ n then (if n ≤ ((flat t ++ z0 ts).length : Int) then (if acc.length < 5864062014805 then (impl_partsOf.l0 k (acc ++ [((flat t ++ z0 ts).take (n : Int).toNat)]) ((flat t ++ z0 ts).drop (n : Int).toNat)) else (none)) else (none)) else (none))) (fun k => ?_) ?_
  ·rw [impl_partsOf.l0, z0, if_pos (by rw [List.length_append]; omega)]
  ·refine Ev.bind h1 ?_
   simp only [Int.toNat_natCast, List.take_left, List.drop_left]
   simp only [show (0 : Int) ≤ ((flat t).length : Int) by omega, show ((flat t).length : Int) ≤ ((flat t ++ z0 ts).length : Int) by rw [List.length_append]; omega, show acc.length < 5864062014805 by omega, if_true]
   simpa using ih
theorem z124 (x : S61) (kids : List T7) (hs : Shs kids) (hl : (z0 kids).length ≤ 40) (hk : kids.length ≤ 40) : Ev (fun k => impl_partsOf.f k (flat (.mk x kids))) (kids.map flat) := by
 unfold impl_partsOf.f
 simp only [flat, List.length_cons, List.drop_succ_cons, List.drop_zero]
 have := z98 kids [] hs hl (by simp; omega)
 rw [List.nil_append] at this
 simp only [show (1 : Int) ≤ (((z0 kids).length + 1 : Nat) : Int) by omega, if_true]
 exact this
theorem badI (kind : Int) (key last : ByteArray) (i : Int) (h1 : key.size < 1000000000000) (h2 : last.size < 1000000000000) (ht : kind = 7 → 0 < i → (R last).2 = true) : Ev (fun k => impl_isPart.bad k kind key last i) (z55 kind key last (decide (i ≤ 0))) := by
 unfold impl_isPart.bad z55
 by_cases c : kind = 7
 ·simp only [c, if_true]
  refine Ev.bind (isTextI key h1) ?_
  cases e : (R key).2 with
  | false => simp only [Bool.false_eq_true, if_false]; exact Ev.now _
  | true =>
   simp only [if_true]
   by_cases d : 0 < i
   ·obtain ⟨v, e1, e2⟩ := cmpKeyI last key h2 h1 (ht c d) e
    simp only [d, if_true, decide_eq_false (show ¬ i ≤ 0 by omega), Bool.false_eq_true, if_false]
    rw [← e2]
    exact Ev.bind e1 (Ev.now _)
   ·simp only [d, if_false, decide_eq_true (show i ≤ 0 by omega), if_true]; exact Ev.now _
 ·simp only [c, if_false]
  by_cases d : kind = 6
  ·simp only [d, if_true]; exact Ev.now _
  ·simp only [d, if_false]; exact Ev.now _
theorem z125 (l : List S61) (x : S61) (hx : rd_T61 l 0 = x) (dp : Int) (hdp : wrap64 (dp + 1) = dp + 1) (kids : List T7) (hk : kids.length ≤ 40) (hs : ∀ t ∈ kids, t.x.f0.size < 1000000000000) (g : T7 → Bool) (ih : ∀ t ∈ kids, Ev (fun k => impl_isPart.f k (flat t) (dp + 1)) (g t)) :
  ∀ (rest pre : List T7) (last : ByteArray), kids = pre ++ rest → last.size < 1000000000000 → (x.f1 = 7 → pre ≠ [] → (R last).2 = true) → Ev (fun k => impl_isPart.l k l dp (kids.map flat) last pre.length) (Pl g x last pre.isEmpty rest)
 | [], pre, last, e, _, _ => by
  refine Ev.step (f := fun _ => some true) (fun k => ?_) (by simp only [Pl]; exact Ev.now _)
  rw [impl_isPart.l, if_neg (by rw [e]; simp)]
 | t :: rest, pre, last, e, hlast, htx => by
  have htm : t ∈ kids := by rw [e]; simp
  have hlen : kids.length = pre.length + (rest.length + 1) := by rw [e]; simp
  have hr : rd_L3 (kids.map flat) pre.length = flat t := by rw [e]; simp [rd_L3, List.getD_eq_getElem?_getD]
  have hp := z9 t
  refine Ev.step (f := fun k => (impl_isPart.bad k x.f1 t.x.f0 last pre.length).bind fun b => if b = true then some false else (impl_isPart.f k (flat t) (dp + 1)).bind fun b => if b = true then impl_isPart.l k l dp (kids.map flat) t.x.f0 (pre.length + 1) else some false) (fun k => ?_) ?_
  ·rw [impl_isPart.l, if_pos (by rw [List.length_map]; omega), hr, if_pos (by omega), hx, z13, hdp]
  ·refine Ev.bind (badI x.f1 t.x.f0 last pre.length (hs t htm) hlast (fun h7 hi => htx h7 (by intro h; rw [h] at hi; simp at hi))) ?_
   have hf : decide ((pre.length : Int) ≤ 0) = pre.isEmpty := by cases pre <;> simp
   rw [hf]
   simp only [Pl]
   cases hb : z55 x.f1 t.x.f0 last pre.isEmpty with
   | true => simp only [if_true, Bool.not_true, Bool.false_and]; exact Ev.now _
   | false =>
    simp only [Bool.false_eq_true, if_false, Bool.not_false, Bool.true_and]
    refine Ev.bind (ih t htm) ?_
    cases g t with
    | false => simp only [Bool.false_eq_true, if_false, Bool.false_and]; exact Ev.now _
    | true =>
     simp only [if_true, Bool.true_and]
     have := z125 l x hx dp hdp kids hk hs g ih rest (pre ++ [t]) t.x.f0 (by rw [e]; simp) (hs t htm) (fun h7 _ => by
      unfold z55 at hb
      rw [if_pos h7] at hb
      cases e : (R t.x.f0).2 with
      | true => rfl
      | false => rw [e] at hb; simp at hb)
     rw [show (pre ++ [t]).isEmpty = false by cases pre <;> rfl, List.length_append, List.length_singleton, show ((pre.length + 1 : Nat) : Int) = (pre.length : Int) + 1 by omega] at this
     exact this
theorem z7 {t : T7} : ∀ {ts : List T7}, t ∈ ts → (flat t).length ≤ (z0 ts).length ∧ (∀ y ∈ flat t, y ∈ z0 ts)
 | a :: ts, h => by
  rcases List.mem_cons.1 h with rfl | h
  ·simp only [z0, List.length_append]; exact ⟨by omega, fun y hy => List.mem_append_left _ hy⟩
  ·obtain ⟨h1, h2⟩ := z7 h
   simp only [z0, List.length_append]; exact ⟨by omega, fun y hy => List.mem_append_right _ (h2 y hy)⟩
theorem z67 {t : T7} : ∀ {ts : List T7}, Shs ts → t ∈ ts → Sh t
 | a :: ts, h, hm => by
  simp only [Shs] at h
  rcases List.mem_cons.1 hm with rfl | hm
  ·exact h.1
  ·exact z67 h.2 hm
theorem z5 : ∀ (ts : List T7), ts.length ≤ (z0 ts).length
 | [] => by simp [z0]
 | t :: ts => by have := z5 ts; have := z9 t; simp only [z0, List.length_append, List.length_cons]; omega
theorem partI : ∀ (d : Nat), d ≤ 6 → ∀ (t : T7), Sh t → (flat t).length ≤ 40 → (∀ y ∈ flat t, y.f0.size < 1000000000000 ∧ y.f3.size < 1000000000000) → Ev (fun k => impl_isPart.f k (flat t) (7 - d)) (Pt d t)
 | 0, _, t, _, _, _ => by
  refine Ev.step (f := fun _ => some false) (fun k => ?_) (by simp only [Pt]; exact Ev.now _)
  rw [impl_isPart.f, if_pos (by omega)]
 | d + 1, hd, .mk x kids, hsh, hl, hs => by
  simp only [Sh] at hsh
  have hp := z9 (.mk x kids)
  have hx := z13 (.mk x kids)
  simp only [T7.x] at hx
  have hxs := hs x (by simp [flat])
  have hfl : (z0 kids).length ≤ 40 := by simp only [flat, List.length_cons] at hl; omega
  have hkl : kids.length ≤ 40 := Nat.le_trans (z5 kids) hfl
  refine Ev.step (f := fun k => (impl_isNode.f k x.f0 x.f1 x.f2 x.f3 x.f4).bind fun b => if b = true then (impl_partsOf.f k (flat (.mk x kids))).bind fun ps => if ps.length < 1000000 then impl_isPart.l k (flat (.mk x kids)) (7 - ((d + 1 : Nat) : Int)) ps ⟨#[]⟩ 0 else none else some false) (fun k => ?_) ?_
  ·rw [impl_isPart.f, if_neg (by omega), if_pos (by omega), hx]
  ·refine Ev.bind (isNodeI x hxs.2) ?_
   simp only [Pt, T7.x, T7.kids]
   cases z11 x with
   | false => simp only [Bool.false_eq_true, if_false, Bool.false_and]; exact Ev.now _
   | true =>
    simp only [if_true, Bool.true_and]
    refine Ev.bind (z124 x kids hsh.2.2 hfl hkl) ?_
    simp only [List.length_map, show kids.length < 1000000 by omega, if_true]
    have hin : ∀ t ∈ kids, ∀ y ∈ flat t, y.f0.size < 1000000000000 ∧ y.f3.size < 1000000000000 := fun t ht y hy => hs y (by simp only [flat]; exact List.mem_cons_of_mem _ ((z7 ht).2 y hy))
    have := z125 (flat (.mk x kids)) x hx (7 - ((d + 1 : Nat) : Int)) (w64 (by omega) (by omega)) kids hkl (fun t ht => (hin t ht t.x (by cases t; simp [flat, T7.x])).1) (Pt d) (fun t ht => by
     have := partI d (by omega) t (z67 hsh.2.2 ht) (Nat.le_trans (z7 ht).1 hfl) (hin t ht)
     rw [show (7 - ((d + 1 : Nat) : Int)) + 1 = 7 - (d : Int) by omega]
     exact this) kids [] ⟨#[]⟩ rfl (by decide) (fun _ h => absurd rfl h)
    simpa using this
mutual
theorem z104 : ∀ (t u : T7) (a b : List S61), Sh t → Sh u → flat t ++ a = flat u ++ b → t = u ∧ a = b
 | .mk x l, .mk y m, a, b, h1, h2, e => by
  simp only [flat, List.cons_append, List.cons.injEq] at e
  obtain ⟨rfl, e⟩ := e
  simp only [Sh] at h1 h2
  have hlen : l.length = m.length := by
   by_cases c : x.f1 < 6
   ·rw [h1.1 c, h2.1 c]
   ·have := h1.2.1 (by omega); have := h2.2.1 (by omega); omega
  obtain ⟨e1, e2⟩ := z78 l m a b h1.2.2 h2.2.2 hlen e
  exact ⟨by rw [e1], e2⟩
theorem z78 : ∀ (t u : List T7) (a b : List S61), Shs t → Shs u → t.length = u.length → z0 t ++ a = z0 u ++ b → t = u ∧ a = b
 | [], [], a, b, _, _, _, e => ⟨rfl, by simpa [z0] using e⟩
 | [], y :: m, a, b, _, _, hl, _ => by simp at hl
 | x :: l, [], a, b, _, _, hl, _ => by simp at hl
 | x :: l, y :: m, a, b, h1, h2, hl, e => by
  simp only [z0, List.append_assoc] at e
  simp only [Shs] at h1 h2
  obtain ⟨e1, e2⟩ := z104 x y _ _ h1.1 h2.1 e
  obtain ⟨e3, e4⟩ := z78 l m a b h1.2 h2.2 (by simpa using hl) e2
  exact ⟨by rw [e1, e3], e4⟩
end
theorem z131 (t u : T7) (h1 : Sh t) (h2 : Sh u) (e : flat t = flat u) : t = u := (z104 t u [] [] h1 h2 (by rw [List.append_nil, List.append_nil]; exact e)).1
theorem z21 (l : List S61) (hs : ∀ x ∈ l, x.f0.size < 1000000000000 ∧ x.f3.size < 1000000000000) (h62 : l.length < 1000000000000) : Ev (fun k => impl_isValue.f k l) (z2 l) := by
 unfold impl_isValue.f
 simp only [z83, Option.bind_some]
 by_cases c : (1 : Int) ≤ l.length ∧ (l.length : Int) ≤ 40
 ·rw [decide_eq_true c]
  simp only [if_true]
  have hl : l.length ≤ 40 := by omega
  refine Ev.bind (sizeI l hl) ?_
  cases e : szo l 1 with
  | none =>
   simp only [show ¬ (0 : Int) = l.length by omega, if_false]
   have : z2 l = false := by
    unfold z2
    rw [decide_eq_true hl, Bool.true_and]
    cases f : Sp 6 l false with
    | none => rfl
    | some v =>
     obtain ⟨t, r⟩ := v
     obtain ⟨s1, s2, _, _⟩ := (z40 _ _ _ _ _).1 f
     have := z123 l [t] r (by rw [s1]; simp [z0]) (by simp [Shs, s2])
     simp [e] at this
   rw [this]; exact Ev.now _
  | some n =>
   obtain ⟨ts, r, t1, t2, t3, t4⟩ := z84 l 1 n e
   obtain ⟨t, rfl⟩ := List.length_eq_one_iff.1 t1
   have t3 : (flat t).length = n := by simpa [z0] using t3
   have t4 : l = flat t ++ r := by simpa [z0] using t4
   have t2 : Sh t := by simpa [Shs] using t2
   have hll : l.length = n + r.length := by rw [t4, List.length_append, t3]
   simp only
   by_cases hn : (n : Int) = l.length
   ·simp only [if_pos hn]
    have hr : r = [] := List.length_eq_zero_iff.1 (by omega)
    subst hr
    rw [List.append_nil] at t4
    have hx : rd_T61 l 0 = t.x := by rw [t4]; exact z13 t
    simp only [if_pos (show 0 < (l.length : Int) by omega), hx]
    have sg : z2 l = (z37 false t.x && Pt 6 t) := by
     unfold z2
     rw [decide_eq_true hl, Bool.true_and]
     cases k1 : z37 false t.x && Pt 6 t with
     | true =>
      simp only [Bool.and_eq_true] at k1
      rw [(z40 6 l false t []).2 ⟨by rw [t4]; simp, t2, k1.1, k1.2⟩]; rfl
     | false =>
      cases f : Sp 6 l false with
      | none => rfl
      | some v =>
       obtain ⟨t', r⟩ := v
       cases r with
       | cons y r => rfl
       | nil =>
        obtain ⟨s1, s2, s3, s4⟩ := (z40 _ _ _ _ _).1 f
        exfalso
        have : t' = t := z131 t' t s2 t2 (by rw [← t4, s1]; simp)
        subst this
        rw [s3, s4] at k1; cases k1
    rw [sg]
    unfold z37
    rw [Bool.false_or]
    by_cases ke : t.x.f0.toList = ([] : List UInt8)
    ·have ke' := (isEmpty_iff _).1 ke
     simp only [if_pos ke]
     rw [ke', z49 _ ke', Bool.true_and, Bool.true_and, t4]
     refine Ev.bind (partI 6 (Nat.le_refl _) t t2 (by omega) (by rw [← t4]; exact hs)) (Ev.now _)
    ·have ke' : t.x.f0.toList.isEmpty = false := by cases e : t.x.f0.toList.isEmpty with | false => rfl | true => exact absurd ((isEmpty_iff _).2 e) ke
     simp only [if_neg ke]
     rw [ke', Bool.false_and, Bool.false_and]; exact Ev.now _
   ·simp only [if_neg hn]
    have : z2 l = false := by
     unfold z2
     rw [decide_eq_true hl, Bool.true_and]
     cases f : Sp 6 l false with
     | none => rfl
     | some v =>
      obtain ⟨t', r'⟩ := v
      obtain ⟨s1, s2, _, _⟩ := (z40 _ _ _ _ _).1 f
      have := z123 l [t'] r' (by rw [s1]; simp [z0]) (by simp [Shs, s2])
      rw [List.length_singleton, e] at this
      injection this with this
      cases r' with
      | nil => exfalso; rw [s1] at hn; simp [z0] at this; simp at hn; omega
      | cons y r' => rfl
    rw [this]; exact Ev.now _
 ·rw [decide_eq_false c]
  simp only [Bool.false_eq_true, if_false, Option.bind_some]
  have : z2 l = false := by
   unfold z2
   by_cases h : l.length ≤ 40
   ·have : l = [] := List.length_eq_zero_iff.1 (by omega)
    subst this
    rfl
   ·rw [decide_eq_false h]; rfl
  rw [this]; exact Ev.now _
theorem z105 (ks : List T7) (hk : ks.length < 1000000) (ih : ∀ t ∈ ks, ∀ out : List S61, out.length + (flat t).length < 1000000 → Ev (fun k => spec_l7Flat.f k t out) (out ++ flat t)) : ∀ (rest pre : List T7) (out : List S61), ks = pre ++ rest → out.length + (z0 rest).length < 1000000 → Ev (fun k => spec_l7Flat.l k ks out pre.length) (out ++ z0 rest)
 | [], pre, out, e, ho => by
  refine Ev.step (f := fun _ => some out) (fun k => ?_) (by simpa [z0] using Ev.now _)
  rw [spec_l7Flat.l, if_neg (by rw [e]; simp)]
 | t :: rest, pre, out, e, ho => by
  have htm : t ∈ ks := by rw [e]; simp
  have hg : ks[pre.length]? = some t := by rw [e]; simp
  simp only [z0, List.length_append] at ho
  refine Ev.step (f := fun k => (spec_l7Flat.f k t out).bind fun r => spec_l7Flat.l k ks r (pre.length + 1)) (fun k => ?_) ?_
  ·rw [spec_l7Flat.l, if_pos (by rw [e, List.length_append, List.length_cons]; omega), Int.toNat_natCast, hg]; rfl
  ·refine Ev.bind (ih t htm out (by omega)) ?_
   have := z105 ks hk ih rest (pre ++ [t]) (out ++ flat t) (by rw [e]; simp) (by rw [List.length_append]; omega)
   rw [List.length_append, List.length_singleton, show ((pre.length + 1 : Nat) : Int) = (pre.length : Int) + 1 by omega, List.append_assoc] at this
   simp only [z0]
   exact this
theorem z91 : ∀ (n : Nat) (t : T7) (out : List S61), (flat t).length ≤ n → out.length + (flat t).length < 1000000 → Ev (fun k => spec_l7Flat.f k t out) (out ++ flat t)
 | 0, t, _, h, _ => by have := z9 t; omega
 | n + 1, .mk x kids, out, h, ho => by
  simp only [flat, List.length_cons] at h ho
  have hfl := z5 kids
  refine Ev.step (f := fun k => spec_l7Flat.l k kids (out ++ [x]) 0) (fun k => ?_) ?_
  ·rw [spec_l7Flat.f]; simp only [T7.kids, T7.x]; exact if_pos ⟨by omega, by omega⟩
  ·have := z105 kids (by omega) (fun t ht out ho => z91 n t out (Nat.le_trans (z7 ht).1 (by omega)) ho) kids [] (out ++ [x]) rfl (by rw [List.length_append, List.length_singleton]; omega)
   simp only [flat]
   rw [List.append_assoc] at this
   exact this
theorem z10 (l : List S61) (h : z2 l = true) : ∃ t, Sp 6 l false = some (t, []) ∧ l = flat t ∧ Sh t ∧ l.length ≤ 40 ∧ z37 false t.x = true ∧ Pt 6 t = true := by
 unfold z2 at h
 simp only [Bool.and_eq_true, decide_eq_true_eq] at h
 obtain ⟨h1, h2⟩ := h
 cases f : Sp 6 l false with
 | none => rw [f] at h2; cases h2
 | some v =>
  obtain ⟨t, r⟩ := v
  rw [f] at h2
  cases r with
  | cons y r => cases h2
  | nil =>
   obtain ⟨s1, s2, s3, s4⟩ := (z40 _ _ _ _ _).1 f
   exact ⟨t, rfl, by rw [s1]; simp, s2, h1, s3, s4⟩
theorem keyedI (t : T7) (key : ByteArray) (hl : (flat t).length < 100000) : impl_keyed.f (flat t) key = some (flat (.mk ⟨key, t.x.f1, t.x.f2, t.x.f3, t.x.f4⟩ t.kids)) := by
 have hp := z9 t
 unfold impl_keyed.f impl_Node.f
 rw [if_pos (by omega)]
 simp only [Option.bind_some]
 rw [if_pos (by omega), z13 t]
 cases t
 simp [flat, T7.x, T7.kids]
theorem goodS (l : List S61) (hs : ∀ x ∈ l, x.f0.size < 1000000000000 ∧ x.f3.size < 1000000000000) : Ev (fun k => spec_GoodValue.f k l) (z2 l) := by
 unfold spec_GoodValue.f z2
 by_cases c : l.length ≤ 40
 ·rw [← z86 l, decide_eq_true c, Bool.true_and]
  exact Ev.bind (ofS l c hs) (Ev.now _)
 ·unfold spec_l7Of.f
  simp only [show (l.length : Int) > 40 by omega, if_true, c, decide_false, Option.bind_some, Bool.false_and]; exact Ev.now _
def insT (kids : List T7) (t : T7) : List T7 := kids.takeWhile (fun u => less u.x.f0 t.x.f0) ++ [t] ++ kids.dropWhile (fun u => less u.x.f0 t.x.f0)
theorem posS (ks : List T7) (key : ByteArray) (hs : ∀ u ∈ ks, u.x.f0.size < 1000000000000) (hk : key.size < 1000000000000) : ∀ (rest pre : List T7), ks = pre ++ rest → Ev (fun k => spec_l7V_add.p k ks key pre.length) (pre.length + (rest.takeWhile (fun u => less u.x.f0 key)).length)
 | [], pre, e => by
  refine Ev.step (f := fun _ => some pre.length) (fun k => ?_) (by simpa using Ev.now _)
  rw [spec_l7V_add.p, if_neg (by rw [e]; simp)]
 | u :: rest, pre, e => by
  have hum : u ∈ ks := by rw [e]; simp
  have hg : ks[pre.length]? = some u := by rw [e]; simp
  refine Ev.step (f := fun k => (spec_l7LessKey.f k u.x.f0 key).bind fun b => if b = true then spec_l7V_add.p k ks key (pre.length + 1) else some pre.length) (fun k => ?_) ?_
  ·rw [spec_l7V_add.p, if_pos (by rw [e, List.length_append, List.length_cons]; omega), hg]; rfl
  ·refine Ev.bind (z127 _ _ (hs u hum) hk) ?_
   rw [List.takeWhile_cons]
   cases c : less u.x.f0 key with
   | true =>
    simp only [if_true, List.length_cons]
    have := posS ks key hs hk rest (pre ++ [u]) (by rw [e]; simp)
    rw [List.length_append, List.length_singleton] at this
    rw [show pre.length + ((rest.takeWhile (fun u => less u.x.f0 key)).length + 1) = pre.length + 1 + (rest.takeWhile (fun u => less u.x.f0 key)).length by omega]
    exact this
   | false => simp only [Bool.false_eq_true, if_false, List.length_nil, Nat.add_zero]; exact Ev.now _
theorem take_while {α : Type} (p : α → Bool) (l : List α) : l.take (l.takeWhile p).length = l.takeWhile p ∧ l.drop (l.takeWhile p).length = l.dropWhile p := by
 have h := List.takeWhile_append_dropWhile (p := p) (l := l)
 constructor
 ·conv => lhs; arg 2; rw [← h]
  rw [List.take_left]
 ·conv => lhs; arg 2; rw [← h]
  rw [List.drop_left]
theorem addS (kids : List T7) (t : T7) (hl : kids.length < 1000000) (hs : ∀ u ∈ kids, u.x.f0.size < 1000000000000) (hk : t.x.f0.size < 1000000000000) : Ev (fun k => spec_l7V_add.f k 7 kids t) (insT kids t) := by
 unfold spec_l7V_add.f
 simp only [hl, if_true]
 have := posS kids t.x.f0 hs hk kids [] rfl
 rw [List.length_nil, Nat.zero_add] at this
 refine Ev.bind this ?_
 obtain ⟨h1, h2⟩ := take_while (fun u : T7 => less u.x.f0 t.x.f0) kids
 rw [h1, h2]
 exact Ev.now _
theorem addListS (kids : List T7) (t : T7) (kind : Int) (hk : kind ≠ 7) (hl : kids.length < 1000000) : Ev (fun k => spec_l7V_add.f k kind kids t) (kids ++ [t]) := by
 unfold spec_l7V_add.f
 simp only [hl, if_true, hk, if_false, Option.bind_some, List.take_length, List.drop_length, List.append_nil]
 exact Ev.now _
theorem tw_all {α : Type} (p : α → Bool) : ∀ (l : List α), (∀ u ∈ l, p u = true) → l.takeWhile p = l ∧ l.dropWhile p = []
 | [], _ => ⟨rfl, rfl⟩
 | a :: l, h => by
  have ha := h a List.mem_cons_self
  obtain ⟨h1, h2⟩ := tw_all p l (fun u hu => h u (List.mem_cons_of_mem _ hu))
  rw [List.takeWhile_cons, List.dropWhile_cons, ha]
  simp only [if_true]
  exact ⟨by rw [h1], h2⟩
theorem insT_last (kids : List T7) (t : T7) (h : ∀ u ∈ kids, less u.x.f0 t.x.f0 = true) : insT kids t = kids ++ [t] := by
 obtain ⟨h1, h2⟩ := tw_all (fun u : T7 => less u.x.f0 t.x.f0) kids h
 unfold insT
 rw [h1, h2, List.append_nil]
theorem insT_cons (u : T7) (l : List T7) (t : T7) : insT (u :: l) t = if less u.x.f0 t.x.f0 = true then u :: insT l t else t :: u :: l := by
 unfold insT
 rw [List.takeWhile_cons, List.dropWhile_cons]
 cases less u.x.f0 t.x.f0 with
 | true => simp
 | false => simp
theorem z45 (l : List T7) (t : T7) : (insT l t).Perm (t :: l) := by
 unfold insT
 have h := List.takeWhile_append_dropWhile (p := fun u : T7 => less u.x.f0 t.x.f0) (l := l)
 conv => rhs; rw [← h]
 rw [List.append_assoc]
 exact List.perm_middle
theorem insT_mem {l : List T7} {t u : T7} : u ∈ insT l t ↔ u = t ∨ u ∈ l := by rw [(z45 l t).mem_iff, List.mem_cons]
theorem z102 (t : T7) (ht : (R t.x.f0).2 = true) : ∀ (l : List T7), (∀ u ∈ l, (R u.x.f0).2 = true) → (∀ u ∈ l, u.x.f0 ≠ t.x.f0) → l.Pairwise (fun u v => less u.x.f0 v.x.f0 = true) → (insT l t).Pairwise (fun u v => less u.x.f0 v.x.f0 = true)
 | [], _, _, _ => by simp [insT]
 | u :: l, hl, hn, ho => by
  rw [insT_cons]
  rw [List.pairwise_cons] at ho
  have hu := hl u List.mem_cons_self
  by_cases c : less u.x.f0 t.x.f0 = true
  ·rw [if_pos c, List.pairwise_cons]
   refine ⟨fun v hv => ?_, z102 t ht l (fun v hv => hl v (List.mem_cons_of_mem _ hv)) (fun v hv => hn v (List.mem_cons_of_mem _ hv)) ho.2⟩
   rcases insT_mem.1 hv with rfl | hv
   ·exact c
   ·exact ho.1 v hv
  ·rw [if_neg c, List.pairwise_cons, List.pairwise_cons]
   have c2 : less t.x.f0 u.x.f0 = true := by
    rcases z126 hu ht with a | a | a
    ·exact absurd a c
    ·exact absurd a (hn u List.mem_cons_self)
    ·exact a
   refine ⟨fun v hv => ?_, ho⟩
   rcases List.mem_cons.1 hv with rfl | hv
   ·exact c2
   ·exact z75 ht hu (hl v (List.mem_cons_of_mem _ hv)) c2 (ho.1 v hv)
def z6 (key : ByteArray) (ks : List T7) : List T7 := ks.filter (fun u => !(u.x.f0.toList == key.toList))
theorem keepS (ks : List T7) (key : ByteArray) (hl : ks.length < 1000000) (hs : ∀ u ∈ ks, u.x.f0.size < 1000000000000) (ho : ks.Pairwise (fun u v => less u.x.f0 v.x.f0 = true)) : ∀ (rest pre : List T7), ks = pre ++ rest → Ev (fun k => spec_WithField.l k ks key 7 pre.length (z6 key pre)) (z6 key ks)
 | [], pre, e => by
  rw [List.append_nil] at e
  refine Ev.step (f := fun _ => some (z6 key pre)) (fun k => ?_) (by rw [e]; exact Ev.now _)
  rw [spec_WithField.l, if_neg (by rw [e]; exact Nat.lt_irrefl _)]
 | t :: rest, pre, e => by
  have htm : t ∈ ks := by rw [e]; simp
  have hg : ks[pre.length]? = some t := by rw [e]; simp
  have ih := keepS ks key hl hs ho rest (pre ++ [t]) (by rw [e]; simp)
  rw [List.length_append, List.length_singleton] at ih
  have hsub : ∀ u ∈ z6 key pre, u ∈ pre := fun u hu => (List.mem_filter.1 hu).1
  refine Ev.step (f := fun k => if t.x.f0.toList = key.toList then spec_WithField.l k ks key 7 (pre.length + 1) (z6 key pre) else (spec_l7V_add.f k 7 (z6 key pre) t).bind fun r => spec_WithField.l k ks key 7 (pre.length + 1) r) (fun k => ?_) ?_
  ·rw [spec_WithField.l, if_pos (by rw [e, List.length_append, List.length_cons]; omega), hg]; rfl
  ·by_cases c : t.x.f0.toList = key.toList
   ·simp only [c, if_true]
    rw [show z6 key (pre ++ [t]) = z6 key pre by unfold z6; rw [List.filter_append]; simp [c]] at ih
    exact ih
   ·simp only [c, if_false]
    have hlen : (z6 key pre).length ≤ pre.length := List.length_filter_le _ _
    refine Ev.bind (addS (z6 key pre) t (by rw [e, List.length_append] at hl; omega) (fun u hu => hs u (by rw [e]; exact List.mem_append_left _ (hsub u hu))) (hs t htm)) ?_
    rw [insT_last]
    ·rw [show z6 key (pre ++ [t]) = z6 key pre ++ [t] by unfold z6; rw [List.filter_append]; simp [c]] at ih
     exact ih
    ·intro u hu
     rw [e] at ho
     exact (List.pairwise_append.1 ho).2.2 u (hsub u hu) t List.mem_cons_self
theorem Pl_rise (g : T7 → Bool) (x : S61) (hk : x.f1 = 7) : ∀ (ts : List T7) (last : ByteArray) (fst : Bool), Pl g x last fst ts = true → (fst = false → (R last).2 = true) → (∀ t ∈ ts, (R t.x.f0).2 = true ∧ (fst = false → less last t.x.f0 = true)) ∧ ts.Pairwise (fun u v => less u.x.f0 v.x.f0 = true)
 | [], _, _, _, _ => ⟨fun t ht => (by cases ht), List.Pairwise.nil⟩
 | t :: ts, last, fst, h, hl => by
  simp only [Pl, Bool.and_eq_true, Bool.not_eq_true'] at h
  obtain ⟨h1, _, h3⟩ := h
  have ht : (R t.x.f0).2 = true := by
   unfold z55 at h1
   simp only [hk, if_true] at h1
   cases e : (R t.x.f0).2 with
   | true => rfl
   | false => rw [e] at h1; simp at h1
  have h0 : fst = false → less last t.x.f0 = true := by
   intro hf
   unfold z55 at h1
   simp only [hk, if_true, ht, hf, Bool.false_eq_true, if_false] at h1
   simpa using h1
  obtain ⟨i1, i2⟩ := Pl_rise g x hk ts t.x.f0 false h3 (fun _ => ht)
  refine ⟨fun u hu => ?_, List.pairwise_cons.2 ⟨fun u hu => (i1 u hu).2 rfl, i2⟩⟩
  rcases List.mem_cons.1 hu with rfl | hu
  ·exact ⟨ht, h0⟩
  ·exact ⟨(i1 u hu).1, fun hf => z75 (hl hf) ht (i1 u hu).1 (h0 hf) ((i1 u hu).2 rfl)⟩
theorem z26 (t : T7) (h : Pt 6 t = true) (hk : t.x.f1 = 7) : (∀ u ∈ t.kids, (R u.x.f0).2 = true) ∧ t.kids.Pairwise (fun u v => less u.x.f0 v.x.f0 = true) := by
 unfold Pt at h
 simp only [Bool.and_eq_true] at h
 obtain ⟨i1, i2⟩ := Pl_rise _ _ hk _ _ _ h.2 (fun h => by cases h)
 exact ⟨fun u hu => (i1 u hu).1, i2⟩
theorem z30 : ∀ (ts : List T7), (ts.map flat).flatten = z0 ts
 | [] => rfl
 | t :: ts => by simp [z0, z30 ts]
theorem z18 (t : T7) : hdk (flat t) = t.x.f0 := by unfold hdk; rw [z13]
theorem memI (key : ByteArray) (ks : List T7) (hl : (z0 ks).length < 100000) (mem : List (List S61)) (hm : mem.length < 1000) (Z : List S61 × Bool)
  (hz : Ev (fun k => (impl_record.f k ⟨#[]⟩ (mem ++ (z6 key ks).map flat)).bind fun o => (impl_isValue.f k o).bind fun g => if g = true then some (o, true) else some ([], false)) Z) :
  ∀ (rest pre : List T7), ks = pre ++ rest → Ev (fun k => impl_WithField.l0 k key (mem ++ (z6 key pre).map flat) (ks.map flat) ks.length pre.length) Z
 | [], pre, e => by
  rw [List.append_nil] at e
  rw [e] at hz ⊢
  refine Ev.step (fun k => ?_) hz
  rw [impl_WithField.l0, if_neg (by omega)]
 | t :: rest, pre, e => by
  have htm : t ∈ ks := by rw [e]; simp
  have hlen : ks.length = pre.length + (rest.length + 1) := by rw [e]; simp
  have hr : rd_L3 (ks.map flat) pre.length = flat t := by rw [e]; simp [rd_L3, List.getD_eq_getElem?_getD]
  have hfl := z5 ks
  have hp := z9 t
  have ih := memI key ks hl mem hm Z hz rest (pre ++ [t]) (by rw [e]; simp)
  rw [List.length_append, List.length_singleton, show ((pre.length + 1 : Nat) : Int) = (pre.length : Int) + 1 by omega] at ih
  have hkl : (z6 key pre).length ≤ pre.length := List.length_filter_le _ _
  refine Ev.step (f := fun k => if t.x.f0.toList = key.toList then impl_WithField.l0 k key (mem ++ (z6 key pre).map flat) (ks.map flat) ks.length (pre.length + 1) else impl_WithField.l0 k key (mem ++ (z6 key pre).map flat ++ [flat t]) (ks.map flat) ks.length (pre.length + 1)) (fun k => ?_) ?_
  ·rw [impl_WithField.l0, if_pos (by omega), if_pos (by omega), if_pos (by rw [List.length_map]; omega), hr, if_pos (by omega), z13 t, w64 (by omega) (by omega)]
   by_cases c : t.x.f0.toList = key.toList
   ·simp only [c, if_true]
   ·simp only [c, if_false]
    rw [if_pos (by rw [List.length_append, List.length_map]; omega)]
  ·by_cases c : t.x.f0.toList = key.toList
   ·simp only [c, if_true]
    rw [show z6 key (pre ++ [t]) = z6 key pre by unfold z6; rw [List.filter_append]; simp [c]] at ih
    exact ih
   ·simp only [c, if_false]
    rw [show z6 key (pre ++ [t]) = z6 key pre ++ [t] by unfold z6; rw [List.filter_append]; simp [c], List.map_append, ← List.append_assoc] at ih
    exact ih
theorem ofS2 (l : List S61) (hs : ∀ x ∈ l, x.f0.size < 1000000000000 ∧ x.f3.size < 1000000000000) : ∃ o, Ev (fun k => spec_l7Of.f k l) (o, z2 l) ∧ ∀ t, Sp 6 l false = some (t, []) → z2 l = true → o = some t := by
 by_cases c : l.length ≤ 40
 ·have ho := ofS l c hs
  rw [z86 l] at ho
  refine ⟨(res l.length (Sp 6 l false)).1, ?_, fun t ht _ => ?_⟩
  rotate_left
  ·rw [ht]; rfl
  ·unfold z2
   rw [decide_eq_true c, Bool.true_and]
   exact ho
 ·have sg : z2 l = false := by unfold z2; simp [c]
  refine ⟨none, ?_, fun t _ h => by rw [sg] at h; cases h⟩
  rw [sg]
  unfold spec_l7Of.f
  simp only [show (l.length : Int) > 40 by omega, if_true]; exact Ev.now _
def z15 (key : ByteArray) (ta tx : T7) : List T7 := insT (z6 key ta.kids) (.mk ⟨key, tx.x.f1, tx.x.f2, tx.x.f3, tx.x.f4⟩ tx.kids)
def wout (key : ByteArray) (ta tx : T7) : List S61 := ⟨⟨#[]⟩, 7, 0, ⟨#[]⟩, ((z15 key ta tx).length : Int)⟩ :: z0 (z15 key ta tx)
def z25 (l : List S61) (key : ByteArray) (v : List S61) : List S61 × Bool :=
 if z2 l = true ∧ z2 v = true ∧ (R key).2 = true then (match Sp 6 l false, Sp 6 v false with | some (ta, _), some (tx, _) => if ta.x.f1 = 7 then (if z2 (wout key ta tx) = true then (wout key ta tx, true) else ([], false)) else ([], false) | _, _ => ([], false)) else ([], false)
theorem z114 (t : T7) (h1 : z37 false t.x = true) (h2 : Pt 6 t = true) (hk : t.x.f1 = 7) : t.x.f0 = ⟨#[]⟩ ∧ t.x.f2 = 0 ∧ t.x.f3 = ⟨#[]⟩ := by
 unfold z37 at h1
 simp only [Bool.false_or, Bool.and_eq_true] at h1
 unfold Pt at h2
 simp only [Bool.and_eq_true] at h2
 have h3 := h2.1
 unfold z11 at h3
 rw [if_neg (by omega), if_neg (by omega), if_neg (by omega), if_pos (by omega)] at h3
 simp only [Bool.and_eq_true, beq_iff_eq] at h3
 have hz : (⟨#[]⟩ : ByteArray).toList = ([] : List UInt8) := by rw [ByteArray.toList]; unfold ByteArray.toList.loop; rfl
 exact ⟨z57 (by rw [hz]; exact (isEmpty_iff _).2 h1.1), h3.1, z57 (by rw [hz]; exact (isEmpty_iff _).2 h3.2)⟩
theorem z77 : ∀ {ts : List T7} {y : S61}, y ∈ z0 ts → ∃ t ∈ ts, y ∈ flat t
 | [], y, h => by simp [z0] at h
 | t :: ts, y, h => by
  simp only [z0, List.mem_append] at h
  rcases h with h | h
  ·exact ⟨t, List.mem_cons_self, h⟩
  ·obtain ⟨u, hu, hy⟩ := z77 h
   exact ⟨u, List.mem_cons_of_mem _ hu, hy⟩
theorem z76 {a b : List T7} (h : a.Perm b) : (z0 a).length = (z0 b).length := by
 induction h with
 | nil => rfl
 | cons x _ ih => simp only [z0, List.length_append, ih]
 | swap x y l => simp only [z0, List.length_append]; omega
 | trans _ _ h1 h2 => exact h1.trans h2
theorem z130 (key : ByteArray) : ∀ (ks : List T7), (z0 (z6 key ks)).length ≤ (z0 ks).length
 | [] => Nat.le_refl _
 | t :: ks => by
  have := z130 key ks
  unfold z6 at *
  rw [List.filter_cons]
  split
  ·simp only [z0, List.length_append]; omega
  ·simp only [z0, List.length_append]; omega
theorem z47 (key : ByteArray) (ta tx : T7) (hk : (R key).2 = true) (h7 : ta.x.f1 = 7) (hP : Pt 6 ta = true) (hla : (flat ta).length ≤ 40) (hlx : (flat tx).length ≤ 40) (hsk : key.size < 1000000000000) (hsa : ∀ y ∈ flat ta, y.f0.size < 1000000000000 ∧ y.f3.size < 1000000000000) (hsx : ∀ y ∈ flat tx, y.f0.size < 1000000000000 ∧ y.f3.size < 1000000000000) :
  (∀ u ∈ z6 key ta.kids, u ∈ ta.kids ∧ u.x.f0 ≠ key) ∧ (∀ u ∈ z15 key ta tx, (R u.x.f0).2 = true) ∧ (z15 key ta tx).Pairwise (fun u v => less u.x.f0 v.x.f0 = true) ∧ (z0 (z15 key ta tx)).length ≤ 80 ∧ (z15 key ta tx).length ≤ 80 ∧ ∀ y ∈ wout key ta tx, y.f0.size < 1000000000000 ∧ y.f3.size < 1000000000000 := by
 obtain ⟨r1, r2⟩ := z26 ta hP h7
 have hkeep : ∀ u ∈ z6 key ta.kids, u ∈ ta.kids ∧ u.x.f0 ≠ key := fun u hu => by
  obtain ⟨h1, h2⟩ := List.mem_filter.1 hu
  refine ⟨h1, fun e => ?_⟩
  rw [e] at h2
  simp at h2
 have hkids : (z0 ta.kids).length ≤ 40 := by cases ta; simp only [flat, T7.kids, List.length_cons] at hla ⊢; omega
 have hxl : (flat (.mk ⟨key, tx.x.f1, tx.x.f2, tx.x.f3, tx.x.f4⟩ tx.kids)).length ≤ 40 := by cases tx; simp only [flat, T7.kids, T7.x, List.length_cons] at hlx ⊢; omega
 have hfl : (z0 (z15 key ta tx)).length ≤ 80 := by
  unfold z15
  rw [z76 (z45 _ _)]
  have := z130 key ta.kids
  simp only [z0, List.length_append]
  omega
 refine ⟨hkeep, fun u hu => ?_, ?_, hfl, Nat.le_trans (z5 _) hfl, fun y hy => ?_⟩
 ·rcases insT_mem.1 hu with rfl | hu
  ·exact hk
  ·exact r1 u (hkeep u hu).1
 ·exact z102 (.mk ⟨key, tx.x.f1, tx.x.f2, tx.x.f3, tx.x.f4⟩ tx.kids) hk _ (fun u hu => r1 u (hkeep u hu).1) (fun u hu => (hkeep u hu).2) (r2.filter _)
 ·unfold wout at hy
  rcases List.mem_cons.1 hy with rfl | hy
  ·exact ⟨show (0 : Nat) < 1000000000000 by decide, show (0 : Nat) < 1000000000000 by decide⟩
  ·obtain ⟨u, hu, hyu⟩ := z77 hy
   clear hy
   rcases insT_mem.1 hu with rfl | hu
   ·cases tx with
    | mk x kids =>
     simp only [flat, T7.x, T7.kids, List.mem_cons] at hyu hsx
     rcases hyu with rfl | hyu
     ·exact ⟨hsk, (hsx x (.inl rfl)).2⟩
     ·exact hsx y (.inr hyu)
   ·cases ta with
    | mk x kids =>
     have := (z7 (hkeep u hu).1).2 y hyu
     simp only [T7.kids] at this
     exact hsa y (by simp only [flat, List.mem_cons]; exact .inr this)
theorem withS (l : List S61) (key : ByteArray) (v : List S61) (hs : ∀ x ∈ l, x.f0.size < 1000000000000 ∧ x.f3.size < 1000000000000) (hv : ∀ x ∈ v, x.f0.size < 1000000000000 ∧ x.f3.size < 1000000000000) (hk : key.size < 1000000000000) : Ev (fun k => spec_WithField.f k l key v) (z25 l key v) := by
 unfold spec_WithField.f z25
 obtain ⟨oa, ha, ha2⟩ := ofS2 l hs
 obtain ⟨ox, hx, hx2⟩ := ofS2 v hv
 refine Ev.bind ha (Ev.bind hx ?_)
 simp only
 cases sl : z2 l with
 | false => simp only [if_true, Bool.false_eq_true, false_and, if_false]; exact Ev.now _
 | true =>
 cases sv : z2 v with
 | false => simp only [Bool.true_eq_false, if_false, if_true, Bool.false_eq_true, false_and, and_false]; exact Ev.now _
 | true =>
 obtain ⟨ta, fa, ea, _, la, ka, Pa⟩ := z10 l sl
 obtain ⟨tx, fx, ex, _, lx, _, _⟩ := z10 v sv
 have e1 := ha2 ta fa sl
 have e2 := hx2 tx fx sv
 subst e1
 subst e2
 simp only [Bool.true_eq_false, if_false, true_and, Option.bind_some, fa, fx]
 by_cases h7 : ta.x.f1 = 7
 rotate_left
 ·simp only [h7, if_false]
  split
  ·exact Ev.now _
  ·exact Ev.now _
 simp only [h7, if_true]
 refine Ev.bind (z92 key hk) ?_
 cases hr : (R key).2 with
 | false => simp only [Bool.false_eq_true, if_false]; exact Ev.now _
 | true =>
 have hla : (flat ta).length ≤ 40 := by rw [← ea]; exact la
 have hlx : (flat tx).length ≤ 40 := by rw [← ex]; exact lx
 obtain ⟨f1, f2, f3, f4, f5, f6⟩ := z47 key ta tx hr h7 Pa hla hlx hk (by rw [← ea]; exact hs) (by rw [← ex]; exact hv)
 obtain ⟨r1, r2⟩ := z26 ta Pa h7
 obtain ⟨n1, n2, n3⟩ := z114 ta ka Pa h7
 have hkids : (z0 ta.kids).length ≤ 40 := by cases ta; simp only [flat, T7.kids, List.length_cons] at hla ⊢; omega
 have hkl := z5 ta.kids
 have hks : ∀ u ∈ ta.kids, u.x.f0.size < 1000000000000 := fun u hu => (hs u.x (by rw [ea]; cases ta; simp only [flat, List.mem_cons]; exact .inr ((z7 hu).2 _ (by cases u; simp [flat, T7.x])))).1
 simp only [if_true, show ta.kids.length < 1000000 by omega]
 refine Ev.bind (keepS ta.kids key (by omega) hks r2 ta.kids [] rfl) ?_
 have hkeepl : (z6 key ta.kids).length ≤ ta.kids.length := List.length_filter_le _ _
 refine Ev.bind (addS (z6 key ta.kids) (.mk ⟨key, tx.x.f1, tx.x.f2, tx.x.f3, tx.x.f4⟩ tx.kids) (by omega) (fun u hu => hks u (f1 u hu).1) hk) ?_
 have hw : flat (.mk ⟨ta.x.f0, 7, ta.x.f2, ta.x.f3, ((z15 key ta tx).length : Int)⟩ (z15 key ta tx)) = wout key ta tx := by
  simp only [flat, wout]
  rw [n1, n2, n3]
 have hfl := z91 1000000 (.mk ⟨ta.x.f0, 7, ta.x.f2, ta.x.f3, ((z15 key ta tx).length : Int)⟩ (z15 key ta tx)) [] (by simp only [flat, List.length_cons]; omega) (by simp only [flat, List.length_cons, List.length_nil]; omega)
 rw [List.nil_append, hw] at hfl
 refine Ev.bind hfl (Ev.bind (goodS _ f6) ?_)
 split
 ·exact Ev.now _
 ·exact Ev.now _
theorem withI (l : List S61) (key : ByteArray) (v : List S61) (hs : ∀ x ∈ l, x.f0.size < 1000000000000 ∧ x.f3.size < 1000000000000) (hv : ∀ x ∈ v, x.f0.size < 1000000000000 ∧ x.f3.size < 1000000000000) (hk : key.size < 1000000000000) (h62 : l.length < 1000000000000) (h63 : v.length < 1000000000000) : Ev (fun k => impl_WithField.f k l key v) (z25 l key v) := by
 have stop : ∀ a b c, Ev (fun k => impl_WithField.j0 k a b c true) (([], false) : List S61 × Bool) := fun a b c => Ev.step (f := fun _ => some ([], false)) (fun k => by simp [impl_WithField.j0]) (Ev.now _)
 unfold impl_WithField.f z25
 refine Ev.bind (z60 key hk) ?_
 cases hr : (R key).2 with
 | false => simp only [Bool.false_eq_true, if_false, and_false]; exact stop _ _ _
 | true =>
 simp only [if_true, and_true]
 refine Ev.bind (z21 l hs h62) ?_
 cases sl : z2 l with
 | false => simp only [Bool.false_eq_true, if_false, false_and]; exact stop _ _ _
 | true =>
 obtain ⟨ta, fa, ea, sa, la, ka, Pa⟩ := z10 l sl
 have hp := z9 ta
 have hx0 : rd_T61 l 0 = ta.x := by rw [ea]; exact z13 ta
 simp only [if_true, true_and, hx0, show 0 < (l.length : Int) by rw [ea]; omega]
 by_cases h7 : ta.x.f1 = 7
 rotate_left
 ·simp only [h7, if_false]
  split
  ·rename_i sv
   obtain ⟨tx, fx, _⟩ := z10 v sv
   rw [fa, fx]
   simp only [h7, if_false]
   exact stop _ _ _
  ·exact stop _ _ _
 simp only [h7, if_true]
 refine Ev.bind (z21 v hv h63) ?_
 cases sv : z2 v with
 | false => simp only [Bool.not_false, Bool.false_eq_true, if_false]; exact stop _ _ _
 | true =>
 obtain ⟨tx, fx, ex, _, lx, _, _⟩ := z10 v sv
 simp only [Bool.not_true, if_true, fa, fx, h7]
 have hla : (flat ta).length ≤ 40 := by rw [← ea]; exact la
 have hlx : (flat tx).length ≤ 40 := by rw [← ex]; exact lx
 obtain ⟨f1, f2, f3, f4, f5, f6⟩ := z47 key ta tx hr h7 Pa hla hlx hk (by rw [← ea]; exact hs) (by rw [← ex]; exact hv)
 have hkids : (z0 ta.kids).length ≤ 40 := by cases ta; simp only [flat, T7.kids, List.length_cons] at hla ⊢; omega
 have hkl := z5 ta.kids
 refine Ev.step (f := fun k => (impl_keyed.f v key).bind fun t => (impl_partsOf.f k l).bind fun ps => impl_WithField.l0 k key [t] ps ps.length 0) (fun k => by simp [impl_WithField.j0]) ?_
 rw [ex, keyedI tx key (by omega), ea]
 obtain ⟨x', hx'⟩ : ∃ x', x' = T7.mk ⟨key, tx.x.f1, tx.x.f2, tx.x.f3, tx.x.f4⟩ tx.kids := ⟨_, rfl⟩
 rw [← hx']
 simp only [Option.bind_some]
 have hparts : Ev (fun k => impl_partsOf.f k (flat ta)) (ta.kids.map flat) := by
  cases ta with
  | mk x kids =>
   simp only [Sh] at sa
   exact z124 x kids sa.2.2 hkids (by simp only [T7.kids] at hkids hkl; omega)
 refine Ev.bind hparts ?_
 rw [List.length_map]
 -- what the members are
 have hms : [flat x'] ++ (z6 key ta.kids).map flat = (x' :: z6 key ta.kids).map flat := rfl
 have hperm : (z15 key ta tx).Perm (x' :: z6 key ta.kids) := by rw [hx']; exact z45 _ _
 have hmem : ∀ u ∈ x' :: z6 key ta.kids, u ∈ z15 key ta tx := fun u hu => hperm.mem_iff.2 hu
 have hrec := recordI ⟨#[]⟩ ((x' :: z6 key ta.kids).map flat) (fun m hm => by obtain ⟨u, _, rfl⟩ := List.mem_map.1 hm; exact z9 u)
  (fun m hm => by obtain ⟨u, hu, rfl⟩ := List.mem_map.1 hm; rw [z18]; exact f2 u (hmem u hu))
  (fun m hm => by
   obtain ⟨u, hu, rfl⟩ := List.mem_map.1 hm
   rw [z18]
   refine (f6 u.x ?_).1
   unfold wout
   exact List.mem_cons_of_mem _ ((z7 (hmem u hu)).2 _ (by cases u; simp [flat, T7.x])))
  (by
   rw [List.pairwise_map]
   have hr2 := (z26 ta Pa h7).2
   have hr1 := (z26 ta Pa h7).1
   rw [List.pairwise_cons]
   refine ⟨fun u hu => ?_, ?_⟩
   ·rw [z18, z18, hx']
    exact fun e => (f1 u hu).2 e.symm
   ·refine (hr2.filter _).imp_of_mem (fun {a b} ha hb h => ?_)
    rw [z18, z18]
    intro e
    rw [e, z42 (hr1 b (f1 b hb).1)] at h
    cases h)
  (by rw [← rc_len, z30, ← z76 hperm]; omega)
  (by rw [List.length_map, ← hperm.length_eq]; omega)
 have hsorted : ((x' :: z6 key ta.kids).map flat).mergeSort ile = (z15 key ta tx).map flat := by
  refine sorted_is _ _ (hperm.map flat) (fun m hm => ?_) ?_
  ·obtain ⟨u, hu, rfl⟩ := List.mem_map.1 hm
   rw [z18]; exact f2 u hu
  ·rw [List.pairwise_map]
   exact f3.imp (fun {a b} h => by rw [z18, z18]; exact h)
 rw [hsorted, z30, List.length_map, ← hperm.length_eq] at hrec
 have hrec : Ev (fun k => impl_record.f k ⟨#[]⟩ ((x' :: z6 key ta.kids).map flat)) (wout key ta tx) := hrec
 have hwl : (wout key ta tx).length < 1000000000000 := by unfold wout; rw [List.length_cons]; omega
 have := memI key ta.kids (by omega) [flat x'] (by simp) (if z2 (wout key ta tx) = true then (wout key ta tx, true) else ([], false)) (by
  rw [hms]
  refine Ev.bind hrec (Ev.bind (z21 _ f6 hwl) ?_)
  split
  ·exact Ev.now _
  ·exact Ev.now _) ta.kids [] rfl
 exact this
theorem z111 (l : List S61) (key : ByteArray) (v : List S61) : (z25 l key v).1.length ≤ 40 := by
 unfold z25
 split
 ·split
  ·split
   ·split
    ·rename_i h
     unfold z2 at h
     simp only [Bool.and_eq_true, decide_eq_true_eq] at h
     exact h.1
    ·simp
   ·simp
  ·simp
 ·simp
def Bn : Nat → Nat
 | 0 => 1
 | d + 1 => 1 + 6 * Bn d
def Ad : Nat → Int
 | 0 => 8
 | d + 1 => 20 + 6 * Ad d
structure Small (B : Nat) (t : T7) : Prop where
 len : (flat t).length ≤ B
 sz : ∀ y ∈ flat t, y.f0.size < 1000 ∧ y.f3.size < 1000
theorem smalls {B : Nat} : ∀ (ks : List T7), (∀ u ∈ ks, Small B u) → (z0 ks).length ≤ ks.length * B ∧ ∀ y ∈ z0 ks, y.f0.size < 1000 ∧ y.f3.size < 1000
 | [], _ => ⟨by simp [z0], fun y hy => by simp [z0] at hy⟩
 | t :: ks, h => by
  obtain ⟨h1, h2⟩ := smalls ks fun u hu => h u (by simp [hu])
  have ht := h t (by simp)
  have hl := ht.len
  refine ⟨?_, fun y hy => ?_⟩
  ·simp only [z0, List.length_append, List.length_cons, Nat.add_mul, Nat.one_mul]; omega
  ·simp only [z0, List.mem_append] at hy
   rcases hy with hy | hy
   ·exact ht.sz y hy
   ·exact h2 y hy
theorem z48 {B n : Nat} {x : S61} {ks : List T7} (h0 : x.f0.size < 1000) (h3 : x.f3.size < 1000) (h : ∀ u ∈ ks, Small B u) (hn : ks.length ≤ n) : Small (1 + n * B) (.mk x ks) := by
 obtain ⟨h1, h2⟩ := smalls ks h
 have hm : ks.length * B ≤ n * B := Nat.mul_le_mul_right B hn
 refine ⟨?_, fun y hy => ?_⟩
 ·simp only [flat, List.length_cons]; omega
 ·simp only [flat, List.mem_cons] at hy
  rcases hy with rfl | hy
  ·exact ⟨h0, h3⟩
  ·exact h2 y hy
theorem Small.le {B C : Nat} {t : T7} (h : Small B t) (hc : B ≤ C) : Small C t := ⟨Nat.le_trans h.len hc, h.sz⟩
theorem z35 {B : Nat} {x : S61} (h0 : x.f0.size < 1000) (h3 : x.f3.size < 1000) (hB : 1 ≤ B) : Small B (.mk x []) := (z48 (B := 0) (n := 0) h0 h3 (fun u hu => by cases hu) (Nat.le_refl _)).le (by omega)
theorem small_key {B : Nat} {t : T7} {key : ByteArray} (h : Small B t) (hk : key.size < 1000) : Small B (.mk { t.x with f0 := key } t.kids) := by
 cases t with
 | mk x ks =>
  refine ⟨h.len, fun y hy => ?_⟩
  simp only [T7.x, T7.kids, flat, List.mem_cons] at hy
  rcases hy with rfl | hy
  ·exact ⟨hk, (h.sz x (by simp [flat])).2⟩
  ·exact h.sz y (by simp [flat, hy])
theorem z71 {B : Nat} {t : T7} (h : Small B t) : t.x.f0.size < 1000 := by
 cases t with
 | mk x ks => exact (h.sz x (by simp [flat])).1
theorem z20 : ByteArray.empty.size < 1000 := by decide
theorem b_small : (⟨#[98]⟩ : ByteArray).size < 1000 := by decide
theorem tree_n4 (l : List Int) (hl : z23 l) (at_ s : Int) (h0 : 0 ≤ at_) (h1 : at_ < 100000000) {B : Nat} (hB : 1 ≤ B) : ∃ t a' s', spec_l1Cur_tree7.n4 l at_ s = some (t, a', s') ∧ at_ ≤ a' ∧ a' ≤ at_ + 2 ∧ Small B t := by
 obtain ⟨r, a', s', h2, h3, h4, _⟩ := cur_among l hl at_ s spec_l1Cur_tree7.nums (by decide) (by decide) h0 (by omega)
 exact ⟨_, a', s', by unfold spec_l1Cur_tree7.n4; rw [h2]; rfl, h3, h4, z35 z20 z20 hB⟩
theorem z113 : ∀ x ∈ spec_l1Cur_tree7.texts, x.size < 1000 := by decide
theorem keys_small : ∀ x ∈ spec_l1Cur_tree7.keys, x.size < 1000 := by decide
theorem tree_n5 (l : List Int) (hl : z23 l) (at_ s : Int) (h0 : 0 ≤ at_) (h1 : at_ < 100000000) {B : Nat} (hB : 1 ≤ B) : ∃ t a' s', spec_l1Cur_tree7.n5 l at_ s = some (t, a', s') ∧ at_ ≤ a' ∧ a' ≤ at_ + 2 ∧ Small B t := by
 obtain ⟨r, a', s', h2, h3, h4, h5⟩ := cur_of l hl at_ s spec_l1Cur_tree7.texts (by decide) (by decide) h0 (by omega)
 exact ⟨_, a', s', by unfold spec_l1Cur_tree7.n5; rw [h2]; rfl, h3, h4, z35 z20 (z113 r h5) hB⟩
theorem tree_l6 (l : List Int) (hl : z23 l) (dp : Int) (B : Nat) (A : Int) (hA : 0 ≤ A) (M : Int) (hM : M ≤ 50000000) (ih : ∀ at_ s : Int, 0 ≤ at_ → at_ < M → ∃ t a' s', Ev (fun k => spec_l1Cur_tree7.f k l at_ s (wrap64 (dp - 1))) (t, a', s') ∧ at_ ≤ a' ∧ a' ≤ at_ + A ∧ Small B t) (hA2 : A ≤ 100000) :
  ∀ (n : Nat) (at_ s : Int) (kids : List T7), 0 ≤ at_ → at_ + (n : Int) * A < M → kids.length + n ≤ 6 → (∀ u ∈ kids, Small B u) → ∃ t a' s', Ev (fun k => spec_l1Cur_tree7.l6 k l at_ s dp (n : Int) kids) (t, a', s') ∧ at_ ≤ a' ∧ a' ≤ at_ + (n : Int) * A ∧ Small (1 + 6 * B) t
 | 0, at_, s, kids, h0, h1, hk, hs => ⟨_, at_, s, Ev.step (fun k => by rw [spec_l1Cur_tree7.l6, if_neg (by omega)]) (Ev.now _), by omega, by omega, z48 z20 z20 hs (by omega)⟩
 | n + 1, at_, s, kids, h0, h1, hk, hs => by
  have hn : ((n + 1 : Nat) : Int) * A = (n : Int) * A + A := by rw [Int.natCast_add, Int.add_mul]; omega
  rw [hn] at h1 ⊢
  have hnA : 0 ≤ (n : Int) * A := Int.mul_nonneg (by omega) hA
  obtain ⟨t, a1, s1, e1, h2, h3, ht⟩ := ih at_ s h0 (by omega)
  obtain ⟨r, a2, s2, e2, h4, h5, hr⟩ := tree_l6 l hl dp B A hA M hM ih hA2 n a1 s1 (kids ++ [t]) (by omega) (by omega) (by simp; omega) (fun u hu => by
   rcases List.mem_append.1 hu with hu | hu
   ·exact hs u hu
   ·rw [List.mem_singleton.1 hu]; exact ht)
  refine ⟨r, a2, s2, Ev.step (fun k => by rw [spec_l1Cur_tree7.l6, if_pos (by omega)]) (Ev.bind e1 (Ev.bind (addListS kids t 6 (by decide) (by omega)) ?_)), by omega, by omega, hr⟩
  simp only [show wrap64 (((n + 1 : Nat) : Int) - 1) = (n : Int) by rw [w64 (by omega) (by omega)]; omega]
  exact e2
theorem rd_key (i : Nat) (h : i < spec_l1Cur_tree7.keys.length) : (rdOf ByteArray.empty spec_l1Cur_tree7.keys (i : Int)).size < 1000 := by
 have : rdOf ByteArray.empty spec_l1Cur_tree7.keys (i : Int) = spec_l1Cur_tree7.keys[i] := by simp [rdOf, List.getD_eq_getElem?_getD, h]
 rw [this]; exact keys_small _ (List.getElem_mem h)
theorem z112 (l : List Int) (hl : z23 l) (dp : Int) (B : Nat) (hB : B < 10000) (A : Int) (hA : 0 ≤ A) (M : Int) (hM : M ≤ 50000000) (ih : ∀ at_ s : Int, 0 ≤ at_ → at_ < M → ∃ t a' s', Ev (fun k => spec_l1Cur_tree7.f k l at_ s (wrap64 (dp - 1))) (t, a', s') ∧ at_ ≤ a' ∧ a' ≤ at_ + A ∧ Small B t) (hA2 : A ≤ 100000) :
  ∀ (m i : Nat) (at_ s : Int) (kids : List T7), i + m = 6 → 0 ≤ at_ → at_ + (m : Int) * (A + 2) < M → kids.length ≤ i → (∀ u ∈ kids, Small B u) → ∃ t a' s', Ev (fun k => spec_l1Cur_tree7.l7 k l at_ s dp i kids) (t, a', s') ∧ at_ ≤ a' ∧ a' ≤ at_ + (m : Int) * (A + 2) ∧ Small (1 + 6 * B) t
 | 0, i, at_, s, kids, hi, h0, h1, hk, hs => ⟨_, at_, s, Ev.step (fun k => by rw [spec_l1Cur_tree7.l7, if_neg (by rw [spec_l1Cur_tree7.keys_len]; omega)]) (Ev.now _), by omega, by omega, z48 z20 z20 hs (by omega)⟩
 | m + 1, i, at_, s, kids, hi, h0, h1, hk, hs => by
  have hn : ((m + 1 : Nat) : Int) * (A + 2) = (m : Int) * (A + 2) + (A + 2) := by rw [Int.natCast_add, Int.add_mul]; omega
  rw [hn] at h1 ⊢
  have hnA : 0 ≤ (m : Int) * (A + 2) := Int.mul_nonneg (by omega) (by omega)
  have hlt : i < spec_l1Cur_tree7.keys.length := by rw [spec_l1Cur_tree7.keys_len]; omega
  obtain ⟨b, a1, s1, e1, h2, h3⟩ := cur_one l hl at_ s 3 h0 (by omega) (by omega)
  cases b with
  | false =>
   obtain ⟨r, a2, s2, e2, h4, h5, hr⟩ := z112 l hl dp B hB A hA M hM ih hA2 m (i + 1) a1 s1 kids (by omega) (by omega) (by omega) (by omega) hs
   exact ⟨r, a2, s2, Ev.step (fun k => by rw [spec_l1Cur_tree7.l7, if_pos hlt, e1, Option.bind_some, if_neg (by simp)]) e2, by omega, by omega, hr⟩
  | true =>
   obtain ⟨t, a2, s2, e2, h4, h5, ht⟩ := ih a1 s1 (by omega) (by omega)
   have ht' := small_key ht (rd_key i hlt)
   have hadd := addS kids (.mk { t.x with f0 := rdOf ByteArray.empty spec_l1Cur_tree7.keys (i : Int) } t.kids) (by omega) (fun u hu => by have := z71 (hs u hu); omega) (by have := z71 ht'; omega)
   have hlen : (insT kids (.mk { t.x with f0 := rdOf ByteArray.empty spec_l1Cur_tree7.keys (i : Int) } t.kids)).length = kids.length + 1 := by rw [(z45 _ _).length_eq]; rfl
   obtain ⟨r, a3, s3, e3, h6, h7, hr⟩ := z112 l hl dp B hB A hA M hM ih hA2 m (i + 1) a2 s2 (insT kids (.mk { t.x with f0 := rdOf ByteArray.empty spec_l1Cur_tree7.keys (i : Int) } t.kids)) (by omega) (by omega) (by omega) (by omega) (fun u hu => by
    rcases insT_mem.1 hu with rfl | hu
    ·exact ht'
    ·exact hs u hu)
   exact ⟨r, a3, s3, Ev.step (fun k => by rw [spec_l1Cur_tree7.l7, if_pos hlt, e1, Option.bind_some, if_pos rfl]) (Ev.bind e2 (Ev.bind hadd e3)), by omega, by omega, hr⟩
theorem z82 : ∀ d, 1 ≤ Bn d
 | 0 => Nat.le_refl _
 | d + 1 => by simp only [Bn]; omega
theorem Ad_pos : ∀ d, 0 ≤ Ad d
 | 0 => by decide
 | d + 1 => by have := Ad_pos d; simp only [Ad]; omega
theorem Bn_le : ∀ d, d ≤ 3 → Bn d < 10000 ∧ Ad d ≤ 100000
 | 0, _ => by decide
 | 1, _ => by decide
 | 2, _ => by decide
 | 3, _ => by decide
theorem cur_tree7 (l : List Int) (hl : z23 l) : ∀ (d : Nat), d ≤ 3 → ∀ (at_ s : Int), 0 ≤ at_ → at_ < 10000000 - 1000000 * (d : Int) → ∃ t a' s', Ev (fun k => spec_l1Cur_tree7.f k l at_ s (d : Int)) (t, a', s') ∧ at_ ≤ a' ∧ a' ≤ at_ + Ad d ∧ Small (Bn d) t := by
 intro d
 induction d with
 | zero =>
  intro _ at_ s h0 h1
  obtain ⟨p, a1, s1, e1, h2, h3, h4, h5⟩ := z19 l hl at_ s 7 h0 (by omega) (by omega)
  have h5 := h5 (by omega)
  have hw : wrap64 (1 + p) = 1 + p := w64 (by omega) (by omega)
  obtain ⟨t4, a4, s4, e4, g4, g4', g4s⟩ := tree_n4 l hl a1 s1 (by omega) (by omega) (z82 0)
  obtain ⟨t5, a5, s5, e5, g5, g5', g5s⟩ := tree_n5 l hl a1 s1 (by omega) (by omega) (z82 0)
  have hA : Ad 0 = 8 := rfl
  by_cases c0 : 5 < 1 + p
  ·exact ⟨t4, a4, s4, Ev.step (fun k => by rw [spec_l1Cur_tree7.f, e1, Option.bind_some, hw, if_pos ⟨rfl, c0⟩, e4]) (Ev.now _), by omega, by omega, g4s⟩
  by_cases c4 : 1 + p = 4
  ·exact ⟨t4, a4, s4, Ev.step (fun k => by rw [spec_l1Cur_tree7.f, e1, Option.bind_some, hw, if_neg (fun h => c0 h.2), if_pos c4, e4]) (Ev.now _), by omega, by omega, g4s⟩
  by_cases c5 : 1 + p = 5
  ·exact ⟨t5, a5, s5, Ev.step (fun k => by rw [spec_l1Cur_tree7.f, e1, Option.bind_some, hw, if_neg (fun h => c0 h.2), if_neg c4, if_pos c5, e5]) (Ev.now _), by omega, by omega, g5s⟩
  ·exact ⟨_, a1, s1, Ev.step (fun k => by rw [spec_l1Cur_tree7.f, e1, Option.bind_some, hw, if_neg (fun h => c0 h.2), if_neg c4, if_neg c5, if_neg (by omega), if_neg (by omega)]) (Ev.now _), by omega, by omega, z35 z20 z20 (z82 0)⟩
 | succ d ih =>
  intro hd at_ s h0 h1
  have ih := ih (by omega)
  obtain ⟨hB, hA2⟩ := Bn_le d (by omega)
  have hA0 := Ad_pos d
  have hA : Ad (d + 1) = 20 + 6 * Ad d := rfl
  have hBn : Bn (d + 1) = 1 + 6 * Bn d := rfl
  have hw2 : wrap64 (((d + 1 : Nat) : Int) - 1) = (d : Int) := by rw [w64 (by omega) (by omega)]; omega
  obtain ⟨p, a1, s1, e1, h2, h3, h4, h5⟩ := z19 l hl at_ s 7 h0 (by omega) (by omega)
  have h5 := h5 (by omega)
  have hw : wrap64 (1 + p) = 1 + p := w64 (by omega) (by omega)
  have hz : ¬ (((d + 1 : Nat) : Int) = 0 ∧ 5 < 1 + p) := fun h => by omega
  by_cases c4 : 1 + p = 4
  ·obtain ⟨t4, a4, s4, e4, g4, g4', g4s⟩ := tree_n4 l hl a1 s1 (by omega) (by omega) (z82 (d + 1))
   exact ⟨t4, a4, s4, Ev.step (fun k => by rw [spec_l1Cur_tree7.f, e1, Option.bind_some, hw, if_neg hz, if_pos c4, e4]) (Ev.now _), by omega, by omega, g4s⟩
  by_cases c5 : 1 + p = 5
  ·obtain ⟨t5, a5, s5, e5, g5, g5', g5s⟩ := tree_n5 l hl a1 s1 (by omega) (by omega) (z82 (d + 1))
   exact ⟨t5, a5, s5, Ev.step (fun k => by rw [spec_l1Cur_tree7.f, e1, Option.bind_some, hw, if_neg hz, if_neg c4, if_pos c5, e5]) (Ev.now _), by omega, by omega, g5s⟩
  have ih' : ∀ at_ s : Int, 0 ≤ at_ → at_ < 10000000 - 1000000 * (d : Int) → ∃ t a' s', Ev (fun k => spec_l1Cur_tree7.f k l at_ s (wrap64 (((d + 1 : Nat) : Int) - 1))) (t, a', s') ∧ at_ ≤ a' ∧ a' ≤ at_ + Ad d ∧ Small (Bn d) t := by rw [hw2]; exact ih
  by_cases c6 : 1 + p = 6
  ·obtain ⟨q, a2, s2, e2, g2, g3, g4, g5⟩ := z19 l hl a1 s1 4 (by omega) (by omega) (by omega)
   have g5 := g5 (by omega)
   obtain ⟨n, rfl⟩ : ∃ n : Nat, q = (n : Int) := ⟨q.toNat, by omega⟩
   have hnA : (n : Int) * Ad d ≤ 3 * Ad d := Int.mul_le_mul_of_nonneg_right (by omega) hA0
   obtain ⟨t, a3, s3, e3, g6, g7, hs⟩ := tree_l6 l hl ((d + 1 : Nat) : Int) (Bn d) (Ad d) hA0 (10000000 - 1000000 * (d : Int)) (by omega) ih' hA2 n a2 s2 [] (by omega) (by omega) (by simp; omega) (fun u hu => by cases hu)
   exact ⟨t, a3, s3, Ev.step (fun k => by rw [spec_l1Cur_tree7.f, e1, Option.bind_some, hw, if_neg hz, if_neg c4, if_neg c5, if_pos c6, e2, Option.bind_some]) e3, by omega, by omega, hs⟩
  by_cases c7 : 1 + p = 7
  ·obtain ⟨t, a3, s3, e3, g6, g7, hs⟩ := z112 l hl ((d + 1 : Nat) : Int) (Bn d) hB (Ad d) hA0 (10000000 - 1000000 * (d : Int)) (by omega) ih' hA2 6 0 a1 s1 [] (by omega) (by omega) (by omega) (by simp) (fun u hu => by cases hu)
   exact ⟨t, a3, s3, Ev.step (fun k => by rw [spec_l1Cur_tree7.f, e1, Option.bind_some, hw, if_neg hz, if_neg c4, if_neg c5, if_neg c6, if_pos c7]) e3, by omega, by omega, hs⟩
  ·exact ⟨_, a1, s1, Ev.step (fun k => by rw [spec_l1Cur_tree7.f, e1, Option.bind_some, hw, if_neg hz, if_neg c4, if_neg c5, if_neg c6, if_neg c7]) (Ev.now _), by omega, by omega, z35 z20 z20 (z82 (d + 1))⟩
theorem z50 (l : List Int) (hl : z23 l) (at_ s : Int) (h0 : 0 ≤ at_) (h1 : at_ < 6000000) : ∃ r a' s', Ev (fun k => spec_l1Cur_value7.f k l at_ s) (r, a', s') ∧ at_ ≤ a' ∧ a' ≤ at_ + 100010 ∧ r.length < 10000 ∧ ∀ y ∈ r, y.f0.size < 1000 ∧ y.f3.size < 1000 := by
 obtain ⟨hB, hA⟩ := Bn_le 3 (by omega)
 obtain ⟨t, a1, s1, e1, g1, g2, ht⟩ := cur_tree7 l hl 3 (by omega) at_ s h0 (by omega)
 have hlen := ht.len
 have hpos := z9 t
 have e2 := z91 (flat t).length t [] (Nat.le_refl _) (by simp; omega)
 rw [List.nil_append] at e2
 obtain ⟨p, a2, s2, e3, g3, g4, g5, g6⟩ := z19 l hl a1 s1 30 (by omega) (by omega) (by omega)
 obtain ⟨i, a3, s3, e4, g7, g8, g9, g10⟩ := z19 l hl a2 s2 ((flat t).length : Int) (by omega) (by omega) (by omega)
 have g10 := g10 (by omega)
 have hin : 0 ≤ i ∧ i < ((flat t).length : Int) := ⟨g9, g10⟩
 have hm : rd_T61 (flat t) i ∈ flat t := by
  have : rd_T61 (flat t) i = (flat t)[i.toNat]'(by omega) := by simp [rd_T61, List.getD_eq_getElem?_getD, show i.toNat < (flat t).length by omega]
  rw [this]; exact List.getElem_mem _
 have hsz := ht.sz _ hm
 have set_ok : ∀ x : S61, x.f0.size < 1000 → x.f3.size < 1000 → ((flat t).set i.toNat x).length < 10000 ∧ ∀ y ∈ (flat t).set i.toNat x, y.f0.size < 1000 ∧ y.f3.size < 1000 := fun x h1 h2 => by
  refine ⟨by rw [List.length_set]; omega, fun y hy => ?_⟩
  rcases List.mem_or_eq_of_mem_set hy with hy | rfl
  ·exact ht.sz y hy
  ·exact ⟨h1, h2⟩
 unfold spec_l1Cur_value7.f
 by_cases c0 : p = 0
 ·obtain ⟨o1, o2⟩ := set_ok ⟨(rd_T61 (flat t) i).f0, (rd_T61 (flat t) i).f1, (rd_T61 (flat t) i).f2, (rd_T61 (flat t) i).f3, wrap64 ((rd_T61 (flat t) i).f4 + 1)⟩ hsz.1 hsz.2
  refine ⟨_, a3, s3, Ev.bind e1 (Ev.bind e2 ?_), by omega, by omega, o1, o2⟩
  simp only [e3, Option.bind_some, if_pos c0, e4, if_pos hin]
  exact Ev.now _
 by_cases c1 : p = 1
 ·obtain ⟨q, a4, s4, e5, g11, g12, _⟩ := z19 l hl a3 s3 9 (by omega) (by omega) (by omega)
  obtain ⟨o1, o2⟩ := set_ok ⟨(rd_T61 (flat t) i).f0, q, (rd_T61 (flat t) i).f2, (rd_T61 (flat t) i).f3, (rd_T61 (flat t) i).f4⟩ hsz.1 hsz.2
  refine ⟨_, a4, s4, Ev.bind e1 (Ev.bind e2 ?_), by omega, by omega, o1, o2⟩
  simp only [e3, Option.bind_some, if_neg c0, if_pos c1, e4, e5, if_pos hin]
  exact Ev.now _
 by_cases c2 : p = 2
 ·obtain ⟨o1, o2⟩ := set_ok ⟨⟨#[98]⟩, (rd_T61 (flat t) i).f1, (rd_T61 (flat t) i).f2, (rd_T61 (flat t) i).f3, (rd_T61 (flat t) i).f4⟩ b_small hsz.2
  refine ⟨_, a3, s3, Ev.bind e1 (Ev.bind e2 ?_), by omega, by omega, o1, o2⟩
  simp only [e3, Option.bind_some, if_neg c0, if_neg c1, if_pos c2, e4, if_pos hin]
  exact Ev.now _
 ·refine ⟨flat t, a2, s2, Ev.bind e1 (Ev.bind e2 ?_), by omega, by omega, by omega, ht.sz⟩
  simp only [e3, Option.bind_some, if_neg c0, if_neg c1, if_neg c2]
  exact Ev.now _
def z1 (key : ByteArray) : List T7 → List S61 × Bool
 | [] => ([], false)
 | t :: l => if t.x.f0.toList = key.toList then (flat (.mk ⟨⟨#[]⟩, t.x.f1, t.x.f2, t.x.f3, t.x.f4⟩ t.kids), true) else z1 key l
theorem z79 (key : ByteArray) (ks : List T7) (hk : (z0 ks).length < 100000) : ∀ (rest pre : List T7), ks = pre ++ rest → Ev (fun k => spec_FieldOf.l k ks key pre.length) (z1 key rest)
 | [], pre, e => by
  refine Ev.step (f := fun _ => some ([], false)) (fun k => ?_) (by simpa [z1] using Ev.now _)
  rw [spec_FieldOf.l, if_neg (by rw [e]; simp)]
 | t :: rest, pre, e => by
  have htm : t ∈ ks := by rw [e]; simp
  have hg : ks[pre.length]? = some t := by rw [e]; simp
  have h2 := (z7 htm).1
  have hfl := z5 ks
  refine Ev.step (f := fun k => if t.x.f0.toList = key.toList then (spec_l7Flat.f k (.mk { t.x with f0 := ⟨#[]⟩ } t.kids) []).bind fun o => some (o, true) else spec_FieldOf.l k ks key (pre.length + 1)) (fun k => ?_) ?_
  ·rw [spec_FieldOf.l, if_pos (by rw [e, List.length_append, List.length_cons]; omega), Int.toNat_natCast, hg]; rfl
  ·by_cases c : t.x.f0.toList = key.toList
   ·simp only [c, if_true, z1]
    have := z91 1000000 (.mk ⟨⟨#[]⟩, t.x.f1, t.x.f2, t.x.f3, t.x.f4⟩ t.kids) [] (by cases t; simp only [flat, T7.x, T7.kids, List.length_cons] at h2 ⊢; omega) (by cases t; simp only [flat, T7.x, T7.kids, List.length_cons, List.length_nil] at h2 ⊢; omega)
    rw [List.nil_append] at this
    exact Ev.bind this (Ev.now _)
   ·simp only [c, if_false, z1]
    have := z79 key ks hk rest (pre ++ [t]) (by rw [e]; simp)
    rw [List.length_append, List.length_singleton, show ((pre.length + 1 : Nat) : Int) = (pre.length : Int) + 1 by omega] at this
    exact this
theorem z80 (key : ByteArray) (ks : List T7) (hk : (z0 ks).length < 100000) : ∀ (rest pre : List T7), ks = pre ++ rest → Ev (fun k => impl_FieldOf.l0 k key (ks.map flat) ks.length pre.length) (z1 key rest)
 | [], pre, e => by
  refine Ev.step (f := fun _ => some ([], false)) (fun k => ?_) (by simpa [z1] using Ev.now _)
  rw [impl_FieldOf.l0, if_neg (by rw [e]; simp)]
 | t :: rest, pre, e => by
  have htm : t ∈ ks := by rw [e]; simp
  have hlen : ks.length = pre.length + (rest.length + 1) := by rw [e]; simp
  have hr : rd_L3 (ks.map flat) pre.length = flat t := by rw [e]; simp [rd_L3, List.getD_eq_getElem?_getD]
  have h2 := (z7 htm).1
  have hfl := z5 ks
  have hp := z9 t
  refine Ev.step (f := fun k => if t.x.f0.toList = key.toList then (impl_keyed.f (flat t) ⟨#[]⟩).bind fun o => some (o, true) else impl_FieldOf.l0 k key (ks.map flat) ks.length (pre.length + 1)) (fun k => ?_) ?_
  ·rw [impl_FieldOf.l0, if_pos (by omega), if_pos (by omega), if_pos (by rw [List.length_map]; omega), hr, if_pos (by omega), z13 t, w64 (by omega) (by omega)]
  ·by_cases c : t.x.f0.toList = key.toList
   ·simp only [c, if_true, z1]
    rw [keyedI t ⟨#[]⟩ (by omega)]
    exact Ev.now _
   ·simp only [c, if_false, z1]
    have := z80 key ks hk rest (pre ++ [t]) (by rw [e]; simp)
    rw [List.length_append, List.length_singleton, show ((pre.length + 1 : Nat) : Int) = (pre.length : Int) + 1 by omega] at this
    exact this
def z8 (l : List S61) (key : ByteArray) : List S61 × Bool :=
 if z2 l = true then (match Sp 6 l false with | some (t, _) => if t.x.f1 = 7 then z1 key t.kids else ([], false) | none => ([], false)) else ([], false)
theorem fieldS (l : List S61) (key : ByteArray) (hs : ∀ x ∈ l, x.f0.size < 1000000000000 ∧ x.f3.size < 1000000000000) : Ev (fun k => spec_FieldOf.f k l key) (z8 l key) := by
 unfold spec_FieldOf.f z8
 by_cases c : l.length ≤ 40
 ·have ho := ofS l c hs
  rw [z86 l] at ho
  cases f : Sp 6 l false with
  | none =>
   have sg : z2 l = false := by unfold z2; rw [f]; simp
   rw [f] at ho; rw [sg]
   exact Ev.bind ho (by simp only [if_true]; exact Ev.now _)
  | some v =>
   obtain ⟨t, r⟩ := v
   cases r with
   | cons y r =>
    have sg : z2 l = false := by unfold z2; rw [f]; simp
    rw [f] at ho; rw [sg]
    exact Ev.bind ho (by simp only [List.isEmpty_cons, if_true]; exact Ev.now _)
   | nil =>
    have sg : z2 l = true := by unfold z2; rw [f]; simp [c]
    obtain ⟨s1, s2, _, _⟩ := (z40 _ _ _ _ _).1 f
    rw [List.append_nil] at s1
    rw [f] at ho; rw [sg]
    refine Ev.bind ho ?_
    simp only [List.isEmpty_nil, Bool.true_eq_false, if_false, res, Option.bind_some, if_true]
    have hl : (z0 t.kids).length < 40 := by
     rw [s1] at c; cases t; simp only [flat, T7.kids, List.length_cons] at c ⊢; omega
    have hfl := z5 t.kids
    by_cases c7 : t.x.f1 = 7
    ·simp only [c7, if_true, show t.kids.length < 1000000 by omega]
     exact z79 key t.kids (by omega) t.kids [] rfl
    ·simp only [c7, if_false]; exact Ev.now _
 ·have sg : z2 l = false := by unfold z2; simp [c]
  rw [sg]
  unfold spec_l7Of.f
  simp only [show (l.length : Int) > 40 by omega, if_true, Option.bind_some]; exact Ev.now _
theorem z132 (l : List S61) (key : ByteArray) (hs : ∀ x ∈ l, x.f0.size < 1000000000000 ∧ x.f3.size < 1000000000000) (h62 : l.length < 1000000000000) : Ev (fun k => impl_FieldOf.f k l key) (z8 l key) := by
 unfold impl_FieldOf.f z8
 refine Ev.bind (z21 l hs h62) ?_
 cases sg : z2 l with
 | false => 
  simp only [Bool.false_eq_true, if_false]
  exact Ev.step (f := fun _ => some ([], false)) (fun k => by simp [impl_FieldOf.j0]) (Ev.now _)
 | true =>
  obtain ⟨t, f, e, s2, hl, _, _⟩ := z10 l sg
  have hp := z9 t
  rw [f]
  simp only [if_true]
  rw [e] at hl ⊢
  rw [z13 t]
  simp only [show 0 < ((flat t).length : Int) by omega, if_true]
  by_cases c7 : t.x.f1 = 7
  ·rw [show (t.x.f1 != 7) = false by simpa using c7]
   simp only [c7, if_true]
   cases t with
   | mk x kids =>
   simp only [Sh] at s2
   simp only [flat, List.length_cons] at hl
   have hfl := z5 kids
   refine Ev.step (f := fun k => (impl_partsOf.f k (flat (.mk x kids))).bind fun ps => impl_FieldOf.l0 k key ps ps.length 0) (fun k => by simp [impl_FieldOf.j0]) ?_
   refine Ev.bind (z124 x kids s2.2.2 (by omega) (by omega)) ?_
   have := z80 key kids (by omega) kids [] rfl
   rw [List.length_map]
   exact this
  ·rw [show (t.x.f1 != 7) = true by simpa using c7]
   simp only [c7, if_false]
   exact Ev.step (f := fun _ => some ([], false)) (fun k => by simp [impl_FieldOf.j0]) (Ev.now _)
theorem z63 (key : ByteArray) : ∀ (ks : List T7), (z1 key ks).1.length ≤ (z0 ks).length
 | [] => by simp [z1]
 | t :: l => by
  simp only [z1, z0, List.length_append]
  split
  ·cases t; simp only [flat, T7.x, T7.kids, List.length_cons]; omega
  ·have := z63 key l; omega
theorem z53 (l : List S61) (key : ByteArray) : (z8 l key).1.length ≤ 40 := by
 unfold z8
 cases sg : z2 l with
 | false => simp
 | true =>
  obtain ⟨t, f, e, _, hl, _, _⟩ := z10 l sg
  rw [f]
  simp only [if_true]
  split
  ·have := z63 key t.kids
   rw [e] at hl
   cases t; simp only [flat, T7.kids, List.length_cons] at hl this ⊢; omega
  ·simp
mutual
def dep : T7 → Nat
 | .mk _ l => deps l + 1
def deps : List T7 → Nat
 | [] => 0
 | t :: l => max (dep t) (deps l)
end
mutual
theorem dep_le : ∀ (t : T7), dep t ≤ (flat t).length
 | .mk x l => by have := deps_le l; simp only [dep, flat, List.length_cons]; omega
theorem deps_le : ∀ (l : List T7), deps l ≤ (z0 l).length
 | [] => by simp [deps]
 | t :: l => by have := dep_le t; have := deps_le l; simp only [deps, z0, List.length_append]; omega
end
theorem z115 (ks : List T7) (hk : (z0 ks).length ≤ 40) (ih : ∀ t ∈ ks, Ev (fun k => spec_l7Depth.f k t) (dep t : Int)) : ∀ (rest pre : List T7) (m : Nat), ks = pre ++ rest → m ≤ 40 → Ev (fun k => spec_l7Depth.l k ks m pre.length) ((max m (deps rest) + 1 : Nat) : Int)
 | [], pre, m, e, hm => by
  refine Ev.step (f := fun _ => some ((m + 1 : Nat) : Int)) (fun k => ?_) (by simpa [deps] using Ev.now _)
  rw [spec_l7Depth.l, if_neg (by rw [e]; simp), w64 (by omega) (by omega)]
  rfl
 | t :: rest, pre, m, e, hm => by
  have htm : t ∈ ks := by rw [e]; simp
  have hg : ks[pre.length]? = some t := by rw [e]; simp
  have h1 := dep_le t
  have h2 := (z7 htm).1
  refine Ev.step (f := fun k => (spec_l7Depth.f k t).bind fun r => if r > (m : Int) then spec_l7Depth.l k ks r (pre.length + 1) else spec_l7Depth.l k ks m (pre.length + 1)) (fun k => ?_) ?_
  ·rw [spec_l7Depth.l, if_pos (by rw [e, List.length_append, List.length_cons]; omega), Int.toNat_natCast, hg]; rfl
  ·refine Ev.bind (ih t htm) ?_
   by_cases c : m < dep t
   ·simp only [show (dep t : Int) > (m : Int) by omega, if_true]
    have := z115 ks hk ih rest (pre ++ [t]) (dep t) (by rw [e]; simp) (by omega)
    rw [List.length_append, List.length_singleton, show ((pre.length + 1 : Nat) : Int) = (pre.length : Int) + 1 by omega] at this
    simp only [deps]
    rw [show max m (max (dep t) (deps rest)) = max (dep t) (deps rest) by omega]
    exact this
   ·simp only [show ¬ (dep t : Int) > (m : Int) by omega, if_false]
    have := z115 ks hk ih rest (pre ++ [t]) m (by rw [e]; simp) hm
    rw [List.length_append, List.length_singleton, show ((pre.length + 1 : Nat) : Int) = (pre.length : Int) + 1 by omega] at this
    simp only [deps]
    rw [show max m (max (dep t) (deps rest)) = max m (deps rest) by omega]
    exact this
theorem z128 : ∀ (n : Nat) (t : T7), (flat t).length ≤ n → n ≤ 40 → Ev (fun k => spec_l7Depth.f k t) (dep t : Int)
 | 0, t, h, _ => by have := z9 t; omega
 | n + 1, .mk x kids, h, hn => by
  simp only [flat, List.length_cons] at h
  have hfl := z5 kids
  refine Ev.step (f := fun k => spec_l7Depth.l k kids 0 0) (fun k => ?_) ?_
  ·rw [spec_l7Depth.f]; simp only [T7.kids]; exact if_pos (by omega)
  ·have := z115 kids (by omega) (fun t ht => z128 n t (Nat.le_trans (z7 ht).1 (by omega)) (by omega)) kids [] 0 rfl (by omega)
   simpa [dep] using this
theorem z106 (ks : List T7) (hk : (z0 ks).length ≤ 40) (ih : ∀ t ∈ ks, Ev (fun k => impl_depthOf.f k (flat t)) (dep t : Int)) : ∀ (rest pre : List T7) (m : Nat), ks = pre ++ rest → m ≤ 40 → Ev (fun k => impl_depthOf.l0 k m (ks.map flat) ks.length pre.length) ((max m (deps rest) + 1 : Nat) : Int)
 | [], pre, m, e, hm => by
  refine Ev.step (f := fun _ => some ((m + 1 : Nat) : Int)) (fun k => ?_) (by simpa [deps] using Ev.now _)
  rw [impl_depthOf.l0, if_neg (by rw [e]; simp), w64 (by omega) (by omega)]
  rfl
 | t :: rest, pre, m, e, hm => by
  have htm : t ∈ ks := by rw [e]; simp
  have hlen : ks.length = pre.length + (rest.length + 1) := by rw [e]; simp
  have hr : rd_L3 (ks.map flat) pre.length = flat t := by rw [e]; simp [rd_L3, List.getD_eq_getElem?_getD]
  have h1 := dep_le t
  have h2 := (z7 htm).1
  have hfl := z5 ks
  refine Ev.step (f := fun k => (impl_depthOf.f k (flat t)).bind fun r => impl_depthOf.l0 k (mx m r) (ks.map flat) ks.length (pre.length + 1)) (fun k => ?_) ?_
  ·rw [impl_depthOf.l0, if_pos (by omega), if_pos (by omega), if_pos (by rw [List.length_map]; omega), hr, w64 (by omega) (by omega)]
  ·refine Ev.bind (ih t htm) ?_
   have hm2 : mx m (dep t) = ((max m (dep t) : Nat) : Int) := by unfold mx; split <;> omega
   rw [hm2]
   have := z106 ks hk ih rest (pre ++ [t]) (max m (dep t)) (by rw [e]; simp) (by omega)
   rw [List.length_append, List.length_singleton, show ((pre.length + 1 : Nat) : Int) = (pre.length : Int) + 1 by omega] at this
   simp only [deps]
   rw [show max m (max (dep t) (deps rest)) = max (max m (dep t)) (deps rest) by omega]
   exact this
theorem depthI : ∀ (n : Nat) (t : T7), Sh t → (flat t).length ≤ n → n ≤ 40 → Ev (fun k => impl_depthOf.f k (flat t)) (dep t : Int)
 | 0, t, _, h, _ => by have := z9 t; omega
 | n + 1, .mk x kids, hsh, h, hn => by
  have h' := h
  simp only [flat, List.length_cons] at h'
  simp only [Sh] at hsh
  have hfl := z5 kids
  refine Ev.step (f := fun k => (impl_partsOf.f k (flat (.mk x kids))).bind fun ps => impl_depthOf.l0 k 0 ps ps.length 0) (fun k => by rw [impl_depthOf.f]) ?_
  refine Ev.bind (z124 x kids hsh.2.2 (by omega) (by omega)) ?_
  have := z106 kids (by omega) (fun t ht => depthI n t (z67 hsh.2.2 ht) (Nat.le_trans (z7 ht).1 (by omega)) (by omega)) kids [] 0 rfl (by omega)
  simpa [dep] using this
theorem depthBoth (l : List S61) (hs : ∀ x ∈ l, x.f0.size < 1000000000000 ∧ x.f3.size < 1000000000000) (h62 : l.length < 1000000000000) : ∃ a b, Ev (fun k => spec_DepthOf.f k l) (a, b) ∧ Ev (fun k => impl_DepthOf.f k l) (a, b) := by
 have hi := z21 l hs h62
 unfold spec_DepthOf.f impl_DepthOf.f
 by_cases c : l.length ≤ 40
 ·have ho := ofS l c hs
  rw [z86 l] at ho
  cases f : Sp 6 l false with
  | none =>
   have sg : z2 l = false := by unfold z2; rw [f]; simp
   rw [f] at ho; rw [sg] at hi
   exact ⟨0, false, Ev.bind ho (by simp only [if_true]; exact Ev.now _), Ev.bind hi (by simp only [Bool.false_eq_true, if_false]; exact Ev.now _)⟩
  | some v =>
   obtain ⟨t, r⟩ := v
   cases r with
   | cons y r =>
    have sg : z2 l = false := by unfold z2; rw [f]; simp
    rw [f] at ho; rw [sg] at hi
    exact ⟨0, false, Ev.bind ho (by simp only [List.isEmpty_cons, if_true]; exact Ev.now _), Ev.bind hi (by simp only [Bool.false_eq_true, if_false]; exact Ev.now _)⟩
   | nil =>
    have sg : z2 l = true := by unfold z2; rw [f]; simp [c]
    obtain ⟨s1, s2, _, _⟩ := (z40 _ _ _ _ _).1 f
    rw [List.append_nil] at s1
    rw [f] at ho; rw [sg] at hi
    refine ⟨dep t, true, Ev.bind ho ?_, Ev.bind hi ?_⟩
    ·simp only [List.isEmpty_nil, Bool.true_eq_false, if_false, res, Option.bind_some]
     exact Ev.bind (z128 40 t (by rw [← s1]; exact c) (Nat.le_refl _)) (Ev.now _)
    ·simp only [if_true]
     rw [s1]
     exact Ev.bind (depthI 40 t s2 (by rw [← s1]; exact c) (Nat.le_refl _)) (Ev.now _)
 ·have sg : z2 l = false := by unfold z2; simp [c]
  rw [sg] at hi
  refine ⟨0, false, ?_, Ev.bind hi (by simp only [Bool.false_eq_true, if_false]; exact Ev.now _)⟩
  unfold spec_l7Of.f
  simp only [show (l.length : Int) > 40 by omega, if_true, Option.bind_some]; exact Ev.now _
theorem same_l0 (l : List S61) (hl : l.length < 4000000000) (d : Nat) : ∀ i : Nat, i + d = l.length → Ev (fun k => laws_sameNodes.l0 k l l (l.length : Int) (i : Int)) true := by
 induction d with
 | zero =>
  intro i hi
  exact Ev.step (fun k => by rw [laws_sameNodes.l0, if_neg (by omega)]) (Ev.now _)
 | succ d ih =>
  intro i hi
  have e1 : wrap64 ((i : Int) + 1) = ((i + 1 : Nat) : Int) := by rw [w64 (by omega) (by omega)]; omega
  exact Ev.step (fun k => by rw [laws_sameNodes.l0, if_pos (by omega), if_pos (by omega), if_pos (by omega), if_pos (by omega), if_neg (by simp), e1]) (ih (i + 1) (by omega))
theorem same (l : List S61) (hl : l.length < 4000000000) : Ev (fun k => laws_sameNodes.f k l l) true := by
 unfold laws_sameNodes.f
 simp only [if_true]
 exact same_l0 l hl l.length 0 (by omega)
theorem z88 : (⟨#[]⟩ : ByteArray).toList = [] := by simp
theorem nil_small : (⟨#[]⟩ : ByteArray).size < 1000000000000 := by decide
abbrev noKey (u : T7) : T7 := .mk ⟨⟨#[]⟩, u.x.f1, u.x.f2, u.x.f3, u.x.f4⟩ u.kids
theorem Pl_mono {g g' : T7 → Bool} (h : ∀ t, g t = true → g' t = true) (x : S61) : ∀ (ts : List T7) (last : ByteArray) (fst : Bool), Pl g x last fst ts = true → Pl g' x last fst ts = true
 | [], _, _, _ => rfl
 | t :: ts, last, fst, e => by
  simp only [Pl, Bool.and_eq_true] at e ⊢
  exact ⟨e.1, h t e.2.1, Pl_mono h x ts _ _ e.2.2⟩
theorem Pt_succ : ∀ (d : Nat) (t : T7), Pt d t = true → Pt (d + 1) t = true
 | 0, _, h => by simp [Pt] at h
 | d + 1, t, h => by
  rw [Pt, Bool.and_eq_true] at h ⊢
  exact ⟨h.1, Pl_mono (Pt_succ d) t.x _ _ _ h.2⟩
theorem Pl_x (g : T7 → Bool) (x y : S61) (h : x.f1 = y.f1) : ∀ (ts : List T7) (last : ByteArray) (fst : Bool), Pl g x last fst ts = Pl g y last fst ts
 | [], _, _ => rfl
 | t :: ts, last, fst => by simp only [Pl, h, Pl_x g x y h ts]
theorem Pt_noKey (d : Nat) (u : T7) : Pt d (noKey u) = Pt d u := by
 cases d with
 | zero => rfl
 | succ d =>
  rw [Pt, Pt]
  have e1 : z11 (noKey u).x = z11 u.x := rfl
  rw [e1, Pl_x (Pt d) (noKey u).x u.x rfl]
  rfl
theorem Sh_noKey (u : T7) (h : Sh u) : Sh (noKey u) := by
 cases u with
 | mk x l => exact h
theorem Pl_mem (g : T7 → Bool) (x : S61) : ∀ (ts : List T7) (last : ByteArray) (fst : Bool), Pl g x last fst ts = true → ∀ t ∈ ts, g t = true
 | [], _, _, _, t, h => by cases h
 | u :: ts, last, fst, e, t, h => by
  simp only [Pl, Bool.and_eq_true] at e
  rcases List.mem_cons.1 h with rfl | h
  ·exact e.2.1
  ·exact Pl_mem g x ts _ _ e.2.2 t h
theorem z133 {t : T7} : ∀ {ts : List T7}, t ∈ ts → dep t ≤ deps ts
 | [], h => by cases h
 | u :: ts, h => by
  rw [deps]
  rcases List.mem_cons.1 h with rfl | h
  ·omega
  ·have := z133 h; omega
theorem noKey_ok (u : T7) : z37 false (noKey u).x = true := by
 unfold z37
 have h : (noKey u).x.f0 = ⟨#[]⟩ := rfl
 rw [h, z49 _ (by rw [z88]; rfl), z88]
 rfl
theorem sgood_tree (t : T7) (h1 : Sh t) (h2 : z37 false t.x = true) (h3 : Pt 6 t = true) (h4 : (flat t).length ≤ 40) : Sp 6 (flat t) false = some (t, []) ∧ z2 (flat t) = true := by
 have e := (z40 6 (flat t) false t []).2 ⟨by rw [List.append_nil], h1, h2, h3⟩
 refine ⟨e, ?_⟩
 unfold z2
 rw [e, decide_eq_true h4]; rfl
theorem z73 (key : ByteArray) : ∀ (ks : List T7) (f : List S61), z1 key ks = (f, true) → ∃ u ∈ ks, u.x.f0.toList = key.toList ∧ f = flat (noKey u)
 | [], f, h => by simp [z1] at h
 | u :: ks, f, h => by
  rw [z1] at h
  by_cases c : u.x.f0.toList = key.toList
  ·rw [if_pos c] at h
   exact ⟨u, by simp, c, (Prod.mk.inj h).1.symm⟩
  ·rw [if_neg c] at h
   obtain ⟨v, h1, h2, h3⟩ := z73 key ks f h
   exact ⟨v, by simp [h1], h2, h3⟩
theorem z116 (m : List S61) (key : ByteArray) (f : List S61) (hs : ∀ x ∈ m, x.f0.size < 1000000000000 ∧ x.f3.size < 1000000000000) (h : z8 m key = (f, true)) :
  ∃ t u, z2 m = true ∧ Sp 6 m false = some (t, []) ∧ z2 f = true ∧ Sp 6 f false = some (noKey u, []) ∧ dep (noKey u) < dep t ∧ (∀ y ∈ f, y.f0.size < 1000000000000 ∧ y.f3.size < 1000000000000) ∧ f.length ≤ 40 := by
 unfold z8 at h
 cases sg : z2 m with
 | false => rw [sg] at h; simp at h
 | true =>
  obtain ⟨t, ht, em, h1, h2, h3, h4⟩ := z10 m sg
  rw [sg, ht] at h
  simp only [if_true] at h
  by_cases c7 : t.x.f1 = 7
  ·rw [if_pos c7] at h
   obtain ⟨u, hu, _, rfl⟩ := z73 key t.kids f h
   have hkids : ∀ y ∈ z0 t.kids, y ∈ m := fun y hy => by rw [em]; cases t; simp only [flat, List.mem_cons, T7.kids] at hy ⊢; exact .inr hy
   have hlen : (z0 t.kids).length < m.length := by rw [em]; cases t; simp only [flat, List.length_cons, T7.kids]; omega
   obtain ⟨m1, m2⟩ := z7 hu
   have hfl : (flat (noKey u)).length = (flat u).length := by cases u; rfl
   have hsh : Shs t.kids := by cases t; exact h1.2.2
   have hP : Pt 5 u = true := by
    rw [Pt, Bool.and_eq_true] at h4
    exact Pl_mem _ _ _ _ _ h4.2 u hu
   obtain ⟨s1, s2⟩ := sgood_tree (noKey u) (Sh_noKey u (z67 hsh hu)) (noKey_ok u) (by rw [Pt_noKey]; exact Pt_succ 5 u hP) (by rw [hfl]; omega)
   refine ⟨t, u, rfl, ht, s2, s1, ?_, fun y hy => ?_, by rw [hfl]; omega⟩
   ·have hd : dep (noKey u) = dep u := by cases u; rfl
    have := z133 hu
    rw [hd]
    cases t; simp only [dep, T7.kids] at this ⊢; omega
   ·cases u with
    | mk x l =>
     simp only [noKey, flat, List.mem_cons, T7.x, T7.kids] at hy
     have hx : x ∈ m := hkids _ (m2 _ (by simp [flat]))
     rcases hy with rfl | hy
     ·exact ⟨nil_small, (hs x hx).2⟩
     ·exact hs y (hkids y (m2 y (by simp [flat, hy])))
  ·rw [if_neg c7] at h; simp at h
theorem z81 (l : List S61) (hs : ∀ x ∈ l, x.f0.size < 1000000000000 ∧ x.f3.size < 1000000000000) (t : T7) (hg : z2 l = true) (ht : Sp 6 l false = some (t, [])) : Ev (fun k => impl_DepthOf.f k l) ((dep t : Int), true) := by
 obtain ⟨s1, s2, _, _⟩ := (z40 _ _ _ _ _).1 ht
 rw [List.append_nil] at s1
 have c : l.length ≤ 40 := by
  unfold z2 at hg
  rw [Bool.and_eq_true, decide_eq_true_eq] at hg
  exact hg.1
 have hi := z21 l hs (by omega)
 rw [hg] at hi
 unfold impl_DepthOf.f
 refine Ev.bind hi ?_
 simp only [if_true]
 rw [s1]
 exact Ev.bind (depthI 40 t s2 (by rw [← s1]; exact c) (Nat.le_refl _)) (Ev.now _)
theorem Shs_of : ∀ {ts : List T7}, (∀ t ∈ ts, Sh t) → Shs ts
 | [], _ => trivial
 | t :: ts, h => ⟨h t (by simp), Shs_of fun u hu => h u (by simp [hu])⟩
theorem z96 (key : ByteArray) (b : List T7) : ∀ a : List T7, (∀ u ∈ a, u.x.f0.toList ≠ key.toList) → z1 key (a ++ b) = z1 key b
 | [], _ => rfl
 | u :: a, h => by
  rw [List.cons_append, z1, if_neg (h u (by simp))]
  exact z96 key b a fun v hv => h v (by simp [hv])
theorem z97 (key : ByteArray) (t : T7) (ht : t.x.f0.toList ≠ key.toList) (b : List T7) : ∀ a : List T7, z1 key (a ++ t :: b) = z1 key (a ++ b)
 | [] => by rw [List.nil_append, List.nil_append, z1, if_neg ht]
 | u :: a => by
  rw [List.cons_append, List.cons_append, z1, z1, z97 key t ht b a]
theorem z62 (key other : ByteArray) (hne : other.toList ≠ key.toList) : ∀ ks : List T7, z1 other (z6 key ks) = z1 other ks
 | [] => rfl
 | u :: ks => by
  unfold z6
  rw [List.filter_cons]
  by_cases c : u.x.f0.toList = key.toList
  ·have hu : u.x.f0.toList ≠ other.toList := fun e => hne (e.symm.trans c)
   simp only [c, beq_self_eq_true, Bool.not_true, Bool.false_eq_true, if_false]
   rw [z1, if_neg hu]
   exact z62 key other hne ks
  ·have : (u.x.f0.toList == key.toList) = false := beq_eq_false_iff_ne.mpr c
   simp only [this, Bool.not_false, if_true]
   rw [z1, z1]
   have e := z62 key other hne ks
   unfold z6 at e
   rw [e]
theorem insT_split (l : List T7) (t : T7) : ∃ a b, insT l t = a ++ t :: b ∧ a ++ b = l := by
 refine ⟨_, _, ?_, List.takeWhile_append_dropWhile (p := fun u => less u.x.f0 t.x.f0) (l := l)⟩
 unfold insT
 rw [List.append_assoc]; rfl
theorem with_facts (l : List S61) (key : ByteArray) (v w : List S61) (hs : ∀ x ∈ l, x.f0.size < 1000000000000 ∧ x.f3.size < 1000000000000) (hv : ∀ x ∈ v, x.f0.size < 1000000000000 ∧ x.f3.size < 1000000000000) (hk : key.size < 1000000000000) (h : z25 l key v = (w, true)) :
  z2 w = true ∧ z8 w key = (v, true) ∧ (∀ other, other.toList ≠ key.toList → z8 w other = z8 l other) ∧ ∀ y ∈ w, y.f0.size < 1000000000000 ∧ y.f3.size < 1000000000000 := by
 unfold z25 at h
 by_cases c : z2 l = true ∧ z2 v = true ∧ (R key).2 = true
 ·rw [if_pos c] at h
  obtain ⟨g1, g2, g3⟩ := c
  obtain ⟨ta, ha, ea, a1, a2, a3, a4⟩ := z10 l g1
  obtain ⟨tx, hx, ex, x1, x2, x3, x4⟩ := z10 v g2
  rw [ha, hx] at h
  simp only at h
  by_cases c7 : ta.x.f1 = 7
  ·rw [if_pos c7] at h
   by_cases cw : z2 (wout key ta tx) = true
   ·rw [if_pos cw] at h
    obtain rfl := (Prod.mk.inj h).1
    obtain ⟨f1, f2, f3, f4, f5, f6⟩ := z47 key ta tx g3 c7 a4 (by rw [← ea]; exact a2) (by rw [← ex]; exact x2) hk (by rw [← ea]; exact hs) (by rw [← ex]; exact hv)
    obtain ⟨tw, hw, ew, w1, w2, w3, w4⟩ := z10 _ cw
    have hlen : (z15 key ta tx).length ≤ 40 := by
     have h1 := z5 (z15 key ta tx)
     have h2 : (wout key ta tx).length = (z0 (z15 key ta tx)).length + 1 := rfl
     omega
    have shx : Sh (T7.mk ⟨key, tx.x.f1, tx.x.f2, tx.x.f3, tx.x.f4⟩ tx.kids) := by cases tx; exact x1
    have sha : Shs ta.kids := by cases ta; exact a1.2.2
    have shw : Shs (z15 key ta tx) := Shs_of fun u hu => by
     rcases insT_mem.1 hu with rfl | hu
     ·exact shx
     ·exact z67 sha (f1 u hu).1
    have et : tw = T7.mk ⟨⟨#[]⟩, 7, 0, ⟨#[]⟩, ((z15 key ta tx).length : Int)⟩ (z15 key ta tx) :=
     (z131 _ _ (show Sh (T7.mk ⟨⟨#[]⟩, 7, 0, ⟨#[]⟩, ((z15 key ta tx).length : Int)⟩ (z15 key ta tx)) from ⟨fun h => absurd (show (7 : Int) < 6 from h) (by decide), fun _ => ⟨rfl, hlen⟩, shw⟩) w1 ew).symm
    have fw : ∀ other, z8 (wout key ta tx) other = z1 other (z15 key ta tx) := fun other => by
     unfold z8
     rw [if_pos cw, hw, et]
     rfl
    obtain ⟨p, q, e1, e2⟩ := insT_split (z6 key ta.kids) (T7.mk ⟨key, tx.x.f1, tx.x.f2, tx.x.f3, tx.x.f4⟩ tx.kids)
    have e1' : z15 key ta tx = p ++ T7.mk ⟨key, tx.x.f1, tx.x.f2, tx.x.f3, tx.x.f4⟩ tx.kids :: q := e1
    refine ⟨cw, ?_, fun other ho => ?_, f6⟩
    ·rw [fw, e1', z96 key _ p fun u hu => ?_, z1, if_pos (show (T7.mk ⟨key, tx.x.f1, tx.x.f2, tx.x.f3, tx.x.f4⟩ tx.kids).x.f0.toList = key.toList from rfl)]
     ·have hk0 : tx.x.f0 = ⟨#[]⟩ := by
       unfold z37 at x3
       rw [Bool.and_eq_true, Bool.false_or] at x3
       exact z57 (by rw [List.isEmpty_iff.1 x3.1, z88])
      rw [ex]
      cases tx with
      | mk x ks =>
       cases x
       simp only [T7.x] at hk0
       rw [hk0]; rfl
     ·have hm : u ∈ z6 key ta.kids := by rw [← e2]; simp [hu]
      exact fun e => (f1 u hm).2 (z57 e)
    ·rw [fw, e1', z97 other (T7.mk ⟨key, tx.x.f1, tx.x.f2, tx.x.f3, tx.x.f4⟩ tx.kids) (fun e => ho (show other.toList = key.toList from e.symm)) q p, e2, z62 key other ho]
     unfold z8
     rw [if_pos g1, ha]
     simp only [c7, if_true]
   ·rw [if_neg cw] at h; simp at h
  ·rw [if_neg c7] at h; simp at h
 ·rw [if_neg c] at h; simp at h
theorem z90 {r : List S61} (h : ∀ y ∈ r, y.f0.size < 1000 ∧ y.f3.size < 1000) : ∀ y ∈ r, y.f0.size < 1000000000000 ∧ y.f3.size < 1000000000000 := fun y hy => by have := h y hy; omega
theorem tail3 (l1 : List Int) (hb : z23 l1) : Ev (fun k => laws_FnFields.j3 k l1) true := by
 obtain ⟨m, a1, s1, e1, _, h1, hl, hs⟩ := z50 l1 hb 0 0 (by omega) (by omega)
 obtain ⟨key, a2, s2, e2, _, h2, hk⟩ := cur_of l1 hb a1 s1 ([(⟨#[97]⟩ : ByteArray), (⟨#[107, 105, 110, 100]⟩ : ByteArray), (⟨#[195, 169]⟩ : ByteArray), (⟨#[]⟩ : ByteArray), (⟨#[110, 111, 110, 101]⟩ : ByteArray)] : List ByteArray) (by simp) (by simp) (by omega) (by omega)
 have hs' := z90 hs
 have d1 : Ev (fun k => spec_DrawFieldOf.f k l1) (m, key) := by
  unfold spec_DrawFieldOf.f
  refine Ev.bind e1 ?_
  simp only [e2, Option.bind_some]
  exact Ev.now _
 have d2 : Ev (fun k => spec_DrawDepthOf.f k l1) m := by
  unfold spec_DrawDepthOf.f spec_DrawGoodValue.f
  exact Ev.bind (Ev.bind e1 (Ev.now _)) (Ev.now _)
 obtain ⟨a, b, p1, p2⟩ := depthBoth m hs' (by omega)
 have q1 := z132 m key hs' (by omega)
 have q2 := fieldS m key hs'
 have hfl := z53 m key
 obtain ⟨R, hR⟩ : ∃ R, R = z8 m key := ⟨_, rfl⟩
 rw [← hR] at q1 q2 hfl
 obtain ⟨f, ok⟩ := R
 simp only at hfl
 refine Ev.step (fun k => by rw [laws_FnFields.j3]) (Ev.bind d1 (Ev.bind q1 (Ev.bind q2 (Ev.bind d2 (Ev.bind p2 (Ev.bind p1 ?_))))))
 simp only [bne_self_eq_false, Bool.false_eq_true, if_false]
 refine Ev.bind (same f (by omega)) ?_
 simp only [if_true]
 cases ok with
 | false => exact Ev.step (fun k => by rw [laws_FnFields.j4, if_neg (by simp), if_neg (by simp)]) (Ev.now _)
 | true =>
  obtain ⟨t, u, g1, g2, g3, g4, g5, g6, g7⟩ := z116 m key f hs' hR.symm
  have w1 := z81 m hs' t g1 g2
  have w2 := z81 f g6 (noKey u) g3 g4
  have w3 : Ev (fun k => impl_GoodValue.f k f) true := by
   have := z21 f g6 (by omega)
   rw [g3] at this
   unfold impl_GoodValue.f
   exact Ev.bind this (Ev.now _)
  refine Ev.step (fun k => by rw [laws_FnFields.j4, if_neg (by simp), if_pos rfl]) ?_
  refine Ev.bind w1 (Ev.bind w2 ?_)
  simp only [if_true, if_pos (show ((dep (noKey u) : Nat) : Int) < ((dep t : Nat) : Int) by omega)]
  exact Ev.bind w3 (Ev.now _)
theorem FnFields : laws_FnFields.Pure := by
 intro l0 l1 h0 _ hw0 h1 _ hw1
 have b0 := z66 hw0
 have b1 := z66 hw1
 suffices hs : Ev (fun k => laws_FnFields.f k l0 l1) true by
  obtain ⟨k, hk⟩ := hs
  exact ⟨k, hk k (Nat.le_refl k)⟩
 unfold laws_FnFields.f
 by_cases hz : wrap64 ((l0.length : Int) + (l1.length : Int)) > 1048576
 ·simp only [hz, if_true]; exact Ev.now _
 simp only [hz, if_false]
 have hd : ∃ l key v, Ev (fun k => spec_DrawWithField.f k l0) (l, key, v) ∧ (l.length < 10000 ∧ ∀ y ∈ l, y.f0.size < 1000 ∧ y.f3.size < 1000) ∧ (v.length < 10000 ∧ ∀ y ∈ v, y.f0.size < 1000 ∧ y.f3.size < 1000) ∧ key.size < 1000 := by
  obtain ⟨m, a1, s1, e1, _, h1, hl, hs⟩ := z50 l0 b0 0 0 (by omega) (by omega)
  obtain ⟨b, a2, s2, e2, _, h2⟩ := cur_one l0 b0 a1 s1 2 (by omega) (by omega) (by omega)
  obtain ⟨key, a3, s3, e3, _, h3, hk⟩ := cur_of l0 b0 a2 s2 ([(⟨#[97]⟩ : ByteArray), (⟨#[107, 105, 110, 100]⟩ : ByteArray), (⟨#[255]⟩ : ByteArray), (⟨#[122]⟩ : ByteArray)] : List ByteArray) (by simp) (by simp) (by omega) (by omega)
  obtain ⟨v, a4, s4, e4, _, h4, hvl, hvs⟩ := z50 l0 b0 a3 s3 (by omega) (by omega)
  have hks : key.size < 1000 := by
   simp only [List.mem_cons, List.not_mem_nil, or_false] at hk
   rcases hk with rfl | rfl | rfl | rfl <;> decide
  unfold spec_DrawWithField.f
  cases b with
  | true =>
   refine ⟨[⟨⟨#[]⟩, 7, 0, ⟨#[]⟩, 1⟩, ⟨⟨#[107, 105, 110, 100]⟩, 1, 0, ⟨#[]⟩, 0⟩], key, v, Ev.bind e1 ?_, ⟨by simp, fun y hy => ?_⟩, ⟨hvl, hvs⟩, hks⟩
   ·simp only [e2, Option.bind_some, if_true, e3]
    exact Ev.bind e4 (Ev.now _)
   ·simp only [List.mem_cons, List.not_mem_nil, or_false] at hy
    rcases hy with rfl | rfl
    ·exact ⟨(by decide : (⟨#[]⟩ : ByteArray).size < 1000), (by decide : (⟨#[]⟩ : ByteArray).size < 1000)⟩
    ·exact ⟨(by decide : (⟨#[107, 105, 110, 100]⟩ : ByteArray).size < 1000), (by decide : (⟨#[]⟩ : ByteArray).size < 1000)⟩
  | false =>
   refine ⟨m, key, v, Ev.bind e1 ?_, ⟨hl, hs⟩, ⟨hvl, hvs⟩, hks⟩
   simp only [e2, Option.bind_some, Bool.false_eq_true, if_false, e3]
   exact Ev.bind e4 (Ev.now _)
 obtain ⟨l, key, v, hd, ⟨hl, hls⟩, ⟨hv, hvs⟩, hks⟩ := hd
 have hls' := z90 hls
 have hvs' := z90 hvs
 have q1 := withI l key v hls' hvs' (by omega) (by omega) (by omega)
 have q2 := withS l key v hls' hvs' (by omega)
 have hwl := z111 l key v
 obtain ⟨R, hR⟩ : ∃ R, R = z25 l key v := ⟨_, rfl⟩
 rw [← hR] at q1 q2 hwl
 obtain ⟨w, ok⟩ := R
 simp only at hwl
 refine Ev.bind hd (Ev.bind q1 (Ev.bind q2 ?_))
 simp only [bne_self_eq_false, Bool.false_eq_true, if_false]
 refine Ev.bind (same w (by omega)) ?_
 simp only [Bool.not_true]
 cases ok with
 | false => exact Ev.step (fun k => by rw [laws_FnFields.j0, if_neg (by simp), if_neg (by simp)]) (tail3 l1 b1)
 | true =>
  obtain ⟨f1, f2, f3, f4⟩ := with_facts l key v w hls' hvs' (by omega) hR.symm
  have i1 := z132 w key f4 (by omega)
  rw [f2] at i1
  have i2 : Ev (fun k => impl_GoodValue.f k w) true := by
   have := z21 w f4 (by omega)
   rw [f1] at this
   unfold impl_GoodValue.f
   exact Ev.bind this (Ev.now _)
  refine Ev.step (fun k => by rw [laws_FnFields.j0, if_neg (by simp), if_pos rfl]) (Ev.bind i1 (Ev.bind i2 ?_))
  simp only [if_true]
  refine Ev.bind (same v (by omega)) ?_
  simp only [Bool.not_true]
  have last : ∀ other : ByteArray, other.toList ≠ key.toList → Ev (fun k => laws_FnFields.j2 k l1 l w other) true := fun other ho => by
   have o1 := z132 l other hls' (by omega)
   have o2 := z132 w other f4 (by omega)
   rw [f3 other ho] at o2
   have ol := z53 l other
   refine Ev.step (fun k => by rw [laws_FnFields.j2]) (Ev.bind o1 (Ev.bind o2 ?_))
   simp only [bne_self_eq_false, Bool.false_eq_true, if_false]
   refine Ev.bind (same _ (by omega)) ?_
   simp only [if_true]
   exact tail3 l1 b1
  by_cases ck : key.toList = ([107, 105, 110, 100] : List UInt8)
  ·exact Ev.step (fun k => by rw [laws_FnFields.j1, if_neg (by simp), if_pos ck]) (last _ (by rw [ck]; simp))
  ·exact Ev.step (fun k => by rw [laws_FnFields.j1, if_neg (by simp), if_neg ck]) (last _ (fun e => ck (by rw [← e]; simp)))
end Go.Proofs.YtkfbdopfeacnfaaDoor.Pure