/-
The pure statement of FnExactJoinVotes is proved: for every two lists of votes the program's JoinVotes and the reference's JoinVotes give one list, and the list in it is the caller's own.
Conditions: the lists are ones that Go can hold. None besides.
-/
import Derived.Test.YtanebapjclkikaaPFnExactJoinVotesx4
import Derived.Test.YtanebapjclkikaaPreFnExactJoinVotes
set_option linter.unusedVariables false
set_option linter.unusedSimpArgs false
namespace Go.Proofs.Ytanebapjclkikaa.Pure
open Go.RowKit Go.Proofs.Ytanebapjclkikaa.PFnExactJoinVotes Go.Proofs.YtanebapjclkikaaW.PrintWords Go.Proofs.YtanebapjclkikaaW.PrintLast Go.Proofs.YtanebapjclkikaaW.PrintMore

theorem w64 {n : Int} (h0 : -9223372036854775808 ≤ n) (h1 : n ≤ 9223372036854775807) : wrap64 n = n := by unfold wrap64; omega
theorem rd_set (l : List Int) (i j v : Int) (h0 : 0 ≤ i) (h1 : i < l.length) (hj : 0 ≤ j) : rd (l.set i.toNat v) j = if j = i then v else rd l j := by
  unfold rd
  rw [List.getD_eq_getElem?_getD, List.getD_eq_getElem?_getD, List.getElem?_set]
  by_cases e : j = i
  · subst e; rw [if_pos rfl, if_pos (by omega), if_pos rfl]; rfl
  · rw [if_neg (by omega), if_neg e]
theorem rdOf_set {α : Type} (d : α) (l : List α) (i j : Int) (v : α) (h0 : 0 ≤ i) (h1 : i < l.length) (hj : 0 ≤ j) : rdOf d (l.set i.toNat v) j = if j = i then v else rdOf d l j := by
  unfold rdOf
  rw [List.getD_eq_getElem?_getD, List.getD_eq_getElem?_getD, List.getElem?_set]
  by_cases e : j = i
  · subst e; rw [if_pos rfl, if_pos (by omega), if_pos rfl]; rfl
  · rw [if_neg (by omega), if_neg e]

/-- A vote of the law's own type, as one of the program's. -/
def toV (x : S107) : S103 := ⟨x.f0, ⟨x.f1.f0, x.f1.f1⟩⟩
theorem rdV (l : List S103) (i : Int) (h0 : 0 ≤ i) (h1 : i < l.length) : ∃ h : i.toNat < l.length, rd_T103 l i = l[i.toNat] := by
  have hi : i.toNat < l.length := by omega
  exact ⟨hi, by simp [rd_T103, List.getD_eq_getElem?_getD, hi]⟩
theorem rdV_set (l : List S103) (i j : Int) (v : S103) (h0 : 0 ≤ i) (h1 : i < l.length) (hj : 0 ≤ j) : rd_T103 (l.set i.toNat v) j = if j = i then v else rd_T103 l j := by
  unfold rd_T103
  rw [List.getD_eq_getElem?_getD, List.getD_eq_getElem?_getD, List.getElem?_set]
  by_cases e : j = i
  · subst e; rw [if_pos rfl, if_pos (by omega), if_pos rfl]; rfl
  · rw [if_neg (by omega), if_neg e]
theorem toVotes_l0 (l : List S107) (hl : l.length < 4611686018427387904) (d : Nat) : ∀ (k : Nat) (m : List S103) (i : Int), 0 ≤ i → i ≤ l.length → (l.length : Int) - i = d → d < k → m.length = l.length → m.take i.toNat = (l.map toV).take i.toNat → laws_toVoteS.l0 k l m i = some (l.map toV) := by
  induction d with
  | zero =>
    intro k m i h0 hi hd hk hm hj
    obtain ⟨k, rfl⟩ : ∃ m, k = m + 1 := ⟨k - 1, by omega⟩
    simp only [laws_toVoteS.l0]
    rw [if_neg (by omega)]
    rw [List.take_of_length_le (by omega), List.take_of_length_le (by simp; omega)] at hj
    rw [hj]
  | succ d ih =>
    intro k m i h0 hi hd hk hm hj
    obtain ⟨k, rfl⟩ : ∃ m, k = m + 1 := ⟨k - 1, by omega⟩
    simp only [laws_toVoteS.l0, laws_toVote.f, laws_toSigned.f, Option.bind_some]
    rw [if_pos (by omega), if_pos h0, if_pos (by omega), w64 (by omega) (by omega)]
    refine ih k _ (i + 1) (by omega) (by omega) (by omega) (by omega) (by simpa using hm) ?_
    have hi' : i.toNat < l.length := by omega
    have hi2 : i.toNat < m.length := by omega
    rw [show (i + 1).toNat = i.toNat + 1 by omega]
    apply List.ext_getElem?
    intro j
    by_cases hlt : j < i.toNat
    · have h1 := congrArg (fun l => l[j]?) hj
      simp only [List.getElem?_take, hlt, if_true] at h1
      rw [List.getElem?_take, List.getElem?_take, if_pos (by omega), if_pos (by omega), List.getElem?_set, if_neg (by omega), h1]
    · by_cases he : j = i.toNat
      · subst he
        rw [List.getElem?_take, List.getElem?_take, if_pos (by omega), if_pos (by omega), List.getElem?_set, if_pos rfl, if_pos hi2]
        simp [rd_T107, List.getD_eq_getElem?_getD, hi', toV]
      · rw [List.getElem?_take, List.getElem?_take, if_neg (by omega), if_neg (by omega)]
theorem toVotes (l : List S107) (hl : l.length ≤ 11728124029610) : Ev (fun k => laws_toVoteS.f k l) (l.map toV) :=
  ⟨l.length + 1, fun k hk => by
    simp only [laws_toVoteS.f]
    rw [if_pos (by omega), if_pos (by omega)]
    exact toVotes_l0 l (by omega) l.length k _ 0 (by omega) (by omega) (by omega) (by omega) (by simp) (by simp)⟩
theorem eqVotes_l0 (l : List S103) (hl : l.length < 4611686018427387904) (d : Nat) : ∀ (k : Nat) (i : Int), 0 ≤ i → (l.length : Int) - i = d → d < k → laws_eqVoteS.l0 k l l i = some true := by
  induction d with
  | zero => intro k i h0 hd hk; obtain ⟨k, rfl⟩ : ∃ m, k = m + 1 := ⟨k - 1, by omega⟩; simp only [laws_eqVoteS.l0]; rw [if_neg (by omega)]
  | succ d ih =>
    intro k i h0 hd hk
    obtain ⟨k, rfl⟩ : ∃ m, k = m + 1 := ⟨k - 1, by omega⟩
    simp only [laws_eqVoteS.l0, laws_eqVote.f, laws_eqSigned.f, if_true, Option.bind_some]
    rw [if_pos (by omega), if_pos h0, if_pos (by omega), w64 (by omega) (by omega)]
    exact ih k (i + 1) (by omega) (by omega) (by omega)
theorem eqVotes (l : List S103) (hl : l.length < 4611686018427387904) : Ev (fun k => laws_eqVoteS.f k l l) true :=
  ⟨l.length + 1, fun k hk => by simp only [laws_eqVoteS.f, if_true]; exact eqVotes_l0 l hl l.length k 0 (by omega) (by omega) (by omega)⟩
def tri (n : Int) : S103 := ⟨n, ⟨n + 1, n + 2⟩⟩
theorem markVotes_l0 (d : Nat) : ∀ (k : Nat) (l : List S103) (m i : Int), 0 ≤ i → i ≤ l.length → (l.length : Int) - i = d → l.length < 2305843009213693952 → 0 ≤ m → m + 3 * d < 4611686018427387904 → d < k →
    ∃ l', laws_markVoteS.l0 k l m i = some (m + 3 * d, l') ∧ l'.length = l.length ∧ (∀ j, 0 ≤ j → j < i → rd_T103 l' j = rd_T103 l j) ∧ ∀ j, i ≤ j → j < l.length → rd_T103 l' j = tri (m + 3 * (j - i)) := by
  induction d with
  | zero =>
    intro k l m i h0 hi hd hl hm hb hk
    obtain ⟨k, rfl⟩ : ∃ m, k = m + 1 := ⟨k - 1, by omega⟩
    exact ⟨l, by simp only [laws_markVoteS.l0]; rw [if_neg (by omega)]; simp, rfl, fun _ _ _ => rfl, fun j _ _ => by omega⟩
  | succ d ih =>
    intro k l m i h0 hi hd hl hm hb hk
    obtain ⟨k, rfl⟩ : ∃ m, k = m + 1 := ⟨k - 1, by omega⟩
    have hw1 : wrap64 (m + 1) = m + 1 := w64 (by omega) (by omega)
    have hw2 : wrap64 (m + 1 + 1) = m + 2 := by rw [show m + 1 + 1 = m + 2 by omega]; exact w64 (by omega) (by omega)
    have hw3 : wrap64 (m + 2 + 1) = m + 3 := by rw [show m + 2 + 1 = m + 3 by omega]; exact w64 (by omega) (by omega)
    have hwi : wrap64 (i + 1) = i + 1 := w64 (by omega) (by omega)
    have r1 : ∀ v : S103, rd_T103 (l.set i.toNat v) i = v := fun v => by rw [rdV_set l i i v h0 (by omega) h0, if_pos rfl]
    obtain ⟨l', h1, h2, h3, h4⟩ := ih k (l.set i.toNat (tri m)) (m + 3) (i + 1) (by omega) (by simp; omega) (by simp; omega) (by simpa using hl) (by omega) (by omega) (by omega)
    refine ⟨l', ?_, by simpa using h2, ?_, ?_⟩
    · simp only [laws_markVoteS.l0, Option.bind_some]
      rw [if_pos (by omega), if_pos h0]
      simp only [hw1, hw2, hw3, hwi, List.set_set, r1]
      have := h1
      unfold tri at this
      rw [this]
      congr 2; omega
    · intro j hj hji; rw [h3 j hj (by omega), rdV_set _ _ _ _ h0 (by omega) hj, if_neg (by omega)]
    · intro j hij hjl
      by_cases e : j = i
      · subst e; rw [h3 j h0 (by omega), rdV_set _ _ _ _ h0 (by omega) h0, if_pos rfl]; congr 1; omega
      · rw [h4 j (by omega) (by simpa using hjl)]; congr 1; omega
theorem heldVotes_l0 (l : List S103) (hl : l.length < 2305843009213693952) (d : Nat) : ∀ (k : Nat) (m i : Int), 0 ≤ i → (l.length : Int) - i = d → 0 ≤ m → m + 3 * d < 4611686018427387904 → d < k →
    (∀ j, i ≤ j → j < l.length → rd_T103 l j = tri (m + 3 * (j - i))) → laws_heldVoteS.l0 k l m i = some (m + 3 * d) := by
  induction d with
  | zero =>
    intro k m i h0 hd hm hb hk hj
    obtain ⟨k, rfl⟩ : ∃ m, k = m + 1 := ⟨k - 1, by omega⟩
    simp only [laws_heldVoteS.l0]; rw [if_neg (by omega)]; simp
  | succ d ih =>
    intro k m i h0 hd hm hb hk hj
    obtain ⟨k, rfl⟩ : ∃ m, k = m + 1 := ⟨k - 1, by omega⟩
    have hw1 : wrap64 (m + 1) = m + 1 := w64 (by omega) (by omega)
    have hw2 : wrap64 (m + 1 + 1) = m + 2 := by rw [show m + 1 + 1 = m + 2 by omega]; exact w64 (by omega) (by omega)
    have hw3 : wrap64 (m + 2 + 1) = m + 3 := by rw [show m + 2 + 1 = m + 3 by omega]; exact w64 (by omega) (by omega)
    have hwi : wrap64 (i + 1) = i + 1 := w64 (by omega) (by omega)
    have he : rd_T103 l i = tri m := by rw [hj i (Int.le_refl i) (by omega)]; congr 1; omega
    simp only [laws_heldVoteS.l0, he, tri, hw1, hw2, hw3, hwi, if_true]
    rw [if_pos (by omega), if_pos h0, ih k (m + 3) (i + 1) (by omega) (by omega) (by omega) (by omega) (by omega) (fun j h1 h2 => by rw [hj j (by omega) h2]; congr 1; omega)]
    congr 1; omega
theorem markVotes (l : List S103) (hl : l.length < 1000000000) (m : Int) (hm : 0 ≤ m) (hm2 : m < 1000000000000) :
    ∃ l', Ev (fun k => laws_markVoteS.f k l m) (m + 3 * l.length, l') ∧ l'.length = l.length ∧ Ev (fun k => laws_heldVoteS.f k l' m) (m + 3 * l.length) := by
  obtain ⟨l', h1, h2, h3, h4⟩ := markVotes_l0 l.length (l.length + 1) l m 0 (by omega) (by omega) (by omega) (by omega) hm (by omega) (by omega)
  refine ⟨l', Ev.of (fun k => laws_markVoteS.mono _ _ k) h1, h2, ?_⟩
  have h5 := heldVotes_l0 l' (by omega) l'.length (l'.length + 1) m 0 (by omega) (by omega) hm (by omega) (by omega) (fun j a b => h4 j a (by omega))
  rw [h2] at h5
  exact Ev.of (fun k => laws_heldVoteS.mono _ _ k) h5
/-! Joining. -/
def same (a b c : Int) (x : S103) : Bool := x.f0 == a && (x.f1.f0 == b && x.f1.f1 == c)
theorem dropV (l : List S103) (i : Int) (h0 : 0 ≤ i) (h1 : i < l.length) : l.drop i.toNat = rd_T103 l i :: l.drop (i + 1).toNat := by
  obtain ⟨hi, e⟩ := rdV l i h0 h1
  rw [show (i + 1).toNat = i.toNat + 1 by omega, e]; exact List.drop_eq_getElem_cons hi
theorem spec_l1 (out b : List S103) (nb j v0 v1 v2 : Int) (hl : out.length < 1000000000) (d : Nat) : ∀ (h : Bool) (i : Int), 0 ≤ i → i ≤ out.length → (out.length : Int) - i = d → ∀ {r},
    Ev (fun k => if (h || (out.drop i.toNat).any (same v0 v1 v2)) = true then spec_JoinVotes.l0 k out b nb (wrap64 (j + 1)) else spec_JoinVotes.l0 k (out ++ [⟨v0, ⟨v1, v2⟩⟩]) b nb (wrap64 (j + 1))) r →
    Ev (fun k => spec_JoinVotes.l1 k out h b nb j out out.length i v0 v1 v2) r := by
  induction d with
  | zero =>
    intro h i h0 hi hd r hr
    rw [List.drop_eq_nil_of_le (by omega), List.any_nil, Bool.or_false] at hr
    cases h with
    | true => simp only [if_true] at hr; exact Ev.step (fun k => by rw [spec_JoinVotes.l1, if_neg (by omega), if_pos rfl]) hr
    | false => simp only [Bool.false_eq_true, if_false] at hr; exact Ev.step (fun k => by rw [spec_JoinVotes.l1, if_neg (by omega), if_neg (by simp), if_pos (by omega)]) hr
  | succ d ih =>
    intro h i h0 hi hd r hr
    rw [dropV out i h0 (by omega), List.any_cons] at hr
    cases h with
    | true =>
      refine Ev.step (fun k => by rw [spec_JoinVotes.l1, if_pos (by omega), if_pos h0, if_pos (by omega), if_pos rfl, w64 (n := i + 1) (by omega) (by omega)]) ?_
      exact ih true (i + 1) (by omega) (by omega) (by omega) (by simpa only [Bool.true_or] using hr)
    | false =>
      refine Ev.step (fun k => by rw [spec_JoinVotes.l1, if_pos (by omega), if_pos h0, if_pos (by omega), if_neg (by simp), w64 (n := i + 1) (by omega) (by omega)]) ?_
      exact ih (same v0 v1 v2 (rd_T103 out i)) (i + 1) (by omega) (by omega) (by omega) (by simpa only [Bool.false_or] using hr)
theorem index_l0 (out : List S103) (v0 v1 v2 : Int) (hl : out.length < 1000000000) (d : Nat) : ∀ i : Int, 0 ≤ i → i ≤ out.length → (out.length : Int) - i = d →
    ∃ r : Int, Ev (fun k => impl_Vote_105.l0 k out out.length i v0 v1 v2) r ∧ decide (r ≥ 0) = (out.drop i.toNat).any (same v0 v1 v2) := by
  induction d with
  | zero =>
    intro i h0 hi hd
    refine ⟨-1, Ev.step (fun k => by rw [impl_Vote_105.l0, if_neg (by omega)]) (Ev.now _), ?_⟩
    rw [List.drop_eq_nil_of_le (by omega), List.any_nil]; rfl
  | succ d ih =>
    intro i h0 hi hd
    rw [dropV out i h0 (by omega), List.any_cons]
    have hc : (v0 == (rd_T103 out i).f0 && (v1 == (rd_T103 out i).f1.f0 && v2 == (rd_T103 out i).f1.f1)) = same v0 v1 v2 (rd_T103 out i) := by
      unfold same
      rw [show (v0 == (rd_T103 out i).f0) = ((rd_T103 out i).f0 == v0) from Bool.beq_comm, show (v1 == (rd_T103 out i).f1.f0) = ((rd_T103 out i).f1.f0 == v1) from Bool.beq_comm, show (v2 == (rd_T103 out i).f1.f1) = ((rd_T103 out i).f1.f1 == v2) from Bool.beq_comm]
    cases hs : same v0 v1 v2 (rd_T103 out i) with
    | true =>
      refine ⟨i, Ev.step (fun k => by rw [impl_Vote_105.l0, if_pos (by omega), if_pos h0, if_pos (by omega), hc, hs, if_pos rfl]) (Ev.now _), ?_⟩
      rw [Bool.true_or]; exact decide_eq_true h0
    | false =>
      obtain ⟨r, h1, h2⟩ := ih (i + 1) (by omega) (by omega) (by omega)
      refine ⟨r, Ev.step (fun k => by rw [impl_Vote_105.l0, if_pos (by omega), if_pos h0, if_pos (by omega), hc, hs, if_neg (by simp), w64 (n := i + 1) (by omega) (by omega)]) h1, ?_⟩
      rw [Bool.false_or]; exact h2
theorem contains (out : List S103) (v0 v1 v2 : Int) (hl : out.length < 1000000000) : Ev (fun k => impl_Vote_85.f k out v0 v1 v2) (out.any (same v0 v1 v2)) := by
  obtain ⟨r, h1, h2⟩ := index_l0 out v0 v1 v2 hl out.length 0 (by omega) (by omega) (by omega)
  rw [Int.toNat_zero, List.drop_zero] at h2
  unfold impl_Vote_85.f impl_Vote_105.f
  refine Ev.bind h1 ?_
  rw [h2]; exact Ev.now _
theorem join_l0 (b : List S103) (hb : b.length ≤ 20) (d : Nat) : ∀ (out : List S103) (i : Int), 0 ≤ i → i ≤ b.length → (b.length : Int) - i = d → out.length + d ≤ 1000 →
    ∃ (r : List S103) (t : Bool), r.length ≤ 20 ∧ Ev (fun k => spec_JoinVotes.l0 k out b b.length i) (r, t) ∧ Ev (fun k => impl_JoinVotes.l0 k out b b.length i) (r, t) := by
  induction d with
  | zero =>
    intro out i h0 hi hd ho
    by_cases hc : (out.length : Int) > 20
    · exact ⟨[], false, by simp, Ev.step (fun k => by rw [spec_JoinVotes.l0, if_neg (by omega), if_pos hc]) (Ev.now _), Ev.step (fun k => by rw [impl_JoinVotes.l0, if_neg (by omega), if_pos hc]) (Ev.now _)⟩
    · exact ⟨out, true, by omega, Ev.step (fun k => by rw [spec_JoinVotes.l0, if_neg (by omega), if_neg hc]) (Ev.now _), Ev.step (fun k => by rw [impl_JoinVotes.l0, if_neg (by omega), if_neg hc]) (Ev.now _)⟩
  | succ d ih =>
    intro out i h0 hi hd ho
    have hw : wrap64 (i + 1) = i + 1 := w64 (by omega) (by omega)
    have hc := contains out (rd_T103 b i).f0 (rd_T103 b i).f1.f0 (rd_T103 b i).f1.f1 (by omega)
    cases hs : out.any (same (rd_T103 b i).f0 (rd_T103 b i).f1.f0 (rd_T103 b i).f1.f1) with
    | true =>
      obtain ⟨r, t, h1, h2, h3⟩ := ih out (i + 1) (by omega) (by omega) (by omega) (by omega)
      refine ⟨r, t, h1, ?_, ?_⟩
      · refine Ev.step (fun k => by rw [spec_JoinVotes.l0, if_pos (by omega), if_pos h0, if_pos (by omega)]) ?_
        refine spec_l1 out b b.length i _ _ _ (by omega) out.length false 0 (by omega) (by omega) (by omega) ?_
        simp only [Int.toNat_zero, List.drop_zero, hs, Bool.false_or, if_true, hw]; exact h2
      · refine Ev.step (fun k => by rw [impl_JoinVotes.l0, if_pos (by omega), if_pos h0, if_pos (by omega)]) ?_
        refine Ev.bind hc ?_
        simp only [hs, if_true, hw]; exact h3
    | false =>
      obtain ⟨r, t, h1, h2, h3⟩ := ih (out ++ [⟨(rd_T103 b i).f0, ⟨(rd_T103 b i).f1.f0, (rd_T103 b i).f1.f1⟩⟩]) (i + 1) (by omega) (by omega) (by omega) (by simp; omega)
      refine ⟨r, t, h1, ?_, ?_⟩
      · refine Ev.step (fun k => by rw [spec_JoinVotes.l0, if_pos (by omega), if_pos h0, if_pos (by omega)]) ?_
        refine spec_l1 out b b.length i _ _ _ (by omega) out.length false 0 (by omega) (by omega) (by omega) ?_
        simp only [Int.toNat_zero, List.drop_zero, hs, Bool.false_or, Bool.false_eq_true, if_false, hw]; exact h2
      · refine Ev.step (fun k => by rw [impl_JoinVotes.l0, if_pos (by omega), if_pos h0, if_pos (by omega)]) ?_
        refine Ev.bind hc ?_
        have hlt : out.length < 5864062014805 := by omega
        simp only [hs, Bool.false_eq_true, if_false, hlt, if_true, hw]; exact h3
theorem join (a b : List S103) : ∃ (r : List S103) (t : Bool), r.length ≤ 20 ∧ Ev (fun k => spec_JoinVotes.f k a b) (r, t) ∧ Ev (fun k => impl_JoinVotes.f k a b) (r, t) := by
  have no : Ev (fun k => spec_JoinVotes.j0 k a b true) ([], false) := Ev.step (fun k => by rw [spec_JoinVotes.j0, if_pos rfl]) (Ev.now _)
  have no2 : Ev (fun k => impl_JoinVotes.j0 k a b true) ([], false) := Ev.step (fun k => by rw [impl_JoinVotes.j0, if_pos rfl]) (Ev.now _)
  unfold spec_JoinVotes.f impl_JoinVotes.f
  by_cases ha : (a.length : Int) > 20
  · simp only [ha, if_true]; exact ⟨_, _, by simp, no, no2⟩
  · simp only [ha, if_false]
    by_cases hb : (b.length : Int) > 20
    · simp only [hb, decide_true]; exact ⟨_, _, by simp, no, no2⟩
    · simp only [hb, decide_false]
      obtain ⟨r, t, h1, h2, h3⟩ := join_l0 b (by omega) b.length a 0 (by omega) (by omega) (by omega) (by omega)
      refine ⟨r, t, h1, Ev.step (fun k => by rw [spec_JoinVotes.j0, if_neg (by simp), Option.bind_some, if_pos (by simp; omega), List.nil_append]) h2, ?_⟩
      have hcl : impl_Vote_84.f a = some a := by unfold impl_Vote_84.f; rw [if_pos (by omega)]
      exact Ev.step (fun k => by rw [impl_JoinVotes.j0, if_neg (by simp), hcl, Option.bind_some]) h3
theorem FnExactJoinVotes : laws_FnExactJoinVotes.Pure := by
  intro l0 l1 ⟨h0, _⟩ ⟨h1, _⟩
  apply Ev.rounds (g := fun k => laws_FnExactJoinVotes.f k l0 l1)
  unfold laws_FnExactJoinVotes.f laws_szVoteS.f
  rw [w64 (n := 1048576 - (l0.length : Int)) (by omega) (by omega)]
  by_cases hz : 1048576 - (l0.length : Int) < 0
  · simp only [hz, if_true, Option.bind_some, show (-1 : Int) < 0 by omega]; exact Ev.now _
  simp only [hz, if_false, Option.bind_some]
  rw [w64 (n := 1048576 - (l0.length : Int) - (l1.length : Int)) (by omega) (by omega)]
  by_cases hz2 : 1048576 - (l0.length : Int) - (l1.length : Int) < 0
  · simp only [hz2, if_true, Option.bind_some, show (-1 : Int) < 0 by omega]; exact Ev.now _
  simp only [hz2, if_false, Option.bind_some]
  have ta := toVotes l0 (by omega)
  have tb := toVotes l1 (by omega)
  obtain ⟨a, ea⟩ : ∃ a, a = l0.map toV := ⟨_, rfl⟩
  obtain ⟨b, eb⟩ : ∃ b, b = l1.map toV := ⟨_, rfl⟩
  have la : a.length = l0.length := by rw [ea]; simp
  have lb : b.length = l1.length := by rw [eb]; simp
  rw [← ea] at ta
  rw [← eb] at tb
  obtain ⟨r, t, hr, s1, i1⟩ := join a b
  have er := eqVotes r (by omega)
  have eqa := eqVotes a (by omega)
  have eqb := eqVotes b (by omega)
  obtain ⟨a', ma, _, _⟩ := markVotes a (by omega) 1 (by omega) (by omega)
  obtain ⟨b', mb, _, _⟩ := markVotes b (by omega) (1 + 3 * a.length) (by omega) (by omega)
  obtain ⟨r', mr, hrl, hh⟩ := markVotes r (by omega) 1 (by omega) (by omega)
  refine Ev.bind ta (Ev.bind tb (Ev.bind s1 (Ev.bind ta (Ev.bind tb (Ev.bind i1 (Ev.bind er ?_))))))
  simp only [if_true, bne_self_eq_false]
  refine Ev.step (fun k => by rw [laws_FnExactJoinVotes.j0]) ?_
  simp only [Bool.false_eq_true, if_false]
  refine Ev.bind ta (Ev.bind eqa ?_)
  simp only [if_true]
  refine Ev.bind tb (Ev.bind eqb ?_)
  simp only [if_true]
  refine Ev.bind ma (Ev.bind mb ?_)
  simp only [show ¬ (1 + 3 * (a.length : Int) + 3 * (b.length : Int) < 0) by omega, if_false]
  refine Ev.bind er ?_
  simp only [if_true, bne_self_eq_false]
  refine Ev.step (fun k => by rw [laws_FnExactJoinVotes.j1]) ?_
  simp only [Bool.false_eq_true, if_false]
  refine Ev.bind mr (Ev.bind hh ?_)
  simp only [show ¬ (1 + 3 * (r.length : Int) < 0) by omega, if_false, if_true]
  refine Ev.bind ta (Ev.bind tb (Ev.bind i1 (Ev.bind er ?_)))
  simp only [if_true, bne_self_eq_false]
  refine Ev.step (fun k => by rw [laws_FnExactJoinVotes.j2]) ?_
  simp only [Bool.false_eq_true, if_false]
  refine Ev.bind hh ?_
  simp only [show ¬ (1 + 3 * (r.length : Int) < 0) by omega, if_false, if_true]
  exact Ev.now _

end Go.Proofs.Ytanebapjclkikaa.Pure
