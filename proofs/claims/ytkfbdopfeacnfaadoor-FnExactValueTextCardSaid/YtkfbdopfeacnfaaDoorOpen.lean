/-
What a call's arguments read as: for each kind of value (numbers, bools, strings, structs, slices of such) the form's reading of the memory gives a plain value of the printed kinds, within the form's own bounds.
Conditions: the reading succeeds, and what is read lies within the form's reach.
-/
import Derived.Test.YtkfbdopfeacnfaaDoorWWords
import Derived.Test.YtkfbdopfeacnfaaDoorWMore
import Derived.Deep.Slices
import Derived.SizedLaws
import Derived.ChangeOld
import Derived.ChangeAnyMap
namespace Go.Proofs.YtkfbdopfeacnfaaDoorO
open Go.Proofs.YtkfbdopfeacnfaaDoorW.PrintWords Go.Deep Go.ChangeShapes
variable {P : Program}

/-- What reads at type t is told by d, and meets F. -/
def Opens (P : Program) (t : TypeId) {α : Type} (d : Kd α) (F : α → Prop) : Prop :=
  d.sz = P.cellsOf t ∧ ∀ (H : Type) (enc : TypeId × Value → H) (w : World) (fuel : Nat) (cs : List Value) (x : DataW H × List MemPlace),
    DataW.trod enc P w 0 (fun _ => true) true fuel t cs = some x → (∀ n ∈ x.1.weights P t, n ≤ reachBytes) → ∃ a, d.K w a cs ∧ F a

theorem opens_int {t : TypeId} {k : IntKind} (hu : P.underlying t = some (.int k)) (hc : P.cellsOf t = 1) : Opens P t (Kd.int k) (fun n => (Lit.int k n).wf = true) :=
  ⟨hc.symm, fun H enc w fuel cs x h _ => by
    obtain ⟨n, rfl, _, hw⟩ := DataW.trod_int hu h
    exact ⟨n, rfl, hw⟩⟩
theorem opens_bool {t : TypeId} (hu : P.underlying t = some .bool) (hc : P.cellsOf t = 1) : Opens P t Kd.bool (fun _ => True) :=
  ⟨hc.symm, fun H enc w fuel cs x h _ => by
    obtain ⟨b, rfl, _⟩ := DataW.trod_bool hu h
    exact ⟨b, rfl, trivial⟩⟩
theorem opens_string {t : TypeId} (hu : P.underlying t = some .string) (hc : P.cellsOf t = 1) : Opens P t Kd.string (fun s => s.size ≤ 140737488351232) :=
  ⟨hc.symm, fun H enc w fuel cs x h hw => by
    obtain ⟨s, rfl, rfl, _⟩ := DataW.trod_string hu h
    refine ⟨s, rfl, ?_⟩
    have := hw s.data.toList.length (by simp [DataW.weights])
    rw [Array.length_toList] at this
    exact this⟩

theorem weightsAll_of {H : Type} {e : TypeId} : ∀ {l : List (DataW H)} {y : DataW H}, y ∈ l → ∀ n ∈ y.weights P e, n ∈ DataW.weightsAll P e l
  | [], _, h, _, _ => by cases h
  | z :: l, y, h, n, hn => by
    simp only [DataW.weightsAll, List.mem_append]
    rcases List.mem_cons.1 h with rfl | h
    · exact .inl hn
    · exact .inr (weightsAll_of h n hn)

theorem add_add_ (a : Addr) (x y : Nat) : (a.add x).add y = a.add (x + y) := by
  obtain ⟨b, o, k⟩ := a
  unfold Addr.add
  by_cases hx : x = 0
  · subst hx; simp
  · by_cases hy : y = 0
    · subst hy; simp [hx]
    · simp [hx, hy, Nat.add_assoc]

theorem cells_get {w : World} {a : Addr} {n : Nat} {cs : List Value} (h : w.cells? 0 a n = some cs) : cs.length = n ∧ ∀ i u, cs[i]? = some u → w.cell? (a.add i) = some u := by
  unfold World.cells? at h
  rw [if_pos (Nat.zero_le _)] at h
  have hl : cs.length = n := by simpa using mapM_len h
  refine ⟨hl, fun i u hu => ?_⟩
  have hi : i < n := by have := (List.getElem?_eq_some_iff.1 hu).1; omega
  have := mapM_some_get h i i (by simp [hi])
  rw [hu] at this
  exact this

theorem opens_slice {t e : TypeId} {α : Type} {d : Kd α} {F : α → Prop} (ht : P.underlying t = some (.slice e)) (hct : P.cellsOf t = 1) (B : Nat) (hB : P.bytesOf e = B) (he : Opens P e d F) :
    Opens P t (Kd.slice e d) (fun l => l.length * B ≤ 140737488351232 ∧ ∀ x ∈ l, F x) := by
  subst hB
  refine ⟨hct.symm, fun H enc w fuel cs x h hw => ?_⟩
  rcases open_slice ht h with ⟨rfl, rfl⟩ | ⟨a, len, cap, m, n, D, Pl, rfl, hb, hl, hm, hmm, rfl, hx⟩
  · exact ⟨[], ⟨none, 0, rfl, Nat.le_refl _, Kd.C_nil d w⟩, by simp, by simp⟩
  rw [if_pos rfl] at hmm
  subst hmm   -- the capacity is m now
  have hb' : len * P.bytesOf e ≤ 140737488351232 := by
    have h1 := hw ((len + (m - len)) * P.bytesOf e) (by simp [DataW.weights, ht])
    have h2 : len * P.bytesOf e ≤ (len + (m - len)) * P.bytesOf e := Nat.mul_le_mul_right _ (by omega)
    have h3 : reachBytes = 140737488351232 := rfl
    omega
  have hel : ∀ i, i < len → ∃ y, (∃ cs', w.cells? 0 (a.add (i * P.cellsOf e)) (P.cellsOf e) = some cs' ∧ d.K w y cs') ∧ F y := by
    intro i hi
    obtain ⟨cs', hc', ht'⟩ := hx i (by omega)
    obtain ⟨y, hy, hf⟩ := he.2 H enc w n cs' _ ht' (fun q hq => hw q (by
      simp only [DataW.weights, ht]
      exact List.mem_cons_of_mem _ (List.mem_append.2 (.inl (weightsAll_of (List.mem_map.2 ⟨i, by simp [hi], rfl⟩) q hq)))))
    exact ⟨y, ⟨cs', hc', hy⟩, hf⟩
  by_cases h0 : len = 0
  · subst h0
    exact ⟨[], ⟨some a, m, rfl, by simp, ⟨rfl, by simp, fun h => absurd h (by simp)⟩⟩, by simp, by simp⟩
  obtain ⟨y0, _⟩ := hel 0 (by omega)
  have hel' : ∀ i, ∃ y, i < len → (∃ cs', w.cells? 0 (a.add (i * P.cellsOf e)) (P.cellsOf e) = some cs' ∧ d.K w y cs') ∧ F y := by
    intro i
    by_cases hi : i < len
    · obtain ⟨y, h⟩ := hel i hi
      exact ⟨y, fun _ => h⟩
    · exact ⟨y0, fun h => absurd h hi⟩
  obtain ⟨f, hf⟩ := Classical.axiomOfChoice hel'
  refine ⟨(List.range len).map f, ⟨some a, m, by simp, by simpa using hl, ?_⟩, by simpa using hb', fun x hx => ?_⟩
  · refine ⟨rfl, by simp; unfold maxLen at hm; omega, fun _ => ⟨a, rfl, fun j p hp => ?_⟩⟩
    have hj : j < len := by have := (List.getElem?_eq_some_iff.1 hp).1; simpa using this
    have hp' : f j = p := by simpa [hj] using hp
    obtain ⟨⟨cs', hc', hk⟩, _⟩ := hf j hj
    obtain ⟨hcl, hcg⟩ := cells_get hc'
    refine ⟨cs', d.K_len hk, hp' ▸ hk, fun i u hu => ?_⟩
    rw [he.1, ← add_add_]
    exact hcg i u hu
  · obtain ⟨i, hi, rfl⟩ := List.mem_map.1 hx
    exact (hf i (by simpa using hi)).2

/-- What a struct's fields from one on read as. -/
def Fields (P : Program) (fs : List Field) (off : Nat) {α : Type} (d : Kd α) (F : α → Prop) : Prop :=
  ∀ (H : Type) (enc : TypeId × Value → H) (w : World) (n : Nat) (cs : List Value) (xs : List (DataW H × List MemPlace)),
    xs.length = fs.length → (∀ (i : Nat) (f : Field), fs[i]? = some f → DataW.trod enc P w 0 (fun _ => true) true n f.type ((cs.drop f.offset).take (P.cellsOf f.type)) = xs[i]?) →
    (∀ q ∈ DataW.weightsEach P (fs.map (·.type)) (xs.map (·.1)), q ≤ reachBytes) → cs.length = off + d.sz → ∃ a, d.K w a (cs.drop off) ∧ F a

theorem fields_one {f : Field} {α : Type} {d : Kd α} {F : α → Prop} (h : Opens P f.type d F) : Fields P [f] f.offset d F := by
  intro H enc w n cs xs hl hx hw hc
  match xs, hl with
  | [x], _ =>
    have h0 := hx 0 f rfl
    rw [← h.1, List.take_of_length_le (by rw [List.length_drop]; omega)] at h0
    exact h.2 H enc w n _ x h0 (fun q hq => hw q (by simp [DataW.weightsEach, hq]))

theorem fields_cons {f : Field} {fs : List Field} {α β : Type} {d : Kd α} {d2 : Kd β} {F : α → Prop} {F2 : β → Prop} {off2 : Nat} (h : Opens P f.type d F) (ho : off2 = f.offset + d.sz) (h2 : Fields P fs off2 d2 F2) :
    Fields P (f :: fs) f.offset (Kd.pair d d2) (fun x => F x.1 ∧ F2 x.2) := by
  subst ho
  intro H enc w n cs xs hl hx hw hc
  match xs, hl with
  | x :: xs, hl =>
    have h0 := hx 0 f rfl
    have hc' : cs.length = f.offset + d.sz + d2.sz := by
      have : (Kd.pair d d2).sz = d.sz + d2.sz := rfl
      omega
    obtain ⟨a, ha, hF⟩ := h.2 H enc w n _ x h0 (fun q hq => hw q (by simp [DataW.weightsEach, hq]))
    obtain ⟨b, hb, hF2⟩ := h2 H enc w n cs xs (by simpa using hl) (fun i g hg => by simpa using hx (i + 1) g (by simpa using hg)) (fun q hq => hw q (by simp only [List.map_cons, DataW.weightsEach, List.mem_append]; exact .inr hq)) hc'
    refine ⟨(a, b), ⟨(cs.drop f.offset).take d.sz, cs.drop (f.offset + d.sz), ?_, by rw [h.1]; exact ha, hb⟩, hF, hF2⟩
    rw [← List.drop_drop]
    exact (List.take_append_drop _ _).symm

theorem opens_struct {t : TypeId} {fs : Array Field} {l : List Field} {α : Type} {d : Kd α} {F : α → Prop} (ht : P.underlying t = some (.struct fs)) (hl : fs.toList = l) (hsz : d.sz = P.cellsOf t) (h : Fields P l 0 d F) : Opens P t d F := by
  subst hl
  refine ⟨hsz, fun H enc w fuel cs x hx hw => ?_⟩
  obtain ⟨xs, n, rfl, rfl, hlen, hxl, hall⟩ := DataW.trod_struct ht hx
  have := h H enc w n cs xs (by simpa using hxl) (fun i f hf => hall i f (by simpa using hf)) (fun q hq => hw q (by simp only [DataW.weights, ht]; exact hq)) (by omega)
  simpa using this

theorem opens_iso {t : TypeId} {α β : Type} {d : Kd α} {F : α → Prop} {F' : β → Prop} {f : β → α} (g : α → β) (hg : ∀ a, f (g a) = a) (hF : ∀ a, F a → F' (g a)) (h : Opens P t d F) : Opens P t (Kd.iso d f) F' :=
  ⟨h.1, fun H enc w fuel cs x hx hw => by
    obtain ⟨a, ha, hf⟩ := h.2 H enc w fuel cs x hx hw
    exact ⟨g a, by show d.K w (f (g a)) cs; rw [hg]; exact ha, hF a hf⟩⟩

theorem weights_each {H : Type} : ∀ {ts : List TypeId} {ds : List (DataW H)} {j : Nat} {t : TypeId} {d : DataW H}, ts[j]? = some t → ds[j]? = some d → ∀ q ∈ d.weights P t, q ∈ DataW.weightsEach P ts ds
  | [], _, _, _, _, h, _, _, _ => by simp at h
  | _ :: _, [], _, _, _, _, h, _, _ => by simp at h
  | t0 :: ts, d0 :: ds, 0, t, d, h, h', q, hq => by
    simp only [List.getElem?_cons_zero, Option.some.injEq] at h h'
    subst h; subst h'
    simp only [DataW.weightsEach, List.mem_append]; exact .inl hq
  | t0 :: ts, d0 :: ds, j + 1, t, d, h, h', q, hq => by
    simp only [List.getElem?_cons_succ] at h h'
    simp only [DataW.weightsEach, List.mem_append]; exact .inr (weights_each h h' q hq)

/-- An argument, by its reading. -/
theorem opens_arg {t : TypeId} {α : Type} {dk : Kd α} {F : α → Prop} (h : Opens P t dk F) {H : Type} {enc : TypeId × Value → H} {W : World} {v : Value} {x : DataW H} {ps : List MemPlace} {ts : List TypeId} {ds : List (DataW H)} {j : Nat}
    (hsz : (DataW.weightsEach P ts ds).all (· ≤ reachBytes) = true) (ht : ts[j]? = some t) (hd : ds[j]? = some x) (hx : DataW.Trod enc P W 0 (fun _ => true) true t v x ps) : ∃ a, dk.K W a v.cells.toList ∧ F a := by
  obtain ⟨fuel, hf⟩ := hx
  refine h.2 H enc W fuel _ _ hf (fun q hq => ?_)
  have := List.all_eq_true.1 hsz q (weights_each ht hd q hq)
  simpa using this

theorem agg_of_ok {t : TypeId} {fs : Array Field} {W : World} {base : Nat} {v : Value} (ht : P.underlying t = some (.struct fs)) (h : Value.okWide P W .any base t v) : ∃ cs, v = .agg cs := by
  unfold Value.okWide at h
  rw [ht] at h
  obtain ⟨cs, rfl, _⟩ := h
  exact ⟨cs, rfl⟩
end Go.Proofs.YtkfbdopfeacnfaaDoorO
