-- Printed by wip/tools/patch_print.py (a changed copy of the kit's printing program).
import Derived.Test.YtkfbdopfeacnfaaDoorPFnExactValueTextx0
import Derived.Test.YtkfbdopfeacnfaaDoorPFnExactValueTextx4
import Derived.Test.YtkfbdopfeacnfaaDoorPFnExactValueTextx5
namespace Go.Proofs.YtkfbdopfeacnfaaDoor.PFnExactValueText
open Go.RowKit Go.Proofs.YtkfbdopfeacnfaaDoorW.PrintWords Go.Proofs.YtkfbdopfeacnfaaDoorW.PrintLast Go.Proofs.YtkfbdopfeacnfaaDoorW.PrintMore
attribute [local go_sem] max2_int min2_int max_two min_two max_three min_three max_four min_four   -- for this text's walks alone
set_option linter.unusedVariables false
set_option linter.unusedSimpArgs false

noncomputable section
/-! ### spec_l7Tree: function 69 -/
/-! Values as trees: what the heap holds of a tree, below any change that leaves its own blocks. -/
inductive T7 where
  | mk (x : S61) (kids : List T7)
def T7.x : T7 → S61
  | .mk x _ => x
def T7.kids : T7 → List T7
  | .mk _ l => l
/-- Pointers to blocks' beginnings. -/
def kp : Kd Nat := Kd.scalar (fun g => .pointer (some ⟨g, 0, none⟩)) (fun _ => rfl)
def nodeC (x : S61) (v : Value) : Array Value := #[.string x.f0, .int .i64 x.f1, .int .i64 x.f2, .string x.f3, .int .i64 x.f4, v]
/-- The block g holds a tree of at most so many levels; all its blocks are in ok. -/
def IsT (tv tp : Nat) : Nat → World → (Nat → Prop) → Nat → T7 → Prop
  | 0, _, _, _, _ => False
  | d + 1, W, ok, g, t => ok g ∧ ∃ (v : Value) (gs : List Nat), W.heap[g]? = some (.cells (nodeC t.x v) tv (0, 0)) ∧ kp.R tp W 0 ok v gs ∧ gs.length = t.kids.length ∧ ∀ (i g' : Nat) (t' : T7), gs[i]? = some g' → t.kids[i]? = some t' → IsT tv tp d W ok g' t'
section
variable {tv tp : Nat} {W W1 W2 : World} {ok ok' : Nat → Prop}
theorem IsT.step : ∀ {d : Nat} {g : Nat} {t : T7}, IsT tv tp d W ok g t → (∀ k, ok k → k < W.heap.size → W1.heap[k]? = W.heap[k]?) → IsT tv tp d W1 ok g t
  | 0, _, _, h, _ => h.elim
  | d + 1, g, t, ⟨h1, v, gs, h2, h3, h4, h5⟩, hm => ⟨h1, v, gs, (hm g h1 (blk_lt h2)).trans h2, Kd.R_step h3 hm, h4, fun i g' t' a b => IsT.step (h5 i g' t' a b) hm⟩
theorem IsT.mono : ∀ {d : Nat} {g : Nat} {t : T7}, IsT tv tp d W ok g t → (∀ k, ok k → ok' k) → IsT tv tp d W ok' g t
  | 0, _, _, h, _ => h.elim
  | d + 1, g, t, ⟨h1, v, gs, h2, h3, h4, h5⟩, hm => ⟨hm g h1, v, gs, h2, Kd.R_mono h3 hm, h4, fun i g' t' a b => IsT.mono (h5 i g' t' a b) hm⟩
theorem IsT.bound : ∀ {d : Nat} {g : Nat} {t : T7}, IsT tv tp d W ok g t → IsT tv tp d W (fun k => ok k ∧ k < W.heap.size) g t
  | 0, _, _, h => h.elim
  | d + 1, g, t, ⟨h1, v, gs, h2, h3, h4, h5⟩ => ⟨⟨h1, blk_lt h2⟩, v, gs, h2, Kd.R_mono (Kd.R_bound h3) (fun k hk => ⟨hk.1, hk.2.2.1⟩), h4, fun i g' t' a b => IsT.bound (h5 i g' t' a b)⟩
theorem IsT.below {d g : Nat} {t : T7} (h : IsT tv tp d W ok g t) (hb : Below W.heap.size W W1) : IsT tv tp d W1 ok g t := h.step (fun k _ hk => hb.block k hk)
theorem IsT.more : ∀ {d : Nat} {g : Nat} {t : T7}, IsT tv tp d W ok g t → IsT tv tp (d + 1) W ok g t
  | 0, _, _, h => h.elim
  | d + 1, g, t, ⟨h1, v, gs, h2, h3, h4, h5⟩ => ⟨h1, v, gs, h2, h3, h4, fun i g' t' a b => IsT.more (h5 i g' t' a b)⟩
theorem IsT.upto {d e g : Nat} {t : T7} (h : IsT tv tp d W ok g t) (he : d ≤ e) : IsT tv tp e W ok g t := by
  induction e with
  | zero => obtain rfl : d = 0 := (by omega); exact h
  | succ e ih =>
    by_cases hd : d = e + 1
    · subst hd; exact h
    · exact IsT.more (ih (by omega))
/-- Trees in a row. -/
def IsF (tv tp d : Nat) (W : World) (ok : Nat → Prop) (gs : List Nat) (ts : List T7) : Prop := gs.length = ts.length ∧ ∀ (i g : Nat) (t : T7), gs[i]? = some g → ts[i]? = some t → IsT tv tp d W ok g t
theorem IsF.nil (d : Nat) (W : World) (ok : Nat → Prop) : IsF tv tp d W ok [] [] := ⟨rfl, fun i g t h => by simp at h⟩
theorem IsF.step {d : Nat} {gs : List Nat} {ts : List T7} (h : IsF tv tp d W ok gs ts) (hm : ∀ k, ok k → k < W.heap.size → W1.heap[k]? = W.heap[k]?) : IsF tv tp d W1 ok gs ts := ⟨h.1, fun i g t a b => (h.2 i g t a b).step hm⟩
theorem IsF.mono {d : Nat} {gs : List Nat} {ts : List T7} (h : IsF tv tp d W ok gs ts) (hm : ∀ k, ok k → ok' k) : IsF tv tp d W ok' gs ts := ⟨h.1, fun i g t a b => (h.2 i g t a b).mono hm⟩
theorem IsF.bound {d : Nat} {gs : List Nat} {ts : List T7} (h : IsF tv tp d W ok gs ts) : IsF tv tp d W (fun k => ok k ∧ k < W.heap.size) gs ts := ⟨h.1, fun i g t a b => (h.2 i g t a b).bound⟩
theorem IsF.below {d : Nat} {gs : List Nat} {ts : List T7} (h : IsF tv tp d W ok gs ts) (hb : Below W.heap.size W W1) : IsF tv tp d W1 ok gs ts := h.step (fun k _ hk => hb.block k hk)
theorem IsF.snoc {d g : Nat} {t : T7} {gs : List Nat} {ts : List T7} (h : IsF tv tp d W ok gs ts) (ht : IsT tv tp d W ok g t) : IsF tv tp d W ok (gs ++ [g]) (ts ++ [t]) := by
  refine ⟨by rw [List.length_append, List.length_append, h.1]; rfl, fun i g' t' a b => ?_⟩
  rcases Nat.lt_or_ge i gs.length with hi | hi
  · rw [List.getElem?_append_left hi] at a
    rw [List.getElem?_append_left (by rw [← h.1]; exact hi)] at b
    exact h.2 i g' t' a b
  · rw [List.getElem?_append_right hi] at a
    rw [List.getElem?_append_right (by rw [← h.1]; exact hi), ← h.1] at b
    obtain ⟨e, he⟩ : ∃ e, e = i - gs.length := ⟨_, rfl⟩
    rw [← he] at a b
    cases e with
    | zero =>
      have ea : g = g' := by simpa using a
      have eb : t = t' := by simpa using b
      rw [← ea, ← eb]; exact ht
    | succ e => simp at a
/-- What a tree's root holds. -/
theorem IsT.root {d g : Nat} {t : T7} (h : IsT tv tp d W ok g t) : ∃ (v : Value) (gs : List Nat), W.heap[g]? = some (.cells (nodeC t.x v) tv (0, 0)) ∧ kp.R tp W 0 ok v gs ∧ gs.length = t.kids.length ∧ ∃ e, d = e + 1 ∧ IsF tv tp e W ok gs t.kids := by
  cases d with
  | zero => exact h.elim
  | succ d =>
    obtain ⟨_, v, gs, h2, h3, h4, h5⟩ := h
    exact ⟨v, gs, h2, h3, h4, d, rfl, h4, h5⟩
theorem IsT.of_root {d g : Nat} {x : S61} {kids : List T7} {v : Value} {gs : List Nat} (h1 : ok g) (hb : W.heap[g]? = some (.cells (nodeC x v) tv (0, 0))) (hr : kp.R tp W 0 ok v gs) (hf : IsF tv tp d W ok gs kids) : IsT tv tp (d + 1) W ok g (.mk x kids) := ⟨h1, v, gs, hb, hr, hf.1, hf.2⟩
theorem IsT.drewN {d g : Nat} {t : T7} (h : IsT tv tp d W ok g t) (m : Nat) : IsT tv tp d (W.drewN m) ok g t := h.step (fun _ _ _ => rfl)
theorem IsF.drewN {d : Nat} {gs : List Nat} {ts : List T7} (h : IsF tv tp d W ok gs ts) (m : Nat) : IsF tv tp d (W.drewN m) ok gs ts := h.step (fun _ _ _ => rfl)
theorem IsT.drew {d g : Nat} {t : T7} (h : IsT tv tp d W ok g t) : IsT tv tp d W.drew ok g t := h.step (fun _ _ _ => rfl)
theorem IsF.drew {d : Nat} {gs : List Nat} {ts : List T7} (h : IsF tv tp d W ok gs ts) : IsF tv tp d W.drew ok gs ts := h.step (fun _ _ _ => rfl)
theorem IsF.alloc {d : Nat} {gs : List Nat} {ts : List T7} (h : IsF tv tp d W ok gs ts) (o : Obj) : IsF tv tp d (W.alloc o) ok gs ts := h.below (below_alloc (Below.refl _ _) o)
/-- Behind an append to a row that is none of the trees'. -/
theorem IsF.after {d : Nat} {gs : List Nat} {ts : List T7} {v v1 : Value} (h : IsF tv tp d W (fun k => ok k ∧ some k ≠ v.ownBlock) gs ts) (hg : W.grownBy W1 v.ownBlock) (hat : v1.ownBlock = v.ownBlock ∨ ∃ b, v1.ownBlock = some b ∧ W.heap.size ≤ b) : IsF tv tp d W1 (fun k => ok k ∧ some k ≠ v1.ownBlock) gs ts :=
  (h.bound.step (fun k hk hlt => hg.block k hlt hk.1.2)).mono (fun k hk => ⟨hk.1.1, by
    rcases hat with e | ⟨b, e, hb⟩
    · rw [e]; exact hk.1.2
    · rw [e]; intro e2; injection e2 with e2; omega⟩)
theorem IsF.far {d : Nat} {gs : List Nat} {ts : List T7} {p : Addr} (h : IsF tv tp d W ok gs ts) (hne : ∀ k, ok k → k ≠ p.block) (u : Value) : IsF tv tp d (W.setCell p u) ok gs ts := h.step (fun k hk _ => Below.heap_setCell W p u k (hne k hk))
end
theorem info52 : (Tryd.prog.info? 52).map (fun i => (i.zero, i.size, i.bytes)) = some (some (.pointer none), 1, 8) := by kernel_rfl
mutual
/-- The tree that stands at a place, and the place behind it. -/
def spec_l7Tree.f : Nat → List S61 → Int → Int → Bool → Option (Option T7 × Int)
  | 0, _, _, _, _ => none
  | k + 1, l, a, dp, ir => if a ≥ (l.length : Int) then some (none, -1) else if dp > 6 then some (none, -1) else if 0 ≤ a then
      (spec_l7Node.f k (rd_T61 l a).f0 (rd_T61 l a).f1 (rd_T61 l a).f2 (rd_T61 l a).f3 (rd_T61 l a).f4 ir).bind fun b => if b = true then spec_l7Tree.l k l a dp 0 [] (wrap64 (a + 1)) else some (none, -1)
    else none
def spec_l7Tree.l : Nat → List S61 → Int → Int → Int → List T7 → Int → Option (Option T7 × Int)
  | 0, _, _, _, _, _, _ => none
  | k + 1, l, a, dp, j, kids, nx => if j < (rd_T61 l a).f4 then (if kids.length < 1000000 then
        (spec_l7Tree.f k l nx (wrap64 (dp + 1)) ((rd_T61 l a).f1 == 7)).bind fun r => if r.2 < 0 then some (none, -1) else r.1.bind fun t =>
          if (rd_T61 l a).f1 = 7 ∧ 0 < j then kids.getLast?.bind fun u => (spec_l7LessKey.f k u.x.f0 t.x.f0).bind fun b => if b = true then spec_l7Tree.l k l a dp (wrap64 (j + 1)) (kids ++ [t]) r.2 else some (none, -1)
          else spec_l7Tree.l k l a dp (wrap64 (j + 1)) (kids ++ [t]) r.2
      else none) else some (some (.mk (rd_T61 l a) kids), nx)
end
theorem spec_l7Tree.mono_l : ∀ k, (∀ l a dp ir, LeO (spec_l7Tree.f k l a dp ir) (spec_l7Tree.f (k + 1) l a dp ir)) ∧ (∀ l a dp j kids nx, LeO (spec_l7Tree.l k l a dp j kids nx) (spec_l7Tree.l (k + 1) l a dp j kids nx))
  | 0 => ⟨fun _ _ _ _ r h => by simp [spec_l7Tree.f] at h, fun _ _ _ _ _ _ r h => by simp [spec_l7Tree.l] at h⟩
  | k + 1 => by
    obtain ⟨ih0, ih1⟩ := spec_l7Tree.mono_l k
    refine ⟨?_, ?_⟩
    · intro l a dp ir
      rw [spec_l7Tree.f, spec_l7Tree.f]
      exact LeO.ite (LeO.refl _) (LeO.ite (LeO.refl _) (LeO.ite (LeO.bind (spec_l7Node.mono _ _ _ _ _ _ _) (fun b => LeO.ite (ih1 _ _ _ _ _ _) (LeO.refl _))) (LeO.refl _)))
    · intro l a dp j kids nx
      rw [spec_l7Tree.l, spec_l7Tree.l]
      refine LeO.ite (LeO.ite (LeO.bind (ih0 _ _ _ _) fun r => LeO.ite (LeO.refl _) (LeO.bind (LeO.refl _) fun t => LeO.ite (LeO.bind (LeO.refl _) fun u => LeO.bind (spec_l7LessKey.mono _ _ _) fun b => LeO.ite (ih1 _ _ _ _ _ _) (LeO.refl _)) (ih1 _ _ _ _ _ _))) (LeO.refl _)) (LeO.refl _)
theorem spec_l7Tree.mono : ∀ l a dp ir k, LeO (spec_l7Tree.f k l a dp ir) (spec_l7Tree.f (k + 1) l a dp ir) := fun l a dp ir k => (spec_l7Tree.mono_l k).1 l a dp ir
/-- What a pointer to a tree, or to none, is. -/
def IsP (tv tp d : Nat) (W : World) (base : Nat) (v : Value) : Option T7 → Prop
  | none => v = .pointer none
  | some t => ∃ g, v = .pointer (some ⟨g, 0, none⟩) ∧ IsT tv tp d W (fun k => base ≤ k) g t
theorem kp_at {W : World} {base : Nat} {ok : Nat → Prop} {A : Option Addr} {n c i : Nat} {gs : List Nat} {g : Nat} (h : kp.R 52 W base ok (.slice A n c) gs) (hl : gs[i]? = some g) : ∃ ad, A = some ad ∧ W.cell? (ad.add i) = some (.pointer (some ⟨g, 0, none⟩)) := by
  obtain ⟨e, hle, hC⟩ := Kd.R_reads' h
  have hi := (List.getElem?_eq_some_iff.1 hl).1
  have hr := Kd.reads_of_C (d := 0) hC
  obtain ⟨ad, e2, hc⟩ := hr.2.2 (by omega)
  refine ⟨ad, e2, ?_⟩
  rw [hc i (by omega), List.getD_eq_getElem?_getD, hl]
  rfl
set_option maxHeartbeats 16000000 in
set_option maxRecDepth 100000 in
theorem spec_l7Tree.run : ∀ (k : Nat) (l : List S61) (a dp : Int) (ir : Bool) (r1 : Option T7) (r2 : Int), spec_l7Tree.f k l a dp ir = some (r1, r2) → ∀ (A0 : Option Addr) (c0 : Nat) (w : World), Kd.C k61 w A0 l.length l → l.length ≤ c0 →
    Calls Tryd.prog 69 #[.slice A0 l.length c0, .int .i64 a, .int .i64 dp, .bool ir] w fun e w' => ∃ v0_ : Value, e = .returned (.tuple #[v0_, .int .i64 r2]) ∧ IsP 72 52 k w' w.heap.size v0_ r1 ∧ Below w.heap.size w w' := by
  intro k
  induction k using Nat.strongRecOn with
  | _ k IH =>
  intro l a dp ir r1 r2 h A0 c0 w hr0 hc0
  have hu61 := Tryd.underlying61
  have hu72 := Tryd.underlying72
  have hu52 := Tryd.underlying52
  have HR0 := Aside0.mk hr0
  have HC0 := Aside0.mk hc0
  have HB := Aside0.mk (Below.refl w.heap.size w)
  have HIH := Aside0.mk IH
  clear hr0 hc0 IH
  cases k with
  | zero => rw [spec_l7Tree.f] at h; cases h
  | succ K =>
  rw [spec_l7Tree.f] at h
  by_cases c1 : a ≥ (l.length : Int)
  · rw [if_pos c1] at h
    have c1b0 : decide ((l.length : Int) ≤ a) = true := decide_eq_true c1
    injection h with h
    injection h with h1 h2
    subst h1; subst h2
    clear c1
    go_enter Tryd.func69, Tryd.ntmps69
    go_wp2
    go_ret2
    exact ⟨_, rfl, rfl, HB.out⟩
  rw [if_neg c1] at h
  have c1b0 : decide ((l.length : Int) ≤ a) = false := decide_eq_false c1
  by_cases c2 : dp > 6
  · rw [if_pos c2] at h
    have c2b0 : decide (6 < dp) = true := decide_eq_true c2
    injection h with h
    injection h with h1 h2
    subst h1; subst h2
    clear c1 c2
    go_enter Tryd.func69, Tryd.ntmps69
    go_wp2
    go_ret2
    exact ⟨_, rfl, rfl, HB.out⟩
  rw [if_neg c2] at h
  have c2b0 : decide (6 < dp) = false := decide_eq_false c2
  by_cases c3 : 0 ≤ a
  rotate_left
  · rw [if_neg c3] at h; cases h
  rw [if_pos c3] at h
  obtain ⟨ad, e0, hx0, hx1, hx2, hx3, hx4⟩ := at_T61 HR0.out a c3 (by omega)
  cases e0
  have p0 : (0 ≤ a) = True := eq_true c3
  have q0 : (a < (l.length : Int)) = True := eq_true (by omega)
  have X0 := Aside0.mk hx0
  have X1 := Aside0.mk hx1
  have X2 := Aside0.mk hx2
  have X3 := Aside0.mk hx3
  have X4 := Aside0.mk hx4
  obtain ⟨x, hx⟩ : ∃ x, x = rd_T61 l a := ⟨_, rfl⟩
  rw [← hx] at h hx0 hx1 hx2 hx3 hx4 X0 X1 X2 X3 X4
  have HX := Aside0.mk hx
  clear hx c1 c2 c3
  obtain ⟨b, hb0, h⟩ := Option.bind_eq_some_iff.mp h
  have HN := Aside0.mk hb0
  clear hb0
  cases b with
  | false =>
    rw [if_neg (by decide)] at h
    injection h with h
    injection h with h1 h2
    subst h1; subst h2
    go_enter Tryd.func69, Tryd.ntmps69
    go_wp2_with (first | (go_at_call 102; refine (spec_l7Node.calls K x.f0 x.f1 x.f2 x.f3 x.f4 ir false _ HN.out).mono ?_; rintro e w1 ⟨rfl, hb⟩; have m0_ := Aside0.mk (below_step HB.out hb); clear hx0 hx1 hx2 hx3 hx4; clear HB hb; have HB := m0_; clear m0_; have hx0 := (HB.out.cell (World.block_lt_of_cell? _ _ X0.out)).trans X0.out; have hx1 := (HB.out.cell (World.block_lt_of_cell? _ _ X1.out)).trans X1.out; have hx2 := (HB.out.cell (World.block_lt_of_cell? _ _ X2.out)).trans X2.out; have hx3 := (HB.out.cell (World.block_lt_of_cell? _ _ X3.out)).trans X3.out; have hx4 := (HB.out.cell (World.block_lt_of_cell? _ _ X4.out)).trans X4.out))
    go_ret2
    exact ⟨_, rfl, rfl, HB.out⟩
  | true =>
  rw [if_pos rfl] at h
  have HL := Aside0.mk h
  clear h
  go_enter Tryd.func69, Tryd.ntmps69
  go_wp2_with (first | (go_at_call 102; refine (spec_l7Node.calls K x.f0 x.f1 x.f2 x.f3 x.f4 ir true _ HN.out).mono ?_; rintro e w1 ⟨rfl, hb⟩; have m0_ := Aside0.mk (below_step HB.out hb); clear hx0 hx1 hx2 hx3 hx4; clear HB hb; have HB := m0_; clear m0_; have hx0 := (HB.out.cell (World.block_lt_of_cell? _ _ X0.out)).trans X0.out; have hx1 := (HB.out.cell (World.block_lt_of_cell? _ _ X1.out)).trans X1.out; have hx2 := (HB.out.cell (World.block_lt_of_cell? _ _ X2.out)).trans X2.out; have hx3 := (HB.out.cell (World.block_lt_of_cell? _ _ X3.out)).trans X3.out; have hx4 := (HB.out.cell (World.block_lt_of_cell? _ _ X4.out)).trans X4.out) | ((with_reducible refine gate_dst (N := 37) rfl ?_); refine box_event ?hg (N := 37) ?hd (cs := nodeC x (.slice none 0 0)) (t := 72) ?hr ?_; (case hd => rfl); (case hg => rfl); (case hr => first | (go_simp; done) | (go_simp; rfl)); intro gb hg w2 hbox hb; have m0_ := Aside0.mk (below_step HB.out hb); have BV := Aside0.mk hbox; have GE := Aside0.mk (show w.heap.size ≤ gb from by rw [hg]; exact below_size HB.out); clear hx0 hx1 hx2 hx3 hx4; clear HB hb hg hbox; have HB := m0_; clear m0_; have hx0 := (HB.out.cell (World.block_lt_of_cell? _ _ X0.out)).trans X0.out; have hx1 := (HB.out.cell (World.block_lt_of_cell? _ _ X1.out)).trans X1.out; have hx2 := (HB.out.cell (World.block_lt_of_cell? _ _ X2.out)).trans X2.out; have hx3 := (HB.out.cell (World.block_lt_of_cell? _ _ X3.out)).trans X3.out; have hx4 := (HB.out.cell (World.block_lt_of_cell? _ _ X4.out)).trans X4.out))
  clear hx0 hx1 hx2 hx3 hx4
  obtain ⟨nx0, hnx0⟩ : ∃ n, n = wrap64 (a + 1) := ⟨_, rfl⟩
  rw [← hnx0] at HL
  have HK0 := Aside0.mk (show kp.R 52 w2 w.heap.size (fun k_ => w.heap.size ≤ k_ ∧ k_ ≠ gb) (.slice none 0 0) [] from Kd.R_nil _ _ _ _ _)
  have HF0 := Aside0.mk (show IsF 72 52 K w2 (fun k_ => (w.heap.size ≤ k_ ∧ k_ ≠ gb) ∧ some k_ ≠ (Value.slice none 0 0).ownBlock) [] [] from IsF.nil _ _ _)
  go_loopg [11, 12] K (fun kq v11 v12 w' => ∃ (j nx : Int) (kids : List T7) (gs : List Nat) (v : Value), v11 = .int .i64 nx ∧ v12 = .int .i64 j ∧ Aside0 (spec_l7Tree.l kq l a dp j kids nx = some (r1, r2) ∧ kq ≤ K ∧ j = kids.length) ∧ Aside0 (w'.heap[gb]? = some (.cells (nodeC x v) 72 (0, 0))) ∧ Aside0 (kp.R 52 w' w.heap.size (fun k_ => w.heap.size ≤ k_ ∧ k_ ≠ gb) v gs) ∧ Aside0 (IsF 72 52 K w' (fun k_ => (w.heap.size ≤ k_ ∧ k_ ≠ gb) ∧ some k_ ≠ v.ownBlock) gs kids) ∧ Aside0 (Below w.heap.size w w'))
  case atStart => exact ⟨0, nx0, [], [], _, by first | rfl | rw [hnx0], rfl, ⟨HL.out, Nat.le_refl _, rfl⟩, BV, HK0, HF0, HB⟩
  case round =>
    clear HL HK0 HF0 BV HB
    obtain ⟨j, nx, kids, gs, v, rfl, rfl, HL, BV, HK, HF, HB⟩ := hrel
    obtain ⟨A1, c1, rfl⟩ := Kd.R_slice HK.out
    have hx1 := (HB.out.cell (World.block_lt_of_cell? _ _ X1.out)).trans X1.out
    have hx4 := (HB.out.cell (World.block_lt_of_cell? _ _ X4.out)).trans X4.out
    cases gk with
    | zero => have := HL.out.1; rw [spec_l7Tree.l] at this; cases this
    | succ m =>
      have h := HL.out.1
      rw [spec_l7Tree.l, ← HX.out] at h
      by_cases c5 : j < x.f4
      rotate_left
      · rw [if_neg c5] at h
        have c5b0 : decide (j < x.f4) = false := decide_eq_false c5
        injection h with h
        injection h with h1 h2
        subst h1; subst h2
        clear c5
        go_wp2
        go_ret2
        exact ⟨_, rfl, ⟨gb, rfl, IsT.of_root (show w.heap.size ≤ gb from GE.out) BV.out (Kd.R_mono (Kd.R_lower HK.out (Nat.zero_le _)) (fun _ hk => hk.1)) (HF.out.mono (fun _ hk => hk.1.1))⟩, HB.out⟩
      rw [if_pos c5] at h
      have c5b0 : decide (j < x.f4) = true := decide_eq_true c5
      clear c5
      by_cases c6 : kids.length < 1000000
      rotate_left
      · rw [if_neg c6] at h; cases h
      rw [if_pos c6] at h
      have HLEN := Aside0.mk c6
      clear c6
      obtain ⟨⟨t0, r2'⟩, hf, h⟩ := Option.bind_eq_some_iff.mp h
      have HC := Aside0.mk (HIH.out m (by have := HL.out.2.1; omega) l nx (wrap64 (dp + 1)) (x.f1 == 7) t0 r2' hf (some ad) c0)
      clear hf
      by_cases c7 : r2' < 0
      · rw [if_pos c7] at h
        have c7b0 : decide (r2' < 0) = true := decide_eq_true c7
        injection h with h
        injection h with h1 h2
        subst h1; subst h2
        clear c7
        go_wp2_with (first | ((with_reducible refine gate_callee (f := 69) rfl ?_); refine goesL_ (some 60) rfl rfl Tryd.func69 (by kernel_rfl) rfl #[.slice (some ad) l.length c0, .int .i64 nx, .int .i64 (wrap64 (dp + 1)), .bool (x.f1 == 7)] rfl (by (try simp only [List.map_toArray, List.map_cons, List.map_nil]); first | done | rfl) ?_; (refine (HC.out _ (Kd.C_below HR0.out HB.out) HC0.out).mono ?_); rintro e w3 ⟨v13, rfl, hp, hb⟩; refine ⟨_, rfl, ?_⟩; have m0_ := Aside0.mk (below_step HB.out hb); clear hx1 hx4 HB hb hp; have HB := m0_; clear m0_; have hx1 := (HB.out.cell (World.block_lt_of_cell? _ _ X1.out)).trans X1.out; have hx4 := (HB.out.cell (World.block_lt_of_cell? _ _ X4.out)).trans X4.out))
        go_ret2
        exact ⟨_, rfl, rfl, HB.out⟩
      rw [if_neg c7] at h
      have c7b0 : decide (r2' < 0) = false := decide_eq_false c7
      clear c7
      obtain ⟨t, ht0, h⟩ := Option.bind_eq_some_iff.mp h
      have ht0 : t0 = some t := ht0
      subst ht0
      have h : (if x.f1 = 7 ∧ 0 < j then kids.getLast?.bind fun u => (spec_l7LessKey.f m u.x.f0 t.x.f0).bind fun b => if b = true then spec_l7Tree.l m l a dp (wrap64 (j + 1)) (kids ++ [t]) r2' else some (none, -1) else spec_l7Tree.l m l a dp (wrap64 (j + 1)) (kids ++ [t]) r2') = some (r1, r2) := h
      have HLK := Aside0.mk (show gs.length < 1000000 from by rw [HF.out.1]; exact HLEN.out)
      by_cases c8 : x.f1 = 7 ∧ 0 < j
      · rw [if_pos c8] at h
        have c8b0 : (x.f1 == 7) = true := beq_iff_eq.mpr c8.1
        have c8b1 : decide (0 < j) = true := decide_eq_true c8.2
        have hj0 := c8.2
        clear c8
        obtain ⟨u, hu, h⟩ := Option.bind_eq_some_iff.mp h
        obtain ⟨b, hb1, h⟩ := Option.bind_eq_some_iff.mp h
        have HLS := Aside0.mk hb1
        have HU := Aside0.mk hu
        clear hb1 hu
        rw [c8b0] at HC
        cases b with
        | false =>
          rw [if_neg (by decide)] at h
          injection h with h
          injection h with h1 h2
          subst h1; subst h2
          go_wp2_with (first | ((with_reducible refine gate_callee (f := 69) rfl ?_); refine goesL_ (some 60) rfl rfl Tryd.func69 (by kernel_rfl) rfl #[.slice (some ad) l.length c0, .int .i64 nx, .int .i64 (wrap64 (dp + 1)), .bool true] rfl (by (try simp only [List.map_toArray, List.map_cons, List.map_nil]); first | done | rfl) ?_; (refine (HC.out _ (Kd.C_below HR0.out HB.out) HC0.out).mono ?_); rintro e w3 ⟨v13, rfl, hp, hb⟩; refine ⟨_, rfl, ?_⟩; obtain ⟨g1, rfl, ht⟩ := hp; have mt_ := (ht.mono (ok' := fun k_ => (w.heap.size ≤ k_ ∧ k_ ≠ gb) ∧ some k_ ≠ (Value.slice A1 gs.length c1).ownBlock) (fun k_ hk_ => ⟨⟨Nat.le_trans (below_size HB.out) hk_, fun e_ => by have := blk_lt BV.out; omega⟩, fun e_ => by have := Kd.R_lt HK.out k_ e_.symm; omega⟩)).upto (e := K) (by have := HL.out.2.1; omega); have m0_ := Aside0.mk (below_step HB.out hb); have m1_ := Aside0.mk (blk_below BV.out hb); have m2_ := Aside0.mk (Kd.R_below HK.out hb); have m3_ := Aside0.mk (HF.out.below hb); have m4_ := Aside0.mk (IsF.snoc m3_.out mt_); clear hx1 hx4 ht mt_ HB BV HK HF hb m3_; have HB := m0_; have BV := m1_; have HK := m2_; have HF := m4_; clear m0_ m1_ m2_ m4_; have hx1 := (HB.out.cell (World.block_lt_of_cell? _ _ X1.out)).trans X1.out; have hx4 := (HB.out.cell (World.block_lt_of_cell? _ _ X4.out)).trans X4.out; have hc5 : w3.cell? ⟨gb, 5, none⟩ = some (.slice A1 gs.length c1) := (blk_cell BV.out 5).trans rfl; have hf5 := blk_frozen BV.out 5))
          obtain ⟨li, hli⟩ : ∃ li, li = j - 1 := ⟨_, rfl⟩
          have hul : kids[li.toNat]? = some u := by
            have h1 := HU.out
            rw [List.getLast?_eq_getElem?] at h1
            rw [show li.toNat = kids.length - 1 by have := HL.out.2.2; omega]
            exact h1
          have hkl := (List.getElem?_eq_some_iff.1 hul).1
          have hgl : gs.length = kids.length := by
            have := HF.out.1
            simp only [List.length_append, List.length_singleton] at this
            omega
          obtain ⟨gl, hgg⟩ : ∃ gl, gs[li.toNat]? = some gl := ⟨_, List.getElem?_eq_getElem (by omega)⟩
          refine wp_region_still_tail 28 (by kernel_rfl) (by kernel_rfl) ?_
          simp only [List.take_succ_cons, List.take_zero, List.drop_succ_cons, List.drop_zero]
          change wpStill _ _ w3.drew (fun a' => wpList _ _ _ _ a' w3.drew) _ _
          have m0_ := Aside0.mk (below_drew1 HB.out)
          have m1_ := Aside0.mk (blk_drew BV.out)
          have m2_ := Aside0.mk (Kd.R_drew HK.out)
          have m3_ := Aside0.mk (HF.out.drew)
          clear HB BV HK HF hc5 hf5 hx1 hx4
          generalize w3.drew = w6 at m0_ m1_ m2_ m3_ ⊢
          have HB := m0_
          have BV := m1_
          have HK := m2_
          have HF := m3_
          clear m0_ m1_ m2_ m3_
          obtain ⟨ad2, ea, hcl⟩ := kp_at HK.out hgg
          obtain ⟨vu, gu, hbu, _⟩ := (HF.out.2 li.toNat gl u (by rw [List.getElem?_append_left (by omega)]; exact hgg) (by rw [List.getElem?_append_left (by omega)]; exact hul)).root
          obtain ⟨vt, gt, hbt, _⟩ := (HF.out.2 gs.length g1 t (by simp) (by rw [hgl]; simp)).root
          subst ea
          have hcu : w6.cell? ⟨gl, 0, none⟩ = some (.string u.x.f0) := (blk_cell hbu 0).trans rfl
          have hct : w6.cell? ⟨g1, 0, none⟩ = some (.string t.x.f0) := (blk_cell hbt 0).trans rfl
          have hi1 : IntKind.i64.wrap (j - 1) = li := by rw [IntKind.wrap_i64]; have := HLEN.out; have := HL.out.2.2; omega
          have hi2 : wrap64 (j - 1) = li := by unfold wrap64; have := HLEN.out; have := HL.out.2.2; omega
          have hi3 : (0 ≤ li) = True := eq_true (by omega)
          have hi4 : (li < (gs.length : Int)) = True := eq_true (by have := HL.out.2.2; omega)
          have HGL := Aside0.mk hgl
          clear hul hkl hgg hbu hbt hli hgl
          have hx1 := (HB.out.cell (World.block_lt_of_cell? _ _ X1.out)).trans X1.out
          have hx4 := (HB.out.cell (World.block_lt_of_cell? _ _ X4.out)).trans X4.out
          have hc5 : w6.cell? ⟨gb, 5, none⟩ = some (.slice (some ad2) gs.length c1) := (blk_cell BV.out 5).trans rfl
          have hf5 := blk_frozen BV.out 5
          repeat still_step
          refine wpStill_nil ?_
          go_wp2_with (first | (go_at_call 80; refine (spec_l7LessKey.calls m u.x.f0 t.x.f0 false _ HLS.out).mono ?_; rintro e w9 ⟨rfl, hb⟩; have m0_ := Aside0.mk (below_step HB.out hb); have m1_ := Aside0.mk (blk_below BV.out hb); have m2_ := Aside0.mk (Kd.R_below HK.out hb); have m3_ := Aside0.mk (HF.out.below hb); clear hcl hcu hct hi1 hi2 hi3 hi4 hx1 hx4 hc5 hf5; clear HB BV HK HF hb; have HB := m0_; have BV := m1_; have HK := m2_; have HF := m3_; clear m0_ m1_ m2_ m3_; have hx1 := (HB.out.cell (World.block_lt_of_cell? _ _ X1.out)).trans X1.out; have hx4 := (HB.out.cell (World.block_lt_of_cell? _ _ X4.out)).trans X4.out; have hc5 : w9.cell? ⟨gb, 5, none⟩ = some (.slice (some ad2) gs.length c1) := (blk_cell BV.out 5).trans rfl; have hf5 := blk_frozen BV.out 5))
          go_ret2
          exact ⟨_, rfl, rfl, HB.out⟩
        | true =>
          rw [if_pos rfl] at h
          have HL2 := Aside0.mk (show spec_l7Tree.l m l a dp (wrap64 (j + 1)) (kids ++ [t]) r2' = some (r1, r2) ∧ m ≤ K ∧ wrap64 (j + 1) = ((kids ++ [t]).length : Int) from ⟨h, by have := HL.out.2.1; omega, by have h1 := HL.out.2.2; have h2 := HLEN.out; rw [List.length_append, List.length_singleton]; unfold wrap64; omega⟩)
          clear h
          go_wp2_with (first | ((with_reducible refine gate_callee (f := 69) rfl ?_); refine goesL_ (some 60) rfl rfl Tryd.func69 (by kernel_rfl) rfl #[.slice (some ad) l.length c0, .int .i64 nx, .int .i64 (wrap64 (dp + 1)), .bool true] rfl (by (try simp only [List.map_toArray, List.map_cons, List.map_nil]); first | done | rfl) ?_; (refine (HC.out _ (Kd.C_below HR0.out HB.out) HC0.out).mono ?_); rintro e w3 ⟨v13, rfl, hp, hb⟩; refine ⟨_, rfl, ?_⟩; obtain ⟨g1, rfl, ht⟩ := hp; have mt_ := (ht.mono (ok' := fun k_ => (w.heap.size ≤ k_ ∧ k_ ≠ gb) ∧ some k_ ≠ (Value.slice A1 gs.length c1).ownBlock) (fun k_ hk_ => ⟨⟨Nat.le_trans (below_size HB.out) hk_, fun e_ => by have := blk_lt BV.out; omega⟩, fun e_ => by have := Kd.R_lt HK.out k_ e_.symm; omega⟩)).upto (e := K) (by have := HL.out.2.1; omega); have m0_ := Aside0.mk (below_step HB.out hb); have m1_ := Aside0.mk (blk_below BV.out hb); have m2_ := Aside0.mk (Kd.R_below HK.out hb); have m3_ := Aside0.mk (HF.out.below hb); have m4_ := Aside0.mk (IsF.snoc m3_.out mt_); clear hx1 hx4 ht mt_ HB BV HK HF hb m3_; have HB := m0_; have BV := m1_; have HK := m2_; have HF := m4_; clear m0_ m1_ m2_ m4_; have hx1 := (HB.out.cell (World.block_lt_of_cell? _ _ X1.out)).trans X1.out; have hx4 := (HB.out.cell (World.block_lt_of_cell? _ _ X4.out)).trans X4.out; have hc5 : w3.cell? ⟨gb, 5, none⟩ = some (.slice A1 gs.length c1) := (blk_cell BV.out 5).trans rfl; have hf5 := blk_frozen BV.out 5))
          obtain ⟨li, hli⟩ : ∃ li, li = j - 1 := ⟨_, rfl⟩
          have hul : kids[li.toNat]? = some u := by
            have h1 := HU.out
            rw [List.getLast?_eq_getElem?] at h1
            rw [show li.toNat = kids.length - 1 by have := HL.out.2.2; omega]
            exact h1
          have hkl := (List.getElem?_eq_some_iff.1 hul).1
          have hgl : gs.length = kids.length := by
            have := HF.out.1
            simp only [List.length_append, List.length_singleton] at this
            omega
          obtain ⟨gl, hgg⟩ : ∃ gl, gs[li.toNat]? = some gl := ⟨_, List.getElem?_eq_getElem (by omega)⟩
          refine wp_region_still_tail 28 (by kernel_rfl) (by kernel_rfl) ?_
          simp only [List.take_succ_cons, List.take_zero, List.drop_succ_cons, List.drop_zero]
          change wpStill _ _ w3.drew (fun a' => wpList _ _ _ _ a' w3.drew) _ _
          have m0_ := Aside0.mk (below_drew1 HB.out)
          have m1_ := Aside0.mk (blk_drew BV.out)
          have m2_ := Aside0.mk (Kd.R_drew HK.out)
          have m3_ := Aside0.mk (HF.out.drew)
          clear HB BV HK HF hc5 hf5 hx1 hx4
          generalize w3.drew = w6 at m0_ m1_ m2_ m3_ ⊢
          have HB := m0_
          have BV := m1_
          have HK := m2_
          have HF := m3_
          clear m0_ m1_ m2_ m3_
          obtain ⟨ad2, ea, hcl⟩ := kp_at HK.out hgg
          obtain ⟨vu, gu, hbu, _⟩ := (HF.out.2 li.toNat gl u (by rw [List.getElem?_append_left (by omega)]; exact hgg) (by rw [List.getElem?_append_left (by omega)]; exact hul)).root
          obtain ⟨vt, gt, hbt, _⟩ := (HF.out.2 gs.length g1 t (by simp) (by rw [hgl]; simp)).root
          subst ea
          have hcu : w6.cell? ⟨gl, 0, none⟩ = some (.string u.x.f0) := (blk_cell hbu 0).trans rfl
          have hct : w6.cell? ⟨g1, 0, none⟩ = some (.string t.x.f0) := (blk_cell hbt 0).trans rfl
          have hi1 : IntKind.i64.wrap (j - 1) = li := by rw [IntKind.wrap_i64]; have := HLEN.out; have := HL.out.2.2; omega
          have hi2 : wrap64 (j - 1) = li := by unfold wrap64; have := HLEN.out; have := HL.out.2.2; omega
          have hi3 : (0 ≤ li) = True := eq_true (by omega)
          have hi4 : (li < (gs.length : Int)) = True := eq_true (by have := HL.out.2.2; omega)
          have HGL := Aside0.mk hgl
          clear hul hkl hgg hbu hbt hli hgl
          have hx1 := (HB.out.cell (World.block_lt_of_cell? _ _ X1.out)).trans X1.out
          have hx4 := (HB.out.cell (World.block_lt_of_cell? _ _ X4.out)).trans X4.out
          have hc5 : w6.cell? ⟨gb, 5, none⟩ = some (.slice (some ad2) gs.length c1) := (blk_cell BV.out 5).trans rfl
          have hf5 := blk_frozen BV.out 5
          repeat still_step
          refine wpStill_nil ?_
          go_wp2_with (first | (go_at_call 80; refine (spec_l7LessKey.calls m u.x.f0 t.x.f0 true _ HLS.out).mono ?_; rintro e w9 ⟨rfl, hb⟩; have m0_ := Aside0.mk (below_step HB.out hb); have m1_ := Aside0.mk (blk_below BV.out hb); have m2_ := Aside0.mk (Kd.R_below HK.out hb); have m3_ := Aside0.mk (HF.out.below hb); clear hcl hcu hct hi1 hi2 hi3 hi4 hx1 hx4 hc5 hf5; clear HB BV HK HF hb; have HB := m0_; have BV := m1_; have HK := m2_; have HF := m3_; clear m0_ m1_ m2_ m3_; have hx1 := (HB.out.cell (World.block_lt_of_cell? _ _ X1.out)).trans X1.out; have hx4 := (HB.out.cell (World.block_lt_of_cell? _ _ X4.out)).trans X4.out; have hc5 : w9.cell? ⟨gb, 5, none⟩ = some (.slice (some ad2) gs.length c1) := (blk_cell BV.out 5).trans rfl; have hf5 := blk_frozen BV.out 5) | ((with_reducible refine gate_builtin (b := .append) (xs := #[.tmp 100, .tmp 102]) rfl ?_); at_builtin; refine Kd.R_append kp (w0 := w) w.heap.size rfl (.tmp 100) (.tmp 102) 70 52 (.pointer none) 8 rfl Tryd.underlying70 info52 rfl (by decide) (by omega) (.slice (some ad2) gs.length c1) gs g1 [.pointer (some ⟨g1, 0, none⟩)] (fun k_ => w.heap.size ≤ k_ ∧ k_ ≠ gb) (fun _ => False) rfl rfl rfl (fun _ h_ => h_.elim) ?aF ?aO ?aB ?aS ?aL ?_; (case aF => intro k_ hk_; exact ⟨Nat.le_trans (below_size (by repeat first | exact HB.out | apply pw_below_drewN | apply below_drew1 | apply below_alloc)) hk_, fun e_ => by have := blk_lt BV.out; have hz_ : w9.heap.size ≤ k_ := hk_; omega⟩); (case aO => exact (by repeat first | exact HK.out | apply Kd.R_drewN | apply Kd.R_drew | apply Kd.R_alloc)); (case aB => exact (by repeat first | exact HB.out | apply pw_below_drewN | apply below_drew1 | apply below_alloc)); (case aS => exact below_size (by repeat first | exact HB.out | apply pw_below_drewN | apply below_drew1 | apply below_alloc)); (case aL => have := HLK.out; omega); intro v4 w10 ho hb hg hat; have m0_ := Aside0.mk hb; have m1_ := Aside0.mk (blk_grown (by repeat first | exact BV.out | apply blk_drewN | apply blk_drew | apply blk_alloc) hg (fun e_ => (HK.out.1 gb e_.symm).2 rfl)); have m2_ := Aside0.mk ho; have m3_ := Aside0.mk (IsF.after (by repeat first | exact HF.out | apply IsF.drewN | apply IsF.drew | apply IsF.alloc) hg hat); clear hc5 hf5 HB BV HK HF ho hb hg hat; have HB := m0_; have BV := m1_; have HK := m2_; have HF := m3_; clear m0_ m1_ m2_ m3_; obtain ⟨A4, c4, rfl⟩ := Kd.R_slice HK.out; have hc5 : w10.cell? ⟨gb, 5, none⟩ = some (.slice (some ad2) gs.length c1) := (blk_cell BV.out 5).trans rfl; have hf5 := blk_frozen BV.out 5) | ((with_reducible refine gate_store (t := 70) (p := 105) rfl ?_); refine store_event (t := 70) (p := 105) (v := .tmp 103) (w1 := (w10.setCell ⟨gb, 5, none⟩ (.slice A4 (gs ++ [g1]).length c4))) ?hg ?ho ?hn ?hr ?_; (case ho => rfl); (case hg => rfl); (case hn => rfl); (case hr => first | (go_simp; done) | (go_simp; rfl)); intro w11 hw; have m0_ := Aside0.mk (show Below w.heap.size w w11 from (by rw [hw]; exact below_set HB.out GE.out)); have m1_ := Aside0.mk (show w11.heap[gb]? = some (.cells (nodeC x (.slice A4 (gs ++ [g1]).length c4)) 72 (0, 0)) from (by rw [hw]; exact (blk_put (cs' := nodeC x (.slice A4 (gs ++ [g1]).length c4)) BV.out 5 (.slice A4 (gs ++ [g1]).length c4) rfl))); have m2_ := Aside0.mk (show kp.R 52 w11 w.heap.size (fun k_ => w.heap.size ≤ k_ ∧ k_ ≠ gb) (.slice A4 (gs ++ [g1]).length c4) (gs ++ [g1]) from (by rw [hw]; exact Kd.R_set HK.out BV.out (by decide) 5 _)); have m3_ := Aside0.mk (show IsF 72 52 K w11 (fun k_ => (w.heap.size ≤ k_ ∧ k_ ≠ gb) ∧ some k_ ≠ (Value.slice A4 (gs ++ [g1]).length c4).ownBlock) (gs ++ [g1]) (kids ++ [t]) from (by rw [hw]; exact HF.out.far (fun _ hk_ => hk_.1.2) _)); clear hc5 hf5 hw HB BV HK HF; have HB := m0_; have BV := m1_; have HK := m2_; have HF := m3_; clear m0_ m1_ m2_ m3_; (try simp only [Act.put, List.setIfInBounds_toArray, List.set_cons_zero, List.set_cons_succ])))
          go_roundg m
          case measure => have := HL2.out.2.1; omega
          case rel => exact ⟨wrap64 (j + 1), r2', kids ++ [t], gs ++ [g1], _, rfl, rfl, HL2, BV, HK, HF, HB⟩
      · rw [if_neg c8] at h
        have HL2 := Aside0.mk (show spec_l7Tree.l m l a dp (wrap64 (j + 1)) (kids ++ [t]) r2' = some (r1, r2) ∧ m ≤ K ∧ wrap64 (j + 1) = ((kids ++ [t]).length : Int) from ⟨h, by have := HL.out.2.1; omega, by have h1 := HL.out.2.2; have h2 := HLEN.out; rw [List.length_append, List.length_singleton]; unfold wrap64; omega⟩)
        clear h
        by_cases c9 : x.f1 = 7
        · have c9b0 : (x.f1 == 7) = true := beq_iff_eq.mpr c9
          have c9b1 : decide (0 < j) = false := decide_eq_false (fun e => c8 ⟨c9, e⟩)
          clear c8 c9
          rw [c9b0] at HC
          go_wp2_with (first | ((with_reducible refine gate_callee (f := 69) rfl ?_); refine goesL_ (some 60) rfl rfl Tryd.func69 (by kernel_rfl) rfl #[.slice (some ad) l.length c0, .int .i64 nx, .int .i64 (wrap64 (dp + 1)), .bool true] rfl (by (try simp only [List.map_toArray, List.map_cons, List.map_nil]); first | done | rfl) ?_; (refine (HC.out _ (Kd.C_below HR0.out HB.out) HC0.out).mono ?_); rintro e w3 ⟨v13, rfl, hp, hb⟩; refine ⟨_, rfl, ?_⟩; obtain ⟨g1, rfl, ht⟩ := hp; have mt_ := (ht.mono (ok' := fun k_ => (w.heap.size ≤ k_ ∧ k_ ≠ gb) ∧ some k_ ≠ (Value.slice A1 gs.length c1).ownBlock) (fun k_ hk_ => ⟨⟨Nat.le_trans (below_size HB.out) hk_, fun e_ => by have := blk_lt BV.out; omega⟩, fun e_ => by have := Kd.R_lt HK.out k_ e_.symm; omega⟩)).upto (e := K) (by have := HL.out.2.1; omega); have m0_ := Aside0.mk (below_step HB.out hb); have m1_ := Aside0.mk (blk_below BV.out hb); have m2_ := Aside0.mk (Kd.R_below HK.out hb); have m3_ := Aside0.mk (HF.out.below hb); have m4_ := Aside0.mk (IsF.snoc m3_.out mt_); clear hx1 hx4 ht mt_ HB BV HK HF hb m3_; have HB := m0_; have BV := m1_; have HK := m2_; have HF := m4_; clear m0_ m1_ m2_ m4_; have hx1 := (HB.out.cell (World.block_lt_of_cell? _ _ X1.out)).trans X1.out; have hx4 := (HB.out.cell (World.block_lt_of_cell? _ _ X4.out)).trans X4.out; have hc5 : w3.cell? ⟨gb, 5, none⟩ = some (.slice A1 gs.length c1) := (blk_cell BV.out 5).trans rfl; have hf5 := blk_frozen BV.out 5))
          go_quiet (fail)
          go_wp2_with (first | ((with_reducible refine gate_builtin (b := .append) (xs := #[.tmp 100, .tmp 102]) rfl ?_); at_builtin; refine Kd.R_append kp (w0 := w) w.heap.size rfl (.tmp 100) (.tmp 102) 70 52 (.pointer none) 8 rfl Tryd.underlying70 info52 rfl (by decide) (by omega) (.slice A1 gs.length c1) gs g1 [.pointer (some ⟨g1, 0, none⟩)] (fun k_ => w.heap.size ≤ k_ ∧ k_ ≠ gb) (fun _ => False) rfl rfl rfl (fun _ h_ => h_.elim) ?aF ?aO ?aB ?aS ?aL ?_; (case aF => intro k_ hk_; exact ⟨Nat.le_trans (below_size (by repeat first | exact HB.out | apply pw_below_drewN | apply below_drew1 | apply below_alloc)) hk_, fun e_ => by have := blk_lt BV.out; have hz_ : w3.heap.size ≤ k_ := hk_; omega⟩); (case aO => exact (by repeat first | exact HK.out | apply Kd.R_drewN | apply Kd.R_drew | apply Kd.R_alloc)); (case aB => exact (by repeat first | exact HB.out | apply pw_below_drewN | apply below_drew1 | apply below_alloc)); (case aS => exact below_size (by repeat first | exact HB.out | apply pw_below_drewN | apply below_drew1 | apply below_alloc)); (case aL => have := HLK.out; omega); intro v4 w4 ho hb hg hat; have m0_ := Aside0.mk hb; have m1_ := Aside0.mk (blk_grown (by repeat first | exact BV.out | apply blk_drewN | apply blk_drew | apply blk_alloc) hg (fun e_ => (HK.out.1 gb e_.symm).2 rfl)); have m2_ := Aside0.mk ho; have m3_ := Aside0.mk (IsF.after (by repeat first | exact HF.out | apply IsF.drewN | apply IsF.drew | apply IsF.alloc) hg hat); clear hc5 hf5 HB BV HK HF ho hb hg hat; have HB := m0_; have BV := m1_; have HK := m2_; have HF := m3_; clear m0_ m1_ m2_ m3_; obtain ⟨A4, c4, rfl⟩ := Kd.R_slice HK.out; have hc5 : w4.cell? ⟨gb, 5, none⟩ = some (.slice A1 gs.length c1) := (blk_cell BV.out 5).trans rfl; have hf5 := blk_frozen BV.out 5) | ((with_reducible refine gate_store (t := 70) (p := 105) rfl ?_); refine store_event (t := 70) (p := 105) (v := .tmp 103) (w1 := (w4.setCell ⟨gb, 5, none⟩ (.slice A4 (gs ++ [g1]).length c4))) ?hg ?ho ?hn ?hr ?_; (case ho => rfl); (case hg => rfl); (case hn => rfl); (case hr => first | (go_simp; done) | (go_simp; rfl)); intro w5 hw; have m0_ := Aside0.mk (show Below w.heap.size w w5 from (by rw [hw]; exact below_set HB.out GE.out)); have m1_ := Aside0.mk (show w5.heap[gb]? = some (.cells (nodeC x (.slice A4 (gs ++ [g1]).length c4)) 72 (0, 0)) from (by rw [hw]; exact (blk_put (cs' := nodeC x (.slice A4 (gs ++ [g1]).length c4)) BV.out 5 (.slice A4 (gs ++ [g1]).length c4) rfl))); have m2_ := Aside0.mk (show kp.R 52 w5 w.heap.size (fun k_ => w.heap.size ≤ k_ ∧ k_ ≠ gb) (.slice A4 (gs ++ [g1]).length c4) (gs ++ [g1]) from (by rw [hw]; exact Kd.R_set HK.out BV.out (by decide) 5 _)); have m3_ := Aside0.mk (show IsF 72 52 K w5 (fun k_ => (w.heap.size ≤ k_ ∧ k_ ≠ gb) ∧ some k_ ≠ (Value.slice A4 (gs ++ [g1]).length c4).ownBlock) (gs ++ [g1]) (kids ++ [t]) from (by rw [hw]; exact HF.out.far (fun _ hk_ => hk_.1.2) _)); clear hc5 hf5 hw HB BV HK HF; have HB := m0_; have BV := m1_; have HK := m2_; have HF := m3_; clear m0_ m1_ m2_ m3_; (try simp only [Act.put, List.setIfInBounds_toArray, List.set_cons_zero, List.set_cons_succ])))
          go_roundg m
          case measure => have := HL2.out.2.1; omega
          case rel => exact ⟨wrap64 (j + 1), r2', kids ++ [t], gs ++ [g1], _, rfl, rfl, HL2, BV, HK, HF, HB⟩
        · have c9b0 : (x.f1 == 7) = false := beq_eq_false_iff_ne.mpr c9
          clear c8 c9
          rw [c9b0] at HC
          go_wp2_with (first | ((with_reducible refine gate_callee (f := 69) rfl ?_); refine goesL_ (some 60) rfl rfl Tryd.func69 (by kernel_rfl) rfl #[.slice (some ad) l.length c0, .int .i64 nx, .int .i64 (wrap64 (dp + 1)), .bool false] rfl (by (try simp only [List.map_toArray, List.map_cons, List.map_nil]); first | done | rfl) ?_; (refine (HC.out _ (Kd.C_below HR0.out HB.out) HC0.out).mono ?_); rintro e w3 ⟨v13, rfl, hp, hb⟩; refine ⟨_, rfl, ?_⟩; obtain ⟨g1, rfl, ht⟩ := hp; have mt_ := (ht.mono (ok' := fun k_ => (w.heap.size ≤ k_ ∧ k_ ≠ gb) ∧ some k_ ≠ (Value.slice A1 gs.length c1).ownBlock) (fun k_ hk_ => ⟨⟨Nat.le_trans (below_size HB.out) hk_, fun e_ => by have := blk_lt BV.out; omega⟩, fun e_ => by have := Kd.R_lt HK.out k_ e_.symm; omega⟩)).upto (e := K) (by have := HL.out.2.1; omega); have m0_ := Aside0.mk (below_step HB.out hb); have m1_ := Aside0.mk (blk_below BV.out hb); have m2_ := Aside0.mk (Kd.R_below HK.out hb); have m3_ := Aside0.mk (HF.out.below hb); have m4_ := Aside0.mk (IsF.snoc m3_.out mt_); clear hx1 hx4 ht mt_ HB BV HK HF hb m3_; have HB := m0_; have BV := m1_; have HK := m2_; have HF := m4_; clear m0_ m1_ m2_ m4_; have hx1 := (HB.out.cell (World.block_lt_of_cell? _ _ X1.out)).trans X1.out; have hx4 := (HB.out.cell (World.block_lt_of_cell? _ _ X4.out)).trans X4.out; have hc5 : w3.cell? ⟨gb, 5, none⟩ = some (.slice A1 gs.length c1) := (blk_cell BV.out 5).trans rfl; have hf5 := blk_frozen BV.out 5))
          go_quiet (fail)
          go_wp2_with (first | ((with_reducible refine gate_builtin (b := .append) (xs := #[.tmp 100, .tmp 102]) rfl ?_); at_builtin; refine Kd.R_append kp (w0 := w) w.heap.size rfl (.tmp 100) (.tmp 102) 70 52 (.pointer none) 8 rfl Tryd.underlying70 info52 rfl (by decide) (by omega) (.slice A1 gs.length c1) gs g1 [.pointer (some ⟨g1, 0, none⟩)] (fun k_ => w.heap.size ≤ k_ ∧ k_ ≠ gb) (fun _ => False) rfl rfl rfl (fun _ h_ => h_.elim) ?aF ?aO ?aB ?aS ?aL ?_; (case aF => intro k_ hk_; exact ⟨Nat.le_trans (below_size (by repeat first | exact HB.out | apply pw_below_drewN | apply below_drew1 | apply below_alloc)) hk_, fun e_ => by have := blk_lt BV.out; have hz_ : w3.heap.size ≤ k_ := hk_; omega⟩); (case aO => exact (by repeat first | exact HK.out | apply Kd.R_drewN | apply Kd.R_drew | apply Kd.R_alloc)); (case aB => exact (by repeat first | exact HB.out | apply pw_below_drewN | apply below_drew1 | apply below_alloc)); (case aS => exact below_size (by repeat first | exact HB.out | apply pw_below_drewN | apply below_drew1 | apply below_alloc)); (case aL => have := HLK.out; omega); intro v4 w4 ho hb hg hat; have m0_ := Aside0.mk hb; have m1_ := Aside0.mk (blk_grown (by repeat first | exact BV.out | apply blk_drewN | apply blk_drew | apply blk_alloc) hg (fun e_ => (HK.out.1 gb e_.symm).2 rfl)); have m2_ := Aside0.mk ho; have m3_ := Aside0.mk (IsF.after (by repeat first | exact HF.out | apply IsF.drewN | apply IsF.drew | apply IsF.alloc) hg hat); clear hc5 hf5 HB BV HK HF ho hb hg hat; have HB := m0_; have BV := m1_; have HK := m2_; have HF := m3_; clear m0_ m1_ m2_ m3_; obtain ⟨A4, c4, rfl⟩ := Kd.R_slice HK.out; have hc5 : w4.cell? ⟨gb, 5, none⟩ = some (.slice A1 gs.length c1) := (blk_cell BV.out 5).trans rfl; have hf5 := blk_frozen BV.out 5) | ((with_reducible refine gate_store (t := 70) (p := 105) rfl ?_); refine store_event (t := 70) (p := 105) (v := .tmp 103) (w1 := (w4.setCell ⟨gb, 5, none⟩ (.slice A4 (gs ++ [g1]).length c4))) ?hg ?ho ?hn ?hr ?_; (case ho => rfl); (case hg => rfl); (case hn => rfl); (case hr => first | (go_simp; done) | (go_simp; rfl)); intro w5 hw; have m0_ := Aside0.mk (show Below w.heap.size w w5 from (by rw [hw]; exact below_set HB.out GE.out)); have m1_ := Aside0.mk (show w5.heap[gb]? = some (.cells (nodeC x (.slice A4 (gs ++ [g1]).length c4)) 72 (0, 0)) from (by rw [hw]; exact (blk_put (cs' := nodeC x (.slice A4 (gs ++ [g1]).length c4)) BV.out 5 (.slice A4 (gs ++ [g1]).length c4) rfl))); have m2_ := Aside0.mk (show kp.R 52 w5 w.heap.size (fun k_ => w.heap.size ≤ k_ ∧ k_ ≠ gb) (.slice A4 (gs ++ [g1]).length c4) (gs ++ [g1]) from (by rw [hw]; exact Kd.R_set HK.out BV.out (by decide) 5 _)); have m3_ := Aside0.mk (show IsF 72 52 K w5 (fun k_ => (w.heap.size ≤ k_ ∧ k_ ≠ gb) ∧ some k_ ≠ (Value.slice A4 (gs ++ [g1]).length c4).ownBlock) (gs ++ [g1]) (kids ++ [t]) from (by rw [hw]; exact HF.out.far (fun _ hk_ => hk_.1.2) _)); clear hc5 hf5 hw HB BV HK HF; have HB := m0_; have BV := m1_; have HK := m2_; have HF := m3_; clear m0_ m1_ m2_ m3_; (try simp only [Act.put, List.setIfInBounds_toArray, List.set_cons_zero, List.set_cons_succ])))
          go_roundg m
          case measure => have := HL2.out.2.1; omega
          case rel => exact ⟨wrap64 (j + 1), r2', kids ++ [t], gs ++ [g1], _, rfl, rfl, HL2, BV, HK, HF, HB⟩

/-! ### spec_l7Of: function 39 -/
theorem IsP.wide {tv tp d : Nat} {W : World} {b1 b2 : Nat} {v : Value} {o : Option T7} (h : IsP tv tp d W b1 v o) (hle : b2 ≤ b1) : IsP tv tp d W b2 v o := by
  cases o with
  | none => exact h
  | some t => obtain ⟨g, e, ht⟩ := h; exact ⟨g, e, ht.mono (fun k hk => Nat.le_trans hle hk)⟩
theorem IsP.below {tv tp d : Nat} {W W1 : World} {b : Nat} {v : Value} {o : Option T7} (h : IsP tv tp d W b v o) (hb : Below W.heap.size W W1) : IsP tv tp d W1 b v o := by
  cases o with
  | none => exact h
  | some t => obtain ⟨g, e, ht⟩ := h; exact ⟨g, e, ht.below hb⟩
def spec_l7Of.f (k : Nat) (l : List S61) : Option (Option T7 × Bool) :=
  if (l.length : Int) > 40 then some (none, false) else (spec_l7Tree.f k l 0 1 false).bind fun r => some (r.1, r.2 == (l.length : Int))
theorem spec_l7Of.mono : ∀ l k, LeO (spec_l7Of.f k l) (spec_l7Of.f (k + 1) l) := by
  intro l k
  unfold spec_l7Of.f
  exact LeO.ite (LeO.refl _) (LeO.bind (spec_l7Tree.mono _ _ _ _ _) (fun r => LeO.refl _))
theorem spec_l7Of.run (k : Nat) (l : List S61) (r1 : Option T7) (r2 : Bool) (h : spec_l7Of.f k l = some (r1, r2)) (A0 : Option Addr) (c0 : Nat) (w : World) (hr0 : Kd.C k61 w A0 l.length l) (hc0 : l.length ≤ c0) :
    Calls Tryd.prog 39 #[.slice A0 l.length c0] w fun e w' => ∃ v0_ : Value, e = .returned (.tuple #[v0_, .bool r2]) ∧ IsP 72 52 k w' w.heap.size v0_ r1 ∧ Below w.heap.size w w' := by
  have hu61 := Tryd.underlying61
  have HR0 := Aside0.mk hr0
  have HC0 := Aside0.mk hc0
  have HB := Aside0.mk (Below.refl w.heap.size w)
  clear hr0 hc0
  unfold spec_l7Of.f at h
  by_cases c1 : (l.length : Int) > 40
  · rw [if_pos c1] at h
    have c1b0 : decide (40 < (l.length : Int)) = true := decide_eq_true c1
    injection h with h
    injection h with h1 h2
    subst h1; subst h2
    clear c1
    go_enter Tryd.func39, Tryd.ntmps39
    go_wp2
    go_ret2
    exact ⟨_, rfl, rfl, HB.out⟩
  rw [if_neg c1] at h
  have c1b0 : decide (40 < (l.length : Int)) = false := decide_eq_false c1
  clear c1
  obtain ⟨⟨t1, t2⟩, ht, h⟩ := Option.bind_eq_some_iff.mp h
  injection h with h
  injection h with h1 h2
  have h1 : t1 = r1 := h1
  have h2 : (t2 == (l.length : Int)) = r2 := h2
  subst h1
  have HT := Aside0.mk ht
  clear ht
  go_enter Tryd.func39, Tryd.ntmps39
  go_wp2_with (first | (go_at_call 69; refine (spec_l7Tree.run k l 0 1 false _ _ HT.out A0 c0 _ (Kd.C_below HR0.out HB.out) HC0.out).mono ?_; rintro e w3 ⟨v13, rfl, hp, hb⟩; have HP := Aside0.mk (hp.wide (below_size HB.out)); have m0_ := Aside0.mk (below_step HB.out hb); clear hp HB hb; have HB := m0_; clear m0_))
  go_ret2
  exact ⟨_, rfl, HP.out, HB.out⟩

/-! ### spec_l1Num: function 105 -/
def spec_l1Num.f : Nat → Int → Option (ByteArray)
  | 0, _ => none
  | k + 1, a0 => if a0 < 10 then (some (strOfNums (([(wrap64 (48 + a0)) % 256] : List Int)))) else ((spec_l1Num.f k (wrap64 (Int.tdiv a0 10))).bind fun t195 => ((some (([(wrap64 (48 + (Int.tmod a0 10))) % 256] : List Int) : List Int)).bind fun y196 => (if t195.size + (strOfNums y196).size ≤ 9223372036854775807 then (some (t195 ++ (strOfNums y196))) else (none))))
theorem spec_l1Num.mono_l : ∀ k, (∀ y0, LeO (spec_l1Num.f k y0) (spec_l1Num.f (k + 1) y0))
  | 0 => fun _ r h => by simp [spec_l1Num.f] at h
  | k + 1 => by
    have ih0 := spec_l1Num.mono_l k
    · intro y0
      unfold spec_l1Num.f
      repeat' first
      | (with_reducible exact ih0 _)
      | (with_reducible exact LeO.refl _)
      | (with_reducible exact LeO.none _)
      | (with_reducible refine LeO.ite ?_ ?_)
      | (with_reducible refine LeO.bind ?_ (fun _ => ?_))
      | exact ih0 _
      | exact LeO.none _
      | refine LeO.ite ?_ ?_
      | refine LeO.bind ?_ (fun _ => ?_)
theorem spec_l1Num.mono : ∀ a0 k, LeO (spec_l1Num.f k a0) (spec_l1Num.f (k + 1) a0) := by
  intro a0 k
  have ih0 := spec_l1Num.mono_l k
  exact ih0 a0
def spec_l1Num.T3 : Bool × List (List Nat × List Nat) := (true, [([], []), ([0], [0]), ([1], [1]), ([], []), ([3], [3]), ([4], [4]), ([5], [5]), ([6], [6]), ([7], [7]), ([2, 8], [2, 8]), ([9, 2, 0, 1, 2, 3, 4, 5, 6, 7, 8, 9], [9])])
def spec_l1Num.B3 : List Nat := [0, 1, 3, 0, 8, 24, 56, 120, 248, 511, 1023]
theorem spec_l1Num.tab3 : rtab .any (opsOf Tryd.f105 3) = spec_l1Num.T3 := by kernel_rfl
theorem spec_l1Num.bits3 : waitsOk spec_l1Num.T3.2 spec_l1Num.B3 = true := by kernel_rfl
set_option maxHeartbeats 8000000 in
set_option maxRecDepth 100000 in
theorem spec_l1Num.calls (k : Nat) : ∀ (a0 : Int) (r : ByteArray) (w : World) (h : spec_l1Num.f k a0 = some r),
    Calls Tryd.prog 105 #[.int .i64 a0] w fun e w' => e = .returned (.string r) ∧ Below w.heap.size w w' := by
  induction k using Nat.strongRecOn with
  | _ k ih =>
  intro a0 r w h
  cases k with
  | zero => exact absurd h (by simp [spec_l1Num.f])
  | succ k =>
  simp only [spec_l1Num.f] at h
  have HB := Aside0.mk (Below.refl w.heap.size w)
  have H : (if a0 < 10 then (some (strOfNums (([(wrap64 (48 + a0)) % 256] : List Int)))) else ((spec_l1Num.f k (wrap64 (Int.tdiv a0 10))).bind fun t195 => ((some (([(wrap64 (48 + (Int.tmod a0 10))) % 256] : List Int) : List Int)).bind fun y196 => (if t195.size + (strOfNums y196).size ≤ 9223372036854775807 then (some (t195 ++ (strOfNums y196))) else (none))))) = some r := h
  clear h
  by_cases c2 : a0 < 10
  · rw [if_pos c2] at H
    have c2b0 : decide (a0 < 10) = true := decide_eq_true c2
    clear c2
    obtain ⟨y192, hy192⟩ : ∃ y_ : List Int, y_ = (([(wrap64 (48 + a0)) % 256] : List Int)) := ⟨_, rfl⟩
    replace H : (some (strOfNums y192)) = some r := by first | (rw [hy192]; with_reducible exact H) | (have H2_ := (Option.bind_some _ _).symm.trans H; rw [hy192]; with_reducible exact H2_) | (have H2_ := (Option.bind_some _ _).symm.trans H; with_reducible exact H2_) | with_reducible exact H | (rw [hy192]; exact H) | exact H
    have Ny192 := Aside0.mk hy192
    clear hy192
    obtain rfl := Option.some.inj H
    go_enter Tryd.func105, Tryd.ntmps105
    go_wp2_with (first | ((with_reducible refine gate_dst (N := 8) rfl ?_); refine Kd.R_lit (Kd.int .u8) _ 5 ?hg (N := 8) ?hd (xs := ([(wrap64 (48 + a0)) % 256] : List Int)) (inner := [.int .u8 ((wrap64 (48 + a0)) % 256)]) (ok := fun _ => True) (okp := fun _ => True) ?hr ?hp (fun _ hk => hk) trivial (Below.refl _ _) (Nat.le_refl _) (by simp) ?_; (case hd => rfl); (case hg => rfl); (case hr => first | (go_simp; done) | (go_simp; rfl)); (case hp => exact (Reps.one (show Kd.M (Kd.int .u8) _ _ _ ((wrap64 (48 + a0)) % 256) [.int .u8 ((wrap64 (48 + a0)) % 256)] from rfl) (Reps.none _ _))); intro v193 w3 ho4 hb hg_ hnew_; clear hg_ hnew_; (first | rw [← Ny192.out] at ho4 | (simp only [Int.reduceToNat] at ho4; rw [← Ny192.out] at ho4)); have n0_ := Aside0.mk (Kd.R_lower ho4 (below_size (by repeat (first | (with_reducible first | exact HB.out | apply below_alloc | apply pw_below_drewN | apply below_drew1) | exact HB.out)))); have n1_ := Aside0.mk (below_step (by repeat (first | (with_reducible first | exact HB.out | apply below_alloc | apply pw_below_drewN | apply below_drew1) | exact HB.out)) hb); clear HB; have HO194 := n0_; have HB := n1_; clear n0_ n1_; clear hb ho4; have hcv5 := own_string (P := Tryd.prog) Tryd.underlying42 Tryd.underlying5 Tryd.underlying9 (Kd.own_of_R HO194.out)))
    go_ret
    exact ⟨by first | rfl | (simp [errW_none, errW_some] <;> rfl) | (simp [*, errW_none, errW_some] <;> rfl), by repeat (first | (with_reducible first | exact HB.out | apply below_alloc | apply pw_below_drewN | apply below_drew1) | exact HB.out)⟩
  · rw [if_neg c2] at H
    have c2b0 : decide (a0 < 10) = false := decide_eq_false c2
    clear c2
    replace H := Option.bind_eq_some_iff.mp H
    obtain ⟨t195, A60, H⟩ := H
    replace H : ((some (([(wrap64 (48 + (Int.tmod a0 10))) % 256] : List Int) : List Int)).bind fun y196 => (if t195.size + (strOfNums y196).size ≤ 9223372036854775807 then (some (t195 ++ (strOfNums y196))) else (none))) = some r := H
    have A6 := Aside0.mk A60
    clear A60
    obtain ⟨y196, hy196⟩ : ∃ y_ : List Int, y_ = (([(wrap64 (48 + (Int.tmod a0 10))) % 256] : List Int)) := ⟨_, rfl⟩
    replace H : (if t195.size + (strOfNums y196).size ≤ 9223372036854775807 then (some (t195 ++ (strOfNums y196))) else (none)) = some r := by first | (rw [hy196]; with_reducible exact H) | (have H2_ := (Option.bind_some _ _).symm.trans H; rw [hy196]; with_reducible exact H2_) | (have H2_ := (Option.bind_some _ _).symm.trans H; with_reducible exact H2_) | with_reducible exact H | (rw [hy196]; exact H) | exact H
    have Ny196 := Aside0.mk hy196
    clear hy196
    by_cases c7 : t195.size + (strOfNums y196).size ≤ 9223372036854775807
    · rw [if_pos c7] at H
      have c7b0 := eq_true c7
      have c7b1 : decide (t195.size + (strOfNums y196).size ≤ 9223372036854775807) = true := decide_eq_true c7
      try have c7b2 : (9223372036854775807 < t195.size + (strOfNums y196).size) = False := eq_false (Nat.not_lt.2 c7)
      obtain rfl := Option.some.inj H
      go_enter Tryd.func105, Tryd.ntmps105
      try go_wp2
      have n0_ := Aside0.mk (below_drew1 HB.out)
      clear HB
      have HB := n0_
      clear n0_
      refine start_ (n := 11) (S := fun w' => True) (ds := []) #[false, false, false, false, false, false, false, false, false, false, false] (by kernel_rfl) rfl rfl trivial (fun hHeld => ?_); refine with_tabW spec_l1Num.tab3 spec_l1Num.bits3 (fun HT_ HW_ => ?_)
      generalize w.drew = w8 at HB hHeld ⊢
      refine pure_ (i := 0) (N := some 10) (v := ?_) (a' := ?_) #[true, false, false, false, false, false, false, false, false, false, false] rfl rfl (any_of HT_.out (by kernel_rfl)) (fun _ _ _ h => h) (Or.inl ⟨by rfl, ?_⟩) ?_ ?_
      rotate_left
      · intro w'
        go_simp
        with_reducible rfl
      rotate_left
      · simp only [Act.put, List.setIfInBounds_toArray, List.set_cons_zero, List.set_cons_succ, i64_w, i32_w]
        rfl
      refine pure_ (i := 1) (N := some 11) (v := ?_) (a' := ?_) #[true, true, false, false, false, false, false, false, false, false, false] rfl rfl (any_of HT_.out (by kernel_rfl)) (fun _ _ _ h => h) (Or.inl ⟨by rfl, ?_⟩) ?_ ?_
      rotate_left
      · intro w'
        go_simp
        with_reducible rfl
      rotate_left
      · simp only [Act.put, List.setIfInBounds_toArray, List.set_cons_zero, List.set_cons_succ, i64_w, i32_w]
        rfl
      refine pure_ (i := 3) (N := some 13) (v := ?_) (a' := ?_) #[true, true, false, true, false, false, false, false, false, false, false] rfl rfl (any_of HT_.out (by kernel_rfl)) (fun _ _ _ h => h) (Or.inl ⟨by rfl, ?_⟩) ?_ ?_
      rotate_left
      · intro w'
        go_simp
        with_reducible rfl
      rotate_left
      · simp only [Act.put, List.setIfInBounds_toArray, List.set_cons_zero, List.set_cons_succ, i64_w, i32_w]
        rfl
      refine pure_ (i := 4) (N := some 14) (v := ?_) (a' := ?_) #[true, true, false, true, true, false, false, false, false, false, false] rfl rfl (any_of HT_.out (by kernel_rfl)) (fun _ _ _ h => h) (Or.inl ⟨by rfl, ?_⟩) ?_ ?_
      rotate_left
      · intro w'
        go_simp
        with_reducible rfl
      rotate_left
      · simp only [Act.put, List.setIfInBounds_toArray, List.set_cons_zero, List.set_cons_succ, i64_w, i32_w]
        rfl
      refine pure_ (i := 5) (N := some 15) (v := ?_) (a' := ?_) #[true, true, false, true, true, true, false, false, false, false, false] rfl rfl (any_of HT_.out (by kernel_rfl)) (fun _ _ _ h => h) (Or.inl ⟨by rfl, ?_⟩) ?_ ?_
      rotate_left
      · intro w'
        go_simp
        with_reducible rfl
      rotate_left
      · simp only [Act.put, List.setIfInBounds_toArray, List.set_cons_zero, List.set_cons_succ, i64_w, i32_w]
        rfl
      refine pure_ (i := 6) (N := some 16) (v := ?_) (a' := ?_) #[true, true, false, true, true, true, true, false, false, false, false] rfl rfl (any_of HT_.out (by kernel_rfl)) (fun _ _ _ h => h) (Or.inl ⟨by rfl, ?_⟩) ?_ ?_
      rotate_left
      · intro w'
        go_simp
        with_reducible rfl
      rotate_left
      · simp only [Act.put, List.setIfInBounds_toArray, List.set_cons_zero, List.set_cons_succ, i64_w, i32_w]
        rfl
      refine join_ (σ := Value) 2 #[true, true, true, true, true, true, true, true, true, false, false] (fun s_ => [(12, .string t195), (17, s_), (18, .string (strOfNums y196))]) (fun s_ w' => (Kd.R (Kd.int .u8) 5 w' w.heap.size (fun _ => True) s_ y196) ∧ (Below w.heap.size w w')) ?_ ?_
      rotate_left
      · intro hCont
        refine two_ (i := 2) (j := 7) (Ni := some 12) (Nj := some 17) #[true, true, true, true, true, true, true, false, false, false, false] #[true, true, false, true, true, true, true, true, false, false, false] rfl rfl rfl rfl (two_of HT_.out (by kernel_rfl)) (by decide) (by decide) (fun K hK => ?_) (fun K hK => ?_)
        · skip
          refine goes_ Tryd.func105 (by kernel_rfl) rfl #[.int .i64 (wrap64 (Int.tdiv a0 10))] (by rfl) rfl rfl (by (try simp only [List.map_toArray, List.map_cons, List.map_nil]); first | done | rfl | (simp only [List.length_drop, List.length_take]; rfl)) ?_
          with_reducible refine (ih k (by omega) (wrap64 (Int.tdiv a0 10)) t195 _ A6.out).mono ?_
          rintro e w9 ⟨rfl, hb⟩
          refine ⟨_, rfl, ?_⟩
          have n0_ := Aside0.mk (below_step (by repeat (first | (with_reducible first | exact HB.out | apply below_alloc | apply pw_below_drewN | apply below_drew1) | exact HB.out)) hb)
          clear HB
          have HB := n0_
          clear n0_
          (try clear hb)
          (try clear hb2)
          (try clear hk)
          (try clear hi)
          refine hK.out _ _ trivial (fun hHeld => ?_)
          clear hK K
          refine norm_ (a' := ?_) ?_ ?_
          rotate_left
          · show Act.put _ (some 12) _ = _
            simp only [Act.put, List.setIfInBounds_toArray, List.set_cons_zero, List.set_cons_succ, i64_w, i32_w]
            rfl
          refine one_ (i := 7) (N := some 17) #[true, true, true, true, true, true, true, true, false, false, false] rfl rfl (one_of HT_.out (by kernel_rfl)) (by decide) (fun K hK => ?_)
          refine Kd.R_lit_step (Kd.int .u8) _ 5 ?hg (N := 17) ?hd (xs := ([(wrap64 (48 + (Int.tmod a0 10))) % 256] : List Int)) (inner := [.int .u8 ((wrap64 (48 + (Int.tmod a0 10))) % 256)]) (ok := fun _ => True) (okp := fun _ => True) ?hr ?hp (fun _ hk => hk) trivial (Below.refl _ _) (Nat.le_refl _) (by simp) ?_; (case hd => rfl); (case hg => rfl); (case hr => first | (go_simp; done) | (go_simp; rfl)); (case hp => exact (Reps.one (show Kd.M (Kd.int .u8) _ _ _ ((wrap64 (48 + (Int.tmod a0 10))) % 256) [.int .u8 ((wrap64 (48 + (Int.tmod a0 10))) % 256)] from rfl) (Reps.none _ _)))
          intro v197 w10 ho11 hb hg_ hnew_
          clear hg_ hnew_
          (first | rw [← Ny196.out] at ho11 | (simp only [Int.reduceToNat] at ho11; rw [← Ny196.out] at ho11))
          have n0_ := Aside0.mk (Kd.R_lower ho11 (below_size (by repeat (first | (with_reducible first | exact HB.out | apply below_alloc | apply pw_below_drewN | apply below_drew1) | exact HB.out))))
          have n1_ := Aside0.mk (below_step (by repeat (first | (with_reducible first | exact HB.out | apply below_alloc | apply pw_below_drewN | apply below_drew1) | exact HB.out)) hb)
          clear HB
          have HO198 := n0_
          have HB := n1_
          clear n0_ n1_
          clear hb ho11
          refine hK.out _ _ trivial (fun hHeld => ?_)
          clear hK K
          refine norm_ (a' := ?_) ?_ ?_
          rotate_left
          · show Act.put _ (some 17) _ = _
            simp only [Act.put, List.setIfInBounds_toArray, List.set_cons_zero, List.set_cons_succ, i64_w, i32_w]
            rfl
          refine one_ (i := 8) (N := some 18) #[true, true, true, true, true, true, true, true, true, false, false] rfl rfl (one_of HT_.out (by kernel_rfl)) (by decide) (fun K hK => ?_)
          have hcv12 := own_string (P := Tryd.prog) Tryd.underlying42 Tryd.underlying5 Tryd.underlying9 (Kd.own_of_R HO198.out)
          refine value_ (w1 := ?_) (v := ?_) (by rfl) rfl ?_ ?_
          rotate_left 2
          · go_simp
            constructor
            · rfl
            · rfl
          clear hcv12
          refine hK.out _ _ trivial (fun hHeld => ?_)
          clear hK K
          refine norm_ (a' := ?_) ?_ ?_
          rotate_left
          · show Act.put _ (some 18) _ = _
            simp only [Act.put, List.setIfInBounds_toArray, List.set_cons_zero, List.set_cons_succ, i64_w, i32_w]
            rfl
          exact norm_ (by simp only [putAll, Act.put, List.setIfInBounds_toArray, List.set_cons_zero, List.set_cons_succ]) (hCont (v197) _ ⟨(by (with_reducible repeat (first | apply Kd.R_alloc | apply Kd.R_drewN | apply Kd.R_drew)); exact HO198.out), (by repeat (first | (with_reducible first | exact HB.out | apply below_alloc | apply pw_below_drewN | apply below_drew1) | exact HB.out))⟩)
        · skip
          refine Kd.R_lit_step (Kd.int .u8) _ 5 ?hg (N := 17) ?hd (xs := ([(wrap64 (48 + (Int.tmod a0 10))) % 256] : List Int)) (inner := [.int .u8 ((wrap64 (48 + (Int.tmod a0 10))) % 256)]) (ok := fun _ => True) (okp := fun _ => True) ?hr ?hp (fun _ hk => hk) trivial (Below.refl _ _) (Nat.le_refl _) (by simp) ?_; (case hd => rfl); (case hg => rfl); (case hr => first | (go_simp; done) | (go_simp; rfl)); (case hp => exact (Reps.one (show Kd.M (Kd.int .u8) _ _ _ ((wrap64 (48 + (Int.tmod a0 10))) % 256) [.int .u8 ((wrap64 (48 + (Int.tmod a0 10))) % 256)] from rfl) (Reps.none _ _)))
          intro v197 w9 ho10 hb hg_ hnew_
          clear hg_ hnew_
          (first | rw [← Ny196.out] at ho10 | (simp only [Int.reduceToNat] at ho10; rw [← Ny196.out] at ho10))
          have n0_ := Aside0.mk (Kd.R_lower ho10 (below_size (by repeat (first | (with_reducible first | exact HB.out | apply below_alloc | apply pw_below_drewN | apply below_drew1) | exact HB.out))))
          have n1_ := Aside0.mk (below_step (by repeat (first | (with_reducible first | exact HB.out | apply below_alloc | apply pw_below_drewN | apply below_drew1) | exact HB.out)) hb)
          clear HB
          have HO198 := n0_
          have HB := n1_
          clear n0_ n1_
          clear hb ho10
          refine hK.out _ _ trivial (fun hHeld => ?_)
          clear hK K
          refine norm_ (a' := ?_) ?_ ?_
          rotate_left
          · show Act.put _ (some 17) _ = _
            simp only [Act.put, List.setIfInBounds_toArray, List.set_cons_zero, List.set_cons_succ, i64_w, i32_w]
            rfl
          refine two_ (i := 2) (j := 8) (Ni := some 12) (Nj := some 18) #[true, true, true, true, true, true, true, true, false, false, false] #[true, true, false, true, true, true, true, true, true, false, false] rfl rfl rfl rfl (two_of HT_.out (by kernel_rfl)) (by decide) (by decide) (fun K hK => ?_) (fun K hK => ?_)
          · skip
            refine goes_ Tryd.func105 (by kernel_rfl) rfl #[.int .i64 (wrap64 (Int.tdiv a0 10))] (by rfl) rfl rfl (by (try simp only [List.map_toArray, List.map_cons, List.map_nil]); first | done | rfl | (simp only [List.length_drop, List.length_take]; rfl)) ?_
            with_reducible refine (ih k (by omega) (wrap64 (Int.tdiv a0 10)) t195 _ A6.out).mono ?_
            rintro e w11 ⟨rfl, hb⟩
            refine ⟨_, rfl, ?_⟩
            have n0_ := Aside0.mk (Kd.R_below (by (with_reducible repeat (first | apply Kd.R_alloc | apply Kd.R_drewN | apply Kd.R_drew)); exact HO198.out) hb)
            have n1_ := Aside0.mk (below_step (by repeat (first | (with_reducible first | exact HB.out | apply below_alloc | apply pw_below_drewN | apply below_drew1) | exact HB.out)) hb)
            clear HO198
            clear HB
            have HO198 := n0_
            have HB := n1_
            clear n0_ n1_
            (try clear hb)
            (try clear hb2)
            (try clear hk)
            (try clear hi)
            refine hK.out _ _ trivial (fun hHeld => ?_)
            clear hK K
            refine norm_ (a' := ?_) ?_ ?_
            rotate_left
            · show Act.put _ (some 12) _ = _
              simp only [Act.put, List.setIfInBounds_toArray, List.set_cons_zero, List.set_cons_succ, i64_w, i32_w]
              rfl
            refine one_ (i := 8) (N := some 18) #[true, true, true, true, true, true, true, true, true, false, false] rfl rfl (one_of HT_.out (by kernel_rfl)) (by decide) (fun K hK => ?_)
            have hcv12 := own_string (P := Tryd.prog) Tryd.underlying42 Tryd.underlying5 Tryd.underlying9 (Kd.own_of_R HO198.out)
            refine value_ (w1 := ?_) (v := ?_) (by rfl) rfl ?_ ?_
            rotate_left 2
            · go_simp
              constructor
              · rfl
              · rfl
            clear hcv12
            refine hK.out _ _ trivial (fun hHeld => ?_)
            clear hK K
            refine norm_ (a' := ?_) ?_ ?_
            rotate_left
            · show Act.put _ (some 18) _ = _
              simp only [Act.put, List.setIfInBounds_toArray, List.set_cons_zero, List.set_cons_succ, i64_w, i32_w]
              rfl
            exact norm_ (by simp only [putAll, Act.put, List.setIfInBounds_toArray, List.set_cons_zero, List.set_cons_succ]) (hCont (v197) _ ⟨(by (with_reducible repeat (first | apply Kd.R_alloc | apply Kd.R_drewN | apply Kd.R_drew)); exact HO198.out), (by repeat (first | (with_reducible first | exact HB.out | apply below_alloc | apply pw_below_drewN | apply below_drew1) | exact HB.out))⟩)
          · skip
            have hcv11 := own_string (P := Tryd.prog) Tryd.underlying42 Tryd.underlying5 Tryd.underlying9 (Kd.own_of_R HO198.out)
            refine value_ (w1 := ?_) (v := ?_) (by rfl) rfl ?_ ?_
            rotate_left 2
            · go_simp
              constructor
              · rfl
              · rfl
            clear hcv11
            refine hK.out _ _ trivial (fun hHeld => ?_)
            clear hK K
            refine norm_ (a' := ?_) ?_ ?_
            rotate_left
            · show Act.put _ (some 18) _ = _
              simp only [Act.put, List.setIfInBounds_toArray, List.set_cons_zero, List.set_cons_succ, i64_w, i32_w]
              rfl
            refine one_ (i := 2) (N := some 12) #[true, true, true, true, true, true, true, true, true, false, false] rfl rfl (one_of HT_.out (by kernel_rfl)) (by decide) (fun K hK => ?_)
            refine goes_ Tryd.func105 (by kernel_rfl) rfl #[.int .i64 (wrap64 (Int.tdiv a0 10))] (by rfl) rfl rfl (by (try simp only [List.map_toArray, List.map_cons, List.map_nil]); first | done | rfl | (simp only [List.length_drop, List.length_take]; rfl)) ?_
            with_reducible refine (ih k (by omega) (wrap64 (Int.tdiv a0 10)) t195 _ A6.out).mono ?_
            rintro e w12 ⟨rfl, hb⟩
            refine ⟨_, rfl, ?_⟩
            have n0_ := Aside0.mk (Kd.R_below (by (with_reducible repeat (first | apply Kd.R_alloc | apply Kd.R_drewN | apply Kd.R_drew)); exact HO198.out) hb)
            have n1_ := Aside0.mk (below_step (by repeat (first | (with_reducible first | exact HB.out | apply below_alloc | apply pw_below_drewN | apply below_drew1) | exact HB.out)) hb)
            clear HO198
            clear HB
            have HO198 := n0_
            have HB := n1_
            clear n0_ n1_
            (try clear hb)
            (try clear hb2)
            (try clear hk)
            (try clear hi)
            refine hK.out _ _ trivial (fun hHeld => ?_)
            clear hK K
            refine norm_ (a' := ?_) ?_ ?_
            rotate_left
            · show Act.put _ (some 12) _ = _
              simp only [Act.put, List.setIfInBounds_toArray, List.set_cons_zero, List.set_cons_succ, i64_w, i32_w]
              rfl
            exact norm_ (by simp only [putAll, Act.put, List.setIfInBounds_toArray, List.set_cons_zero, List.set_cons_succ]) (hCont (v197) _ ⟨(by (with_reducible repeat (first | apply Kd.R_alloc | apply Kd.R_drewN | apply Kd.R_drew)); exact HO198.out), (by repeat (first | (with_reducible first | exact HB.out | apply below_alloc | apply pw_below_drewN | apply below_drew1) | exact HB.out))⟩)
      rintro v197 w13 ⟨h0_, h1_⟩
      have n0_ : Aside0 (Kd.R (Kd.int .u8) 5 w13 w.heap.size (fun _ => True) v197 y196) := ⟨h0_⟩
      have n1_ : Aside0 (Below w.heap.size w w13) := ⟨h1_⟩
      clear HB
      clear h0_ h1_
      have HO198 := n0_
      have HB := n1_
      clear n0_ n1_
      have hHeld := trivial
      refine norm_ (a' := ?_) ?_ ?_
      rotate_left
      · simp only [putAll, Act.put, List.setIfInBounds_toArray, List.set_cons_zero, List.set_cons_succ]
        rfl
      refine pure_ (i := 9) (N := some 19) (v := ?_) (a' := ?_) #[true, true, true, true, true, true, true, true, true, true, false] rfl rfl (any_of HT_.out (by kernel_rfl)) (fun _ _ _ h => h) (Or.inl ⟨by rfl, ?_⟩) ?_ ?_
      rotate_left
      · intro w'
        go_simp
        with_reducible rfl
      rotate_left
      · simp only [Act.put, List.setIfInBounds_toArray, List.set_cons_zero, List.set_cons_succ, i64_w, i32_w]
        rfl
      refine pure_ (i := 10) (N := some 2) (v := ?_) (a' := ?_) #[true, true, true, true, true, true, true, true, true, true, true] rfl rfl (any_of HT_.out (by kernel_rfl)) (fun _ _ _ h => h) (Or.inl ⟨by rfl, ?_⟩) ?_ ?_
      rotate_left
      · intro w'
        go_simp
        with_reducible rfl
      rotate_left
      · simp only [Act.put, List.setIfInBounds_toArray, List.set_cons_zero, List.set_cons_succ, i64_w, i32_w]
        rfl
      refine done_ (done_of HT_.out (by kernel_rfl)) ?_
      try go_wp2
      go_ret
      exact ⟨by first | rfl | (simp [errW_none, errW_some] <;> rfl) | (simp [*, errW_none, errW_some] <;> rfl), by repeat (first | (with_reducible first | exact HB.out | apply below_alloc | apply pw_below_drewN | apply below_drew1) | exact HB.out)⟩
    · rw [if_neg c7] at H
      exact absurd H (by simp)

/-! ### spec_l7Whole: function 74 -/
def spec_l7Whole.f (k : Nat) (a0 : Int) : Option (ByteArray) := if a0 < 0 then ((spec_l1Num.f k (wrap64 (-a0))).bind fun t199 => (if 1 + t199.size ≤ 9223372036854775807 then (some ((⟨#[45]⟩ : ByteArray) ++ t199)) else (none))) else ((spec_l1Num.f k a0).bind fun t200 => (some t200))
theorem spec_l7Whole.mono : ∀ a0 k, LeO (spec_l7Whole.f k a0) (spec_l7Whole.f (k + 1) a0) := by
  intro a0 k
  unfold spec_l7Whole.f
  repeat' first
      | (with_reducible exact spec_l1Num.mono _ _)
      | (with_reducible exact LeO.refl _)
      | (with_reducible exact LeO.none _)
      | (with_reducible refine LeO.ite ?_ ?_)
      | (with_reducible refine LeO.bind ?_ (fun _ => ?_))
      | exact spec_l1Num.mono _ _
      | exact LeO.none _
      | refine LeO.ite ?_ ?_
      | refine LeO.bind ?_ (fun _ => ?_)
set_option maxHeartbeats 8000000 in
set_option maxRecDepth 100000 in
theorem spec_l7Whole.calls (k : Nat) (a0 : Int) (r : ByteArray) (w : World) (h : spec_l7Whole.f k a0 = some r) :
    Calls Tryd.prog 74 #[.int .i64 a0] w fun e w' => e = .returned (.string r) ∧ Below w.heap.size w w' := by
  have HB := Aside0.mk (Below.refl w.heap.size w)
  have H : (if a0 < 0 then ((spec_l1Num.f k (wrap64 (-a0))).bind fun t199 => (if 1 + t199.size ≤ 9223372036854775807 then (some ((⟨#[45]⟩ : ByteArray) ++ t199)) else (none))) else ((spec_l1Num.f k a0).bind fun t200 => (some t200))) = some r := h
  clear h
  by_cases c2 : a0 < 0
  · rw [if_pos c2] at H
    have c2b0 : decide (a0 < 0) = true := decide_eq_true c2
    clear c2
    replace H := Option.bind_eq_some_iff.mp H
    obtain ⟨t199, A30, H⟩ := H
    replace H : (if 1 + t199.size ≤ 9223372036854775807 then (some ((⟨#[45]⟩ : ByteArray) ++ t199)) else (none)) = some r := H
    have A3 := Aside0.mk A30
    clear A30
    by_cases c4 : 1 + t199.size ≤ 9223372036854775807
    · rw [if_pos c4] at H
      have c4b0 := eq_true c4
      have c4b1 : decide (1 + t199.size ≤ 9223372036854775807) = true := decide_eq_true c4
      try have c4b2 : (9223372036854775807 < 1 + t199.size) = False := eq_false (Nat.not_lt.2 c4)
      obtain rfl := Option.some.inj H
      go_enter Tryd.func74, Tryd.ntmps74
      go_wp2_with (first | ((with_reducible refine gate_callee (f := 105) rfl ?_); refine goesL_ (some 7) rfl rfl Tryd.func105 (by kernel_rfl) rfl #[.int .i64 (wrap64 (-a0))] rfl (by (try simp only [List.map_toArray, List.map_cons, List.map_nil]); first | done | rfl | (simp only [List.length_drop, List.length_take]; rfl)) ?_; (with_reducible refine (spec_l1Num.calls k (wrap64 (-a0)) t199 _ A3.out).mono ?_); rintro e w5 ⟨rfl, hb⟩; refine ⟨_, rfl, ?_⟩; have n0_ := Aside0.mk (below_step (by repeat (first | (with_reducible first | exact HB.out | apply below_alloc | apply pw_below_drewN | apply below_drew1) | exact HB.out)) hb); clear HB; have HB := n0_; clear n0_; (try clear hb); (try clear hb2); (try clear hk); (try clear hi)))
      go_ret
      exact ⟨by first | rfl | (simp [errW_none, errW_some] <;> rfl) | (simp [*, errW_none, errW_some] <;> rfl), by repeat (first | (with_reducible first | exact HB.out | apply below_alloc | apply pw_below_drewN | apply below_drew1) | exact HB.out)⟩
    · rw [if_neg c4] at H
      exact absurd H (by simp)
  · rw [if_neg c2] at H
    have c2b0 : decide (a0 < 0) = false := decide_eq_false c2
    clear c2
    replace H := Option.bind_eq_some_iff.mp H
    obtain ⟨t200, A60, H⟩ := H
    replace H : (some t200) = some r := H
    have A6 := Aside0.mk A60
    clear A60
    obtain rfl := Option.some.inj H
    go_enter Tryd.func74, Tryd.ntmps74
    go_wp2_with (first | ((with_reducible refine gate_callee (f := 105) rfl ?_); refine goesL_ (some 10) rfl rfl Tryd.func105 (by kernel_rfl) rfl #[.int .i64 a0] rfl (by (try simp only [List.map_toArray, List.map_cons, List.map_nil]); first | done | rfl | (simp only [List.length_drop, List.length_take]; rfl)) ?_; (with_reducible refine (spec_l1Num.calls k a0 t200 _ A6.out).mono ?_); rintro e w7 ⟨rfl, hb⟩; refine ⟨_, rfl, ?_⟩; have n0_ := Aside0.mk (below_step (by repeat (first | (with_reducible first | exact HB.out | apply below_alloc | apply pw_below_drewN | apply below_drew1) | exact HB.out)) hb); clear HB; have HB := n0_; clear n0_; (try clear hb); (try clear hb2); (try clear hk); (try clear hi)))
    go_ret
    exact ⟨by first | rfl | (simp [errW_none, errW_some] <;> rfl) | (simp [*, errW_none, errW_some] <;> rfl), by repeat (first | (with_reducible first | exact HB.out | apply below_alloc | apply pw_below_drewN | apply below_drew1) | exact HB.out)⟩

end
end Go.Proofs.YtkfbdopfeacnfaaDoor.PFnExactValueText
