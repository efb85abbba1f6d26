-- Printed by wip/tools/patch_print.py; Lean checks it.
import Derived.Test.YtkfbdopfeacnfaaDoorPFnFieldsx0
import Derived.Test.YtkfbdopfeacnfaaDoorPFnFieldsx3
import Derived.Test.YtkfbdopfeacnfaaDoorPFnFieldsx4
import Derived.Test.YtkfbdopfeacnfaaDoorPFnFieldsx6
import Derived.Test.YtkfbdopfeacnfaaDoorPFnFieldsx7
namespace Go.Proofs.YtkfbdopfeacnfaaDoor.PFnFields
open Go.RowKit Go.Proofs.YtkfbdopfeacnfaaDoorW.PrintWords Go.Proofs.YtkfbdopfeacnfaaDoorW.PrintLast Go.Proofs.YtkfbdopfeacnfaaDoorW.PrintMore
attribute [local go_sem] max2_int min2_int max_two min_two max_three min_three max_four min_four   -- for this text's walks alone
set_option linter.unusedVariables false
set_option linter.unusedSimpArgs false

noncomputable section
/-! ### spec_l7Tree: function 69 -/
/-! Values as trees: what the heap holds of a tree, below any change that leaves its own blocks. -/
inductive T7 where
 | mk (x : S61) (kids : List T7)
def T7.x : T7 → S61
 | .mk x _ => x
def T7.kids : T7 → List T7
 | .mk _ l => l
/-- Pointers to blocks' beginnings. -/
def kp : Kd Nat := Kd.scalar (fun g => .pointer (some ⟨g, 0, none⟩)) (fun _ => rfl)
def nodeC (x : S61) (v : Value) : Array Value := #[.string x.f0, .int .i64 x.f1, .int .i64 x.f2, .string x.f3, .int .i64 x.f4, v]
/-- The block g holds a tree of at most so many levels; all its blocks are in ok. -/
def IsT (tv tp : Nat) : Nat → World → (Nat → Prop) → Nat → T7 → Prop
 | 0, _, _, _, _ => False
 | d + 1, W, ok, g, t => ok g ∧ ∃ (v : Value) (gs : List Nat), W.heap[g]? = some (.cells (nodeC t.x v) tv (0, 0)) ∧ kp.R tp W 0 ok v gs ∧ gs.length = t.kids.length ∧ ∀ (i g' : Nat) (t' : T7), gs[i]? = some g' → t.kids[i]? = some t' → IsT tv tp d W ok g' t'
section
variable {tv tp : Nat} {W W1 W2 : World} {ok ok' : Nat → Prop}
theorem IsT.step : ∀ {d : Nat} {g : Nat} {t : T7}, IsT tv tp d W ok g t → (∀ k, ok k → k < W.heap.size → W1.heap[k]? = W.heap[k]?) → IsT tv tp d W1 ok g t
 | 0, _, _, h, _ => h.elim
 | d + 1, g, t, ⟨h1, v, gs, h2, h3, h4, h5⟩, hm => ⟨h1, v, gs, (hm g h1 (blk_lt h2)).trans h2, Kd.R_step h3 hm, h4, fun i g' t' a b => IsT.step (h5 i g' t' a b) hm⟩
theorem IsT.mono : ∀ {d : Nat} {g : Nat} {t : T7}, IsT tv tp d W ok g t → (∀ k, ok k → ok' k) → IsT tv tp d W ok' g t
 | 0, _, _, h, _ => h.elim
 | d + 1, g, t, ⟨h1, v, gs, h2, h3, h4, h5⟩, hm => ⟨hm g h1, v, gs, h2, Kd.R_mono h3 hm, h4, fun i g' t' a b => IsT.mono (h5 i g' t' a b) hm⟩
theorem IsT.bound : ∀ {d : Nat} {g : Nat} {t : T7}, IsT tv tp d W ok g t → IsT tv tp d W (fun k => ok k ∧ k < W.heap.size) g t
 | 0, _, _, h => h.elim
 | d + 1, g, t, ⟨h1, v, gs, h2, h3, h4, h5⟩ => ⟨⟨h1, blk_lt h2⟩, v, gs, h2, Kd.R_mono (Kd.R_bound h3) (fun k hk => ⟨hk.1, hk.2.2.1⟩), h4, fun i g' t' a b => IsT.bound (h5 i g' t' a b)⟩
theorem IsT.below {d g : Nat} {t : T7} (h : IsT tv tp d W ok g t) (hb : Below W.heap.size W W1) : IsT tv tp d W1 ok g t := h.step (fun k _ hk => hb.block k hk)
theorem IsT.more : ∀ {d : Nat} {g : Nat} {t : T7}, IsT tv tp d W ok g t → IsT tv tp (d + 1) W ok g t
 | 0, _, _, h => h.elim
 | d + 1, g, t, ⟨h1, v, gs, h2, h3, h4, h5⟩ => ⟨h1, v, gs, h2, h3, h4, fun i g' t' a b => IsT.more (h5 i g' t' a b)⟩
theorem IsT.upto {d e g : Nat} {t : T7} (h : IsT tv tp d W ok g t) (he : d ≤ e) : IsT tv tp e W ok g t := by
 induction e with
 | zero => obtain rfl : d = 0 := (by omega); exact h
 | succ e ih =>
  by_cases hd : d = e + 1
  ·subst hd; exact h
  ·exact IsT.more (ih (by omega))
/-- Trees in a row. -/
def IsF (tv tp d : Nat) (W : World) (ok : Nat → Prop) (gs : List Nat) (ts : List T7) : Prop := gs.length = ts.length ∧ ∀ (i g : Nat) (t : T7), gs[i]? = some g → ts[i]? = some t → IsT tv tp d W ok g t
theorem IsF.nil (d : Nat) (W : World) (ok : Nat → Prop) : IsF tv tp d W ok [] [] := ⟨rfl, fun i g t h => by simp at h⟩
theorem IsF.step {d : Nat} {gs : List Nat} {ts : List T7} (h : IsF tv tp d W ok gs ts) (hm : ∀ k, ok k → k < W.heap.size → W1.heap[k]? = W.heap[k]?) : IsF tv tp d W1 ok gs ts := ⟨h.1, fun i g t a b => (h.2 i g t a b).step hm⟩
theorem IsF.mono {d : Nat} {gs : List Nat} {ts : List T7} (h : IsF tv tp d W ok gs ts) (hm : ∀ k, ok k → ok' k) : IsF tv tp d W ok' gs ts := ⟨h.1, fun i g t a b => (h.2 i g t a b).mono hm⟩
theorem IsF.bound {d : Nat} {gs : List Nat} {ts : List T7} (h : IsF tv tp d W ok gs ts) : IsF tv tp d W (fun k => ok k ∧ k < W.heap.size) gs ts := ⟨h.1, fun i g t a b => (h.2 i g t a b).bound⟩
theorem IsF.below {d : Nat} {gs : List Nat} {ts : List T7} (h : IsF tv tp d W ok gs ts) (hb : Below W.heap.size W W1) : IsF tv tp d W1 ok gs ts := h.step (fun k _ hk => hb.block k hk)
theorem IsF.snoc {d g : Nat} {t : T7} {gs : List Nat} {ts : List T7} (h : IsF tv tp d W ok gs ts) (ht : IsT tv tp d W ok g t) : IsF tv tp d W ok (gs ++ [g]) (ts ++ [t]) := by
 refine ⟨by rw [List.length_append, List.length_append, h.1]; rfl, fun i g' t' a b => ?_⟩
 rcases Nat.lt_or_ge i gs.length with hi | hi
 ·rw [List.getElem?_append_left hi] at a
  rw [List.getElem?_append_left (by rw [← h.1]; exact hi)] at b
  exact h.2 i g' t' a b
 ·rw [List.getElem?_append_right hi] at a
  rw [List.getElem?_append_right (by rw [← h.1]; exact hi), ← h.1] at b
  obtain ⟨e, he⟩ : ∃ e, e = i - gs.length := ⟨_, rfl⟩
  rw [← he] at a b
  cases e with
  | zero =>
   have ea : g = g' := by simpa using a
   have eb : t = t' := by simpa using b
   rw [← ea, ← eb]; exact ht
  | succ e => simp at a
/-- What a tree's root holds. -/
theorem IsT.root {d g : Nat} {t : T7} (h : IsT tv tp d W ok g t) : ∃ (v : Value) (gs : List Nat), W.heap[g]? = some (.cells (nodeC t.x v) tv (0, 0)) ∧ kp.R tp W 0 ok v gs ∧ gs.length = t.kids.length ∧ ∃ e, d = e + 1 ∧ IsF tv tp e W ok gs t.kids := by
 cases d with
 | zero => exact h.elim
 | succ d =>
  obtain ⟨_, v, gs, h2, h3, h4, h5⟩ := h
  exact ⟨v, gs, h2, h3, h4, d, rfl, h4, h5⟩
theorem IsT.of_root {d g : Nat} {x : S61} {kids : List T7} {v : Value} {gs : List Nat} (h1 : ok g) (hb : W.heap[g]? = some (.cells (nodeC x v) tv (0, 0))) (hr : kp.R tp W 0 ok v gs) (hf : IsF tv tp d W ok gs kids) : IsT tv tp (d + 1) W ok g (.mk x kids) := ⟨h1, v, gs, hb, hr, hf.1, hf.2⟩
theorem IsT.ok_root {d g : Nat} {t : T7} (h : IsT tv tp d W ok g t) : ok g := by
 cases d with
 | zero => exact h.elim
 | succ d => exact h.1
theorem IsT.drewN {d g : Nat} {t : T7} (h : IsT tv tp d W ok g t) (m : Nat) : IsT tv tp d (W.drewN m) ok g t := h.step (fun _ _ _ => rfl)
theorem IsF.drewN {d : Nat} {gs : List Nat} {ts : List T7} (h : IsF tv tp d W ok gs ts) (m : Nat) : IsF tv tp d (W.drewN m) ok gs ts := h.step (fun _ _ _ => rfl)
theorem IsT.drew {d g : Nat} {t : T7} (h : IsT tv tp d W ok g t) : IsT tv tp d W.drew ok g t := h.step (fun _ _ _ => rfl)
theorem IsF.drew {d : Nat} {gs : List Nat} {ts : List T7} (h : IsF tv tp d W ok gs ts) : IsF tv tp d W.drew ok gs ts := h.step (fun _ _ _ => rfl)
theorem IsF.alloc {d : Nat} {gs : List Nat} {ts : List T7} (h : IsF tv tp d W ok gs ts) (o : Obj) : IsF tv tp d (W.alloc o) ok gs ts := h.below (below_alloc (Below.refl _ _) o)
/-- Behind an append to a row that is none of the trees'. -/
theorem IsF.after {d : Nat} {gs : List Nat} {ts : List T7} {v v1 : Value} (h : IsF tv tp d W (fun k => ok k ∧ some k ≠ v.ownBlock) gs ts) (hg : W.grownBy W1 v.ownBlock) (hat : v1.ownBlock = v.ownBlock ∨ ∃ b, v1.ownBlock = some b ∧ W.heap.size ≤ b) : IsF tv tp d W1 (fun k => ok k ∧ some k ≠ v1.ownBlock) gs ts :=
 (h.bound.step (fun k hk hlt => hg.block k hlt hk.1.2)).mono (fun k hk => ⟨hk.1.1, by
  rcases hat with e | ⟨b, e, hb⟩
  ·rw [e]; exact hk.1.2
  ·rw [e]; intro e2; injection e2 with e2; omega⟩)
theorem IsF.far {d : Nat} {gs : List Nat} {ts : List T7} {p : Addr} (h : IsF tv tp d W ok gs ts) (hne : ∀ k, ok k → k ≠ p.block) (u : Value) : IsF tv tp d (W.setCell p u) ok gs ts := h.step (fun k hk _ => Below.heap_setCell W p u k (hne k hk))
end
theorem info52 : (Tryd.prog.info? 52).map (fun i => (i.zero, i.size, i.bytes)) = some (some (.pointer none), 1, 8) := by kernel_rfl
mutual
/-- The tree that stands at a place, and the place behind it. -/
def spec_l7Tree.f : Nat → List S61 → Int → Int → Bool → Option (Option T7 × Int)
 | 0, _, _, _, _ => none
 | k + 1, l, a, dp, ir => if a ≥ (l.length : Int) then some (none, -1) else if dp > 6 then some (none, -1) else if 0 ≤ a then
   (spec_l7Node.f k (rd_T61 l a).f0 (rd_T61 l a).f1 (rd_T61 l a).f2 (rd_T61 l a).f3 (rd_T61 l a).f4 ir).bind fun b => if b = true then spec_l7Tree.l k l a dp 0 [] (wrap64 (a + 1)) else some (none, -1)
  else none
def spec_l7Tree.l : Nat → List S61 → Int → Int → Int → List T7 → Int → Option (Option T7 × Int)
 | 0, _, _, _, _, _, _ => none
 | k + 1, l, a, dp, j, kids, nx => if j < (rd_T61 l a).f4 then (if kids.length < 1000000 then
    (spec_l7Tree.f k l nx (wrap64 (dp + 1)) ((rd_T61 l a).f1 == 7)).bind fun r => if r.2 < 0 then some (none, -1) else r.1.bind fun t =>
     if (rd_T61 l a).f1 = 7 ∧ 0 < j then kids.getLast?.bind fun u => (spec_l7LessKey.f k u.x.f0 t.x.f0).bind fun b => if b = true then spec_l7Tree.l k l a dp (wrap64 (j + 1)) (kids ++ [t]) r.2 else some (none, -1)
     else spec_l7Tree.l k l a dp (wrap64 (j + 1)) (kids ++ [t]) r.2
   else none) else some (some (.mk (rd_T61 l a) kids), nx)
end
theorem spec_l7Tree.mono_l : ∀ k, (∀ l a dp ir, LeO (spec_l7Tree.f k l a dp ir) (spec_l7Tree.f (k + 1) l a dp ir)) ∧ (∀ l a dp j kids nx, LeO (spec_l7Tree.l k l a dp j kids nx) (spec_l7Tree.l (k + 1) l a dp j kids nx))
 | 0 => ⟨fun _ _ _ _ r h => by simp [spec_l7Tree.f] at h, fun _ _ _ _ _ _ r h => by simp [spec_l7Tree.l] at h⟩
 | k + 1 => by
  obtain ⟨ih0, ih1⟩ := spec_l7Tree.mono_l k
  refine ⟨?_, ?_⟩
  ·intro l a dp ir
   rw [spec_l7Tree.f, spec_l7Tree.f]
   exact LeO.ite (LeO.refl _) (LeO.ite (LeO.refl _) (LeO.ite (LeO.bind (spec_l7Node.mono _ _ _ _ _ _ _) (fun b => LeO.ite (ih1 _ _ _ _ _ _) (LeO.refl _))) (LeO.refl _)))
  ·intro l a dp j kids nx
   rw [spec_l7Tree.l, spec_l7Tree.l]
   refine LeO.ite (LeO.ite (LeO.bind (ih0 _ _ _ _) fun r => LeO.ite (LeO.refl _) (LeO.bind (LeO.refl _) fun t => LeO.ite (LeO.bind (LeO.refl _) fun u => LeO.bind (spec_l7LessKey.mono _ _ _) fun b => LeO.ite (ih1 _ _ _ _ _ _) (LeO.refl _)) (ih1 _ _ _ _ _ _))) (LeO.refl _)) (LeO.refl _)
theorem spec_l7Tree.mono : ∀ l a dp ir k, LeO (spec_l7Tree.f k l a dp ir) (spec_l7Tree.f (k + 1) l a dp ir) := fun l a dp ir k => (spec_l7Tree.mono_l k).1 l a dp ir
/-- What a pointer to a tree, or to none, is. -/
def IsP (tv tp d : Nat) (W : World) (base : Nat) (v : Value) : Option T7 → Prop
 | none => v = .pointer none
 | some t => ∃ g, v = .pointer (some ⟨g, 0, none⟩) ∧ IsT tv tp d W (fun k => base ≤ k) g t
theorem kp_at {W : World} {base : Nat} {ok : Nat → Prop} {A : Option Addr} {n c i : Nat} {gs : List Nat} {g : Nat} (h : kp.R 52 W base ok (.slice A n c) gs) (hl : gs[i]? = some g) : ∃ ad, A = some ad ∧ W.cell? (ad.add i) = some (.pointer (some ⟨g, 0, none⟩)) := by
 obtain ⟨e, hle, hC⟩ := Kd.R_reads' h
 have hi := (List.getElem?_eq_some_iff.1 hl).1
 have hr := Kd.reads_of_C (d := 0) hC
 obtain ⟨ad, e2, hc⟩ := hr.2.2 (by omega)
 refine ⟨ad, e2, ?_⟩
 rw [hc i (by omega), List.getD_eq_getElem?_getD, hl]
 rfl
set_option maxHeartbeats 16000000 in
set_option maxRecDepth 100000 in
theorem spec_l7Tree.run : ∀ (k : Nat) (l : List S61) (a dp : Int) (ir : Bool) (r1 : Option T7) (r2 : Int), spec_l7Tree.f k l a dp ir = some (r1, r2) → ∀ (A0 : Option Addr) (c0 : Nat) (w : World), Kd.C k61 w A0 l.length l → l.length ≤ c0 →
  Calls Tryd.prog 69 #[.slice A0 l.length c0, .int .i64 a, .int .i64 dp, .bool ir] w fun e w' => ∃ v0_ : Value, e = .returned (.tuple #[v0_, .int .i64 r2]) ∧ IsP 72 52 k w' w.heap.size v0_ r1 ∧ Below w.heap.size w w' := by
 intro k
 induction k using Nat.strongRecOn with
 | _ k IH =>
 intro l a dp ir r1 r2 h A0 c0 w hr0 hc0
 have hu61 := Tryd.underlying61
 have hu72 := Tryd.underlying72
 have hu52 := Tryd.underlying52
 have HR0 := Aside0.mk hr0
 have HC0 := Aside0.mk hc0
 have HB := Aside0.mk (Below.refl w.heap.size w)
 have HIH := Aside0.mk IH
 clear hr0 hc0 IH
 cases k with
 | zero => rw [spec_l7Tree.f] at h; cases h
 | succ K =>
 rw [spec_l7Tree.f] at h
 by_cases c1 : a ≥ (l.length : Int)
 ·rw [if_pos c1] at h
  have c1b0 : decide ((l.length : Int) ≤ a) = true := decide_eq_true c1
  injection h with h
  injection h with h1 h2
  subst h1; subst h2
  clear c1
  go_enter Tryd.func69, Tryd.ntmps69
  go_wp2
  go_ret2
  exact ⟨_, rfl, rfl, HB.out⟩
 rw [if_neg c1] at h
 have c1b0 : decide ((l.length : Int) ≤ a) = false := decide_eq_false c1
 by_cases c2 : dp > 6
 ·rw [if_pos c2] at h
  have c2b0 : decide (6 < dp) = true := decide_eq_true c2
  injection h with h
  injection h with h1 h2
  subst h1; subst h2
  clear c1 c2
  go_enter Tryd.func69, Tryd.ntmps69
  go_wp2
  go_ret2
  exact ⟨_, rfl, rfl, HB.out⟩
 rw [if_neg c2] at h
 have c2b0 : decide (6 < dp) = false := decide_eq_false c2
 by_cases c3 : 0 ≤ a
 rotate_left
 ·rw [if_neg c3] at h; cases h
 rw [if_pos c3] at h
 obtain ⟨ad, e0, hx0, hx1, hx2, hx3, hx4⟩ := at_T61 HR0.out a c3 (by omega)
 cases e0
 have p0 : (0 ≤ a) = True := eq_true c3
 have q0 : (a < (l.length : Int)) = True := eq_true (by omega)
 have X0 := Aside0.mk hx0
 have X1 := Aside0.mk hx1
 have X2 := Aside0.mk hx2
 have X3 := Aside0.mk hx3
 have X4 := Aside0.mk hx4
 obtain ⟨x, hx⟩ : ∃ x, x = rd_T61 l a := ⟨_, rfl⟩
 rw [← hx] at h hx0 hx1 hx2 hx3 hx4 X0 X1 X2 X3 X4
 have HX := Aside0.mk hx
 clear hx c1 c2 c3
 obtain ⟨b, hb0, h⟩ := Option.bind_eq_some_iff.mp h
 have HN := Aside0.mk hb0
 clear hb0
 cases b with
 | false =>
  rw [if_neg (by decide)] at h
  injection h with h
  injection h with h1 h2
  subst h1; subst h2
  go_enter Tryd.func69, Tryd.ntmps69
  go_wp2_with (first | (go_at_call 102; refine (spec_l7Node.calls K x.f0 x.f1 x.f2 x.f3 x.f4 ir false _ HN.out).mono ?_; rintro e w1 ⟨rfl, hb⟩; have m0_ := Aside0.mk (below_step HB.out hb); clear hx0 hx1 hx2 hx3 hx4; clear HB hb; have HB := m0_; clear m0_; have hx0 := (HB.out.cell (World.block_lt_of_cell? _ _ X0.out)).trans X0.out; have hx1 := (HB.out.cell (World.block_lt_of_cell? _ _ X1.out)).trans X1.out; have hx2 := (HB.out.cell (World.block_lt_of_cell? _ _ X2.out)).trans X2.out; have hx3 := (HB.out.cell (World.block_lt_of_cell? _ _ X3.out)).trans X3.out; have hx4 := (HB.out.cell (World.block_lt_of_cell? _ _ X4.out)).trans X4.out))
  go_ret2
  exact ⟨_, rfl, rfl, HB.out⟩
 | true =>
 rw [if_pos rfl] at h
 have HL := Aside0.mk h
 clear h
 go_enter Tryd.func69, Tryd.ntmps69
 go_wp2_with (first | (go_at_call 102; refine (spec_l7Node.calls K x.f0 x.f1 x.f2 x.f3 x.f4 ir true _ HN.out).mono ?_; rintro e w1 ⟨rfl, hb⟩; have m0_ := Aside0.mk (below_step HB.out hb); clear hx0 hx1 hx2 hx3 hx4; clear HB hb; have HB := m0_; clear m0_; have hx0 := (HB.out.cell (World.block_lt_of_cell? _ _ X0.out)).trans X0.out; have hx1 := (HB.out.cell (World.block_lt_of_cell? _ _ X1.out)).trans X1.out; have hx2 := (HB.out.cell (World.block_lt_of_cell? _ _ X2.out)).trans X2.out; have hx3 := (HB.out.cell (World.block_lt_of_cell? _ _ X3.out)).trans X3.out; have hx4 := (HB.out.cell (World.block_lt_of_cell? _ _ X4.out)).trans X4.out) | ((with_reducible refine gate_dst (N := 37) rfl ?_); refine box_event ?hg (N := 37) ?hd (cs := nodeC x (.slice none 0 0)) (t := 72) ?hr ?_; (case hd => rfl); (case hg => rfl); (case hr => first | (go_simp; done) | (go_simp; rfl)); intro gb hg w2 hbox hb; have m0_ := Aside0.mk (below_step HB.out hb); have BV := Aside0.mk hbox; have GE := Aside0.mk (show w.heap.size ≤ gb from by rw [hg]; exact below_size HB.out); clear hx0 hx1 hx2 hx3 hx4; clear HB hb hg hbox; have HB := m0_; clear m0_; have hx0 := (HB.out.cell (World.block_lt_of_cell? _ _ X0.out)).trans X0.out; have hx1 := (HB.out.cell (World.block_lt_of_cell? _ _ X1.out)).trans X1.out; have hx2 := (HB.out.cell (World.block_lt_of_cell? _ _ X2.out)).trans X2.out; have hx3 := (HB.out.cell (World.block_lt_of_cell? _ _ X3.out)).trans X3.out; have hx4 := (HB.out.cell (World.block_lt_of_cell? _ _ X4.out)).trans X4.out))
 clear hx0 hx1 hx2 hx3 hx4
 obtain ⟨nx0, hnx0⟩ : ∃ n, n = wrap64 (a + 1) := ⟨_, rfl⟩
 rw [← hnx0] at HL
 have HK0 := Aside0.mk (show kp.R 52 w2 w.heap.size (fun k_ => w.heap.size ≤ k_ ∧ k_ ≠ gb) (.slice none 0 0) [] from Kd.R_nil _ _ _ _ _)
 have HF0 := Aside0.mk (show IsF 72 52 K w2 (fun k_ => (w.heap.size ≤ k_ ∧ k_ ≠ gb) ∧ some k_ ≠ (Value.slice none 0 0).ownBlock) [] [] from IsF.nil _ _ _)
 go_loopg [11, 12] K (fun kq v11 v12 w' => ∃ (j nx : Int) (kids : List T7) (gs : List Nat) (v : Value), v11 = .int .i64 nx ∧ v12 = .int .i64 j ∧ Aside0 (spec_l7Tree.l kq l a dp j kids nx = some (r1, r2) ∧ kq ≤ K ∧ j = kids.length) ∧ Aside0 (w'.heap[gb]? = some (.cells (nodeC x v) 72 (0, 0))) ∧ Aside0 (kp.R 52 w' w.heap.size (fun k_ => w.heap.size ≤ k_ ∧ k_ ≠ gb) v gs) ∧ Aside0 (IsF 72 52 K w' (fun k_ => (w.heap.size ≤ k_ ∧ k_ ≠ gb) ∧ some k_ ≠ v.ownBlock) gs kids) ∧ Aside0 (Below w.heap.size w w'))
 case atStart => exact ⟨0, nx0, [], [], _, by first | rfl | rw [hnx0], rfl, ⟨HL.out, Nat.le_refl _, rfl⟩, BV, HK0, HF0, HB⟩
 case round =>
  clear HL HK0 HF0 BV HB
  obtain ⟨j, nx, kids, gs, v, rfl, rfl, HL, BV, HK, HF, HB⟩ := hrel
  obtain ⟨A1, c1, rfl⟩ := Kd.R_slice HK.out
  have hx1 := (HB.out.cell (World.block_lt_of_cell? _ _ X1.out)).trans X1.out
  have hx4 := (HB.out.cell (World.block_lt_of_cell? _ _ X4.out)).trans X4.out
  cases gk with
  | zero => have := HL.out.1; rw [spec_l7Tree.l] at this; cases this
  | succ m =>
   have h := HL.out.1
   rw [spec_l7Tree.l, ← HX.out] at h
   by_cases c5 : j < x.f4
   rotate_left
   ·rw [if_neg c5] at h
    have c5b0 : decide (j < x.f4) = false := decide_eq_false c5
    injection h with h
    injection h with h1 h2
    subst h1; subst h2
    clear c5
    go_wp2
    go_ret2
    exact ⟨_, rfl, ⟨gb, rfl, IsT.of_root (show w.heap.size ≤ gb from GE.out) BV.out (Kd.R_mono (Kd.R_lower HK.out (Nat.zero_le _)) (fun _ hk => hk.1)) (HF.out.mono (fun _ hk => hk.1.1))⟩, HB.out⟩
   rw [if_pos c5] at h
   have c5b0 : decide (j < x.f4) = true := decide_eq_true c5
   clear c5
   by_cases c6 : kids.length < 1000000
   rotate_left
   ·rw [if_neg c6] at h; cases h
   rw [if_pos c6] at h
   have HLEN := Aside0.mk c6
   clear c6
   obtain ⟨⟨t0, r2'⟩, hf, h⟩ := Option.bind_eq_some_iff.mp h
   have HC := Aside0.mk (HIH.out m (by have := HL.out.2.1; omega) l nx (wrap64 (dp + 1)) (x.f1 == 7) t0 r2' hf (some ad) c0)
   clear hf
   by_cases c7 : r2' < 0
   ·rw [if_pos c7] at h
    have c7b0 : decide (r2' < 0) = true := decide_eq_true c7
    injection h with h
    injection h with h1 h2
    subst h1; subst h2
    clear c7
    go_wp2_with (first | ((with_reducible refine gate_callee (f := 69) rfl ?_); refine goesL_ (some 60) rfl rfl Tryd.func69 (by kernel_rfl) rfl #[.slice (some ad) l.length c0, .int .i64 nx, .int .i64 (wrap64 (dp + 1)), .bool (x.f1 == 7)] rfl (by (try simp only [List.map_toArray, List.map_cons, List.map_nil]); first | done | rfl) ?_; (refine (HC.out _ (Kd.C_below HR0.out HB.out) HC0.out).mono ?_); rintro e w3 ⟨v13, rfl, hp, hb⟩; refine ⟨_, rfl, ?_⟩; have m0_ := Aside0.mk (below_step HB.out hb); clear hx1 hx4 HB hb hp; have HB := m0_; clear m0_; have hx1 := (HB.out.cell (World.block_lt_of_cell? _ _ X1.out)).trans X1.out; have hx4 := (HB.out.cell (World.block_lt_of_cell? _ _ X4.out)).trans X4.out))
    go_ret2
    exact ⟨_, rfl, rfl, HB.out⟩
   rw [if_neg c7] at h
   have c7b0 : decide (r2' < 0) = false := decide_eq_false c7
   clear c7
   obtain ⟨t, ht0, h⟩ := Option.bind_eq_some_iff.mp h
   have ht0 : t0 = some t := ht0
   subst ht0
   have h : (if x.f1 = 7 ∧ 0 < j then kids.getLast?.bind fun u => (spec_l7LessKey.f m u.x.f0 t.x.f0).bind fun b => if b = true then spec_l7Tree.l m l a dp (wrap64 (j + 1)) (kids ++ [t]) r2' else some (none, -1) else spec_l7Tree.l m l a dp (wrap64 (j + 1)) (kids ++ [t]) r2') = some (r1, r2) := h
   have HLK := Aside0.mk (show gs.length < 1000000 from by rw [HF.out.1]; exact HLEN.out)
   by_cases c8 : x.f1 = 7 ∧ 0 < j
   ·rw [if_pos c8] at h
    have c8b0 : (x.f1 == 7) = true := beq_iff_eq.mpr c8.1
    have c8b1 : decide (0 < j) = true := decide_eq_true c8.2
    have hj0 := c8.2
    clear c8
    obtain ⟨u, hu, h⟩ := Option.bind_eq_some_iff.mp h
    obtain ⟨b, hb1, h⟩ := Option.bind_eq_some_iff.mp h
    have HLS := Aside0.mk hb1
    have HU := Aside0.mk hu
    clear hb1 hu
    rw [c8b0] at HC
    cases b with
    | false =>
     rw [if_neg (by decide)] at h
     injection h with h
     injection h with h1 h2
     subst h1; subst h2
     go_wp2_with (first | ((with_reducible refine gate_callee (f := 69) rfl ?_); refine goesL_ (some 60) rfl rfl Tryd.func69 (by kernel_rfl) rfl #[.slice (some ad) l.length c0, .int .i64 nx, .int .i64 (wrap64 (dp + 1)), .bool true] rfl (by (try simp only [List.map_toArray, List.map_cons, List.map_nil]); first | done | rfl) ?_; (refine (HC.out _ (Kd.C_below HR0.out HB.out) HC0.out).mono ?_); rintro e w3 ⟨v13, rfl, hp, hb⟩; refine ⟨_, rfl, ?_⟩; obtain ⟨g1, rfl, ht⟩ := hp; have mt_ := (ht.mono (ok' := fun k_ => (w.heap.size ≤ k_ ∧ k_ ≠ gb) ∧ some k_ ≠ (Value.slice A1 gs.length c1).ownBlock) (fun k_ hk_ => ⟨⟨Nat.le_trans (below_size HB.out) hk_, fun e_ => by have := blk_lt BV.out; omega⟩, fun e_ => by have := Kd.R_lt HK.out k_ e_.symm; omega⟩)).upto (e := K) (by have := HL.out.2.1; omega); have m0_ := Aside0.mk (below_step HB.out hb); have m1_ := Aside0.mk (blk_below BV.out hb); have m2_ := Aside0.mk (Kd.R_below HK.out hb); have m3_ := Aside0.mk (HF.out.below hb); have m4_ := Aside0.mk (IsF.snoc m3_.out mt_); clear hx1 hx4 ht mt_ HB BV HK HF hb m3_; have HB := m0_; have BV := m1_; have HK := m2_; have HF := m4_; clear m0_ m1_ m2_ m4_; have hx1 := (HB.out.cell (World.block_lt_of_cell? _ _ X1.out)).trans X1.out; have hx4 := (HB.out.cell (World.block_lt_of_cell? _ _ X4.out)).trans X4.out; have hc5 : w3.cell? ⟨gb, 5, none⟩ = some (.slice A1 gs.length c1) := (blk_cell BV.out 5).trans rfl; have hf5 := blk_frozen BV.out 5))
     obtain ⟨li, hli⟩ : ∃ li, li = j - 1 := ⟨_, rfl⟩
     have hul : kids[li.toNat]? = some u := by
      have h1 := HU.out
      rw [List.getLast?_eq_getElem?] at h1
      rw [show li.toNat = kids.length - 1 by have := HL.out.2.2; omega]
      exact h1
     have hkl := (List.getElem?_eq_some_iff.1 hul).1
     have hgl : gs.length = kids.length := by
      have := HF.out.1
      simp only [List.length_append, List.length_singleton] at this
      omega
     obtain ⟨gl, hgg⟩ : ∃ gl, gs[li.toNat]? = some gl := ⟨_, List.getElem?_eq_getElem (by omega)⟩
     refine wp_region_still_tail 28 (by kernel_rfl) (by kernel_rfl) ?_
     simp only [List.take_succ_cons, List.take_zero, List.drop_succ_cons, List.drop_zero]
     change wpStill _ _ w3.drew (fun a' => wpList _ _ _ _ a' w3.drew) _ _
     have m0_ := Aside0.mk (below_drew1 HB.out)
     have m1_ := Aside0.mk (blk_drew BV.out)
     have m2_ := Aside0.mk (Kd.R_drew HK.out)
     have m3_ := Aside0.mk (HF.out.drew)
     clear HB BV HK HF hc5 hf5 hx1 hx4
     generalize w3.drew = w6 at m0_ m1_ m2_ m3_ ⊢
     have HB := m0_
     have BV := m1_
     have HK := m2_
     have HF := m3_
     clear m0_ m1_ m2_ m3_
     obtain ⟨ad2, ea, hcl⟩ := kp_at HK.out hgg
     obtain ⟨vu, gu, hbu, _⟩ := (HF.out.2 li.toNat gl u (by rw [List.getElem?_append_left (by omega)]; exact hgg) (by rw [List.getElem?_append_left (by omega)]; exact hul)).root
     obtain ⟨vt, gt, hbt, _⟩ := (HF.out.2 gs.length g1 t (by simp) (by rw [hgl]; simp)).root
     subst ea
     have hcu : w6.cell? ⟨gl, 0, none⟩ = some (.string u.x.f0) := (blk_cell hbu 0).trans rfl
     have hct : w6.cell? ⟨g1, 0, none⟩ = some (.string t.x.f0) := (blk_cell hbt 0).trans rfl
     have hi1 : IntKind.i64.wrap (j - 1) = li := by rw [IntKind.wrap_i64]; have := HLEN.out; have := HL.out.2.2; omega
     have hi2 : wrap64 (j - 1) = li := by unfold wrap64; have := HLEN.out; have := HL.out.2.2; omega
     have hi3 : (0 ≤ li) = True := eq_true (by omega)
     have hi4 : (li < (gs.length : Int)) = True := eq_true (by have := HL.out.2.2; omega)
     have HGL := Aside0.mk hgl
     clear hul hkl hgg hbu hbt hli hgl
     have hx1 := (HB.out.cell (World.block_lt_of_cell? _ _ X1.out)).trans X1.out
     have hx4 := (HB.out.cell (World.block_lt_of_cell? _ _ X4.out)).trans X4.out
     have hc5 : w6.cell? ⟨gb, 5, none⟩ = some (.slice (some ad2) gs.length c1) := (blk_cell BV.out 5).trans rfl
     have hf5 := blk_frozen BV.out 5
     repeat still_step
     refine wpStill_nil ?_
     go_wp2_with (first | (go_at_call 80; refine (spec_l7LessKey.calls m u.x.f0 t.x.f0 false _ HLS.out).mono ?_; rintro e w9 ⟨rfl, hb⟩; have m0_ := Aside0.mk (below_step HB.out hb); have m1_ := Aside0.mk (blk_below BV.out hb); have m2_ := Aside0.mk (Kd.R_below HK.out hb); have m3_ := Aside0.mk (HF.out.below hb); clear hcl hcu hct hi1 hi2 hi3 hi4 hx1 hx4 hc5 hf5; clear HB BV HK HF hb; have HB := m0_; have BV := m1_; have HK := m2_; have HF := m3_; clear m0_ m1_ m2_ m3_; have hx1 := (HB.out.cell (World.block_lt_of_cell? _ _ X1.out)).trans X1.out; have hx4 := (HB.out.cell (World.block_lt_of_cell? _ _ X4.out)).trans X4.out; have hc5 : w9.cell? ⟨gb, 5, none⟩ = some (.slice (some ad2) gs.length c1) := (blk_cell BV.out 5).trans rfl; have hf5 := blk_frozen BV.out 5))
     go_ret2
     exact ⟨_, rfl, rfl, HB.out⟩
    | true =>
     rw [if_pos rfl] at h
     have HL2 := Aside0.mk (show spec_l7Tree.l m l a dp (wrap64 (j + 1)) (kids ++ [t]) r2' = some (r1, r2) ∧ m ≤ K ∧ wrap64 (j + 1) = ((kids ++ [t]).length : Int) from ⟨h, by have := HL.out.2.1; omega, by have h1 := HL.out.2.2; have h2 := HLEN.out; rw [List.length_append, List.length_singleton]; unfold wrap64; omega⟩)
     clear h
     go_wp2_with (first | ((with_reducible refine gate_callee (f := 69) rfl ?_); refine goesL_ (some 60) rfl rfl Tryd.func69 (by kernel_rfl) rfl #[.slice (some ad) l.length c0, .int .i64 nx, .int .i64 (wrap64 (dp + 1)), .bool true] rfl (by (try simp only [List.map_toArray, List.map_cons, List.map_nil]); first | done | rfl) ?_; (refine (HC.out _ (Kd.C_below HR0.out HB.out) HC0.out).mono ?_); rintro e w3 ⟨v13, rfl, hp, hb⟩; refine ⟨_, rfl, ?_⟩; obtain ⟨g1, rfl, ht⟩ := hp; have mt_ := (ht.mono (ok' := fun k_ => (w.heap.size ≤ k_ ∧ k_ ≠ gb) ∧ some k_ ≠ (Value.slice A1 gs.length c1).ownBlock) (fun k_ hk_ => ⟨⟨Nat.le_trans (below_size HB.out) hk_, fun e_ => by have := blk_lt BV.out; omega⟩, fun e_ => by have := Kd.R_lt HK.out k_ e_.symm; omega⟩)).upto (e := K) (by have := HL.out.2.1; omega); have m0_ := Aside0.mk (below_step HB.out hb); have m1_ := Aside0.mk (blk_below BV.out hb); have m2_ := Aside0.mk (Kd.R_below HK.out hb); have m3_ := Aside0.mk (HF.out.below hb); have m4_ := Aside0.mk (IsF.snoc m3_.out mt_); clear hx1 hx4 ht mt_ HB BV HK HF hb m3_; have HB := m0_; have BV := m1_; have HK := m2_; have HF := m4_; clear m0_ m1_ m2_ m4_; have hx1 := (HB.out.cell (World.block_lt_of_cell? _ _ X1.out)).trans X1.out; have hx4 := (HB.out.cell (World.block_lt_of_cell? _ _ X4.out)).trans X4.out; have hc5 : w3.cell? ⟨gb, 5, none⟩ = some (.slice A1 gs.length c1) := (blk_cell BV.out 5).trans rfl; have hf5 := blk_frozen BV.out 5))
     obtain ⟨li, hli⟩ : ∃ li, li = j - 1 := ⟨_, rfl⟩
     have hul : kids[li.toNat]? = some u := by
      have h1 := HU.out
      rw [List.getLast?_eq_getElem?] at h1
      rw [show li.toNat = kids.length - 1 by have := HL.out.2.2; omega]
      exact h1
     have hkl := (List.getElem?_eq_some_iff.1 hul).1
     have hgl : gs.length = kids.length := by
      have := HF.out.1
      simp only [List.length_append, List.length_singleton] at this
      omega
     obtain ⟨gl, hgg⟩ : ∃ gl, gs[li.toNat]? = some gl := ⟨_, List.getElem?_eq_getElem (by omega)⟩
     refine wp_region_still_tail 28 (by kernel_rfl) (by kernel_rfl) ?_
     simp only [List.take_succ_cons, List.take_zero, List.drop_succ_cons, List.drop_zero]
     change wpStill _ _ w3.drew (fun a' => wpList _ _ _ _ a' w3.drew) _ _
     have m0_ := Aside0.mk (below_drew1 HB.out)
     have m1_ := Aside0.mk (blk_drew BV.out)
     have m2_ := Aside0.mk (Kd.R_drew HK.out)
     have m3_ := Aside0.mk (HF.out.drew)
     clear HB BV HK HF hc5 hf5 hx1 hx4
     generalize w3.drew = w6 at m0_ m1_ m2_ m3_ ⊢
     have HB := m0_
     have BV := m1_
     have HK := m2_
     have HF := m3_
     clear m0_ m1_ m2_ m3_
     obtain ⟨ad2, ea, hcl⟩ := kp_at HK.out hgg
     obtain ⟨vu, gu, hbu, _⟩ := (HF.out.2 li.toNat gl u (by rw [List.getElem?_append_left (by omega)]; exact hgg) (by rw [List.getElem?_append_left (by omega)]; exact hul)).root
     obtain ⟨vt, gt, hbt, _⟩ := (HF.out.2 gs.length g1 t (by simp) (by rw [hgl]; simp)).root
     subst ea
     have hcu : w6.cell? ⟨gl, 0, none⟩ = some (.string u.x.f0) := (blk_cell hbu 0).trans rfl
     have hct : w6.cell? ⟨g1, 0, none⟩ = some (.string t.x.f0) := (blk_cell hbt 0).trans rfl
     have hi1 : IntKind.i64.wrap (j - 1) = li := by rw [IntKind.wrap_i64]; have := HLEN.out; have := HL.out.2.2; omega
     have hi2 : wrap64 (j - 1) = li := by unfold wrap64; have := HLEN.out; have := HL.out.2.2; omega
     have hi3 : (0 ≤ li) = True := eq_true (by omega)
     have hi4 : (li < (gs.length : Int)) = True := eq_true (by have := HL.out.2.2; omega)
     have HGL := Aside0.mk hgl
     clear hul hkl hgg hbu hbt hli hgl
     have hx1 := (HB.out.cell (World.block_lt_of_cell? _ _ X1.out)).trans X1.out
     have hx4 := (HB.out.cell (World.block_lt_of_cell? _ _ X4.out)).trans X4.out
     have hc5 : w6.cell? ⟨gb, 5, none⟩ = some (.slice (some ad2) gs.length c1) := (blk_cell BV.out 5).trans rfl
     have hf5 := blk_frozen BV.out 5
     repeat still_step
     refine wpStill_nil ?_
     go_wp2_with (first | (go_at_call 80; refine (spec_l7LessKey.calls m u.x.f0 t.x.f0 true _ HLS.out).mono ?_; rintro e w9 ⟨rfl, hb⟩; have m0_ := Aside0.mk (below_step HB.out hb); have m1_ := Aside0.mk (blk_below BV.out hb); have m2_ := Aside0.mk (Kd.R_below HK.out hb); have m3_ := Aside0.mk (HF.out.below hb); clear hcl hcu hct hi1 hi2 hi3 hi4 hx1 hx4 hc5 hf5; clear HB BV HK HF hb; have HB := m0_; have BV := m1_; have HK := m2_; have HF := m3_; clear m0_ m1_ m2_ m3_; have hx1 := (HB.out.cell (World.block_lt_of_cell? _ _ X1.out)).trans X1.out; have hx4 := (HB.out.cell (World.block_lt_of_cell? _ _ X4.out)).trans X4.out; have hc5 : w9.cell? ⟨gb, 5, none⟩ = some (.slice (some ad2) gs.length c1) := (blk_cell BV.out 5).trans rfl; have hf5 := blk_frozen BV.out 5) | ((with_reducible refine gate_builtin (b := .append) (xs := #[.tmp 100, .tmp 102]) rfl ?_); at_builtin; refine Kd.R_append kp (w0 := w) w.heap.size rfl (.tmp 100) (.tmp 102) 70 52 (.pointer none) 8 rfl Tryd.underlying70 info52 rfl (by decide) (by omega) (.slice (some ad2) gs.length c1) gs g1 [.pointer (some ⟨g1, 0, none⟩)] (fun k_ => w.heap.size ≤ k_ ∧ k_ ≠ gb) (fun _ => False) rfl rfl rfl (fun _ h_ => h_.elim) ?aF ?aO ?aB ?aS ?aL ?_; (case aF => intro k_ hk_; exact ⟨Nat.le_trans (below_size (by repeat first | exact HB.out | apply pw_below_drewN | apply below_drew1 | apply below_alloc)) hk_, fun e_ => by have := blk_lt BV.out; have hz_ : w9.heap.size ≤ k_ := hk_; omega⟩); (case aO => exact (by repeat first | exact HK.out | apply Kd.R_drewN | apply Kd.R_drew | apply Kd.R_alloc)); (case aB => exact (by repeat first | exact HB.out | apply pw_below_drewN | apply below_drew1 | apply below_alloc)); (case aS => exact below_size (by repeat first | exact HB.out | apply pw_below_drewN | apply below_drew1 | apply below_alloc)); (case aL => have := HLK.out; omega); intro v4 w10 ho hb hg hat; have m0_ := Aside0.mk hb; have m1_ := Aside0.mk (blk_grown (by repeat first | exact BV.out | apply blk_drewN | apply blk_drew | apply blk_alloc) hg (fun e_ => (HK.out.1 gb e_.symm).2 rfl)); have m2_ := Aside0.mk ho; have m3_ := Aside0.mk (IsF.after (by repeat first | exact HF.out | apply IsF.drewN | apply IsF.drew | apply IsF.alloc) hg hat); clear hc5 hf5 HB BV HK HF ho hb hg hat; have HB := m0_; have BV := m1_; have HK := m2_; have HF := m3_; clear m0_ m1_ m2_ m3_; obtain ⟨A4, c4, rfl⟩ := Kd.R_slice HK.out; have hc5 : w10.cell? ⟨gb, 5, none⟩ = some (.slice (some ad2) gs.length c1) := (blk_cell BV.out 5).trans rfl; have hf5 := blk_frozen BV.out 5) | ((with_reducible refine gate_store (t := 70) (p := 105) rfl ?_); refine store_event (t := 70) (p := 105) (v := .tmp 103) (w1 := (w10.setCell ⟨gb, 5, none⟩ (.slice A4 (gs ++ [g1]).length c4))) ?hg ?ho ?hn ?hr ?_; (case ho => rfl); (case hg => rfl); (case hn => rfl); (case hr => first | (go_simp; done) | (go_simp; rfl)); intro w11 hw; have m0_ := Aside0.mk (show Below w.heap.size w w11 from (by rw [hw]; exact below_set HB.out GE.out)); have m1_ := Aside0.mk (show w11.heap[gb]? = some (.cells (nodeC x (.slice A4 (gs ++ [g1]).length c4)) 72 (0, 0)) from (by rw [hw]; exact (blk_put (cs' := nodeC x (.slice A4 (gs ++ [g1]).length c4)) BV.out 5 (.slice A4 (gs ++ [g1]).length c4) rfl))); have m2_ := Aside0.mk (show kp.R 52 w11 w.heap.size (fun k_ => w.heap.size ≤ k_ ∧ k_ ≠ gb) (.slice A4 (gs ++ [g1]).length c4) (gs ++ [g1]) from (by rw [hw]; exact Kd.R_set HK.out BV.out (by decide) 5 _)); have m3_ := Aside0.mk (show IsF 72 52 K w11 (fun k_ => (w.heap.size ≤ k_ ∧ k_ ≠ gb) ∧ some k_ ≠ (Value.slice A4 (gs ++ [g1]).length c4).ownBlock) (gs ++ [g1]) (kids ++ [t]) from (by rw [hw]; exact HF.out.far (fun _ hk_ => hk_.1.2) _)); clear hc5 hf5 hw HB BV HK HF; have HB := m0_; have BV := m1_; have HK := m2_; have HF := m3_; clear m0_ m1_ m2_ m3_; (try simp only [Act.put, List.setIfInBounds_toArray, List.set_cons_zero, List.set_cons_succ])))
     go_roundg m
     case measure => have := HL2.out.2.1; omega
     case rel => exact ⟨wrap64 (j + 1), r2', kids ++ [t], gs ++ [g1], _, rfl, rfl, HL2, BV, HK, HF, HB⟩
   ·rw [if_neg c8] at h
    have HL2 := Aside0.mk (show spec_l7Tree.l m l a dp (wrap64 (j + 1)) (kids ++ [t]) r2' = some (r1, r2) ∧ m ≤ K ∧ wrap64 (j + 1) = ((kids ++ [t]).length : Int) from ⟨h, by have := HL.out.2.1; omega, by have h1 := HL.out.2.2; have h2 := HLEN.out; rw [List.length_append, List.length_singleton]; unfold wrap64; omega⟩)
    clear h
    by_cases c9 : x.f1 = 7
    ·have c9b0 : (x.f1 == 7) = true := beq_iff_eq.mpr c9
     have c9b1 : decide (0 < j) = false := decide_eq_false (fun e => c8 ⟨c9, e⟩)
     clear c8 c9
     rw [c9b0] at HC
     go_wp2_with (first | ((with_reducible refine gate_callee (f := 69) rfl ?_); refine goesL_ (some 60) rfl rfl Tryd.func69 (by kernel_rfl) rfl #[.slice (some ad) l.length c0, .int .i64 nx, .int .i64 (wrap64 (dp + 1)), .bool true] rfl (by (try simp only [List.map_toArray, List.map_cons, List.map_nil]); first | done | rfl) ?_; (refine (HC.out _ (Kd.C_below HR0.out HB.out) HC0.out).mono ?_); rintro e w3 ⟨v13, rfl, hp, hb⟩; refine ⟨_, rfl, ?_⟩; obtain ⟨g1, rfl, ht⟩ := hp; have mt_ := (ht.mono (ok' := fun k_ => (w.heap.size ≤ k_ ∧ k_ ≠ gb) ∧ some k_ ≠ (Value.slice A1 gs.length c1).ownBlock) (fun k_ hk_ => ⟨⟨Nat.le_trans (below_size HB.out) hk_, fun e_ => by have := blk_lt BV.out; omega⟩, fun e_ => by have := Kd.R_lt HK.out k_ e_.symm; omega⟩)).upto (e := K) (by have := HL.out.2.1; omega); have m0_ := Aside0.mk (below_step HB.out hb); have m1_ := Aside0.mk (blk_below BV.out hb); have m2_ := Aside0.mk (Kd.R_below HK.out hb); have m3_ := Aside0.mk (HF.out.below hb); have m4_ := Aside0.mk (IsF.snoc m3_.out mt_); clear hx1 hx4 ht mt_ HB BV HK HF hb m3_; have HB := m0_; have BV := m1_; have HK := m2_; have HF := m4_; clear m0_ m1_ m2_ m4_; have hx1 := (HB.out.cell (World.block_lt_of_cell? _ _ X1.out)).trans X1.out; have hx4 := (HB.out.cell (World.block_lt_of_cell? _ _ X4.out)).trans X4.out; have hc5 : w3.cell? ⟨gb, 5, none⟩ = some (.slice A1 gs.length c1) := (blk_cell BV.out 5).trans rfl; have hf5 := blk_frozen BV.out 5))
     go_quiet (fail)
     go_wp2_with (first | ((with_reducible refine gate_builtin (b := .append) (xs := #[.tmp 100, .tmp 102]) rfl ?_); at_builtin; refine Kd.R_append kp (w0 := w) w.heap.size rfl (.tmp 100) (.tmp 102) 70 52 (.pointer none) 8 rfl Tryd.underlying70 info52 rfl (by decide) (by omega) (.slice A1 gs.length c1) gs g1 [.pointer (some ⟨g1, 0, none⟩)] (fun k_ => w.heap.size ≤ k_ ∧ k_ ≠ gb) (fun _ => False) rfl rfl rfl (fun _ h_ => h_.elim) ?aF ?aO ?aB ?aS ?aL ?_; (case aF => intro k_ hk_; exact ⟨Nat.le_trans (below_size (by repeat first | exact HB.out | apply pw_below_drewN | apply below_drew1 | apply below_alloc)) hk_, fun e_ => by have := blk_lt BV.out; have hz_ : w3.heap.size ≤ k_ := hk_; omega⟩); (case aO => exact (by repeat first | exact HK.out | apply Kd.R_drewN | apply Kd.R_drew | apply Kd.R_alloc)); (case aB => exact (by repeat first | exact HB.out | apply pw_below_drewN | apply below_drew1 | apply below_alloc)); (case aS => exact below_size (by repeat first | exact HB.out | apply pw_below_drewN | apply below_drew1 | apply below_alloc)); (case aL => have := HLK.out; omega); intro v4 w4 ho hb hg hat; have m0_ := Aside0.mk hb; have m1_ := Aside0.mk (blk_grown (by repeat first | exact BV.out | apply blk_drewN | apply blk_drew | apply blk_alloc) hg (fun e_ => (HK.out.1 gb e_.symm).2 rfl)); have m2_ := Aside0.mk ho; have m3_ := Aside0.mk (IsF.after (by repeat first | exact HF.out | apply IsF.drewN | apply IsF.drew | apply IsF.alloc) hg hat); clear hc5 hf5 HB BV HK HF ho hb hg hat; have HB := m0_; have BV := m1_; have HK := m2_; have HF := m3_; clear m0_ m1_ m2_ m3_; obtain ⟨A4, c4, rfl⟩ := Kd.R_slice HK.out; have hc5 : w4.cell? ⟨gb, 5, none⟩ = some (.slice A1 gs.length c1) := (blk_cell BV.out 5).trans rfl; have hf5 := blk_frozen BV.out 5) | ((with_reducible refine gate_store (t := 70) (p := 105) rfl ?_); refine store_event (t := 70) (p := 105) (v := .tmp 103) (w1 := (w4.setCell ⟨gb, 5, none⟩ (.slice A4 (gs ++ [g1]).length c4))) ?hg ?ho ?hn ?hr ?_; (case ho => rfl); (case hg => rfl); (case hn => rfl); (case hr => first | (go_simp; done) | (go_simp; rfl)); intro w5 hw; have m0_ := Aside0.mk (show Below w.heap.size w w5 from (by rw [hw]; exact below_set HB.out GE.out)); have m1_ := Aside0.mk (show w5.heap[gb]? = some (.cells (nodeC x (.slice A4 (gs ++ [g1]).length c4)) 72 (0, 0)) from (by rw [hw]; exact (blk_put (cs' := nodeC x (.slice A4 (gs ++ [g1]).length c4)) BV.out 5 (.slice A4 (gs ++ [g1]).length c4) rfl))); have m2_ := Aside0.mk (show kp.R 52 w5 w.heap.size (fun k_ => w.heap.size ≤ k_ ∧ k_ ≠ gb) (.slice A4 (gs ++ [g1]).length c4) (gs ++ [g1]) from (by rw [hw]; exact Kd.R_set HK.out BV.out (by decide) 5 _)); have m3_ := Aside0.mk (show IsF 72 52 K w5 (fun k_ => (w.heap.size ≤ k_ ∧ k_ ≠ gb) ∧ some k_ ≠ (Value.slice A4 (gs ++ [g1]).length c4).ownBlock) (gs ++ [g1]) (kids ++ [t]) from (by rw [hw]; exact HF.out.far (fun _ hk_ => hk_.1.2) _)); clear hc5 hf5 hw HB BV HK HF; have HB := m0_; have BV := m1_; have HK := m2_; have HF := m3_; clear m0_ m1_ m2_ m3_; (try simp only [Act.put, List.setIfInBounds_toArray, List.set_cons_zero, List.set_cons_succ])))
     go_roundg m
     case measure => have := HL2.out.2.1; omega
     case rel => exact ⟨wrap64 (j + 1), r2', kids ++ [t], gs ++ [g1], _, rfl, rfl, HL2, BV, HK, HF, HB⟩
    ·have c9b0 : (x.f1 == 7) = false := beq_eq_false_iff_ne.mpr c9
     clear c8 c9
     rw [c9b0] at HC
     go_wp2_with (first | ((with_reducible refine gate_callee (f := 69) rfl ?_); refine goesL_ (some 60) rfl rfl Tryd.func69 (by kernel_rfl) rfl #[.slice (some ad) l.length c0, .int .i64 nx, .int .i64 (wrap64 (dp + 1)), .bool false] rfl (by (try simp only [List.map_toArray, List.map_cons, List.map_nil]); first | done | rfl) ?_; (refine (HC.out _ (Kd.C_below HR0.out HB.out) HC0.out).mono ?_); rintro e w3 ⟨v13, rfl, hp, hb⟩; refine ⟨_, rfl, ?_⟩; obtain ⟨g1, rfl, ht⟩ := hp; have mt_ := (ht.mono (ok' := fun k_ => (w.heap.size ≤ k_ ∧ k_ ≠ gb) ∧ some k_ ≠ (Value.slice A1 gs.length c1).ownBlock) (fun k_ hk_ => ⟨⟨Nat.le_trans (below_size HB.out) hk_, fun e_ => by have := blk_lt BV.out; omega⟩, fun e_ => by have := Kd.R_lt HK.out k_ e_.symm; omega⟩)).upto (e := K) (by have := HL.out.2.1; omega); have m0_ := Aside0.mk (below_step HB.out hb); have m1_ := Aside0.mk (blk_below BV.out hb); have m2_ := Aside0.mk (Kd.R_below HK.out hb); have m3_ := Aside0.mk (HF.out.below hb); have m4_ := Aside0.mk (IsF.snoc m3_.out mt_); clear hx1 hx4 ht mt_ HB BV HK HF hb m3_; have HB := m0_; have BV := m1_; have HK := m2_; have HF := m4_; clear m0_ m1_ m2_ m4_; have hx1 := (HB.out.cell (World.block_lt_of_cell? _ _ X1.out)).trans X1.out; have hx4 := (HB.out.cell (World.block_lt_of_cell? _ _ X4.out)).trans X4.out; have hc5 : w3.cell? ⟨gb, 5, none⟩ = some (.slice A1 gs.length c1) := (blk_cell BV.out 5).trans rfl; have hf5 := blk_frozen BV.out 5))
     go_quiet (fail)
     go_wp2_with (first | ((with_reducible refine gate_builtin (b := .append) (xs := #[.tmp 100, .tmp 102]) rfl ?_); at_builtin; refine Kd.R_append kp (w0 := w) w.heap.size rfl (.tmp 100) (.tmp 102) 70 52 (.pointer none) 8 rfl Tryd.underlying70 info52 rfl (by decide) (by omega) (.slice A1 gs.length c1) gs g1 [.pointer (some ⟨g1, 0, none⟩)] (fun k_ => w.heap.size ≤ k_ ∧ k_ ≠ gb) (fun _ => False) rfl rfl rfl (fun _ h_ => h_.elim) ?aF ?aO ?aB ?aS ?aL ?_; (case aF => intro k_ hk_; exact ⟨Nat.le_trans (below_size (by repeat first | exact HB.out | apply pw_below_drewN | apply below_drew1 | apply below_alloc)) hk_, fun e_ => by have := blk_lt BV.out; have hz_ : w3.heap.size ≤ k_ := hk_; omega⟩); (case aO => exact (by repeat first | exact HK.out | apply Kd.R_drewN | apply Kd.R_drew | apply Kd.R_alloc)); (case aB => exact (by repeat first | exact HB.out | apply pw_below_drewN | apply below_drew1 | apply below_alloc)); (case aS => exact below_size (by repeat first | exact HB.out | apply pw_below_drewN | apply below_drew1 | apply below_alloc)); (case aL => have := HLK.out; omega); intro v4 w4 ho hb hg hat; have m0_ := Aside0.mk hb; have m1_ := Aside0.mk (blk_grown (by repeat first | exact BV.out | apply blk_drewN | apply blk_drew | apply blk_alloc) hg (fun e_ => (HK.out.1 gb e_.symm).2 rfl)); have m2_ := Aside0.mk ho; have m3_ := Aside0.mk (IsF.after (by repeat first | exact HF.out | apply IsF.drewN | apply IsF.drew | apply IsF.alloc) hg hat); clear hc5 hf5 HB BV HK HF ho hb hg hat; have HB := m0_; have BV := m1_; have HK := m2_; have HF := m3_; clear m0_ m1_ m2_ m3_; obtain ⟨A4, c4, rfl⟩ := Kd.R_slice HK.out; have hc5 : w4.cell? ⟨gb, 5, none⟩ = some (.slice A1 gs.length c1) := (blk_cell BV.out 5).trans rfl; have hf5 := blk_frozen BV.out 5) | ((with_reducible refine gate_store (t := 70) (p := 105) rfl ?_); refine store_event (t := 70) (p := 105) (v := .tmp 103) (w1 := (w4.setCell ⟨gb, 5, none⟩ (.slice A4 (gs ++ [g1]).length c4))) ?hg ?ho ?hn ?hr ?_; (case ho => rfl); (case hg => rfl); (case hn => rfl); (case hr => first | (go_simp; done) | (go_simp; rfl)); intro w5 hw; have m0_ := Aside0.mk (show Below w.heap.size w w5 from (by rw [hw]; exact below_set HB.out GE.out)); have m1_ := Aside0.mk (show w5.heap[gb]? = some (.cells (nodeC x (.slice A4 (gs ++ [g1]).length c4)) 72 (0, 0)) from (by rw [hw]; exact (blk_put (cs' := nodeC x (.slice A4 (gs ++ [g1]).length c4)) BV.out 5 (.slice A4 (gs ++ [g1]).length c4) rfl))); have m2_ := Aside0.mk (show kp.R 52 w5 w.heap.size (fun k_ => w.heap.size ≤ k_ ∧ k_ ≠ gb) (.slice A4 (gs ++ [g1]).length c4) (gs ++ [g1]) from (by rw [hw]; exact Kd.R_set HK.out BV.out (by decide) 5 _)); have m3_ := Aside0.mk (show IsF 72 52 K w5 (fun k_ => (w.heap.size ≤ k_ ∧ k_ ≠ gb) ∧ some k_ ≠ (Value.slice A4 (gs ++ [g1]).length c4).ownBlock) (gs ++ [g1]) (kids ++ [t]) from (by rw [hw]; exact HF.out.far (fun _ hk_ => hk_.1.2) _)); clear hc5 hf5 hw HB BV HK HF; have HB := m0_; have BV := m1_; have HK := m2_; have HF := m3_; clear m0_ m1_ m2_ m3_; (try simp only [Act.put, List.setIfInBounds_toArray, List.set_cons_zero, List.set_cons_succ])))
     go_roundg m
     case measure => have := HL2.out.2.1; omega
     case rel => exact ⟨wrap64 (j + 1), r2', kids ++ [t], gs ++ [g1], _, rfl, rfl, HL2, BV, HK, HF, HB⟩

/-! ### spec_l7Of: function 39 -/
theorem IsP.wide {tv tp d : Nat} {W : World} {b1 b2 : Nat} {v : Value} {o : Option T7} (h : IsP tv tp d W b1 v o) (hle : b2 ≤ b1) : IsP tv tp d W b2 v o := by
 cases o with
 | none => exact h
 | some t => obtain ⟨g, e, ht⟩ := h; exact ⟨g, e, ht.mono (fun k hk => Nat.le_trans hle hk)⟩
theorem IsP.below {tv tp d : Nat} {W W1 : World} {b : Nat} {v : Value} {o : Option T7} (h : IsP tv tp d W b v o) (hb : Below W.heap.size W W1) : IsP tv tp d W1 b v o := by
 cases o with
 | none => exact h
 | some t => obtain ⟨g, e, ht⟩ := h; exact ⟨g, e, ht.below hb⟩
def spec_l7Of.f (k : Nat) (l : List S61) : Option (Option T7 × Bool) :=
 if (l.length : Int) > 40 then some (none, false) else (spec_l7Tree.f k l 0 1 false).bind fun r => some (r.1, r.2 == (l.length : Int))
theorem spec_l7Of.mono : ∀ l k, LeO (spec_l7Of.f k l) (spec_l7Of.f (k + 1) l) := by
 intro l k
 unfold spec_l7Of.f
 exact LeO.ite (LeO.refl _) (LeO.bind (spec_l7Tree.mono _ _ _ _ _) (fun r => LeO.refl _))
theorem spec_l7Of.run (k : Nat) (l : List S61) (r1 : Option T7) (r2 : Bool) (h : spec_l7Of.f k l = some (r1, r2)) (A0 : Option Addr) (c0 : Nat) (w : World) (hr0 : Kd.C k61 w A0 l.length l) (hc0 : l.length ≤ c0) :
  Calls Tryd.prog 39 #[.slice A0 l.length c0] w fun e w' => ∃ v0_ : Value, e = .returned (.tuple #[v0_, .bool r2]) ∧ IsP 72 52 k w' w.heap.size v0_ r1 ∧ Below w.heap.size w w' := by
 have hu61 := Tryd.underlying61
 have HR0 := Aside0.mk hr0
 have HC0 := Aside0.mk hc0
 have HB := Aside0.mk (Below.refl w.heap.size w)
 clear hr0 hc0
 unfold spec_l7Of.f at h
 by_cases c1 : (l.length : Int) > 40
 ·rw [if_pos c1] at h
  have c1b0 : decide (40 < (l.length : Int)) = true := decide_eq_true c1
  injection h with h
  injection h with h1 h2
  subst h1; subst h2
  clear c1
  go_enter Tryd.func39, Tryd.ntmps39
  go_wp2
  go_ret2
  exact ⟨_, rfl, rfl, HB.out⟩
 rw [if_neg c1] at h
 have c1b0 : decide (40 < (l.length : Int)) = false := decide_eq_false c1
 clear c1
 obtain ⟨⟨t1, t2⟩, ht, h⟩ := Option.bind_eq_some_iff.mp h
 injection h with h
 injection h with h1 h2
 have h1 : t1 = r1 := h1
 have h2 : (t2 == (l.length : Int)) = r2 := h2
 subst h1
 have HT := Aside0.mk ht
 clear ht
 go_enter Tryd.func39, Tryd.ntmps39
 go_wp2_with (first | (go_at_call 69; refine (spec_l7Tree.run k l 0 1 false _ _ HT.out A0 c0 _ (Kd.C_below HR0.out HB.out) HC0.out).mono ?_; rintro e w3 ⟨v13, rfl, hp, hb⟩; have HP := Aside0.mk (hp.wide (below_size HB.out)); have m0_ := Aside0.mk (below_step HB.out hb); clear hp HB hb; have HB := m0_; clear m0_))
 go_ret2
 exact ⟨_, rfl, HP.out, HB.out⟩

/-! ### spec_l7Depth: function 42 -/
mutual
def spec_l7Depth.f : Nat → T7 → Option Int
 | 0, _ => none
 | k + 1, t => if t.kids.length < 1000000 then spec_l7Depth.l k t.kids 0 0 else none
def spec_l7Depth.l : Nat → List T7 → Int → Int → Option Int
 | 0, _, _, _ => none
 | k + 1, ks, most, i => if i < (ks.length : Int) then ks[i.toNat]?.bind fun t => (spec_l7Depth.f k t).bind fun r => if r > most then spec_l7Depth.l k ks r (i + 1) else spec_l7Depth.l k ks most (i + 1) else some (wrap64 (most + 1))
end
theorem spec_l7Depth.mono_l : ∀ k, (∀ t, LeO (spec_l7Depth.f k t) (spec_l7Depth.f (k + 1) t)) ∧ (∀ ks most i, LeO (spec_l7Depth.l k ks most i) (spec_l7Depth.l (k + 1) ks most i))
 | 0 => ⟨fun _ r h => by simp [spec_l7Depth.f] at h, fun _ _ _ r h => by simp [spec_l7Depth.l] at h⟩
 | k + 1 => by
  obtain ⟨ih0, ih1⟩ := spec_l7Depth.mono_l k
  refine ⟨?_, ?_⟩
  ·intro t
   rw [spec_l7Depth.f, spec_l7Depth.f]
   exact LeO.ite (ih1 _ _ _) (LeO.refl _)
  ·intro ks most i
   rw [spec_l7Depth.l, spec_l7Depth.l]
   exact LeO.ite (LeO.bind (LeO.refl _) fun t => LeO.bind (ih0 _) fun r => LeO.ite (ih1 _ _ _) (ih1 _ _ _)) (LeO.refl _)
theorem spec_l7Depth.mono : ∀ t k, LeO (spec_l7Depth.f k t) (spec_l7Depth.f (k + 1) t) := fun t k => (spec_l7Depth.mono_l k).1 t
set_option maxHeartbeats 16000000 in
set_option maxRecDepth 100000 in
theorem spec_l7Depth.run : ∀ (k : Nat) (t : T7) (r : Int), spec_l7Depth.f k t = some r → ∀ (d g : Nat) (ok : Nat → Prop) (w : World), IsT 72 52 d w ok g t →
  Calls Tryd.prog 42 #[.pointer (some ⟨g, 0, none⟩)] w fun e w' => e = .returned (.int .i64 r) ∧ Below w.heap.size w w' := by
 intro k
 induction k using Nat.strongRecOn with
 | _ k IH =>
 intro t r h d g ok w ht
 have hu61 := Tryd.underlying61
 have hu72 := Tryd.underlying72
 have hu52 := Tryd.underlying52
 have HB := Aside0.mk (Below.refl w.heap.size w)
 have HIH := Aside0.mk IH
 clear IH
 cases k with
 | zero => rw [spec_l7Depth.f] at h; cases h
 | succ K =>
 rw [spec_l7Depth.f] at h
 by_cases c0 : t.kids.length < 1000000
 rotate_left
 ·rw [if_neg c0] at h; cases h
 rw [if_pos c0] at h
 have HLEN := Aside0.mk c0
 clear c0
 obtain ⟨v, gs, hblk, hR, hlen, d1, rfl, hF⟩ := ht.root
 obtain ⟨A1, c1, rfl⟩ := Kd.R_slice hR
 have hgl : t.kids.length = gs.length := hlen.symm
 obtain ⟨ks, hks⟩ : ∃ ks, ks = t.kids := ⟨_, rfl⟩
 rw [← hks] at h hgl hF HLEN
 have HT := Aside0.mk ht
 have HR := Aside0.mk hR
 have HF := Aside0.mk hF
 have HGL := Aside0.mk hgl
 have hc5 : w.cell? ⟨g, 5, none⟩ = some (.slice A1 gs.length c1) := (blk_cell hblk 5).trans rfl
 have HL := Aside0.mk h
 clear ht hR hF hlen hgl hblk h hks
 go_enter Tryd.func42, Tryd.ntmps42
 go_wp2
 clear hc5
 go_loopg [3, 12] K (fun kq v3 v12 w' => ∃ (most i : Int), v3 = .int .i64 most ∧ v12 = .int .i64 i ∧ Aside0 (spec_l7Depth.l kq ks most i = some r ∧ kq ≤ K ∧ 0 ≤ i) ∧ Aside0 (Below w.heap.size w w'))
 case atStart => exact ⟨0, 0, rfl, rfl, ⟨HL.out, Nat.le_refl _, Int.le_refl _⟩, HB⟩
 case round =>
  clear HL HB
  obtain ⟨most, i, rfl, rfl, HL, HB⟩ := hrel
  cases gk with
  | zero => have := HL.out.1; rw [spec_l7Depth.l] at this; cases this
  | succ m =>
   have h := HL.out.1
   rw [spec_l7Depth.l] at h
   by_cases c5 : i < (ks.length : Int)
   rotate_left
   ·rw [if_neg c5] at h
    have c5b0 : decide (i < (gs.length : Int)) = false := decide_eq_false (by rw [← HGL.out]; exact c5)
    injection h with h
    clear c5
    go_wp2
    go_ret
    exact ⟨by first | rfl | (rw [h]; done) | (rw [h]; rfl), HB.out⟩
   rw [if_pos c5] at h
   have c5b0 : decide (i < (gs.length : Int)) = true := decide_eq_true (by rw [← HGL.out]; exact c5)
   have hi0 : (0 ≤ i) = True := eq_true HL.out.2.2
   have hi1 : (i < (gs.length : Int)) = True := eq_true (by rw [← HGL.out]; exact c5)
   have hi2 : wrap64 (i + 1) = i + 1 := by unfold wrap64; have := HL.out.2.2; have := HLEN.out; omega
   have hi3 : IntKind.i64.wrap (i + 1) = i + 1 := by rw [IntKind.wrap_i64]; have := HL.out.2.2; have := HLEN.out; omega
   obtain ⟨u, hu, h⟩ := Option.bind_eq_some_iff.mp h
   obtain ⟨q, hq, h⟩ := Option.bind_eq_some_iff.mp h
   obtain ⟨gu, hgu⟩ : ∃ gu, gs[i.toNat]? = some gu := ⟨_, List.getElem?_eq_getElem (by have := HL.out.2.2; have := HGL.out; omega)⟩
   have HC := Aside0.mk (HIH.out m (by have := HL.out.2.1; omega) u q hq d1 gu ok)
   have HU := Aside0.mk (HF.out.2 i.toNat gu u hgu hu)
   obtain ⟨ad, e0, hcl⟩ := kp_at HR.out hgu
   cases e0
   have X0 := Aside0.mk hcl
   have hx0 := (HB.out.cell (World.block_lt_of_cell? _ _ X0.out)).trans X0.out
   clear c5 hu hq hgu hcl
   by_cases c6 : q > most
   ·rw [if_pos c6] at h
    have c6b0 : decide (most < q) = true := decide_eq_true c6
    have HL2 := Aside0.mk (show spec_l7Depth.l m ks q (i + 1) = some r ∧ m ≤ K ∧ 0 ≤ i + 1 from ⟨h, by have := HL.out.2.1; omega, by have := HL.out.2.2; omega⟩)
    clear h c6
    go_wp2_with (first | ((with_reducible refine gate_callee (f := 42) rfl ?_); refine goesL_ (some 17) rfl rfl Tryd.func42 (by kernel_rfl) rfl #[.pointer (some ⟨gu, 0, none⟩)] rfl (by (try simp only [List.map_toArray, List.map_cons, List.map_nil]); first | done | rfl) ?_; (refine (HC.out _ (HU.out.below HB.out)).mono ?_); rintro e w3 ⟨rfl, hb⟩; refine ⟨_, rfl, ?_⟩; have m0_ := Aside0.mk (below_step HB.out hb); clear hx0 HB hb; have HB := m0_; clear m0_))
    go_roundg m
    case measure => have := HL2.out.2.1; omega
    case rel => exact ⟨q, i + 1, by first | rfl | (simp; done), by first | rfl | (rw [hi2]; done) | (rw [hi3]; done), HL2, HB⟩
   ·rw [if_neg c6] at h
    have c6b0 : decide (most < q) = false := decide_eq_false c6
    have HL2 := Aside0.mk (show spec_l7Depth.l m ks most (i + 1) = some r ∧ m ≤ K ∧ 0 ≤ i + 1 from ⟨h, by have := HL.out.2.1; omega, by have := HL.out.2.2; omega⟩)
    clear h c6
    go_wp2_with (first | ((with_reducible refine gate_callee (f := 42) rfl ?_); refine goesL_ (some 17) rfl rfl Tryd.func42 (by kernel_rfl) rfl #[.pointer (some ⟨gu, 0, none⟩)] rfl (by (try simp only [List.map_toArray, List.map_cons, List.map_nil]); first | done | rfl) ?_; (refine (HC.out _ (HU.out.below HB.out)).mono ?_); rintro e w3 ⟨rfl, hb⟩; refine ⟨_, rfl, ?_⟩; have m0_ := Aside0.mk (below_step HB.out hb); clear hx0 HB hb; have HB := m0_; clear m0_))
    go_roundg m
    case measure => have := HL2.out.2.1; omega
    case rel => exact ⟨most, i + 1, by first | rfl | (simp; done), by first | rfl | (rw [hi2]; done) | (rw [hi3]; done), HL2, HB⟩
theorem spec_l7Depth.calls (k : Nat) (v0_ : Value) (o : Option T7) (t : T7) (r : Int) (d b : Nat) (w : World) (hp : IsP 72 52 d w b v0_ o) (ho : o = some t) (h : spec_l7Depth.f k t = some r) :
  Calls Tryd.prog 42 #[v0_] w fun e w' => e = .returned (.int .i64 r) ∧ Below w.heap.size w w' := by
 subst ho
 obtain ⟨g, rfl, ht⟩ := hp
 exact spec_l7Depth.run k t r h d g _ w ht

/-! ### spec_DepthOf: function 19 -/
def spec_DepthOf.f (k : Nat) (l : List S61) : Option (Int × Bool) := (spec_l7Of.f k l).bind fun r => if r.2 = false then some (0, false) else r.1.bind fun t => (spec_l7Depth.f k t).bind fun d => some (d, true)
theorem spec_DepthOf.mono : ∀ l k, LeO (spec_DepthOf.f k l) (spec_DepthOf.f (k + 1) l) := by
 intro l k
 unfold spec_DepthOf.f
 exact LeO.bind (spec_l7Of.mono _ _) (fun r => LeO.ite (LeO.refl _) (LeO.bind (LeO.refl _) fun t => LeO.bind (spec_l7Depth.mono _ _) fun d => LeO.refl _))
theorem spec_DepthOf.calls (k : Nat) (A0 : Option Addr) (c0 : Nat) (l : List S61) (r1_ : Int) (r2_ : Bool) (w : World) (hr0 : Kd.C k61 w A0 l.length l) (hc0 : l.length ≤ c0) (h : spec_DepthOf.f k l = some (r1_, r2_)) :
  Calls Tryd.prog 19 #[.slice A0 l.length c0] w fun e w' => e = .returned (.tuple #[.int .i64 r1_, .bool r2_]) ∧ Below w.heap.size w w' := by
 have HR0 := Aside0.mk hr0
 have HC0 := Aside0.mk hc0
 have HB := Aside0.mk (Below.refl w.heap.size w)
 clear hr0 hc0
 unfold spec_DepthOf.f at h
 obtain ⟨⟨t1, t2⟩, ht, h⟩ := Option.bind_eq_some_iff.mp h
 have HT := Aside0.mk ht
 clear ht
 cases t2 with
 | false =>
  injection h with h
  injection h with h1 h2
  subst h1
  subst h2
  go_enter Tryd.func19, Tryd.ntmps19
  go_wp2_with (first | (go_at_call 39; refine (spec_l7Of.run k l _ _ HT.out A0 c0 _ (Kd.C_below HR0.out HB.out) HC0.out).mono ?_; rintro e w3 ⟨v13, rfl, hp, hb⟩; have HP := Aside0.mk hp; have m0_ := Aside0.mk (below_step HB.out hb); clear hp HB hb; have HB := m0_; clear m0_))
  go_ret2
  exact ⟨rfl, HB.out⟩
 | true =>
  obtain ⟨t, e1, h⟩ := Option.bind_eq_some_iff.mp h
  obtain ⟨d, hd, h⟩ := Option.bind_eq_some_iff.mp h
  injection h with h
  injection h with h1 h2
  subst h1
  subst h2
  have e1 : t1 = some t := e1
  subst e1
  have HD := Aside0.mk hd
  clear hd
  go_enter Tryd.func19, Tryd.ntmps19
  go_wp2_with (first | (go_at_call 39; refine (spec_l7Of.run k l _ _ HT.out A0 c0 _ (Kd.C_below HR0.out HB.out) HC0.out).mono ?_; rintro e w3 ⟨v13, rfl, hp, hb⟩; have HP := Aside0.mk hp; have m0_ := Aside0.mk (below_step HB.out hb); clear hp HB hb; have HB := m0_; clear m0_) | (go_at_call 42; refine (spec_l7Depth.calls k v13 _ t d _ _ _ HP.out rfl HD.out).mono ?_; rintro e w4 ⟨rfl, hb⟩; have m0_ := Aside0.mk (below_step HB.out hb); clear HB hb HP; have HB := m0_; clear m0_))
  go_ret2
  exact ⟨rfl, HB.out⟩

/-! ### impl_depthOf: function 43 -/
mutual
def impl_depthOf.l0 : Nat → Int → List (List (S61)) → Int → Int → Option (Int)
 | 0, _, _, _, _ => none
 | k + 1, x3, x7, x8, x9 => if x9 < x8 then (if 0 ≤ x9 then (if x9 < (x7.length : Int) then ((impl_depthOf.f k (rd_L3 x7 x9)).bind fun t252 => (impl_depthOf.l0 k (mx x3 t252) x7 x8 (wrap64 (x9 + 1)))) else (none)) else (none)) else (some (wrap64 (x3 + 1)))
def impl_depthOf.f : Nat → List (S61) → Option (Int)
 | 0, _ => none
 | k + 1, l0 => (impl_partsOf.f k l0).bind fun t248 => (impl_depthOf.l0 k 0 t248 (t248.length : Int) 0)
end
theorem impl_depthOf.mono_l : ∀ k, (∀ y0, LeO (impl_depthOf.f k y0) (impl_depthOf.f (k + 1) y0)) ∧ (∀ y0 y1 y2 y3, LeO (impl_depthOf.l0 k y0 y1 y2 y3) (impl_depthOf.l0 (k + 1) y0 y1 y2 y3))
 | 0 => ⟨fun _ r h => by simp [impl_depthOf.f] at h, fun _ _ _ _ r h => by simp [impl_depthOf.l0] at h⟩
 | k + 1 => by
  obtain ⟨ih0, ih1⟩ := impl_depthOf.mono_l k
  refine ⟨?_, ?_⟩
  ·intro y0
   unfold impl_depthOf.f
   repeat' first
   | (with_reducible exact ih0 _)
   | (with_reducible exact ih1 _ _ _ _)
   | (with_reducible exact impl_partsOf.mono _ _)
   | (with_reducible exact LeO.refl _)
   | (with_reducible exact LeO.none _)
   | (with_reducible refine LeO.ite ?_ ?_)
   | (with_reducible refine LeO.bind ?_ (fun _ => ?_))
   | exact ih0 _
   | exact ih1 _ _ _ _
   | exact impl_partsOf.mono _ _
   | exact LeO.none _
   | refine LeO.ite ?_ ?_
   | refine LeO.bind ?_ (fun _ => ?_)
  ·intro y0 y1 y2 y3
   unfold impl_depthOf.l0
   repeat' first
   | (with_reducible exact ih0 _)
   | (with_reducible exact ih1 _ _ _ _)
   | (with_reducible exact impl_partsOf.mono _ _)
   | (with_reducible exact LeO.refl _)
   | (with_reducible exact LeO.none _)
   | (with_reducible refine LeO.ite ?_ ?_)
   | (with_reducible refine LeO.bind ?_ (fun _ => ?_))
   | exact ih0 _
   | exact ih1 _ _ _ _
   | exact impl_partsOf.mono _ _
   | exact LeO.none _
   | refine LeO.ite ?_ ?_
   | refine LeO.bind ?_ (fun _ => ?_)
theorem impl_depthOf.mono : ∀ a0 k, LeO (impl_depthOf.f k a0) (impl_depthOf.f (k + 1) a0) := by
 intro a0 k
 obtain ⟨ih0, ih1⟩ := impl_depthOf.mono_l k
 exact ih0 a0
set_option maxHeartbeats 8000000 in
set_option maxRecDepth 100000 in
theorem impl_depthOf.calls (k : Nat) : ∀ (A0 : Option Addr) (c0 : Nat) (l0 : List (S61)) (r : Int) (w : World) (hr0 : Kd.C k61 w A0 l0.length l0) (hc0 : l0.length ≤ c0) (h : impl_depthOf.f k l0 = some r),
  Calls Tryd.prog 43 #[.slice A0 l0.length c0] w fun e w' => e = .returned (.int .i64 r) ∧ Below w.heap.size w w' := by
 induction k using Nat.strongRecOn with
 | _ k ih =>
 intro A0 c0 l0 r w hr0 hc0 h
 cases k with
 | zero => exact absurd h (by simp [impl_depthOf.f])
 | succ k =>
 simp only [impl_depthOf.f] at h
 have HR0 := Aside0.mk hr0
 have HC0 := Aside0.mk hc0
 clear hr0 hc0
 have HB := Aside0.mk (Below.refl w.heap.size w)
 have H : ((impl_partsOf.f k l0).bind fun t248 => (impl_depthOf.l0 k 0 t248 (t248.length : Int) 0)) = some r := h
 clear h
 replace H := Option.bind_eq_some_iff.mp H
 obtain ⟨t248, A20, H⟩ := H
 replace H : (impl_depthOf.l0 k 0 t248 (t248.length : Int) 0) = some r := H
 have A2 := Aside0.mk A20
 clear A20
 have H' := Aside0.mk H
 clear H
 go_enter Tryd.func43, Tryd.ntmps43
 go_wp2_with (first | ((with_reducible refine gate_callee (f := 44) rfl ?_); refine goesL_ (some 7) rfl rfl Tryd.func44 (by kernel_rfl) rfl #[.slice A0 l0.length c0] rfl (by (try simp only [List.map_toArray, List.map_cons, List.map_nil]); first | done | rfl | (simp only [List.length_drop, List.length_take]; rfl)) ?_; (with_reducible refine (impl_partsOf.calls k (fun k_ => k_ < w.heap.size) _ _ l0 t248 _ ?side1 A2.out).mono ?_); (case side1 => exact Kd.V_mk HC0.out (Kd.F_below (Kd.C_F k61_heap HR0.out) (by repeat first | (with_reducible first | exact HB.out | apply jD | apply jE | apply jF) | exact HB.out))); rintro e w3 ⟨v249, rfl, ho0, hb⟩; refine ⟨_, rfl, ?_⟩; have n0_ := Aside0.mk (Kd.N_lower (Kd.N_mono (ok' := fun k_ => True) ho0 (fun k_ hk_ => trivial)) (below_size (by repeat first | (with_reducible first | exact HB.out | apply jD | apply jE | apply jF) | exact HB.out))); have n1_ := Aside0.mk (below_step (by repeat first | (with_reducible first | exact HB.out | apply jD | apply jE | apply jF) | exact HB.out) hb); clear HB; have HO250 := n0_; have HB := n1_; clear n0_ n1_; (try clear hb); (try clear hk); (try clear hi); (try clear ho0); obtain ⟨Ao4, co4, eo4⟩ := Kd.N_slice HO250.out; subst eo4))
 go_loopg [3, 9] k (fun kq v3 v9 w' => ∃ (x3_1 : Int) (x9_1 : Int), v3 = .int .i64 x3_1 ∧ v9 = .int .i64 x9_1 ∧ Aside0 (impl_depthOf.l0 kq x3_1 t248 (t248.length : Int) x9_1 = some r) ∧ Aside0 (kq ≤ k) ∧ Aside0 (Kd.N (Kd.slice 61 k61) 22 w' w.heap.size (fun _ => True) (.slice Ao4 t248.length co4) t248) ∧ Aside0 (Below w.heap.size w w'))
 case atStart => exact ⟨(0), (0), (by first | rfl | (simp; done) | (simp [*]; done) | (simp; apply Bool.eq_iff_iff.mpr; simp only [bne_iff_ne, ne_eq, beq_iff_eq]; omega)), (by first | rfl | (simp; done) | (simp [*]; done) | (simp; apply Bool.eq_iff_iff.mpr; simp only [bne_iff_ne, ne_eq, beq_iff_eq]; omega)), H', ⟨Nat.le_refl _⟩, ⟨by (with_reducible repeat (first | apply Kd.N_alloc | apply Kd.N_drewN | apply Kd.N_drew)); exact HO250.out⟩, ⟨by repeat (first | (with_reducible first | exact HB.out | apply jD | apply jE | apply jF) | exact HB.out)⟩⟩
 case round =>
  clear H'
  try clear p2
  try clear c4
  obtain ⟨x3_1, x9_1, rfl, rfl, HA, HK1, HO_7, HB⟩ := hrel
  cases gk with
  | zero => exact absurd HA.out (by simp [impl_depthOf.l0])
  | succ k1 =>
   have H := HA.out
   clear HA
   simp only [impl_depthOf.l0] at H
   by_cases c5 : x9_1 < (t248.length : Int)
   ·rw [if_pos c5] at H
    have c5b0 : decide (x9_1 < (t248.length : Int)) = true := decide_eq_true c5
    clear c5
    by_cases c6 : 0 ≤ x9_1
    ·rw [if_pos c6] at H
     have c6b0 : decide (0 ≤ x9_1) = true := decide_eq_true c6
     clear c6
     by_cases c7 : x9_1 < (t248.length : Int)
     ·rw [if_pos c7] at H
      have c7b0 : decide (x9_1 < (t248.length : Int)) = true := decide_eq_true c7
      clear c7
      replace H := Option.bind_eq_some_iff.mp H
      obtain ⟨t252, A80, H⟩ := H
      replace H : (impl_depthOf.l0 k1 (mx x3_1 t252) t248 (t248.length : Int) (wrap64 (x9_1 + 1))) = some r := H
      have A8 := Aside0.mk A80
      clear A80
      obtain ⟨ji9, hji9⟩ : ∃ j_ : Int, (mx x3_1 t252) = j_ := ⟨_, rfl⟩
      replace H : (impl_depthOf.l0 k1 ji9 t248 (t248.length : Int) (wrap64 (x9_1 + 1))) = some r := by first | (rw [hji9] at H; exact H) | (simp only [hji9] at H ⊢; exact H)
      (try rw [hji9] at A8)
      have hji9_ : (if x3_1 < t252 then t252 else x3_1) = ji9 := hji9
      have H' := Aside0.mk H
      clear H
      have p251 : 0 ≤ (x9_1 : Int) := of_decide_eq_true (by first | (with_reducible assumption) | assumption)
      have q251 : x9_1 < (t248.length : Int) := of_decide_eq_true (by first | (with_reducible assumption) | assumption)
      obtain ⟨ad251, A251_0, c251_0, e251, hx251_0, hl251_0, hi251_0⟩ := at_L3 (Kd.N_reads' HO_7.out).2.2 x9_1 p251 q251
      cases e251
      obtain ⟨ce251, hce251, hMe251, hcc251⟩ := Kd.N_get HO_7.out [] x9_1 p251 (by first | exact q251 | exact of_decide_eq_true (by first | (with_reducible assumption) | assumption) | (have e_ := (Kd.N_reads' HO_7.out).1; omega))
      obtain ⟨ua251_0, uc251_0, rfl, ul251_0, ge251_0⟩ := Kd.FK_slice_open hMe251
      have hv251_0 := hcc251 0 _ rfl
      rw [Nat.add_zero, show ((Kd.slice 61 k61)).sz = 1 from rfl, Nat.mul_one] at hv251_0
      replace hv251_0 := Option.some.inj (hv251_0.symm.trans hx251_0)
      injection hv251_0 with hva_ hvn_ hvc_
      rw [hva_] at ge251_0
      rw [hvc_] at ul251_0
      have HL251_0 := Aside0.mk (show Kd.V k61 61 _ w.heap.size _ _ (rd_L3 t248 x9_1) from Kd.V_mk ul251_0 ge251_0)
      clear hva_ hvn_ hvc_ ge251_0 ul251_0 hcc251 hce251
      have HR251_0 := Aside0.mk hi251_0
      have HC251_0 := Aside0.mk hl251_0
      clear hi251_0 hl251_0
      replace p251 := eq_true p251
      replace q251 := eq_true q251
      go_wp2_with (first | ((with_reducible refine gate_callee (f := 43) rfl ?_); refine goesL_ (some 15) rfl rfl Tryd.func43 (by kernel_rfl) rfl #[.slice A251_0 (rd_L3 t248 x9_1).length c251_0] rfl (by (try simp only [List.map_toArray, List.map_cons, List.map_nil]); first | done | rfl | (simp only [List.length_drop, List.length_take]; rfl)) ?_; (with_reducible refine (ih k1 (by have := HK1.out; omega) _ _ (rd_L3 t248 x9_1) t252 _ ?side1 ?side2 A8.out).mono ?_); (case side1 => repeat (first | exact (by repeat (first | (with_reducible exact HR251_0.out) | (with_reducible refine Kd.C_alloc ?_ _) | (with_reducible refine Kd.C_drewN ?_ _) | (with_reducible refine Kd.C_drew ?_) | exact HR251_0.out)) | (with_reducible refine Kd.C_alloc ?_ _) | (with_reducible refine Kd.C_drewN ?_ _) | (with_reducible refine Kd.C_drew ?_))); (case side2 => exact HC251_0.out); rintro e w10 ⟨rfl, hb⟩; refine ⟨_, rfl, ?_⟩; have n0_ := Aside0.mk (Kd.N_below (by (with_reducible repeat (first | apply Kd.N_alloc | apply Kd.N_drewN | apply Kd.N_drew)); exact HO_7.out) hb); have n1_ := Aside0.mk (Kd.V_below (by (with_reducible repeat (first | apply Kd.V_alloc | apply Kd.V_drewN | apply Kd.V_drew)); exact HL251_0.out) hb); have n2_ := Aside0.mk (Kd.C_below (by repeat (first | (with_reducible exact HR251_0.out) | (with_reducible refine Kd.C_alloc ?_ _) | (with_reducible refine Kd.C_drewN ?_ _) | (with_reducible refine Kd.C_drew ?_) | exact HR251_0.out)) hb); have n3_ := Aside0.mk (below_step (by repeat first | (with_reducible first | exact HB.out | apply jD | apply jE | apply jF) | exact HB.out) hb); clear HO_7; clear HL251_0; clear HR251_0; clear HB; have HO_7 := n0_; have HL251_0 := n1_; have HR251_0 := n2_; have HB := n3_; clear n0_ n1_ n2_ n3_; (try clear hb); (try clear hk); (try clear hi)))
      go_roundg k1
      case measure => have := HK1.out; omega
      case rel => exact ⟨(ji9), (wrap64 (x9_1 + 1)), (by first | rfl | (simp; done) | (simp only [← hji9] <;> (first | rfl | simp)) | (simp [*]; done)), (by first | rfl | (simp; done) | (simp [*]; done) | (simp; apply Bool.eq_iff_iff.mpr; simp only [bne_iff_ne, ne_eq, beq_iff_eq]; omega)), H', ⟨by have := HK1.out; omega⟩, ⟨by (with_reducible repeat (first | apply Kd.N_alloc | apply Kd.N_drewN | apply Kd.N_drew)); exact HO_7.out⟩, ⟨by repeat (first | (with_reducible first | exact HB.out | apply jD | apply jE | apply jF) | exact HB.out)⟩⟩
     ·rw [if_neg c7] at H
      exact absurd H (by simp)
    ·rw [if_neg c6] at H
     exact absurd H (by simp)
   ·rw [if_neg c5] at H
    have c5b0 : decide (x9_1 < (t248.length : Int)) = false := decide_eq_false c5
    clear c5
    obtain rfl := Option.some.inj H
    go_wp2
    go_ret
    exact ⟨by first | rfl | (simp [errW_none, errW_some] <;> rfl) | (simp [*, errW_none, errW_some] <;> rfl), by repeat (first | (with_reducible first | exact HB.out | apply jD | apply jE | apply jF) | exact HB.out)⟩

/-! ### impl_DepthOf: function 20 -/
def impl_DepthOf.f (k : Nat) (l0 : List (S61)) : Option (Int × Bool) := (impl_isValue.f k l0).bind fun t253 => (if t253 = true then ((impl_depthOf.f k l0).bind fun t254 => (some (t254, true))) else (some (0, false)))
theorem impl_DepthOf.mono : ∀ a0 k, LeO (impl_DepthOf.f k a0) (impl_DepthOf.f (k + 1) a0) := by
 intro a0 k
 unfold impl_DepthOf.f
 repeat' first
   | (with_reducible exact impl_depthOf.mono _ _)
   | (with_reducible exact impl_isValue.mono _ _)
   | (with_reducible exact LeO.refl _)
   | (with_reducible exact LeO.none _)
   | (with_reducible refine LeO.ite ?_ ?_)
   | (with_reducible refine LeO.bind ?_ (fun _ => ?_))
   | exact impl_depthOf.mono _ _
   | exact impl_isValue.mono _ _
   | exact LeO.none _
   | refine LeO.ite ?_ ?_
   | refine LeO.bind ?_ (fun _ => ?_)
set_option maxHeartbeats 8000000 in
set_option maxRecDepth 100000 in
theorem impl_DepthOf.calls (k : Nat) (A0 : Option Addr) (c0 : Nat) (l0 : List (S61)) (r1 : Int) (r2 : Bool) (w : World) (tb : TabsU.Tabs0 w) (hr0 : Kd.C k61 w A0 l0.length l0) (hc0 : l0.length ≤ c0) (h : impl_DepthOf.f k l0 = some (r1, r2)) :
  Calls Tryd.prog 20 #[.slice A0 l0.length c0] w fun e w' => e = .returned (.tuple #[.int .i64 r1, .bool r2]) ∧ Below w.heap.size w w' := by
 have TB := Aside0.mk tb
 clear tb
 have HR0 := Aside0.mk hr0
 have HC0 := Aside0.mk hc0
 clear hr0 hc0
 have HB := Aside0.mk (Below.refl w.heap.size w)
 have H : ((impl_isValue.f k l0).bind fun t253 => (if t253 = true then ((impl_depthOf.f k l0).bind fun t254 => (some (t254, true))) else (some (0, false)))) = some (r1, r2) := h
 clear h
 replace H := Option.bind_eq_some_iff.mp H
 obtain ⟨t253, A20, H⟩ := H
 replace H : (if t253 = true then ((impl_depthOf.f k l0).bind fun t254 => (some (t254, true))) else (some (0, false))) = some (r1, r2) := H
 have A2 := Aside0.mk A20
 clear A20
 by_cases c3 : t253 = true
 ·subst c3
  have H1 : ((impl_depthOf.f k l0).bind fun t254 => (some (t254, true))) = some (r1, r2) := by rw [if_pos rfl] at H; exact H
  clear H
  have H := H1
  clear H1
  replace H := Option.bind_eq_some_iff.mp H
  obtain ⟨t254, A40, H⟩ := H
  replace H : (some (t254, true)) = some (r1, r2) := H
  have A4 := Aside0.mk A40
  clear A40
  simp only [Option.some.injEq, Prod.mk.injEq] at H
  obtain ⟨rfl, rfl⟩ := H
  go_enter Tryd.func20, Tryd.ntmps20
  go_wp2_with (first | ((with_reducible refine gate_callee (f := 41) rfl ?_); refine goesL_ (some 5) rfl rfl Tryd.func41 (by kernel_rfl) rfl #[.slice A0 l0.length c0] rfl (by (try simp only [List.map_toArray, List.map_cons, List.map_nil]); first | done | rfl | (simp only [List.length_drop, List.length_take]; rfl)) ?_; (with_reducible refine (impl_isValue.calls k _ _ l0 true _ ?side1 ?side2 ?side3 A2.out).mono ?_); (case side1 => exact TabsU.Tabs0.of_below TB.out (by repeat first | (with_reducible first | exact HB.out | apply jD | apply jE | apply jF) | exact HB.out)); (case side2 => repeat (first | exact HR0.out | (with_reducible refine Kd.C_alloc ?_ _) | (with_reducible refine Kd.C_drewN ?_ _) | (with_reducible refine Kd.C_drew ?_))); (case side3 => exact HC0.out); rintro e w5 ⟨rfl, hb⟩; refine ⟨_, rfl, ?_⟩; have n0_ := Aside0.mk (below_step (by repeat first | (with_reducible first | exact HB.out | apply jD | apply jE | apply jF) | exact HB.out) hb); clear HB; have HB := n0_; clear n0_; (try clear hb); (try clear hk); (try clear hi)) | ((with_reducible refine gate_callee (f := 43) rfl ?_); refine goesL_ (some 8) rfl rfl Tryd.func43 (by kernel_rfl) rfl #[.slice A0 l0.length c0] rfl (by (try simp only [List.map_toArray, List.map_cons, List.map_nil]); first | done | rfl | (simp only [List.length_drop, List.length_take]; rfl)) ?_; (with_reducible refine (impl_depthOf.calls k _ _ l0 t254 _ ?side1 ?side2 A4.out).mono ?_); (case side1 => repeat (first | exact (Kd.C_below HR0.out HB.out) | (with_reducible refine Kd.C_alloc ?_ _) | (with_reducible refine Kd.C_drewN ?_ _) | (with_reducible refine Kd.C_drew ?_))); (case side2 => exact HC0.out); rintro e w6 ⟨rfl, hb⟩; refine ⟨_, rfl, ?_⟩; have n0_ := Aside0.mk (below_step (by repeat first | (with_reducible first | exact HB.out | apply jD | apply jE | apply jF) | exact HB.out) hb); clear HB; have HB := n0_; clear n0_; (try clear hb); (try clear hk); (try clear hi)))
  go_ret2
  exact ⟨by first | rfl | (simp [errW_none, errW_some] <;> rfl) | (simp [*, errW_none, errW_some] <;> rfl), by repeat (first | (with_reducible first | exact HB.out | apply jD | apply jE | apply jF) | exact HB.out)⟩
 ·replace c3 := Bool.eq_false_iff.mpr c3
  subst c3
  have H1 : (some (0, false)) = some (r1, r2) := by rw [if_neg (show ¬ (false = true) by decide)] at H; exact H
  clear H
  have H := H1
  clear H1
  simp only [Option.some.injEq, Prod.mk.injEq] at H
  obtain ⟨rfl, rfl⟩ := H
  go_enter Tryd.func20, Tryd.ntmps20
  go_wp2_with (first | ((with_reducible refine gate_callee (f := 41) rfl ?_); refine goesL_ (some 5) rfl rfl Tryd.func41 (by kernel_rfl) rfl #[.slice A0 l0.length c0] rfl (by (try simp only [List.map_toArray, List.map_cons, List.map_nil]); first | done | rfl | (simp only [List.length_drop, List.length_take]; rfl)) ?_; (with_reducible refine (impl_isValue.calls k _ _ l0 false _ ?side1 ?side2 ?side3 A2.out).mono ?_); (case side1 => exact TabsU.Tabs0.of_below TB.out (by repeat first | (with_reducible first | exact HB.out | apply jD | apply jE | apply jF) | exact HB.out)); (case side2 => repeat (first | exact HR0.out | (with_reducible refine Kd.C_alloc ?_ _) | (with_reducible refine Kd.C_drewN ?_ _) | (with_reducible refine Kd.C_drew ?_))); (case side3 => exact HC0.out); rintro e w7 ⟨rfl, hb⟩; refine ⟨_, rfl, ?_⟩; have n0_ := Aside0.mk (below_step (by repeat first | (with_reducible first | exact HB.out | apply jD | apply jE | apply jF) | exact HB.out) hb); clear HB; have HB := n0_; clear n0_; (try clear hb); (try clear hk); (try clear hi)))
  go_ret2
  exact ⟨by first | rfl | (simp [errW_none, errW_some] <;> rfl) | (simp [*, errW_none, errW_some] <;> rfl), by repeat (first | (with_reducible first | exact HB.out | apply jD | apply jE | apply jF) | exact HB.out)⟩

end
end Go.Proofs.YtkfbdopfeacnfaaDoor.PFnFields
