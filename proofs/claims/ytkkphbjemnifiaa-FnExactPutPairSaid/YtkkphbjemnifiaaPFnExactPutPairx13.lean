-- Printed for this claim by a changed copy of the kit's printing program (wip/tools/patch_print.py); Lean checks it.
import Derived.Test.YtkkphbjemnifiaaPFnExactPutPairx0
import Derived.Test.YtkkphbjemnifiaaPFnExactPutPairx2
import Derived.Test.YtkkphbjemnifiaaPFnExactPutPairx6
import Derived.Test.YtkkphbjemnifiaaPFnExactPutPairx11
import Derived.Test.YtkkphbjemnifiaaPFnExactPutPairx12
namespace Go.Proofs.Ytkkphbjemnifiaa.PFnExactPutPair
open Go.RowKit Go.Proofs.YtkkphbjemnifiaaW.PrintWords Go.Proofs.YtkkphbjemnifiaaW.PrintLast Go.Proofs.YtkkphbjemnifiaaW.PrintMore
attribute [local go_sem] max2_int min2_int max_two min_two max_three min_three max_four min_four   -- for this text's walks alone
set_option linter.unusedVariables false
set_option linter.unusedSimpArgs false

noncomputable section
/-! ### laws_heldForkS: function 23 -/
def laws_heldForkS.f (k : Nat) : List S74 → Int → Option Int
  | [], a => some a
  | x :: l, a => (laws_markText.f k a).bind fun t => (laws_heldIntS.f k x.f1 (wrap64 (a + 1))).bind fun p => if x.f0 = t ∧ 0 ≤ p ∧ x.f2 = p ∧ x.f3 = wrap64 (p + 1) ∧ x.f4 = wrap64 (wrap64 (p + 1) + 1) then laws_heldForkS.f k l (wrap64 (wrap64 (wrap64 (p + 1) + 1) + 1)) else none
theorem laws_heldForkS.mono : ∀ (l : List S74) (a : Int) (k : Nat), LeO (laws_heldForkS.f k l a) (laws_heldForkS.f (k + 1) l a)
  | [], a, k => LeO.refl _
  | x :: l, a, k => by
    rw [laws_heldForkS.f, laws_heldForkS.f]
    exact LeO.bind (laws_markText.mono _ _) (fun _ => LeO.bind (laws_heldIntS.mono _ _ _) (fun _ => LeO.ite (laws_heldForkS.mono l _ k) (LeO.refl _)))
set_option maxHeartbeats 16000000 in
set_option maxRecDepth 100000 in
theorem laws_heldForkS.calls (k : Nat) (A0 : Option Addr) (c0 : Nat) (l : List S74) (a : Int) (r : Int) (w : World) (hr0 : Kd.C k74 w A0 l.length l) (hc0 : l.length ≤ c0) (h : laws_heldForkS.f k l a = some r) :
    Calls Try.prog 23 #[.slice A0 l.length c0, .int .i64 a] w fun e w' => e = .returned (.int .i64 r) ∧ Below w.heap.size w w' := by
  have hu74 := Try.underlying74
  have HR0 := Aside0.mk hr0
  have HB := Aside0.mk (Below.refl w.heap.size w)
  have HX := Aside0.mk (show laws_heldForkS.f k (l.drop (0 : Int).toNat) a = some r from h)
  clear hr0 h
  go_enter Try.func23, Try.ntmps23
  go_wp2
  go_loopg [1, 5] l.length (fun kq v1 v5 w' => ∃ (ka xi : Int), v1 = .int .i64 ka ∧ v5 = .int .i64 xi ∧ Aside0 (0 ≤ xi ∧ xi + kq = l.length) ∧ Aside0 (laws_heldForkS.f k (l.drop xi.toNat) ka = some r) ∧ Aside0 (Below w.heap.size w w'))
  case atStart => exact ⟨a, 0, rfl, rfl, ⟨by omega⟩, HX, HB⟩
  case round =>
    clear HX HB
    obtain ⟨ka, xi, rfl, rfl, ⟨hxi, hxk⟩, HX, HB⟩ := hrel
    cases gk with
    | zero =>
      have e0 : decide (xi < (l.length : Int)) = false := decide_eq_false (by omega)
      have hf := HX.out
      rw [List.drop_of_length_le (by omega), laws_heldForkS.f] at hf
      injection hf with hf
      subst hf
      clear HX
      go_wp2
      go_ret
      exact ⟨rfl, HB.out⟩
    | succ k1 =>
      have e0 : decide (xi < (l.length : Int)) = true := decide_eq_true (by omega)
      have hf := HX.out
      have hil : xi.toNat < l.length := by omega
      have e : rd_T74 l xi = l[xi.toNat] := by simp [rd_T74, List.getD_eq_getElem?_getD, List.getElem?_eq_getElem hil]
      rw [List.drop_eq_getElem_cons hil, laws_heldForkS.f, ← e] at hf
      obtain ⟨t, hT, hf⟩ := Option.bind_eq_some_iff.mp hf
      obtain ⟨p, hP, hf⟩ := Option.bind_eq_some_iff.mp hf
      by_cases hq : (rd_T74 l xi).f0 = t ∧ 0 ≤ p ∧ (rd_T74 l xi).f2 = p ∧ (rd_T74 l xi).f3 = wrap64 (p + 1) ∧ (rd_T74 l xi).f4 = wrap64 (wrap64 (p + 1) + 1)
      rotate_left
      · rw [if_neg hq] at hf; cases hf
      rw [if_pos hq] at hf
      obtain ⟨q1, q2, q3, q4, q5⟩ := hq
      obtain ⟨ad2, Aa, ca, e2, hx0, hx1, hx2, hx3, hx4, hxl, hxr⟩ := at_T74 HR0.out xi hxi (by omega)
      cases e2
      rw [q1] at hx0
      rw [q3] at hx2
      rw [q4] at hx3
      rw [q5] at hx4
      have XR := Aside0.mk hxr
      have XL := Aside0.mk hxl
      have X0 := Aside0.mk hx0
      have X1 := Aside0.mk hx1
      have X2 := Aside0.mk hx2
      have X3 := Aside0.mk hx3
      have X4 := Aside0.mk hx4
      replace hx0 := (HB.out.cell (World.block_lt_of_cell? _ _ hx0)).trans hx0
      have HT := Aside0.mk hT
      have HP := Aside0.mk hP
      have n1 : decide (p < 0) = false := decide_eq_false (by omega)
      have n2 : (p < 0) = False := eq_false (by omega)
      have p0 : (0 ≤ xi) = True := eq_true hxi
      have q0 : (xi < (l.length : Int)) = True := eq_true (by omega)
      have i1 : wrap64 (xi + 1) = xi + 1 := by
        have := HR0.out.2.1
        unfold wrap64; omega
      have HX := Aside0.mk (show laws_heldForkS.f k (l.drop (xi + 1).toNat) (wrap64 (wrap64 (wrap64 (p + 1) + 1) + 1)) = some r from by rw [show (xi + 1).toNat = xi.toNat + 1 by omega]; exact hf)
      clear e hf q1 q2 q3 q4 q5 hT hP hxl hxr hx1 hx2 hx3 hx4
      go_wp2
      go_region_held3 (fun w' => w'.cell? (ad2.add (xi.toNat * 5)) = some (.string t) ∧ Below w.heap.size w w') ((refine (fun b => ⟨(b.cell (World.block_lt_of_cell? _ _ X0.out)).trans X0.out, b⟩) (?_ : Below w.heap.size w _); repeat (first | exact HB.out | (apply And.right; assumption) | (refine below_step (w := w) ?_ hb) | with_reducible apply pw_below_drewN | apply below_drew1))) ((go_at_call 60; refine (laws_markText.calls k _ _ _ HT.out).mono ?_; rintro e w1 ⟨rfl, hb⟩))
      have n0_ := Aside0.mk (show Below w.heap.size w w1 from by apply And.right; assumption)
      clear HB hb
      have HB := n0_
      clear n0_
      have hx1 := (HB.out.cell (World.block_lt_of_cell? _ _ X1.out)).trans X1.out
      have hx2 := (HB.out.cell (World.block_lt_of_cell? _ _ X2.out)).trans X2.out
      have hx3 := (HB.out.cell (World.block_lt_of_cell? _ _ X3.out)).trans X3.out
      have hx4 := (HB.out.cell (World.block_lt_of_cell? _ _ X4.out)).trans X4.out
      go_wp2_with (first | (go_at_call 28; refine (laws_heldIntS.calls k Aa ca _ _ _ _ (Kd.C_below XR.out HB.out) XL.out HP.out).mono ?_; rintro e w2 ⟨rfl, hd⟩; have n0_ := Aside0.mk (below_step HB.out hd.below); clear hd HB; have HB := n0_; clear n0_; clear hx1 hx2 hx3 hx4; have hx2 := (HB.out.cell (World.block_lt_of_cell? _ _ X2.out)).trans X2.out; have hx3 := (HB.out.cell (World.block_lt_of_cell? _ _ X3.out)).trans X3.out; have hx4 := (HB.out.cell (World.block_lt_of_cell? _ _ X4.out)).trans X4.out))
      go_roundg k1
      case measure => omega
      case rel => exact ⟨wrap64 (wrap64 (wrap64 (p + 1) + 1) + 1), xi + 1, rfl, by first | rfl | rw [i1], ⟨by omega⟩, HX, HB⟩

/-! ### laws_FnExactPutPair: function 7 -/
/-! Rows of the call's own, each in a stretch of the heap. -/
def RI {α : Type} (d : Kd α) (e b lo hi : Nat) (W : World) (v : Value) (xs : List α) : Prop := d.R e W b (fun k => lo ≤ k ∧ k < hi) v xs ∧ b ≤ lo ∧ hi ≤ W.heap.size
def SI {α : Type} (d : Kd α) (e b lo hi : Nat) (W : World) (v : Value) (xs : List α) : Prop := Kd.S d e W b (fun k => lo ≤ k ∧ k < hi) v xs ∧ b ≤ lo ∧ hi ≤ W.heap.size
theorem RI.new {α : Type} {d : Kd α} {e b : Nat} {W W2 : World} {v : Value} {xs : List α} (h : d.R e W2 W.heap.size (fun _ => True) v xs) (hle : b ≤ W.heap.size) : RI d e b W.heap.size W2.heap.size W2 v xs :=
  ⟨Kd.R_lower (Kd.R_mono (Kd.R_bound h) (fun k hk => ⟨hk.2.1, hk.2.2.1⟩)) hle, hle, Nat.le_refl _⟩
theorem SI.new {α : Type} {d : Kd α} {e b : Nat} {W W2 : World} {v : Value} {xs : List α} (h : Kd.S d e W2 W.heap.size (fun _ => True) v xs) (hle : b ≤ W.heap.size) : SI d e b W.heap.size W2.heap.size W2 v xs :=
  ⟨Kd.S_lower (Kd.S_mono (Kd.S_bound h) (fun k hk => ⟨hk.2.1, hk.2.2.1⟩)) hle, hle, Nat.le_refl _⟩
theorem RI.below {α : Type} {d : Kd α} {e b lo hi : Nat} {W W2 : World} {v : Value} {xs : List α} (h : RI d e b lo hi W v xs) (hb : Below W.heap.size W W2) : RI d e b lo hi W2 v xs := ⟨Kd.R_below h.1 hb, h.2.1, Nat.le_trans h.2.2 hb.size⟩
theorem SI.below {α : Type} {d : Kd α} {e b lo hi : Nat} {W W2 : World} {v : Value} {xs : List α} (h : SI d e b lo hi W v xs) (hb : Below W.heap.size W W2) : SI d e b lo hi W2 v xs := ⟨Kd.S_below h.1 hb, h.2.1, Nat.le_trans h.2.2 hb.size⟩
theorem RI.kept {α : Type} {d : Kd α} {e b lo hi : Nat} {W W2 : World} {v : Value} {xs : List α} {P : Nat → Prop} (h : RI d e b lo hi W v xs) (hk : Kept W W2 P) (hne : ∀ k, P k → k < lo ∨ hi ≤ k) : RI d e b lo hi W2 v xs :=
  ⟨Kd.R_kept h.1 hk (fun k hk hp => by have := hne k hp; omega), h.2.1, Nat.le_trans h.2.2 hk.1⟩
theorem SI.kept {α : Type} {d : Kd α} {e b lo hi : Nat} {W W2 : World} {v : Value} {xs : List α} {P : Nat → Prop} (h : SI d e b lo hi W v xs) (hk : Kept W W2 P) (hne : ∀ k, P k → k < lo ∨ hi ≤ k) : SI d e b lo hi W2 v xs :=
  ⟨Kd.S_kept h.1 hk (fun k hk hp => by have := hne k hp; omega), h.2.1, Nat.le_trans h.2.2 hk.1⟩
theorem RI.slice {α : Type} {d : Kd α} {e b lo hi : Nat} {W : World} {v : Value} {xs : List α} (h : RI d e b lo hi W v xs) : ∃ A c, v = .slice A xs.length c := Kd.R_slice h.1
theorem SI.slice {α : Type} {d : Kd α} {e b lo hi : Nat} {W : World} {v : Value} {xs : List α} (h : SI d e b lo hi W v xs) : ∃ A c, v = .slice A xs.length c := Kd.S_slice h.1
theorem RI.reads {α : Type} {d : Kd α} {e b lo hi n c : Nat} {A : Option Addr} {W : World} {xs : List α} (h : RI d e b lo hi W (.slice A n c) xs) : n = xs.length ∧ n ≤ c ∧ d.C W A xs.length xs := Kd.R_reads' h.1
theorem SI.reads {α : Type} {d : Kd α} {e b lo hi n c : Nat} {A : Option Addr} {W : World} {xs : List α} (h : SI d e b lo hi W (.slice A n c) xs) : n = xs.length ∧ n ≤ c ∧ d.C W A xs.length xs := Kd.S_reads' h.1
theorem RI.le {α : Type} {d : Kd α} {e b lo hi n c : Nat} {A : Option Addr} {W : World} {xs : List α} (h : RI d e b lo hi W (.slice A n c) xs) : xs.length ≤ c := by have := h.reads; omega
theorem SI.le {α : Type} {d : Kd α} {e b lo hi n c : Nat} {A : Option Addr} {W : World} {xs : List α} (h : SI d e b lo hi W (.slice A n c) xs) : xs.length ≤ c := by have := h.reads; omega
/-- A row that was written over: it is told anew. -/
theorem RI.over {α : Type} {d : Kd α} {e b lo hi : Nat} {W W2 : World} {v : Value} {xs ys : List α} {ok : Nat → Prop} (hE : d.E = []) (h : RI d e b lo hi W v xs) (hr : d.R e W2 b ok v ys) (hle : W.heap.size ≤ W2.heap.size) : RI d e b lo hi W2 v ys :=
  ⟨Kd.R_reok hE hr (fun k e_ => h.1.1 k e_), h.2.1, Nat.le_trans h.2.2 hle⟩
theorem SI.over {α : Type} {d : Kd α} {e b lo hi : Nat} {W W2 : World} {v : Value} {xs ys : List α} (h : SI d e b lo hi W v xs) (hr : Kd.S d e W2 b (fun k => lo ≤ k ∧ k < hi) v ys) (hle : W.heap.size ≤ W2.heap.size) : SI d e b lo hi W2 v ys :=
  ⟨hr, h.2.1, Nat.le_trans h.2.2 hle⟩
theorem RI.drew {α : Type} {d : Kd α} {e b lo hi : Nat} {W : World} {v : Value} {xs : List α} (h : RI d e b lo hi W v xs) : RI d e b lo hi W.drew v xs := ⟨Kd.R_drew h.1, h.2⟩
theorem SI.drew {α : Type} {d : Kd α} {e b lo hi : Nat} {W : World} {v : Value} {xs : List α} (h : SI d e b lo hi W v xs) : SI d e b lo hi W.drew v xs := ⟨Kd.S_drew h.1, h.2⟩
def laws_FnExactPutPair.f (k : Nat) (l0 : List S71) (a1_0 : ByteArray) (a1_1 : Int) : Option Bool :=
  (laws_szForkS.f k l0 1048576).bind fun n => if n < 0 then some true else
  (laws_szPair.f a1_0 a1_1 n).bind fun n2 => if n2 < 0 then some true else (laws_toPair.f a1_0 a1_1).bind fun y =>
  (laws_toForkS.f k l0).bind fun p => (spec_PutPair.f k p y.1 y.2).bind fun sw => (impl_PutPair.f k p y.1 y.2).bind fun gi =>
  (laws_eqForkS.f k gi.1 sw.1).bind fun b0 => (laws_eqForkS.f k p p).bind fun b1 => (laws_markForkS.f k p 1).bind fun mx => (laws_markForkS.f k gi.1 1).bind fun mg => (laws_heldForkS.f k mg.2 1).bind fun q =>
  if b0 = true ∧ gi.2 = sw.2 ∧ b1 = true ∧ 0 ≤ mx.1 ∧ 0 ≤ q ∧ q = mg.1 then some true else none
theorem laws_FnExactPutPair.mono : ∀ a0 a1_0 a1_1 k, LeO (laws_FnExactPutPair.f k a0 a1_0 a1_1) (laws_FnExactPutPair.f (k + 1) a0 a1_0 a1_1) := by
  intro a0 a1_0 a1_1 k
  unfold laws_FnExactPutPair.f
  refine LeO.bind (laws_szForkS.mono _ _ _) fun n => LeO.ite (LeO.refl _) ?_
  refine LeO.bind (LeO.refl _) fun n2 => LeO.ite (LeO.refl _) ?_
  refine LeO.bind (LeO.refl _) fun y => ?_
  refine LeO.bind (laws_toForkS.mono _ _) fun p => LeO.bind (spec_PutPair.mono _ _ _ _) fun sw => LeO.bind (impl_PutPair.mono _ _ _ _) fun gi => ?_
  refine LeO.bind (laws_eqForkS.mono _ _ _) fun b0 => LeO.bind (laws_eqForkS.mono _ _ _) fun b1 => LeO.bind (laws_markForkS.mono _ _ _) fun mx => ?_
  exact LeO.bind (laws_markForkS.mono _ _ _) fun mg => LeO.bind (laws_heldForkS.mono _ _ _) fun q => LeO.refl _
def laws_FnExactPutPair.T8 : Bool × List (List Nat × List Nat) := (true, [([], []), ([0], [0]), ([], []), ([2, 1], [2]), ([1, 3, 3], [1, 3]), ([4], [4]), ([5], [5]), ([5], [5]), ([6, 4, 0, 1, 2, 3, 4, 5, 6], [6]), ([7, 8, 0, 1, 2, 3, 4, 5, 6, 7, 8], [7])])
def laws_FnExactPutPair.B8 : List Nat := [0, 1, 0, 7, 15, 31, 63, 63, 127, 511]
theorem laws_FnExactPutPair.tab8 : rtab .any (opsOf Try.f7 8) = laws_FnExactPutPair.T8 := by kernel_rfl
theorem laws_FnExactPutPair.bits8 : waitsOk laws_FnExactPutPair.T8.2 laws_FnExactPutPair.B8 = true := by kernel_rfl
def laws_FnExactPutPair.T27 : Bool × List (List Nat × List Nat) := (true, [([], []), ([0], [0]), ([], []), ([2, 1], [2]), ([1, 3, 3], [1, 3]), ([4], [4]), ([5], [5]), ([5], [5]), ([6, 4, 0, 1, 2, 3, 4, 5, 6], [6]), ([7, 8, 0, 1, 2, 3, 4, 5, 6, 7, 8], [7])])
def laws_FnExactPutPair.B27 : List Nat := [0, 1, 0, 7, 15, 31, 63, 63, 127, 511]
theorem laws_FnExactPutPair.tab27 : rtab .any (opsOf Try.f7 27) = laws_FnExactPutPair.T27 := by kernel_rfl
theorem laws_FnExactPutPair.bits27 : waitsOk laws_FnExactPutPair.T27.2 laws_FnExactPutPair.B27 = true := by kernel_rfl
set_option maxHeartbeats 16000000 in
set_option maxRecDepth 100000 in
theorem laws_FnExactPutPair.calls (k : Nat) (A0 : Option Addr) (c0 : Nat) (l0 : List S71) (a1_0 : ByteArray) (a1_1 : Int) (r : Bool) (w : World) (hr_ : r = true) (hr0 : Kd.C k71 w A0 l0.length l0) (hc0 : l0.length ≤ c0) (h : laws_FnExactPutPair.f k l0 a1_0 a1_1 = some r) :
    Calls Try.prog 7 #[.slice A0 l0.length c0, .agg #[.string a1_0, .int .i64 a1_1]] w fun e w' => e = .returned (.bool r) ∧ Below w.heap.size w w' := by
  have hu48 := Try.underlying48
  have hu51 := Try.underlying51
  have hu74 := Try.underlying74
  subst hr_
  have HR0 := Aside0.mk hr0
  have HC0 := Aside0.mk hc0
  have HB := Aside0.mk (Below.refl w.heap.size w)
  have TOKb : Aside0 True := ⟨trivial⟩
  clear hr0 hc0
  unfold laws_FnExactPutPair.f at h
  obtain ⟨n, hn, h⟩ := Option.bind_eq_some_iff.mp h
  have A2 := Aside0.mk hn
  clear hn
  by_cases c3 : n < 0
  · have c3b0 : decide (n < 0) = true := decide_eq_true c3
    clear h c3
    go_enter Try.func7, Try.ntmps7
    go_wp2_with (first | (have tq_ := TOKb; clear tq_ TOKb; (with_reducible refine gate_dst (N := 3) rfl ?_); refine box_event ?hg (N := 3) ?hd (cs := #[.string a1_0, .int .i64 a1_1]) (t := 48) ?hr ?_; (case hd => rfl); (case hg => rfl); (case hr => first | (go_simp; done) | (go_simp; rfl)); intro gb hg wb hbox hb; have m0_ := Aside0.mk (below_step HB.out hb); have BK := Aside0.mk hbox; clear HB; have HB := m0_; clear m0_ hb hg hbox; have hcA : wb.cell? ⟨gb, 0, none⟩ = some (.string a1_0) := (blk_cell BK.out 0).trans rfl; have hcB : wb.cell? ⟨gb, 1, none⟩ = some (.int .i64 a1_1) := (blk_cell BK.out 1).trans rfl; have hfA := blk_frozen BK.out 0; have hfB := blk_frozen BK.out 1; have TOK0 : Aside0 True := ⟨trivial⟩) | (have tq_ := TOK0; clear tq_ TOK0; (with_reducible refine gate_callee (f := 11) rfl ?_); refine goesL_ (some 18) rfl rfl Try.func11 (by kernel_rfl) rfl #[.slice A0 l0.length c0, .int .i64 1048576] rfl (by (try simp only [List.map_toArray, List.map_cons, List.map_nil]); first | done | rfl) ?_; have hcall := laws_szForkS.calls k _ _ l0 1048576 n _ (Kd.C_below HR0.out HB.out) HC0.out A2.out; refine hcall.mono ?_; clear hcall; rintro e w1 ⟨rfl, hb⟩; refine ⟨_, rfl, ?_⟩; have m0_ := Aside0.mk (below_step HB.out hb); have m1_ := Aside0.mk (blk_below BK.out hb); (try clear hcA hcB hfA hfB); (try clear HB); (try clear BK); have HB := m0_; have BK := m1_; clear m0_ m1_; have hcA : w1.cell? ⟨gb, 0, none⟩ = some (.string a1_0) := (blk_cell BK.out 0).trans rfl; have hcB : w1.cell? ⟨gb, 1, none⟩ = some (.int .i64 a1_1) := (blk_cell BK.out 1).trans rfl; have hfA := blk_frozen BK.out 0; have hfB := blk_frozen BK.out 1; clear hb; have TOK1 : Aside0 True := ⟨trivial⟩))
    go_ret
    exact ⟨rfl, HB.out⟩
  rw [if_neg c3] at h
  have c3b0 : decide (n < 0) = false := decide_eq_false c3
  clear c3
  obtain ⟨n2, hn2, h⟩ := Option.bind_eq_some_iff.mp h
  have A3 := Aside0.mk hn2
  clear hn2
  by_cases c4 : n2 < 0
  · have c4b0 : decide (n2 < 0) = true := decide_eq_true c4
    clear h c4
    go_enter Try.func7, Try.ntmps7
    go_wp2_with (first | (have tq_ := TOKb; clear tq_ TOKb; (with_reducible refine gate_dst (N := 3) rfl ?_); refine box_event ?hg (N := 3) ?hd (cs := #[.string a1_0, .int .i64 a1_1]) (t := 48) ?hr ?_; (case hd => rfl); (case hg => rfl); (case hr => first | (go_simp; done) | (go_simp; rfl)); intro gb hg wb hbox hb; have m0_ := Aside0.mk (below_step HB.out hb); have BK := Aside0.mk hbox; clear HB; have HB := m0_; clear m0_ hb hg hbox; have hcA : wb.cell? ⟨gb, 0, none⟩ = some (.string a1_0) := (blk_cell BK.out 0).trans rfl; have hcB : wb.cell? ⟨gb, 1, none⟩ = some (.int .i64 a1_1) := (blk_cell BK.out 1).trans rfl; have hfA := blk_frozen BK.out 0; have hfB := blk_frozen BK.out 1; have TOK0 : Aside0 True := ⟨trivial⟩) | (have tq_ := TOK0; clear tq_ TOK0; (with_reducible refine gate_callee (f := 11) rfl ?_); refine goesL_ (some 18) rfl rfl Try.func11 (by kernel_rfl) rfl #[.slice A0 l0.length c0, .int .i64 1048576] rfl (by (try simp only [List.map_toArray, List.map_cons, List.map_nil]); first | done | rfl) ?_; have hcall := laws_szForkS.calls k _ _ l0 1048576 n _ (Kd.C_below HR0.out HB.out) HC0.out A2.out; refine hcall.mono ?_; clear hcall; rintro e w1 ⟨rfl, hb⟩; refine ⟨_, rfl, ?_⟩; have m0_ := Aside0.mk (below_step HB.out hb); have m1_ := Aside0.mk (blk_below BK.out hb); (try clear hcA hcB hfA hfB); (try clear HB); (try clear BK); have HB := m0_; have BK := m1_; clear m0_ m1_; have hcA : w1.cell? ⟨gb, 0, none⟩ = some (.string a1_0) := (blk_cell BK.out 0).trans rfl; have hcB : w1.cell? ⟨gb, 1, none⟩ = some (.int .i64 a1_1) := (blk_cell BK.out 1).trans rfl; have hfA := blk_frozen BK.out 0; have hfB := blk_frozen BK.out 1; clear hb; have TOK1 : Aside0 True := ⟨trivial⟩) | (have tq_ := TOK1; clear tq_ TOK1; (with_reducible refine gate_callee (f := 32) rfl ?_); refine goesL_ (some 23) rfl rfl Try.func32 (by kernel_rfl) rfl #[.agg #[.string a1_0, .int .i64 a1_1], .int .i64 n] rfl (by (try simp only [List.map_toArray, List.map_cons, List.map_nil]); first | done | rfl) ?_; have hcall := laws_szPair.calls a1_0 a1_1 n n2 w1 A3.out; refine hcall.mono ?_; clear hcall; rintro e w2 ⟨rfl, hb⟩; refine ⟨_, rfl, ?_⟩; have m0_ := Aside0.mk (below_step HB.out hb); have m1_ := Aside0.mk (blk_below BK.out hb); (try clear hcA hcB hfA hfB); (try clear HB); (try clear BK); have HB := m0_; have BK := m1_; clear m0_ m1_; have hcA : w2.cell? ⟨gb, 0, none⟩ = some (.string a1_0) := (blk_cell BK.out 0).trans rfl; have hcB : w2.cell? ⟨gb, 1, none⟩ = some (.int .i64 a1_1) := (blk_cell BK.out 1).trans rfl; have hfA := blk_frozen BK.out 0; have hfB := blk_frozen BK.out 1; clear hb; have TOK2 : Aside0 True := ⟨trivial⟩))
    go_ret
    exact ⟨rfl, HB.out⟩
  rw [if_neg c4] at h
  have c4b0 : decide (n2 < 0) = false := decide_eq_false c4
  clear c4
  obtain ⟨⟨y1, y2⟩, hy, h⟩ := Option.bind_eq_some_iff.mp h
  have A4 := Aside0.mk hy
  clear hy
  obtain ⟨p, hp, h⟩ := Option.bind_eq_some_iff.mp h
  obtain ⟨⟨s1, s2⟩, hs, h⟩ := Option.bind_eq_some_iff.mp h
  obtain ⟨⟨g1, g2⟩, hg, h⟩ := Option.bind_eq_some_iff.mp h
  obtain ⟨b0, he, h⟩ := Option.bind_eq_some_iff.mp h
  obtain ⟨b1, hx, h⟩ := Option.bind_eq_some_iff.mp h
  obtain ⟨⟨m1, m2⟩, hm, h⟩ := Option.bind_eq_some_iff.mp h
  obtain ⟨⟨f1, f2⟩, hf, h⟩ := Option.bind_eq_some_iff.mp h
  obtain ⟨q, hq, h⟩ := Option.bind_eq_some_iff.mp h
  by_cases hall : b0 = true ∧ g2 = s2 ∧ b1 = true ∧ 0 ≤ m1 ∧ 0 ≤ q ∧ q = f1
  rotate_left
  · rw [if_neg hall] at h; cases h
  clear h
  obtain ⟨rfl, rfl, rfl, hm0, hq0, rfl⟩ := hall
  have ZP := Aside0.mk hp
  have ZS := Aside0.mk hs
  have ZG := Aside0.mk hg
  have ZE := Aside0.mk he
  have ZX := Aside0.mk hx
  have ZM := Aside0.mk hm
  have ZF := Aside0.mk hf
  have ZQ := Aside0.mk hq
  have hmb : decide (m1 < 0) = false := decide_eq_false (by omega)
  have hqb : decide (q < 0) = false := decide_eq_false (by omega)
  have hqq : (q != q) = false := bne_self_eq_false _
  have hn0 : (g2 != g2) = false := bne_self_eq_false _
  clear hm0 hq0 hp hs hg he hx hm hf hq
  go_enter Try.func7, Try.ntmps7
  go_wp2_with (first | (have tq_ := TOKb; clear tq_ TOKb; (with_reducible refine gate_dst (N := 3) rfl ?_); refine box_event ?hg (N := 3) ?hd (cs := #[.string a1_0, .int .i64 a1_1]) (t := 48) ?hr ?_; (case hd => rfl); (case hg => rfl); (case hr => first | (go_simp; done) | (go_simp; rfl)); intro gb hg wb hbox hb; have m0_ := Aside0.mk (below_step HB.out hb); have BK := Aside0.mk hbox; clear HB; have HB := m0_; clear m0_ hb hg hbox; have hcA : wb.cell? ⟨gb, 0, none⟩ = some (.string a1_0) := (blk_cell BK.out 0).trans rfl; have hcB : wb.cell? ⟨gb, 1, none⟩ = some (.int .i64 a1_1) := (blk_cell BK.out 1).trans rfl; have hfA := blk_frozen BK.out 0; have hfB := blk_frozen BK.out 1; have TOK0 : Aside0 True := ⟨trivial⟩) | (have tq_ := TOK0; clear tq_ TOK0; (with_reducible refine gate_callee (f := 11) rfl ?_); refine goesL_ (some 18) rfl rfl Try.func11 (by kernel_rfl) rfl #[.slice A0 l0.length c0, .int .i64 1048576] rfl (by (try simp only [List.map_toArray, List.map_cons, List.map_nil]); first | done | rfl) ?_; have hcall := laws_szForkS.calls k _ _ l0 1048576 n _ (Kd.C_below HR0.out HB.out) HC0.out A2.out; refine hcall.mono ?_; clear hcall; rintro e w1 ⟨rfl, hb⟩; refine ⟨_, rfl, ?_⟩; have m0_ := Aside0.mk (below_step HB.out hb); have m1_ := Aside0.mk (blk_below BK.out hb); (try clear hcA hcB hfA hfB); (try clear HB); (try clear BK); have HB := m0_; have BK := m1_; clear m0_ m1_; have hcA : w1.cell? ⟨gb, 0, none⟩ = some (.string a1_0) := (blk_cell BK.out 0).trans rfl; have hcB : w1.cell? ⟨gb, 1, none⟩ = some (.int .i64 a1_1) := (blk_cell BK.out 1).trans rfl; have hfA := blk_frozen BK.out 0; have hfB := blk_frozen BK.out 1; clear hb; have TOK1 : Aside0 True := ⟨trivial⟩) | (have tq_ := TOK1; clear tq_ TOK1; (with_reducible refine gate_callee (f := 32) rfl ?_); refine goesL_ (some 23) rfl rfl Try.func32 (by kernel_rfl) rfl #[.agg #[.string a1_0, .int .i64 a1_1], .int .i64 n] rfl (by (try simp only [List.map_toArray, List.map_cons, List.map_nil]); first | done | rfl) ?_; have hcall := laws_szPair.calls a1_0 a1_1 n n2 w1 A3.out; refine hcall.mono ?_; clear hcall; rintro e w2 ⟨rfl, hb⟩; refine ⟨_, rfl, ?_⟩; have m0_ := Aside0.mk (below_step HB.out hb); have m1_ := Aside0.mk (blk_below BK.out hb); (try clear hcA hcB hfA hfB); (try clear HB); (try clear BK); have HB := m0_; have BK := m1_; clear m0_ m1_; have hcA : w2.cell? ⟨gb, 0, none⟩ = some (.string a1_0) := (blk_cell BK.out 0).trans rfl; have hcB : w2.cell? ⟨gb, 1, none⟩ = some (.int .i64 a1_1) := (blk_cell BK.out 1).trans rfl; have hfA := blk_frozen BK.out 0; have hfB := blk_frozen BK.out 1; clear hb; have TOK2 : Aside0 True := ⟨trivial⟩))
  have m0_ := Aside0.mk (blk_drew BK.out)
  have m1_ := Aside0.mk (below_drew1 HB.out)
  clear BK HB
  (try clear hcA hcB hfA hfB)
  clear TOK2
  have BK := m0_
  have HB := m1_
  clear m0_ m1_
  refine start_ (n := 10) (S := fun w' => w'.cell? ⟨gb, 0, none⟩ = some (.string a1_0) ∧ w'.cell? ⟨gb, 1, none⟩ = some (.int .i64 a1_1)) (ds := []) #[false, false, false, false, false, false, false, false, false, false] (by kernel_rfl) rfl rfl ⟨(blk_cell BK.out 0).trans rfl, (blk_cell BK.out 1).trans rfl⟩ (fun hHeld => ?_); refine with_tabW laws_FnExactPutPair.tab8 laws_FnExactPutPair.bits8 (fun HT_ HW_ => ?_)
  generalize w2.drew = wd8 at BK HB hHeld ⊢
  refine pure_ (i := 0) (N := some 27) (v := ?_) (a' := ?_) #[true, false, false, false, false, false, false, false, false, false] rfl rfl (any_of HT_.out (by kernel_rfl)) (fun _ _ _ h => h) (Or.inl ⟨by rfl, ?_⟩) ?_ ?_
  rotate_left
  · intro w'
    go_simp
    with_reducible rfl
  rotate_left
  · simp only [Act.put, List.setIfInBounds_toArray, List.set_cons_zero, List.set_cons_succ, i64_w, i32_w]
    rfl
  refine take_ (i := 2) (N := some 29) (v := ?_) (a' := ?_) #[true, false, true, false, false, false, false, false, false, false] rfl rfl (take_ofW HT_.out HW_.out (by kernel_rfl)) (fun _ _ _ h => h) (Or.inl ⟨by rfl, ?_⟩) hHeld ?_ ?_
  rotate_left
  · rintro w' ⟨s0, s1⟩
    go_simp
    with_reducible rfl
  rotate_left
  · simp only [Act.put, List.setIfInBounds_toArray, List.set_cons_zero, List.set_cons_succ, i64_w, i32_w]
    rfl
  refine one_ (i := 1) (N := some 28) #[true, true, true, false, false, false, false, false, false, false] rfl rfl (one_of HT_.out (by kernel_rfl)) (by decide) (fun K hK => ?_)
  refine goes_ Try.func13 (by kernel_rfl) rfl #[.slice A0 l0.length c0] (by rfl) rfl rfl (by (try simp only [List.map_toArray, List.map_cons, List.map_nil]); first | done | rfl) ?_
  have hcall := laws_toForkS.calls k _ _ l0 p _ (Kd.C_below HR0.out HB.out) HC0.out ZP.out
  refine hcall.mono ?_
  clear hcall
  rintro e w3 ⟨v_P, rfl, ho, hb⟩
  refine ⟨_, rfl, ?_⟩
  have m0_ := Aside0.mk (below_step HB.out hb); have m1_ := Aside0.mk (blk_below BK.out hb); have m2_ := Aside0.mk (show SI k74 74 w.heap.size wd8.heap.size w3.heap.size w3 v_P p from SI.new ho (below_size HB.out)); have m3_ := Aside0.mk (show gb < wd8.heap.size from blk_lt BK.out); (try clear hcA hcB hfA hfB); (try clear HB); (try clear BK); (try clear HP); (try clear DB_P); have HB := m0_; have BK := m1_; have HP := m2_; have DB_P := m3_; clear m0_ m1_ m2_ m3_; have hcA : w3.cell? ⟨gb, 0, none⟩ = some (.string a1_0) := (blk_cell BK.out 0).trans rfl; have hcB : w3.cell? ⟨gb, 1, none⟩ = some (.int .i64 a1_1) := (blk_cell BK.out 1).trans rfl; have hfA := blk_frozen BK.out 0; have hfB := blk_frozen BK.out 1; clear hb ho; obtain ⟨A_P, c_P, rfl⟩ := HP.out.slice
  refine hK.out _ _ ⟨(blk_cell BK.out 0).trans rfl, (blk_cell BK.out 1).trans rfl⟩ (fun hHeld => ?_)
  clear hK K
  refine norm_ (a' := ?_) ?_ ?_
  rotate_left
  · show Act.put _ (some 28) _ = _
    simp only [Act.put, List.setIfInBounds_toArray, List.set_cons_zero, List.set_cons_succ, i64_w, i32_w]
    rfl
  refine one_ (i := 3) (N := some 30) #[true, true, true, true, false, false, false, false, false, false] rfl rfl (one_of HT_.out (by kernel_rfl)) (by decide) (fun K hK => ?_)
  refine goes_ Try.func34 (by kernel_rfl) rfl #[.agg #[.string a1_0, .int .i64 a1_1]] (by rfl) rfl rfl (by (try simp only [List.map_toArray, List.map_cons, List.map_nil]); first | done | rfl) ?_
  have hcall := laws_toPair.calls a1_0 a1_1 y1 y2 w3 A4.out
  refine hcall.mono ?_
  clear hcall
  rintro e w4 ⟨rfl, hb⟩
  refine ⟨_, rfl, ?_⟩
  have m0_ := Aside0.mk (below_step HB.out hb); have m1_ := Aside0.mk (blk_below BK.out hb); have m2_ := Aside0.mk (HP.out.below hb); (try clear hcA hcB hfA hfB); (try clear HB); (try clear BK); (try clear HP); have HB := m0_; have BK := m1_; have HP := m2_; clear m0_ m1_ m2_; have hcA : w4.cell? ⟨gb, 0, none⟩ = some (.string a1_0) := (blk_cell BK.out 0).trans rfl; have hcB : w4.cell? ⟨gb, 1, none⟩ = some (.int .i64 a1_1) := (blk_cell BK.out 1).trans rfl; have hfA := blk_frozen BK.out 0; have hfB := blk_frozen BK.out 1; clear hb
  refine hK.out _ _ ⟨(blk_cell BK.out 0).trans rfl, (blk_cell BK.out 1).trans rfl⟩ (fun hHeld => ?_)
  clear hK K
  refine norm_ (a' := ?_) ?_ ?_
  rotate_left
  · show Act.put _ (some 30) _ = _
    simp only [Act.put, List.setIfInBounds_toArray, List.set_cons_zero, List.set_cons_succ, i64_w, i32_w]
    rfl
  refine one_ (i := 4) (N := some 31) #[true, true, true, true, true, false, false, false, false, false] rfl rfl (one_of HT_.out (by kernel_rfl)) (by decide) (fun K hK => ?_)
  refine goes_ Try.func33 (by kernel_rfl) rfl #[.slice A_P p.length c_P, .agg #[.string y1, .int .i64 y2]] (by rfl) rfl rfl (by (try simp only [List.map_toArray, List.map_cons, List.map_nil]); first | done | rfl) ?_
  have hcall := spec_PutPair.calls k _ _ p y1 y2 s1 g2 _ HP.out.reads.2.2 HP.out.le ZS.out
  refine hcall.mono ?_
  clear hcall
  rintro e w5 ⟨v_S, rfl, ho, hb⟩
  refine ⟨_, rfl, ?_⟩
  have m0_ := Aside0.mk (below_step HB.out hb); have m1_ := Aside0.mk (blk_below BK.out hb); have m2_ := Aside0.mk (show SI k74 74 w.heap.size w4.heap.size w5.heap.size w5 v_S s1 from SI.new ho (below_size HB.out)); have m3_ := Aside0.mk (show gb < w4.heap.size from blk_lt BK.out); (try clear hcA hcB hfA hfB); (try clear HB); (try clear BK); (try clear HS); (try clear DB_S); (try clear HP); have HB := m0_; have BK := m1_; have HS := m2_; have DB_S := m3_; clear m0_ m1_ m2_ m3_; have hcA : w5.cell? ⟨gb, 0, none⟩ = some (.string a1_0) := (blk_cell BK.out 0).trans rfl; have hcB : w5.cell? ⟨gb, 1, none⟩ = some (.int .i64 a1_1) := (blk_cell BK.out 1).trans rfl; have hfA := blk_frozen BK.out 0; have hfB := blk_frozen BK.out 1; clear hb ho; obtain ⟨A_S, c_S, rfl⟩ := HS.out.slice
  refine hK.out _ _ ⟨(blk_cell BK.out 0).trans rfl, (blk_cell BK.out 1).trans rfl⟩ (fun hHeld => ?_)
  clear hK K
  refine norm_ (a' := ?_) ?_ ?_
  rotate_left
  · show Act.put _ (some 31) _ = _
    simp only [Act.put, List.setIfInBounds_toArray, List.set_cons_zero, List.set_cons_succ, i64_w, i32_w]
    rfl
  refine pure_ (i := 5) (N := some 26) (v := ?_) (a' := ?_) #[true, true, true, true, true, true, false, false, false, false] rfl rfl (any_of HT_.out (by kernel_rfl)) (fun _ _ _ h => h) (Or.inl ⟨by rfl, ?_⟩) ?_ ?_
  rotate_left
  · intro w'
    go_simp
    with_reducible rfl
  rotate_left
  · simp only [Act.put, List.setIfInBounds_toArray, List.set_cons_zero, List.set_cons_succ, i64_w, i32_w]
    rfl
  refine pure_ (i := 6) (N := some 32) (v := ?_) (a' := ?_) #[true, true, true, true, true, true, true, false, false, false] rfl rfl (any_of HT_.out (by kernel_rfl)) (fun _ _ _ h => h) (Or.inl ⟨by rfl, ?_⟩) ?_ ?_
  rotate_left
  · intro w'
    go_simp
    with_reducible rfl
  rotate_left
  · simp only [Act.put, List.setIfInBounds_toArray, List.set_cons_zero, List.set_cons_succ, i64_w, i32_w]
    rfl
  refine pure_ (i := 7) (N := some 33) (v := ?_) (a' := ?_) #[true, true, true, true, true, true, true, true, false, false] rfl rfl (any_of HT_.out (by kernel_rfl)) (fun _ _ _ h => h) (Or.inl ⟨by rfl, ?_⟩) ?_ ?_
  rotate_left
  · intro w'
    go_simp
    with_reducible rfl
  rotate_left
  · simp only [Act.put, List.setIfInBounds_toArray, List.set_cons_zero, List.set_cons_succ, i64_w, i32_w]
    rfl
  refine pure_ (i := 8) (N := some 6) (v := ?_) (a' := ?_) #[true, true, true, true, true, true, true, true, true, false] rfl rfl (any_of HT_.out (by kernel_rfl)) (fun _ _ _ h => h) (Or.inl ⟨by rfl, ?_⟩) ?_ ?_
  rotate_left
  · intro w'
    go_simp
    with_reducible rfl
  rotate_left
  · simp only [Act.put, List.setIfInBounds_toArray, List.set_cons_zero, List.set_cons_succ, i64_w, i32_w]
    rfl
  refine pure_ (i := 9) (N := some 7) (v := ?_) (a' := ?_) #[true, true, true, true, true, true, true, true, true, true] rfl rfl (any_of HT_.out (by kernel_rfl)) (fun _ _ _ h => h) (Or.inl ⟨by rfl, ?_⟩) ?_ ?_
  rotate_left
  · intro w'
    go_simp
    with_reducible rfl
  rotate_left
  · simp only [Act.put, List.setIfInBounds_toArray, List.set_cons_zero, List.set_cons_succ, i64_w, i32_w]
    rfl
  refine done_ (done_of HT_.out (by kernel_rfl)) ?_
  (try simp only [Act.put, List.setIfInBounds_toArray, List.set_cons_zero, List.set_cons_succ])
  have TOK5 : Aside0 True := ⟨trivial⟩
  go_wp2_with (first | (have tq_ := TOK5; clear tq_ TOK5; (with_reducible refine gate_callee (f := 13) rfl ?_); refine goesL_ (some 35) rfl rfl Try.func13 (by kernel_rfl) rfl #[.slice A0 l0.length c0] rfl (by (try simp only [List.map_toArray, List.map_cons, List.map_nil]); first | done | rfl) ?_; have hcall := laws_toForkS.calls k _ _ l0 p _ (Kd.C_below HR0.out HB.out) HC0.out ZP.out; refine hcall.mono ?_; clear hcall; rintro e w6 ⟨v_X, rfl, ho, hb⟩; refine ⟨_, rfl, ?_⟩; have m0_ := Aside0.mk (below_step HB.out hb); have m1_ := Aside0.mk (blk_below BK.out hb); have m2_ := Aside0.mk (HS.out.below hb); have m3_ := Aside0.mk (show SI k74 74 w.heap.size w5.heap.size w6.heap.size w6 v_X p from SI.new ho (below_size HB.out)); have m4_ := Aside0.mk (show w5.heap.size ≤ w5.heap.size from HS.out.2.2); have m5_ := Aside0.mk (show gb < w5.heap.size from blk_lt BK.out); (try clear hcA hcB hfA hfB); (try clear HB); (try clear BK); (try clear HS); (try clear HX); (try clear D_S_X); (try clear DB_X); have HB := m0_; have BK := m1_; have HS := m2_; have HX := m3_; have D_S_X := m4_; have DB_X := m5_; clear m0_ m1_ m2_ m3_ m4_ m5_; have hcA : w6.cell? ⟨gb, 0, none⟩ = some (.string a1_0) := (blk_cell BK.out 0).trans rfl; have hcB : w6.cell? ⟨gb, 1, none⟩ = some (.int .i64 a1_1) := (blk_cell BK.out 1).trans rfl; have hfA := blk_frozen BK.out 0; have hfB := blk_frozen BK.out 1; clear hb ho; obtain ⟨A_X, c_X, rfl⟩ := HX.out.slice; have TOK6 : Aside0 True := ⟨trivial⟩) | (have tq_ := TOK6; clear tq_ TOK6; (with_reducible refine gate_callee (f := 34) rfl ?_); refine goesL_ (some 39) rfl rfl Try.func34 (by kernel_rfl) rfl #[.agg #[.string a1_0, .int .i64 a1_1]] rfl (by (try simp only [List.map_toArray, List.map_cons, List.map_nil]); first | done | rfl) ?_; have hcall := laws_toPair.calls a1_0 a1_1 y1 y2 w6 A4.out; refine hcall.mono ?_; clear hcall; rintro e w7 ⟨rfl, hb⟩; refine ⟨_, rfl, ?_⟩; have m0_ := Aside0.mk (below_step HB.out hb); have m1_ := Aside0.mk (blk_below BK.out hb); have m2_ := Aside0.mk (HS.out.below hb); have m3_ := Aside0.mk (HX.out.below hb); (try clear hcA hcB hfA hfB); (try clear HB); (try clear BK); (try clear HS); (try clear HX); have HB := m0_; have BK := m1_; have HS := m2_; have HX := m3_; clear m0_ m1_ m2_ m3_; have hcA : w7.cell? ⟨gb, 0, none⟩ = some (.string a1_0) := (blk_cell BK.out 0).trans rfl; have hcB : w7.cell? ⟨gb, 1, none⟩ = some (.int .i64 a1_1) := (blk_cell BK.out 1).trans rfl; have hfA := blk_frozen BK.out 0; have hfB := blk_frozen BK.out 1; clear hb; have TOK7 : Aside0 True := ⟨trivial⟩) | (have tq_ := TOK7; clear tq_ TOK7; (with_reducible refine gate_callee (f := 35) rfl ?_); refine goesL_ (some 40) rfl rfl Try.func35 (by kernel_rfl) rfl #[.slice A_X p.length c_X, .agg #[.string y1, .int .i64 y2]] rfl (by (try simp only [List.map_toArray, List.map_cons, List.map_nil]); first | done | rfl) ?_; have hcall := impl_PutPair.calls k _ _ p y1 y2 g1 g2 _ HX.out.reads.2.2 HX.out.le ZG.out; refine hcall.mono ?_; clear hcall; rintro e w8 ⟨v_G, rfl, ho, hb⟩; refine ⟨_, rfl, ?_⟩; have m0_ := Aside0.mk (below_step HB.out hb); have m1_ := Aside0.mk (blk_below BK.out hb); have m2_ := Aside0.mk (HS.out.below hb); have m3_ := Aside0.mk (HX.out.below hb); have m4_ := Aside0.mk (show SI k74 74 w.heap.size w7.heap.size w8.heap.size w8 v_G g1 from SI.new ho (below_size HB.out)); have m5_ := Aside0.mk (show w5.heap.size ≤ w7.heap.size from HS.out.2.2); have m6_ := Aside0.mk (show w6.heap.size ≤ w7.heap.size from HX.out.2.2); have m7_ := Aside0.mk (show gb < w7.heap.size from blk_lt BK.out); (try clear hcA hcB hfA hfB); (try clear HB); (try clear BK); (try clear HS); (try clear HX); (try clear HG); (try clear D_S_G); (try clear D_X_G); (try clear DB_G); have HB := m0_; have BK := m1_; have HS := m2_; have HX := m3_; have HG := m4_; have D_S_G := m5_; have D_X_G := m6_; have DB_G := m7_; clear m0_ m1_ m2_ m3_ m4_ m5_ m6_ m7_; have hcA : w8.cell? ⟨gb, 0, none⟩ = some (.string a1_0) := (blk_cell BK.out 0).trans rfl; have hcB : w8.cell? ⟨gb, 1, none⟩ = some (.int .i64 a1_1) := (blk_cell BK.out 1).trans rfl; have hfA := blk_frozen BK.out 0; have hfB := blk_frozen BK.out 1; clear hb ho; obtain ⟨A_G, c_G, rfl⟩ := HG.out.slice; have TOK8 : Aside0 True := ⟨trivial⟩) | (have tq_ := TOK8; clear tq_ TOK8; (with_reducible refine gate_callee (f := 15) rfl ?_); refine goesL_ (some 45) rfl rfl Try.func15 (by kernel_rfl) rfl #[.slice A_G g1.length c_G, .slice A_S s1.length c_S] rfl (by (try simp only [List.map_toArray, List.map_cons, List.map_nil]); first | done | rfl) ?_; have hcall := laws_eqForkS.calls k _ _ g1 _ _ s1 true _ HG.out.reads.2.2 HG.out.le HS.out.reads.2.2 HS.out.le ZE.out; refine hcall.mono ?_; clear hcall; rintro e w9 ⟨rfl, hb⟩; refine ⟨_, rfl, ?_⟩; have m0_ := Aside0.mk (below_step HB.out hb); have m1_ := Aside0.mk (blk_below BK.out hb); have m2_ := Aside0.mk (HS.out.below hb); have m3_ := Aside0.mk (HX.out.below hb); have m4_ := Aside0.mk (HG.out.below hb); (try clear hcA hcB hfA hfB); (try clear HB); (try clear BK); (try clear HS); (try clear HX); (try clear HG); have HB := m0_; have BK := m1_; have HS := m2_; have HX := m3_; have HG := m4_; clear m0_ m1_ m2_ m3_ m4_; have hcA : w9.cell? ⟨gb, 0, none⟩ = some (.string a1_0) := (blk_cell BK.out 0).trans rfl; have hcB : w9.cell? ⟨gb, 1, none⟩ = some (.int .i64 a1_1) := (blk_cell BK.out 1).trans rfl; have hfA := blk_frozen BK.out 0; have hfB := blk_frozen BK.out 1; clear hb; have TOK9 : Aside0 True := ⟨trivial⟩) | (have tq_ := TOK9; clear tq_ TOK9; (with_reducible refine gate_callee (f := 13) rfl ?_); refine goesL_ (some 54) rfl rfl Try.func13 (by kernel_rfl) rfl #[.slice A0 l0.length c0] rfl (by (try simp only [List.map_toArray, List.map_cons, List.map_nil]); first | done | rfl) ?_; have hcall := laws_toForkS.calls k _ _ l0 p _ (Kd.C_below HR0.out HB.out) HC0.out ZP.out; refine hcall.mono ?_; clear hcall; rintro e w10 ⟨v_Y, rfl, ho, hb⟩; refine ⟨_, rfl, ?_⟩; have m0_ := Aside0.mk (below_step HB.out hb); have m1_ := Aside0.mk (blk_below BK.out hb); have m2_ := Aside0.mk (HS.out.below hb); have m3_ := Aside0.mk (HX.out.below hb); have m4_ := Aside0.mk (HG.out.below hb); have m5_ := Aside0.mk (show SI k74 74 w.heap.size w9.heap.size w10.heap.size w10 v_Y p from SI.new ho (below_size HB.out)); have m6_ := Aside0.mk (show w5.heap.size ≤ w9.heap.size from HS.out.2.2); have m7_ := Aside0.mk (show w6.heap.size ≤ w9.heap.size from HX.out.2.2); have m8_ := Aside0.mk (show w8.heap.size ≤ w9.heap.size from HG.out.2.2); have m9_ := Aside0.mk (show gb < w9.heap.size from blk_lt BK.out); (try clear hcA hcB hfA hfB); (try clear HB); (try clear BK); (try clear HS); (try clear HX); (try clear HG); (try clear HY); (try clear D_S_Y); (try clear D_X_Y); (try clear D_G_Y); (try clear DB_Y); have HB := m0_; have BK := m1_; have HS := m2_; have HX := m3_; have HG := m4_; have HY := m5_; have D_S_Y := m6_; have D_X_Y := m7_; have D_G_Y := m8_; have DB_Y := m9_; clear m0_ m1_ m2_ m3_ m4_ m5_ m6_ m7_ m8_ m9_; have hcA : w10.cell? ⟨gb, 0, none⟩ = some (.string a1_0) := (blk_cell BK.out 0).trans rfl; have hcB : w10.cell? ⟨gb, 1, none⟩ = some (.int .i64 a1_1) := (blk_cell BK.out 1).trans rfl; have hfA := blk_frozen BK.out 0; have hfB := blk_frozen BK.out 1; clear hb ho; obtain ⟨A_Y, c_Y, rfl⟩ := HY.out.slice; have TOK10 : Aside0 True := ⟨trivial⟩) | (have tq_ := TOK10; clear tq_ TOK10; (with_reducible refine gate_callee (f := 15) rfl ?_); refine goesL_ (some 55) rfl rfl Try.func15 (by kernel_rfl) rfl #[.slice A_X p.length c_X, .slice A_Y p.length c_Y] rfl (by (try simp only [List.map_toArray, List.map_cons, List.map_nil]); first | done | rfl) ?_; have hcall := laws_eqForkS.calls k _ _ p _ _ p true _ HX.out.reads.2.2 HX.out.le HY.out.reads.2.2 HY.out.le ZX.out; refine hcall.mono ?_; clear hcall; rintro e w11 ⟨rfl, hb⟩; refine ⟨_, rfl, ?_⟩; have m0_ := Aside0.mk (below_step HB.out hb); have m1_ := Aside0.mk (blk_below BK.out hb); have m2_ := Aside0.mk (HS.out.below hb); have m3_ := Aside0.mk (HX.out.below hb); have m4_ := Aside0.mk (HG.out.below hb); (try clear hcA hcB hfA hfB); (try clear HB); (try clear BK); (try clear HS); (try clear HX); (try clear HG); (try clear HY); have HB := m0_; have BK := m1_; have HS := m2_; have HX := m3_; have HG := m4_; clear m0_ m1_ m2_ m3_ m4_; have hcA : w11.cell? ⟨gb, 0, none⟩ = some (.string a1_0) := (blk_cell BK.out 0).trans rfl; have hcB : w11.cell? ⟨gb, 1, none⟩ = some (.int .i64 a1_1) := (blk_cell BK.out 1).trans rfl; have hfA := blk_frozen BK.out 0; have hfB := blk_frozen BK.out 1; clear hb; have TOK11 : Aside0 True := ⟨trivial⟩) | (have tq_ := TOK11; clear tq_ TOK11; (with_reducible refine gate_callee (f := 22) rfl ?_); refine goesL_ (some 59) rfl rfl Try.func22 (by kernel_rfl) rfl #[.slice A_X p.length c_X, .int .i64 1] rfl (by (try simp only [List.map_toArray, List.map_cons, List.map_nil]); first | done | rfl) ?_; have hcall := laws_markForkS.run k (fun k_ => w5.heap.size ≤ k_ ∧ k_ < w6.heap.size) (.slice A_X p.length c_X) p 1 m1 m2 w _ HB.out HX.out.1 ZM.out; refine hcall.mono ?_; clear hcall; rintro e w12 ⟨rfl, hr, hb, hkp⟩; refine ⟨_, rfl, ?_⟩; have m0_ := Aside0.mk (hb); have m1_ := Aside0.mk (blk_kept BK.out hkp (fun hk => Nat.not_le.2 DB_X.out hk.1)); have m2_ := Aside0.mk (HS.out.kept hkp (fun k hk => .inr (Nat.le_trans D_S_X.out hk.1))); have m3_ := Aside0.mk (HX.out.over hr hkp.1); have m4_ := Aside0.mk (HG.out.kept hkp (fun k hk => .inl (Nat.lt_of_lt_of_le hk.2 D_X_G.out))); (try clear hcA hcB hfA hfB); (try clear HB); (try clear BK); (try clear HS); (try clear HX); (try clear HG); have HB := m0_; have BK := m1_; have HS := m2_; have HX := m3_; have HG := m4_; clear m0_ m1_ m2_ m3_ m4_; have hcA : w12.cell? ⟨gb, 0, none⟩ = some (.string a1_0) := (blk_cell BK.out 0).trans rfl; have hcB : w12.cell? ⟨gb, 1, none⟩ = some (.int .i64 a1_1) := (blk_cell BK.out 1).trans rfl; have hfA := blk_frozen BK.out 0; have hfB := blk_frozen BK.out 1; clear hb hr hkp; have TOK12 : Aside0 True := ⟨trivial⟩) | (have tq_ := TOK12; clear tq_ TOK12; go_at_call 15; have hcall := laws_eqForkS.calls k _ _ g1 _ _ s1 true _ HG.out.reads.2.2 HG.out.le HS.out.reads.2.2 HS.out.le ZE.out; refine hcall.mono ?_; clear hcall; rintro e w13 ⟨rfl, hb⟩; have m0_ := Aside0.mk (below_step HB.out hb); have m1_ := Aside0.mk (blk_below BK.out hb); have m2_ := Aside0.mk (HS.out.below hb); have m3_ := Aside0.mk (HG.out.below hb); (try clear hcA hcB hfA hfB); (try clear HB); (try clear BK); (try clear HS); (try clear HG); (try clear HX); have HB := m0_; have BK := m1_; have HS := m2_; have HG := m3_; clear m0_ m1_ m2_ m3_; have hcA : w13.cell? ⟨gb, 0, none⟩ = some (.string a1_0) := (blk_cell BK.out 0).trans rfl; have hcB : w13.cell? ⟨gb, 1, none⟩ = some (.int .i64 a1_1) := (blk_cell BK.out 1).trans rfl; have hfA := blk_frozen BK.out 0; have hfB := blk_frozen BK.out 1; clear hb; have TOK13 : Aside0 True := ⟨trivial⟩) | (have tq_ := TOK13; clear tq_ TOK13; (with_reducible refine gate_callee (f := 22) rfl ?_); refine goesL_ (some 75) rfl rfl Try.func22 (by kernel_rfl) rfl #[.slice A_G g1.length c_G, .int .i64 1] rfl (by (try simp only [List.map_toArray, List.map_cons, List.map_nil]); first | done | rfl) ?_; have hcall := laws_markForkS.run k (fun k_ => w7.heap.size ≤ k_ ∧ k_ < w8.heap.size) (.slice A_G g1.length c_G) g1 1 q f2 w _ HB.out HG.out.1 ZF.out; refine hcall.mono ?_; clear hcall; rintro e w14 ⟨rfl, hr, hb, hkp⟩; refine ⟨_, rfl, ?_⟩; have m0_ := Aside0.mk (hb); have m1_ := Aside0.mk (blk_kept BK.out hkp (fun hk => Nat.not_le.2 DB_G.out hk.1)); have m2_ := Aside0.mk (HS.out.kept hkp (fun k hk => .inr (Nat.le_trans D_S_G.out hk.1))); have m3_ := Aside0.mk (HG.out.over hr hkp.1); (try clear hcA hcB hfA hfB); (try clear HB); (try clear BK); (try clear HS); (try clear HG); have HB := m0_; have BK := m1_; have HS := m2_; have HG := m3_; clear m0_ m1_ m2_ m3_; have hcA : w14.cell? ⟨gb, 0, none⟩ = some (.string a1_0) := (blk_cell BK.out 0).trans rfl; have hcB : w14.cell? ⟨gb, 1, none⟩ = some (.int .i64 a1_1) := (blk_cell BK.out 1).trans rfl; have hfA := blk_frozen BK.out 0; have hfB := blk_frozen BK.out 1; clear hb hr hkp; have TOK14 : Aside0 True := ⟨trivial⟩) | (have tq_ := TOK14; clear tq_ TOK14; (with_reducible refine gate_callee (f := 23) rfl ?_); refine goesL_ (some 78) rfl rfl Try.func23 (by kernel_rfl) rfl #[.slice A_G g1.length c_G, .int .i64 1] rfl (by (try simp only [List.map_toArray, List.map_cons, List.map_nil]); first | done | rfl) ?_; have hcall := laws_heldForkS.calls k _ _ f2 1 q _ HG.out.reads.2.2 HG.out.le ZQ.out; rw [← HG.out.reads.1] at hcall; refine hcall.mono ?_; clear hcall; rintro e w15 ⟨rfl, hb⟩; refine ⟨_, rfl, ?_⟩; have m0_ := Aside0.mk (below_step HB.out hb); have m1_ := Aside0.mk (blk_below BK.out hb); have m2_ := Aside0.mk (HS.out.below hb); have m3_ := Aside0.mk (HG.out.below hb); (try clear hcA hcB hfA hfB); (try clear HB); (try clear BK); (try clear HS); (try clear HG); have HB := m0_; have BK := m1_; have HS := m2_; have HG := m3_; clear m0_ m1_ m2_ m3_; have hcA : w15.cell? ⟨gb, 0, none⟩ = some (.string a1_0) := (blk_cell BK.out 0).trans rfl; have hcB : w15.cell? ⟨gb, 1, none⟩ = some (.int .i64 a1_1) := (blk_cell BK.out 1).trans rfl; have hfA := blk_frozen BK.out 0; have hfB := blk_frozen BK.out 1; clear hb; have TOK15 : Aside0 True := ⟨trivial⟩))
  have m0_ := Aside0.mk (blk_drew BK.out)
  have m1_ := Aside0.mk (below_drew1 HB.out)
  have m2_ := Aside0.mk (HS.out.drew)
  have m3_ := Aside0.mk (HG.out.drew)
  clear BK HB HS HG
  (try clear hcA hcB hfA hfB)
  clear TOK15
  have BK := m0_
  have HB := m1_
  have HS := m2_
  have HG := m3_
  clear m0_ m1_ m2_ m3_
  refine start_ (n := 10) (S := fun w' => w'.cell? ⟨gb, 0, none⟩ = some (.string a1_0) ∧ w'.cell? ⟨gb, 1, none⟩ = some (.int .i64 a1_1)) (ds := []) #[false, false, false, false, false, false, false, false, false, false] (by kernel_rfl) rfl rfl ⟨(blk_cell BK.out 0).trans rfl, (blk_cell BK.out 1).trans rfl⟩ (fun hHeld => ?_); refine with_tabW laws_FnExactPutPair.tab27 laws_FnExactPutPair.bits27 (fun HT_ HW_ => ?_)
  generalize w15.drew = wd27 at BK HB HS HG hHeld ⊢
  refine pure_ (i := 0) (N := some 85) (v := ?_) (a' := ?_) #[true, false, false, false, false, false, false, false, false, false] rfl rfl (any_of HT_.out (by kernel_rfl)) (fun _ _ _ h => h) (Or.inl ⟨by rfl, ?_⟩) ?_ ?_
  rotate_left
  · intro w'
    go_simp
    with_reducible rfl
  rotate_left
  · simp only [Act.put, List.setIfInBounds_toArray, List.set_cons_zero, List.set_cons_succ, i64_w, i32_w]
    rfl
  refine take_ (i := 2) (N := some 87) (v := ?_) (a' := ?_) #[true, false, true, false, false, false, false, false, false, false] rfl rfl (take_ofW HT_.out HW_.out (by kernel_rfl)) (fun _ _ _ h => h) (Or.inl ⟨by rfl, ?_⟩) hHeld ?_ ?_
  rotate_left
  · rintro w' ⟨s0, s1⟩
    go_simp
    with_reducible rfl
  rotate_left
  · simp only [Act.put, List.setIfInBounds_toArray, List.set_cons_zero, List.set_cons_succ, i64_w, i32_w]
    rfl
  refine one_ (i := 1) (N := some 86) #[true, true, true, false, false, false, false, false, false, false] rfl rfl (one_of HT_.out (by kernel_rfl)) (by decide) (fun K hK => ?_)
  refine goes_ Try.func13 (by kernel_rfl) rfl #[.slice A0 l0.length c0] (by rfl) rfl rfl (by (try simp only [List.map_toArray, List.map_cons, List.map_nil]); first | done | rfl) ?_
  have hcall := laws_toForkS.calls k _ _ l0 p _ (Kd.C_below HR0.out HB.out) HC0.out ZP.out
  refine hcall.mono ?_
  clear hcall
  rintro e w16 ⟨v_K, rfl, ho, hb⟩
  refine ⟨_, rfl, ?_⟩
  have m0_ := Aside0.mk (below_step HB.out hb); have m1_ := Aside0.mk (blk_below BK.out hb); have m2_ := Aside0.mk (HS.out.below hb); have m3_ := Aside0.mk (HG.out.below hb); have m4_ := Aside0.mk (show SI k74 74 w.heap.size wd27.heap.size w16.heap.size w16 v_K p from SI.new ho (below_size HB.out)); have m5_ := Aside0.mk (show w5.heap.size ≤ wd27.heap.size from HS.out.2.2); have m6_ := Aside0.mk (show w8.heap.size ≤ wd27.heap.size from HG.out.2.2); have m7_ := Aside0.mk (show gb < wd27.heap.size from blk_lt BK.out); (try clear hcA hcB hfA hfB); (try clear HB); (try clear BK); (try clear HS); (try clear HG); (try clear HK); (try clear D_S_K); (try clear D_G_K); (try clear DB_K); have HB := m0_; have BK := m1_; have HS := m2_; have HG := m3_; have HK := m4_; have D_S_K := m5_; have D_G_K := m6_; have DB_K := m7_; clear m0_ m1_ m2_ m3_ m4_ m5_ m6_ m7_; have hcA : w16.cell? ⟨gb, 0, none⟩ = some (.string a1_0) := (blk_cell BK.out 0).trans rfl; have hcB : w16.cell? ⟨gb, 1, none⟩ = some (.int .i64 a1_1) := (blk_cell BK.out 1).trans rfl; have hfA := blk_frozen BK.out 0; have hfB := blk_frozen BK.out 1; clear hb ho; obtain ⟨A_K, c_K, rfl⟩ := HK.out.slice
  refine hK.out _ _ ⟨(blk_cell BK.out 0).trans rfl, (blk_cell BK.out 1).trans rfl⟩ (fun hHeld => ?_)
  clear hK K
  refine norm_ (a' := ?_) ?_ ?_
  rotate_left
  · show Act.put _ (some 86) _ = _
    simp only [Act.put, List.setIfInBounds_toArray, List.set_cons_zero, List.set_cons_succ, i64_w, i32_w]
    rfl
  refine one_ (i := 3) (N := some 88) #[true, true, true, true, false, false, false, false, false, false] rfl rfl (one_of HT_.out (by kernel_rfl)) (by decide) (fun K hK => ?_)
  refine goes_ Try.func34 (by kernel_rfl) rfl #[.agg #[.string a1_0, .int .i64 a1_1]] (by rfl) rfl rfl (by (try simp only [List.map_toArray, List.map_cons, List.map_nil]); first | done | rfl) ?_
  have hcall := laws_toPair.calls a1_0 a1_1 y1 y2 w16 A4.out
  refine hcall.mono ?_
  clear hcall
  rintro e w17 ⟨rfl, hb⟩
  refine ⟨_, rfl, ?_⟩
  have m0_ := Aside0.mk (below_step HB.out hb); have m1_ := Aside0.mk (blk_below BK.out hb); have m2_ := Aside0.mk (HS.out.below hb); have m3_ := Aside0.mk (HG.out.below hb); have m4_ := Aside0.mk (HK.out.below hb); (try clear hcA hcB hfA hfB); (try clear HB); (try clear BK); (try clear HS); (try clear HG); (try clear HK); have HB := m0_; have BK := m1_; have HS := m2_; have HG := m3_; have HK := m4_; clear m0_ m1_ m2_ m3_ m4_; have hcA : w17.cell? ⟨gb, 0, none⟩ = some (.string a1_0) := (blk_cell BK.out 0).trans rfl; have hcB : w17.cell? ⟨gb, 1, none⟩ = some (.int .i64 a1_1) := (blk_cell BK.out 1).trans rfl; have hfA := blk_frozen BK.out 0; have hfB := blk_frozen BK.out 1; clear hb
  refine hK.out _ _ ⟨(blk_cell BK.out 0).trans rfl, (blk_cell BK.out 1).trans rfl⟩ (fun hHeld => ?_)
  clear hK K
  refine norm_ (a' := ?_) ?_ ?_
  rotate_left
  · show Act.put _ (some 88) _ = _
    simp only [Act.put, List.setIfInBounds_toArray, List.set_cons_zero, List.set_cons_succ, i64_w, i32_w]
    rfl
  refine one_ (i := 4) (N := some 89) #[true, true, true, true, true, false, false, false, false, false] rfl rfl (one_of HT_.out (by kernel_rfl)) (by decide) (fun K hK => ?_)
  refine goes_ Try.func35 (by kernel_rfl) rfl #[.slice A_K p.length c_K, .agg #[.string y1, .int .i64 y2]] (by rfl) rfl rfl (by (try simp only [List.map_toArray, List.map_cons, List.map_nil]); first | done | rfl) ?_
  have hcall := impl_PutPair.calls k _ _ p y1 y2 g1 g2 _ HK.out.reads.2.2 HK.out.le ZG.out
  refine hcall.mono ?_
  clear hcall
  rintro e w18 ⟨v_H, rfl, ho, hb⟩
  refine ⟨_, rfl, ?_⟩
  have m0_ := Aside0.mk (below_step HB.out hb); have m1_ := Aside0.mk (blk_below BK.out hb); have m2_ := Aside0.mk (HS.out.below hb); have m3_ := Aside0.mk (HG.out.below hb); have m4_ := Aside0.mk (show SI k74 74 w.heap.size w17.heap.size w18.heap.size w18 v_H g1 from SI.new ho (below_size HB.out)); have m5_ := Aside0.mk (show w5.heap.size ≤ w17.heap.size from HS.out.2.2); have m6_ := Aside0.mk (show w8.heap.size ≤ w17.heap.size from HG.out.2.2); have m7_ := Aside0.mk (show gb < w17.heap.size from blk_lt BK.out); (try clear hcA hcB hfA hfB); (try clear HB); (try clear BK); (try clear HS); (try clear HG); (try clear HH); (try clear D_S_H); (try clear D_G_H); (try clear DB_H); (try clear HK); have HB := m0_; have BK := m1_; have HS := m2_; have HG := m3_; have HH := m4_; have D_S_H := m5_; have D_G_H := m6_; have DB_H := m7_; clear m0_ m1_ m2_ m3_ m4_ m5_ m6_ m7_; have hcA : w18.cell? ⟨gb, 0, none⟩ = some (.string a1_0) := (blk_cell BK.out 0).trans rfl; have hcB : w18.cell? ⟨gb, 1, none⟩ = some (.int .i64 a1_1) := (blk_cell BK.out 1).trans rfl; have hfA := blk_frozen BK.out 0; have hfB := blk_frozen BK.out 1; clear hb ho; obtain ⟨A_H, c_H, rfl⟩ := HH.out.slice
  refine hK.out _ _ ⟨(blk_cell BK.out 0).trans rfl, (blk_cell BK.out 1).trans rfl⟩ (fun hHeld => ?_)
  clear hK K
  refine norm_ (a' := ?_) ?_ ?_
  rotate_left
  · show Act.put _ (some 89) _ = _
    simp only [Act.put, List.setIfInBounds_toArray, List.set_cons_zero, List.set_cons_succ, i64_w, i32_w]
    rfl
  refine pure_ (i := 5) (N := some 84) (v := ?_) (a' := ?_) #[true, true, true, true, true, true, false, false, false, false] rfl rfl (any_of HT_.out (by kernel_rfl)) (fun _ _ _ h => h) (Or.inl ⟨by rfl, ?_⟩) ?_ ?_
  rotate_left
  · intro w'
    go_simp
    with_reducible rfl
  rotate_left
  · simp only [Act.put, List.setIfInBounds_toArray, List.set_cons_zero, List.set_cons_succ, i64_w, i32_w]
    rfl
  refine pure_ (i := 6) (N := some 90) (v := ?_) (a' := ?_) #[true, true, true, true, true, true, true, false, false, false] rfl rfl (any_of HT_.out (by kernel_rfl)) (fun _ _ _ h => h) (Or.inl ⟨by rfl, ?_⟩) ?_ ?_
  rotate_left
  · intro w'
    go_simp
    with_reducible rfl
  rotate_left
  · simp only [Act.put, List.setIfInBounds_toArray, List.set_cons_zero, List.set_cons_succ, i64_w, i32_w]
    rfl
  refine pure_ (i := 7) (N := some 91) (v := ?_) (a' := ?_) #[true, true, true, true, true, true, true, true, false, false] rfl rfl (any_of HT_.out (by kernel_rfl)) (fun _ _ _ h => h) (Or.inl ⟨by rfl, ?_⟩) ?_ ?_
  rotate_left
  · intro w'
    go_simp
    with_reducible rfl
  rotate_left
  · simp only [Act.put, List.setIfInBounds_toArray, List.set_cons_zero, List.set_cons_succ, i64_w, i32_w]
    rfl
  refine pure_ (i := 8) (N := some 14) (v := ?_) (a' := ?_) #[true, true, true, true, true, true, true, true, true, false] rfl rfl (any_of HT_.out (by kernel_rfl)) (fun _ _ _ h => h) (Or.inl ⟨by rfl, ?_⟩) ?_ ?_
  rotate_left
  · intro w'
    go_simp
    with_reducible rfl
  rotate_left
  · simp only [Act.put, List.setIfInBounds_toArray, List.set_cons_zero, List.set_cons_succ, i64_w, i32_w]
    rfl
  refine pure_ (i := 9) (N := some 15) (v := ?_) (a' := ?_) #[true, true, true, true, true, true, true, true, true, true] rfl rfl (any_of HT_.out (by kernel_rfl)) (fun _ _ _ h => h) (Or.inl ⟨by rfl, ?_⟩) ?_ ?_
  rotate_left
  · intro w'
    go_simp
    with_reducible rfl
  rotate_left
  · simp only [Act.put, List.setIfInBounds_toArray, List.set_cons_zero, List.set_cons_succ, i64_w, i32_w]
    rfl
  refine done_ (done_of HT_.out (by kernel_rfl)) ?_
  (try simp only [Act.put, List.setIfInBounds_toArray, List.set_cons_zero, List.set_cons_succ])
  have TOK18 : Aside0 True := ⟨trivial⟩
  go_wp2_with (first | (have tq_ := TOK18; clear tq_ TOK18; (with_reducible refine gate_callee (f := 15) rfl ?_); refine goesL_ (some 94) rfl rfl Try.func15 (by kernel_rfl) rfl #[.slice A_H g1.length c_H, .slice A_S s1.length c_S] rfl (by (try simp only [List.map_toArray, List.map_cons, List.map_nil]); first | done | rfl) ?_; have hcall := laws_eqForkS.calls k _ _ g1 _ _ s1 true _ HH.out.reads.2.2 HH.out.le HS.out.reads.2.2 HS.out.le ZE.out; refine hcall.mono ?_; clear hcall; rintro e w19 ⟨rfl, hb⟩; refine ⟨_, rfl, ?_⟩; have m0_ := Aside0.mk (below_step HB.out hb); have m1_ := Aside0.mk (blk_below BK.out hb); have m2_ := Aside0.mk (HS.out.below hb); have m3_ := Aside0.mk (HG.out.below hb); (try clear hcA hcB hfA hfB); (try clear HB); (try clear BK); (try clear HS); (try clear HG); (try clear HH); have HB := m0_; have BK := m1_; have HS := m2_; have HG := m3_; clear m0_ m1_ m2_ m3_; have hcA : w19.cell? ⟨gb, 0, none⟩ = some (.string a1_0) := (blk_cell BK.out 0).trans rfl; have hcB : w19.cell? ⟨gb, 1, none⟩ = some (.int .i64 a1_1) := (blk_cell BK.out 1).trans rfl; have hfA := blk_frozen BK.out 0; have hfB := blk_frozen BK.out 1; clear hb; have TOK19 : Aside0 True := ⟨trivial⟩) | (have tq_ := TOK19; clear tq_ TOK19; (with_reducible refine gate_callee (f := 23) rfl ?_); refine goesL_ (some 103) rfl rfl Try.func23 (by kernel_rfl) rfl #[.slice A_G g1.length c_G, .int .i64 1] rfl (by (try simp only [List.map_toArray, List.map_cons, List.map_nil]); first | done | rfl) ?_; have hcall := laws_heldForkS.calls k _ _ f2 1 q _ HG.out.reads.2.2 HG.out.le ZQ.out; rw [← HG.out.reads.1] at hcall; refine hcall.mono ?_; clear hcall; rintro e w20 ⟨rfl, hb⟩; refine ⟨_, rfl, ?_⟩; have m0_ := Aside0.mk (below_step HB.out hb); have m1_ := Aside0.mk (blk_below BK.out hb); have m2_ := Aside0.mk (HS.out.below hb); have m3_ := Aside0.mk (HG.out.below hb); (try clear hcA hcB hfA hfB); (try clear HB); (try clear BK); (try clear HS); (try clear HG); have HB := m0_; have BK := m1_; have HS := m2_; have HG := m3_; clear m0_ m1_ m2_ m3_; have hcA : w20.cell? ⟨gb, 0, none⟩ = some (.string a1_0) := (blk_cell BK.out 0).trans rfl; have hcB : w20.cell? ⟨gb, 1, none⟩ = some (.int .i64 a1_1) := (blk_cell BK.out 1).trans rfl; have hfA := blk_frozen BK.out 0; have hfB := blk_frozen BK.out 1; clear hb; have TOK20 : Aside0 True := ⟨trivial⟩))
  go_ret
  exact ⟨by first | rfl | (simp; done), HB.out⟩

end
end Go.Proofs.Ytkkphbjemnifiaa.PFnExactPutPair
