-- Printed by wip/tools/patch_print.py; Lean checks it.
import Derived.Test.YtkfbdopfeacnfaaDoorPFnFieldsx0
import Derived.Test.YtkfbdopfeacnfaaDoorPFnFieldsx3
import Derived.Test.YtkfbdopfeacnfaaDoorPFnFieldsx4
import Derived.Test.YtkfbdopfeacnfaaDoorPFnFieldsx8
namespace Go.Proofs.YtkfbdopfeacnfaaDoor.PFnFields
open Go.RowKit Go.Proofs.YtkfbdopfeacnfaaDoorW.PrintWords Go.Proofs.YtkfbdopfeacnfaaDoorW.PrintLast Go.Proofs.YtkfbdopfeacnfaaDoorW.PrintMore
attribute [local go_sem] max2_int min2_int max_two min_two max_three min_three max_four min_four   -- for this text's walks alone
set_option linter.unusedVariables false
set_option linter.unusedSimpArgs false

noncomputable section
/-! ### spec_l7Flat: function 33 -/
section
variable {tv tp : Nat} {W W1 : World} {ok : Nat → Prop}
theorem IsT.typed : ∀ {d g : Nat} {t : T7}, IsT tv tp d W ok g t → IsT tv tp d W (fun k => ok k ∧ ∃ q, (q = tv ∨ q = tp) ∧ ∃ cells, W.heap[k]? = some (.cells cells q (0, 0))) g t
 | 0, _, _, h => h.elim
 | d + 1, g, t, ⟨h1, v, gs, h2, h3, h4, h5⟩ => ⟨⟨h1, tv, .inl rfl, _, h2⟩, v, gs, h2, Kd.R_mono (Kd.R_bound h3) (fun k hk => ⟨hk.1, by
   obtain ⟨_, _, _, q, hq, cells, hc⟩ := hk
   have : q = tp := by simpa [kp, Kd.scalar] using hq
   exact ⟨q, .inr this, cells, hc⟩⟩), h4, fun i g' t' a b => IsT.typed (h5 i g' t' a b)⟩
theorem IsT.over {d g e : Nat} {t : T7} {v : Value} (h : IsT tv tp d W ok g t) (hv : ∀ k, v.ownBlock = some k → ∃ cells, W.heap[k]? = some (.cells cells e (0, 0))) (h1 : tv ≠ e) (h2 : tp ≠ e) (hg : W.grownBy W1 v.ownBlock) : IsT tv tp d W1 ok g t :=
 (h.typed.step (fun k hk hlt => hg.block k hlt (fun e_ => by
  obtain ⟨_, q, hq, cells, hc⟩ := hk
  obtain ⟨cells', hc'⟩ := hv k e_.symm
  rw [hc] at hc'
  injection hc' with hc'
  injection hc' with _ hc' _
  rcases hq with rfl | rfl
  ·exact h1 hc'
  ·exact h2 hc'))).mono (fun _ hk => hk.1)
theorem IsF.over {d e : Nat} {gs : List Nat} {ts : List T7} {v : Value} (h : IsF tv tp d W ok gs ts) (hv : ∀ k, v.ownBlock = some k → ∃ cells, W.heap[k]? = some (.cells cells e (0, 0))) (h1 : tv ≠ e) (h2 : tp ≠ e) (hg : W.grownBy W1 v.ownBlock) : IsF tv tp d W1 ok gs ts := ⟨h.1, fun i g t a b => (h.2 i g t a b).over hv h1 h2 hg⟩
end
theorem grown_then {w w1 w2 : World} {r r1 : Option Nat} (h : w.grownBy w1 r) (h1 : w1.grownBy w2 r1) (ha : r1 = r ∨ ∃ b, r1 = some b ∧ w.heap.size ≤ b) : w.grownBy w2 r :=
 ⟨h1.os.trans h.os, h1.tape.trans h.tape, h1.output.trans h.output, Nat.le_trans h.size h1.size, fun k hk hne => (h1.block k (Nat.lt_of_lt_of_le hk h.size) (fun e => by
  rcases ha with rfl | ⟨b, rfl, hb⟩
  ·exact hne e
  ·injection e with e; omega)).trans (h.block k hk hne)⟩
theorem at_then {n m : Nat} {r r1 r2 : Option Nat} (hn : n ≤ m) (h : r1 = r ∨ ∃ b, r1 = some b ∧ n ≤ b) (h1 : r2 = r1 ∨ ∃ b, r2 = some b ∧ m ≤ b) : r2 = r ∨ ∃ b, r2 = some b ∧ n ≤ b := by
 rcases h1 with rfl | ⟨b, rfl, hb⟩
 ·exact h
 ·exact .inr ⟨b, rfl, Nat.le_trans hn hb⟩
mutual
def spec_l7Flat.f : Nat → T7 → List S61 → Option (List S61)
 | 0, _, _ => none
 | k + 1, t, out => if out.length < 1000000 ∧ t.kids.length < 1000000 then spec_l7Flat.l k t.kids (out ++ [t.x]) 0 else none
def spec_l7Flat.l : Nat → List T7 → List S61 → Int → Option (List S61)
 | 0, _, _, _ => none
 | k + 1, ks, out, i => if i < (ks.length : Int) then ks[i.toNat]?.bind fun t => (spec_l7Flat.f k t out).bind fun r => spec_l7Flat.l k ks r (i + 1) else some out
end
theorem spec_l7Flat.mono_l : ∀ k, (∀ t out, LeO (spec_l7Flat.f k t out) (spec_l7Flat.f (k + 1) t out)) ∧ (∀ ks out i, LeO (spec_l7Flat.l k ks out i) (spec_l7Flat.l (k + 1) ks out i))
 | 0 => ⟨fun _ _ r h => by simp [spec_l7Flat.f] at h, fun _ _ _ r h => by simp [spec_l7Flat.l] at h⟩
 | k + 1 => by
  obtain ⟨ih0, ih1⟩ := spec_l7Flat.mono_l k
  refine ⟨?_, ?_⟩
  ·intro t out
   rw [spec_l7Flat.f, spec_l7Flat.f]
   exact LeO.ite (ih1 _ _ _) (LeO.refl _)
  ·intro ks out i
   rw [spec_l7Flat.l, spec_l7Flat.l]
   exact LeO.ite (LeO.bind (LeO.refl _) fun t => LeO.bind (ih0 _ _) fun r => ih1 _ _ _) (LeO.refl _)
theorem spec_l7Flat.mono : ∀ t out k, LeO (spec_l7Flat.f k t out) (spec_l7Flat.f (k + 1) t out) := fun t out k => (spec_l7Flat.mono_l k).1 t out
set_option maxHeartbeats 16000000 in
set_option maxRecDepth 100000 in
theorem spec_l7Flat.run : ∀ (k : Nat) (t : T7) (out r : List S61), spec_l7Flat.f k t out = some r → ∀ (d g : Nat) (ok : Nat → Prop) (v : Value) (W0 w : World), Below W0.heap.size W0 w → IsT 72 52 d w ok g t → Kd.R k61 61 w W0.heap.size (fun _ => True) v out →
  Calls Tryd.prog 33 #[.pointer (some ⟨g, 0, none⟩), v] w fun e w' => ∃ v' : Value, e = .returned v' ∧ Kd.R k61 61 w' W0.heap.size (fun _ => True) v' r ∧ Below W0.heap.size W0 w' ∧ w.grownBy w' v.ownBlock ∧ (v'.ownBlock = v.ownBlock ∨ ∃ b, v'.ownBlock = some b ∧ w.heap.size ≤ b) := by
 intro k
 induction k using Nat.strongRecOn with
 | _ k IH =>
 intro t out r h d g ok v W0 w hB ht hO
 have hu61 := Tryd.underlying61
 have hu72 := Tryd.underlying72
 have hu52 := Tryd.underlying52
 have HB := Aside0.mk hB
 have HO := Aside0.mk hO
 have HIH := Aside0.mk IH
 clear IH hB hO
 cases k with
 | zero => rw [spec_l7Flat.f] at h; cases h
 | succ K =>
 rw [spec_l7Flat.f] at h
 by_cases c0 : out.length < 1000000 ∧ t.kids.length < 1000000
 rotate_left
 ·rw [if_neg c0] at h; cases h
 rw [if_pos c0] at h
 have HL0 := Aside0.mk c0
 clear c0
 obtain ⟨v1, gs, hblk, hR, hlen, d1, rfl, hF⟩ := ht.root
 obtain ⟨A1, c1, rfl⟩ := Kd.R_slice hR
 have hgl : t.kids.length = gs.length := hlen.symm
 obtain ⟨ks, hks⟩ : ∃ ks, ks = t.kids := ⟨_, rfl⟩
 rw [← hks] at h hgl hF HL0
 have HT := Aside0.mk ht
 have HR := Aside0.mk hR
 have HF := Aside0.mk hF
 have HGL := Aside0.mk hgl
 have HBLK := Aside0.mk hblk
 have HL := Aside0.mk h
 clear ht hR hF hlen hgl hblk h hks
 obtain ⟨A0, c0, rfl⟩ := Kd.R_slice HO.out
 have hc0 : w.cell? ⟨g, 0, none⟩ = some (.string t.x.f0) := (blk_cell HBLK.out 0).trans rfl
 have hc1 : w.cell? ⟨g, 1, none⟩ = some (.int .i64 t.x.f1) := (blk_cell HBLK.out 1).trans rfl
 have hc2 : w.cell? ⟨g, 2, none⟩ = some (.int .i64 t.x.f2) := (blk_cell HBLK.out 2).trans rfl
 have hc3 : w.cell? ⟨g, 3, none⟩ = some (.string t.x.f3) := (blk_cell HBLK.out 3).trans rfl
 have hc4 : w.cell? ⟨g, 4, none⟩ = some (.int .i64 t.x.f4) := (blk_cell HBLK.out 4).trans rfl
 have hc5 : w.cell? ⟨g, 5, none⟩ = some (.slice A1 gs.length c1) := (blk_cell HBLK.out 5).trans rfl
 go_enter Tryd.func33, Tryd.ntmps33
 go_wp2_with (first | ((with_reducible refine gate_builtin (b := .append) (xs := #[.tmp 7, .tmp 12]) rfl ?_); at_builtin; refine Kd.R_append k61 (w0 := W0) W0.heap.size rfl (.tmp 7) (.tmp 12) 22 61 _ 56 rfl Tryd.underlying22 info61 rfl (by decide) (by omega) (.slice A0 out.length c0) out t.x [.string t.x.f0, .int .i64 t.x.f1, .int .i64 t.x.f2, .string t.x.f3, .int .i64 t.x.f4] (fun _ => True) (fun _ => False) rfl rfl ?aP (fun _ h_ => h_.elim) (fun _ _ => trivial) ?aO ?aB ?aS ?aL ?_; (case aP => exact k61_mkM _ _ _ t.x); (case aO => exact (by (with_reducible repeat (first | apply Kd.R_alloc | apply Kd.R_drewN | apply Kd.R_drew)); exact HO.out)); (case aB => exact HB.out); (case aS => exact HB.out.size); (case aL => have := HL0.out.1; omega); intro v4 w4 ho hb hg hat; have m0_ := Aside0.mk hb; have m1_ := Aside0.mk ho; have m2_ := Aside0.mk (show w.grownBy w4 (Value.slice A0 out.length c0).ownBlock from hg); have m3_ := Aside0.mk (Kd.R_over' HR.out (Kd.R_typed HO.out) (by decide) hg); have m4_ := Aside0.mk (IsF.over HF.out (Kd.R_typed HO.out) (by decide) (by decide) hg); have m5_ := Aside0.mk (show v4.ownBlock = (Value.slice A0 out.length c0).ownBlock ∨ ∃ b, v4.ownBlock = some b ∧ w.heap.size ≤ b from hat); have m6_ := Aside0.mk (blk_grown HBLK.out hg (Kd.R_ne HO.out HBLK.out (by decide))); clear hc0 hc1 hc2 hc3 hc4 hc5 ho hb hg hat HB HO HR HF HBLK; have HB := m0_; have HO := m1_; have HG := m2_; have HR := m3_; have HF := m4_; have HA := m5_; have HBLK := m6_; clear m0_ m1_ m2_ m3_ m4_ m5_ m6_; have hc5 : w4.cell? ⟨g, 5, none⟩ = some (.slice A1 gs.length c1) := (blk_cell HBLK.out 5).trans rfl))
 clear hc5
 go_loopg [1, 19] K (fun kq v1_ v19 w' => ∃ (o : List S61) (i : Int), v19 = .int .i64 i ∧ Aside0 (spec_l7Flat.l kq ks o i = some r ∧ kq ≤ K ∧ 0 ≤ i) ∧ Aside0 (Below W0.heap.size W0 w') ∧ Aside0 (Kd.R k61 61 w' W0.heap.size (fun _ => True) v1_ o) ∧ Aside0 (w.grownBy w' (Value.slice A0 out.length c0).ownBlock) ∧ Aside0 (kp.R 52 w' 0 ok (.slice A1 gs.length c1) gs) ∧ Aside0 (IsF 72 52 d1 w' ok gs ks) ∧ Aside0 (v1_.ownBlock = (Value.slice A0 out.length c0).ownBlock ∨ ∃ b, v1_.ownBlock = some b ∧ w.heap.size ≤ b))
 case atStart => exact ⟨_, 0, rfl, ⟨HL.out, Nat.le_refl _, Int.le_refl _⟩, HB, HO, HG, HR, HF, HA⟩
 case round =>
  clear HL HB HO HG HR HF HA
  obtain ⟨o, i, rfl, HL, HB, HO, HG, HR, HF, HA⟩ := hrel
  obtain ⟨Ao, co, rfl⟩ := Kd.R_slice HO.out
  cases gk with
  | zero => have := HL.out.1; rw [spec_l7Flat.l] at this; cases this
  | succ m =>
   have h := HL.out.1
   rw [spec_l7Flat.l] at h
   by_cases c5 : i < (ks.length : Int)
   rotate_left
   ·rw [if_neg c5] at h
    have c5b0 : decide (i < (gs.length : Int)) = false := decide_eq_false (by rw [← HGL.out]; exact c5)
    injection h with h
    subst h
    clear c5
    go_wp2
    go_ret
    exact ⟨_, rfl, HO.out, HB.out, HG.out, HA.out⟩
   rw [if_pos c5] at h
   have c5b0 : decide (i < (gs.length : Int)) = true := decide_eq_true (by rw [← HGL.out]; exact c5)
   have hi0 : (0 ≤ i) = True := eq_true HL.out.2.2
   have hi1 : (i < (gs.length : Int)) = True := eq_true (by rw [← HGL.out]; exact c5)
   have hi2 : wrap64 (i + 1) = i + 1 := by unfold wrap64; have := HL.out.2.2; have := HL0.out; omega
   have hi3 : IntKind.i64.wrap (i + 1) = i + 1 := by rw [IntKind.wrap_i64]; have := HL.out.2.2; have := HL0.out; omega
   obtain ⟨u, hu, h⟩ := Option.bind_eq_some_iff.mp h
   obtain ⟨q, hq, h⟩ := Option.bind_eq_some_iff.mp h
   obtain ⟨gu, hgu⟩ : ∃ gu, gs[i.toNat]? = some gu := ⟨_, List.getElem?_eq_getElem (by have := HL.out.2.2; have := HGL.out; omega)⟩
   have HC := Aside0.mk (HIH.out m (by have := HL.out.2.1; omega) u o q hq d1 gu ok)
   have HU := Aside0.mk (HF.out.2 i.toNat gu u hgu hu)
   obtain ⟨ad, e0, hx0⟩ := kp_at HR.out hgu
   cases e0
   have HL2 := Aside0.mk (show spec_l7Flat.l m ks q (i + 1) = some r ∧ m ≤ K ∧ 0 ≤ i + 1 from ⟨h, by have := HL.out.2.1; omega, by have := HL.out.2.2; omega⟩)
   clear c5 hu hq hgu h
   go_wp2_with (first | ((with_reducible refine gate_callee (f := 33) rfl ?_); refine goesL_ (some 25) rfl rfl Tryd.func33 (by kernel_rfl) rfl #[.pointer (some ⟨gu, 0, none⟩), .slice Ao o.length co] rfl (by (try simp only [List.map_toArray, List.map_cons, List.map_nil]); first | done | rfl) ?_; (refine (HC.out _ W0 _ HB.out HU.out HO.out).mono ?_); rintro e w3 ⟨v3, rfl, ho, hb, hg, hat⟩; refine ⟨_, rfl, ?_⟩; have m0_ := Aside0.mk hb; have m1_ := Aside0.mk ho; have m2_ := Aside0.mk (grown_then HG.out hg HA.out); have m3_ := Aside0.mk (Kd.R_over' HR.out (Kd.R_typed HO.out) (by decide) hg); have m4_ := Aside0.mk (IsF.over HF.out (Kd.R_typed HO.out) (by decide) (by decide) hg); have m5_ := Aside0.mk (at_then HG.out.size HA.out hat); clear hx0 ho hb hg hat HB HO HG HR HF HA HU; have HB := m0_; have HO := m1_; have HG := m2_; have HR := m3_; have HF := m4_; have HA := m5_; clear m0_ m1_ m2_ m3_ m4_ m5_))
   go_roundg m
   case measure => have := HL2.out.2.1; omega
   case rel => exact ⟨q, i + 1, by first | rfl | (rw [hi2]; done) | (rw [hi3]; done), HL2, HB, HO, HG, HR, HF, HA⟩

/-! ### spec_FieldOf: function 21 -/
def spec_FieldOf.l : Nat → List T7 → ByteArray → Int → Option (List S61 × Bool)
 | 0, _, _, _ => none
 | k + 1, ks, key, i => if i < (ks.length : Int) then ks[i.toNat]?.bind fun t => if t.x.f0.toList = key.toList then (spec_l7Flat.f k (.mk { t.x with f0 := ⟨#[]⟩ } t.kids) []).bind fun o => some (o, true) else spec_FieldOf.l k ks key (i + 1) else some ([], false)
def spec_FieldOf.f (k : Nat) (l : List S61) (key : ByteArray) : Option (List S61 × Bool) :=
 (spec_l7Of.f k l).bind fun r => if r.2 = false then some ([], false) else r.1.bind fun t => if t.x.f1 = 7 then (if t.kids.length < 1000000 then spec_FieldOf.l k t.kids key 0 else none) else some ([], false)
theorem spec_FieldOf.mono_l : ∀ k ks key i, LeO (spec_FieldOf.l k ks key i) (spec_FieldOf.l (k + 1) ks key i)
 | 0, _, _, _ => fun r h => by simp [spec_FieldOf.l] at h
 | k + 1, ks, key, i => by
  rw [spec_FieldOf.l, spec_FieldOf.l]
  exact LeO.ite (LeO.bind (LeO.refl _) fun t => LeO.ite (LeO.bind (spec_l7Flat.mono _ _ _) fun o => LeO.refl _) (spec_FieldOf.mono_l k ks key _)) (LeO.refl _)
theorem spec_FieldOf.mono : ∀ l key k, LeO (spec_FieldOf.f k l key) (spec_FieldOf.f (k + 1) l key) := by
 intro l key k
 unfold spec_FieldOf.f
 exact LeO.bind (spec_l7Of.mono _ _) (fun r => LeO.ite (LeO.refl _) (LeO.bind (LeO.refl _) fun t => LeO.ite (LeO.ite (spec_FieldOf.mono_l _ _ _ _) (LeO.refl _)) (LeO.refl _)))
set_option maxHeartbeats 16000000 in
set_option maxRecDepth 100000 in
theorem spec_FieldOf.calls (k : Nat) (A0 : Option Addr) (c0 : Nat) (l : List S61) (key : ByteArray) (r1 : List S61) (r2 : Bool) (w : World) (hr0 : Kd.C k61 w A0 l.length l) (hc0 : l.length ≤ c0) (h : spec_FieldOf.f k l key = some (r1, r2)) :
  Calls Tryd.prog 21 #[.slice A0 l.length c0, .string key] w fun e w' => ∃ v0_ : Value, e = .returned (.tuple #[v0_, .bool r2]) ∧ Kd.R k61 61 w' w.heap.size (fun _ => True) v0_ r1 ∧ Below w.heap.size w w' := by
 have hu61 := Tryd.underlying61
 have hu72 := Tryd.underlying72
 have hu52 := Tryd.underlying52
 have HR0 := Aside0.mk hr0
 have HC0 := Aside0.mk hc0
 have HB := Aside0.mk (Below.refl w.heap.size w)
 clear hr0 hc0
 unfold spec_FieldOf.f at h
 obtain ⟨⟨t1, t2⟩, ht, h⟩ := Option.bind_eq_some_iff.mp h
 have HT := Aside0.mk ht
 clear ht
 cases t2 with
 | false =>
  injection h with h
  injection h with h1 h2
  subst h1
  subst h2
  go_enter Tryd.func21, Tryd.ntmps21
  go_wp2_with (first | (go_at_call 39; refine (spec_l7Of.run k l _ _ HT.out A0 c0 _ (Kd.C_below HR0.out HB.out) HC0.out).mono ?_; rintro e w3 ⟨v13, rfl, hp, hb⟩; (obtain ⟨kd, hkd⟩ : ∃ kd, kd = k := ⟨_, rfl⟩); rw [← hkd] at hp; clear hkd; have HP := Aside0.mk hp; have m0_ := Aside0.mk (below_step HB.out hb); clear hp HB hb; have HB := m0_; clear m0_))
  go_ret2
  exact ⟨_, rfl, Kd.R_nil _ _ _ _ _, HB.out⟩
 | true =>
 obtain ⟨t, e1, h9⟩ := Option.bind_eq_some_iff.mp h
 have e1 : t1 = some t := e1
 clear h
 subst e1
 have h := h9
 clear h9
 by_cases c1 : t.x.f1 = 7
 rotate_left
 ·rw [if_neg c1] at h
  have c1b0 : (t.x.f1 != 7) = true := bne_iff_ne.mpr c1
  injection h with h
  injection h with h1 h2
  subst h1
  subst h2
  clear c1
  go_enter Tryd.func21, Tryd.ntmps21
  go_wp2_with (first | (go_at_call 39; refine (spec_l7Of.run k l _ _ HT.out A0 c0 _ (Kd.C_below HR0.out HB.out) HC0.out).mono ?_; rintro e w3 ⟨v13, rfl, hp, hb⟩; (obtain ⟨kd, hkd⟩ : ∃ kd, kd = k := ⟨_, rfl⟩); rw [← hkd] at hp; clear hkd; have HP := Aside0.mk hp; have m0_ := Aside0.mk (below_step HB.out hb); clear hp HB hb; have HB := m0_; clear m0_; (obtain ⟨g, rfl, htt⟩ := HP.out); obtain ⟨vt, gs, hbt, hRt, hlt, d1, rfl, hFt⟩ := htt.root; (obtain ⟨A1, c1, rfl⟩ := Kd.R_slice hRt); have HBT := Aside0.mk hbt; have HR := Aside0.mk hRt; have HF := Aside0.mk hFt; have HGL := Aside0.mk hlt; clear htt hbt hRt hFt hlt; have hq1 : w3.cell? ⟨g, 1, none⟩ = some (.int .i64 t.x.f1) := (blk_cell HBT.out 1).trans rfl; have hq5 : w3.cell? ⟨g, 5, none⟩ = some (.slice A1 gs.length c1) := (blk_cell HBT.out 5).trans rfl))
  go_ret2
  exact ⟨_, rfl, Kd.R_nil _ _ _ _ _, HB.out⟩
 rw [if_pos c1] at h
 have c1b0 : (t.x.f1 != 7) = false := by simpa using c1
 clear c1
 by_cases c2 : t.kids.length < 1000000
 rotate_left
 ·rw [if_neg c2] at h; cases h
 rw [if_pos c2] at h
 have HLEN := Aside0.mk c2
 have HL := Aside0.mk h
 clear c2 h
 go_enter Tryd.func21, Tryd.ntmps21
 go_wp2_with (first | (go_at_call 39; refine (spec_l7Of.run k l _ _ HT.out A0 c0 _ (Kd.C_below HR0.out HB.out) HC0.out).mono ?_; rintro e w3 ⟨v13, rfl, hp, hb⟩; (obtain ⟨kd, hkd⟩ : ∃ kd, kd = k := ⟨_, rfl⟩); rw [← hkd] at hp; clear hkd; have HP := Aside0.mk hp; have m0_ := Aside0.mk (below_step HB.out hb); clear hp HB hb; have HB := m0_; clear m0_; (obtain ⟨g, rfl, htt⟩ := HP.out); obtain ⟨vt, gs, hbt, hRt, hlt, d1, rfl, hFt⟩ := htt.root; (obtain ⟨A1, c1, rfl⟩ := Kd.R_slice hRt); have HBT := Aside0.mk hbt; have HR := Aside0.mk hRt; have HF := Aside0.mk hFt; have HGL := Aside0.mk hlt; clear htt hbt hRt hFt hlt; have hq1 : w3.cell? ⟨g, 1, none⟩ = some (.int .i64 t.x.f1) := (blk_cell HBT.out 1).trans rfl; have hq5 : w3.cell? ⟨g, 5, none⟩ = some (.slice A1 gs.length c1) := (blk_cell HBT.out 5).trans rfl))
 clear hq1 hq5 c1b0 HP HBT
 go_loopg [31] k (fun kq v31 w' => ∃ (i : Int), v31 = .int .i64 i ∧ Aside0 (spec_FieldOf.l kq t.kids key i = some (r1, r2) ∧ kq ≤ k ∧ 0 ≤ i) ∧ Aside0 (Below w.heap.size w w') ∧ Aside0 (kp.R 52 w' 0 (fun _ => True) (.slice A1 gs.length c1) gs) ∧ Aside0 (IsF 72 52 d1 w' (fun _ => True) gs t.kids))
 case atStart => exact ⟨0, rfl, ⟨HL.out, Nat.le_refl _, Int.le_refl _⟩, HB, ⟨Kd.R_mono HR.out (fun _ _ => trivial)⟩, ⟨HF.out.mono (fun _ _ => trivial)⟩⟩
 case round =>
  clear HL HB HR HF
  obtain ⟨i, rfl, HL, HB, HR, HF⟩ := hrel
  cases gk with
  | zero => have := HL.out.1; rw [spec_FieldOf.l] at this; cases this
  | succ m =>
   have h := HL.out.1
   rw [spec_FieldOf.l] at h
   by_cases c5 : i < (t.kids.length : Int)
   rotate_left
   ·rw [if_neg c5] at h
    have c5b0 : decide (i < (gs.length : Int)) = false := decide_eq_false (by rw [HGL.out]; exact c5)
    injection h with h
    injection h with h1 h2
    subst h1
    subst h2
    clear c5
    go_wp2
    go_ret2
    exact ⟨_, rfl, Kd.R_nil _ _ _ _ _, HB.out⟩
   rw [if_pos c5] at h
   have c5b0 : decide (i < (gs.length : Int)) = true := decide_eq_true (by rw [HGL.out]; exact c5)
   have hi0 : (0 ≤ i) = True := eq_true HL.out.2.2
   have hi1 : (i < (gs.length : Int)) = True := eq_true (by rw [HGL.out]; exact c5)
   have hi2 : wrap64 (i + 1) = i + 1 := by unfold wrap64; have := HL.out.2.2; have := HLEN.out; omega
   have hi3 : IntKind.i64.wrap (i + 1) = i + 1 := by rw [IntKind.wrap_i64]; have := HL.out.2.2; have := HLEN.out; omega
   obtain ⟨u, hu, h⟩ := Option.bind_eq_some_iff.mp h
   obtain ⟨gu, hgu⟩ : ∃ gu, gs[i.toNat]? = some gu := ⟨_, List.getElem?_eq_getElem (by have := HL.out.2.2; have := HGL.out; omega)⟩
   obtain ⟨vu, gs2, hbu, hRu, hlu, d2, rfl, hFu⟩ := (HF.out.2 i.toNat gu u hgu hu).root
   obtain ⟨A2, c2, rfl⟩ := Kd.R_slice hRu
   have HBU := Aside0.mk hbu
   have HRU := Aside0.mk hRu
   have HFU := Aside0.mk hFu
   obtain ⟨ad, e0, hx0⟩ := kp_at HR.out hgu
   cases e0
   clear hbu hRu hFu hlu hu hgu c5
   have hc0 : wr.cell? ⟨gu, 0, none⟩ = some (.string u.x.f0) := (blk_cell HBU.out 0).trans rfl
   have hc1 : wr.cell? ⟨gu, 1, none⟩ = some (.int .i64 u.x.f1) := (blk_cell HBU.out 1).trans rfl
   have hc2 : wr.cell? ⟨gu, 2, none⟩ = some (.int .i64 u.x.f2) := (blk_cell HBU.out 2).trans rfl
   have hc3 : wr.cell? ⟨gu, 3, none⟩ = some (.string u.x.f3) := (blk_cell HBU.out 3).trans rfl
   have hc4 : wr.cell? ⟨gu, 4, none⟩ = some (.int .i64 u.x.f4) := (blk_cell HBU.out 4).trans rfl
   have hc5 : wr.cell? ⟨gu, 5, none⟩ = some (.slice A2 gs2.length c2) := (blk_cell HBU.out 5).trans rfl
   by_cases c6 : u.x.f0.toList = key.toList
   ·rw [if_pos c6] at h
    have c6b0 : (u.x.f0.toList == key.toList) = true := beq_iff_eq.mpr c6
    obtain ⟨o, ho, h⟩ := Option.bind_eq_some_iff.mp h
    injection h with h
    injection h with h1 h2
    subst h1
    subst h2
    have HFL := Aside0.mk ho
    clear ho c6
    go_wp2
    refine wp_region_still_tail 9 (by kernel_rfl) (by kernel_rfl) ?_
    simp only [List.take_succ_cons, List.take_zero, List.drop_succ_cons, List.drop_zero]
    change wpStill _ _ wr.drew (fun a' => wpList _ _ _ _ a' wr.drew) _ _
    have m0_ := Aside0.mk (below_drew1 HB.out)
    have m1_ := Aside0.mk (blk_drew HBU.out)
    have m2_ := Aside0.mk (Kd.R_drew HRU.out)
    have m3_ := Aside0.mk (HFU.out.drew)
    clear HB HBU HRU HFU hc0 hc1 hc2 hc3 hc4 hc5 hx0
    generalize wr.drew = w6 at m0_ m1_ m2_ m3_ ⊢
    have HB := m0_
    have HBU := m1_
    have HRU := m2_
    have HFU := m3_
    clear m0_ m1_ m2_ m3_
    have hc0 : w6.cell? ⟨gu, 0, none⟩ = some (.string u.x.f0) := (blk_cell HBU.out 0).trans rfl
    have hc1 : w6.cell? ⟨gu, 1, none⟩ = some (.int .i64 u.x.f1) := (blk_cell HBU.out 1).trans rfl
    have hc2 : w6.cell? ⟨gu, 2, none⟩ = some (.int .i64 u.x.f2) := (blk_cell HBU.out 2).trans rfl
    have hc3 : w6.cell? ⟨gu, 3, none⟩ = some (.string u.x.f3) := (blk_cell HBU.out 3).trans rfl
    have hc4 : w6.cell? ⟨gu, 4, none⟩ = some (.int .i64 u.x.f4) := (blk_cell HBU.out 4).trans rfl
    have hc5 : w6.cell? ⟨gu, 5, none⟩ = some (.slice A2 gs2.length c2) := (blk_cell HBU.out 5).trans rfl
    repeat still_step
    refine wpStill_nil ?_
    go_wp2_with (first | ((with_reducible refine gate_dst (N := 51) rfl ?_); refine box_event ?hg (N := 51) ?hd (cs := nodeC u.x (.slice A2 gs2.length c2)) (t := 72) ?hr ?_; (case hd => rfl); (case hg => rfl); (case hr => first | (go_simp; done) | (go_simp; rfl)); intro gb hg w2 hbox hb; have m0_ := Aside0.mk (below_step HB.out hb); have m1_ := Aside0.mk hbox; have m2_ := Aside0.mk (show w.heap.size ≤ gb from by rw [hg]; exact below_size HB.out); have m3_ := Aside0.mk (IsF.mono (IsF.below (IsF.bound HFU.out) hb) (ok' := fun k_ => k_ ≠ gb) (fun k_ hk_ => by rw [hg]; exact Nat.ne_of_lt hk_.2)); have m4_ := Aside0.mk (Kd.R_mono (Kd.R_below (Kd.R_bound HRU.out) hb) (ok' := fun k_ => k_ ≠ gb) (fun k_ hk_ => by rw [hg]; exact Nat.ne_of_lt hk_.2.2.1)); clear hc0 hc1 hc2 hc3 hc4 hc5 HB hb hg hbox HFU HRU HBU HR HF; have HB := m0_; have BV := m1_; have GE := m2_; have HFU := m3_; have HRU := m4_; clear m0_ m1_ m2_ m3_ m4_; have hb0 : w2.cell? ⟨gb, 0, none⟩ = some (.string u.x.f0) := (blk_cell BV.out 0).trans rfl; have hf0 := blk_frozen BV.out 0) | ((with_reducible refine gate_store (t := 9) (p := 55) rfl ?_); refine store_event (t := 9) (p := 55) (v := ?vo_) (w1 := (w2.setCell ⟨gb, 0, none⟩ (.string ⟨#[]⟩))) ?hg ?ho ?hn ?hr ?_; (case ho => rfl); (case hg => rfl); (case hn => rfl); (case hr => first | (go_simp; done) | (go_simp; rfl)); intro w5 hw; have m0_ := Aside0.mk (show Below w.heap.size w w5 from (by rw [hw]; exact below_set HB.out GE.out)); have m1_ := Aside0.mk (show w5.heap[gb]? = some (.cells (nodeC ({ u.x with f0 := ⟨#[]⟩ } : S61) (.slice A2 gs2.length c2)) 72 (0, 0)) from (by rw [hw]; exact (blk_put (cs' := nodeC ({ u.x with f0 := ⟨#[]⟩ } : S61) (.slice A2 gs2.length c2)) BV.out 0 (.string ⟨#[]⟩) rfl))); have m2_ := Aside0.mk (show kp.R 52 w5 0 (fun _ => True) (.slice A2 gs2.length c2) gs2 from (by rw [hw]; exact Kd.R_mono (Kd.R_far HRU.out (p := ⟨gb, 0, none⟩) (fun _ h_ => h_) _) (fun _ _ => trivial))); have m3_ := Aside0.mk (show IsF 72 52 d2 w5 (fun _ => True) gs2 u.kids from (by rw [hw]; exact (HFU.out.far (p := ⟨gb, 0, none⟩) (fun _ h_ => h_) _).mono (fun _ _ => trivial))); clear hb0 hf0 hw HB BV HRU HFU; have HB := m0_; have BV := m1_; have HRU := m2_; have HFU := m3_; clear m0_ m1_ m2_ m3_; have HTN := Aside0.mk (IsT.of_root (ok := fun _ => True) trivial BV.out HRU.out HFU.out)) | ((with_reducible refine gate_callee (f := 33) rfl ?_); refine goesL_ (some 57) rfl rfl Tryd.func33 (by kernel_rfl) rfl #[.pointer (some ⟨gb, 0, none⟩), .slice none 0 0] rfl (by (try simp only [List.map_toArray, List.map_cons, List.map_nil]); first | done | rfl) ?_; (refine (spec_l7Flat.run m _ _ _ HFL.out _ gb _ _ w _ HB.out HTN.out (Kd.R_nil _ _ _ _ _)).mono ?_); rintro e w9 ⟨v9, rfl, ho, hb, hg, hat⟩; refine ⟨_, rfl, ?_⟩; have HO := Aside0.mk ho; have m0_ := Aside0.mk hb; clear HB hb hg hat ho HTN BV; have HB := m0_; clear m0_))
    go_ret2
    exact ⟨_, rfl, HO.out, HB.out⟩
   ·rw [if_neg c6] at h
    have c6b0 : (u.x.f0.toList == key.toList) = false := beq_eq_false_iff_ne.mpr c6
    have HL2 := Aside0.mk (show spec_FieldOf.l m t.kids key (i + 1) = some (r1, r2) ∧ m ≤ k ∧ 0 ≤ i + 1 from ⟨h, by have := HL.out.2.1; omega, by have := HL.out.2.2; omega⟩)
    clear h c6
    go_wp2
    go_roundg m
    case measure => have := HL2.out.2.1; omega
    case rel => exact ⟨i + 1, by first | rfl | (rw [hi2]; done) | (rw [hi3]; done), HL2, HB, HR, HF⟩

/-! ### impl_Node: function 73 -/
def impl_Node.f (l0 : List (S61)) : Option (List (S61)) := if l0.length < 1000000000000 then some l0 else none
set_option maxHeartbeats 8000000 in
set_option maxRecDepth 100000 in
theorem impl_Node.calls (A0 : Option Addr) (c0 : Nat) (l0 : List (S61)) (r : List (S61)) (w : World) (hr0 : Kd.C k61 w A0 l0.length l0) (hc0 : l0.length ≤ c0) (h : impl_Node.f l0 = some r) :
  Calls Tryd.prog 73 #[.slice A0 l0.length c0] w fun e w' => ∃ v0_ : Value, e = .returned (v0_) ∧ Kd.R k61 61 w' w.heap.size (fun _ => True) v0_ r ∧ Below w.heap.size w w' := by
 have q70 : ∀ (w : World) (a : Option Addr) (n c n' c' : Nat), (binOp .eql 22 (.slice a n c) (.slice none n' c')).run Tryd.prog w = .ok (.bool a.isNone) w := fun w a n c n' c' => Lib.run_eql_slice_nil w _ _ a n c n' c' Tryd.underlying22
 unfold impl_Node.f at h
 by_cases hl : l0.length < 1000000000000
 ·rw [if_pos hl] at h
  obtain rfl := Option.some.inj h
  have HR0 := Aside0.mk hr0
  have HL := Aside0.mk hl
  have HB := Aside0.mk (Below.refl w.heap.size w)
  clear hl h hc0
  cases A0 with
  | none =>
   have hz : l0.length = 0 := by
    rcases Nat.eq_zero_or_pos l0.length with h | h
    ·exact h
    ·obtain ⟨ad, e, _⟩ := hr0.2.2 h
     cases e
   obtain rfl : l0 = [] := List.eq_nil_of_length_eq_zero hz
   clear hz hr0
   go_enter Tryd.func73, Tryd.ntmps73
   go_wp2
   go_ret
   exact ⟨_, rfl, Kd.R_nil _ _ _ _ _, HB.out⟩
  | some ad =>
   clear hr0
   go_enter Tryd.func73, Tryd.ntmps73
   go_wp2_with (first | ((with_reducible refine gate_dst (N := 5) rfl ?_); (try (refine gate_guard (by rfl) ?_; dsimp only)); refine Kd.R_lit k61 _ 61 ?hg (N := 5) ?hd (xs := ([] : List (S61))) (inner := []) (ok := fun _ => True) (okp := fun _ => True) ?hr ?hp (fun _ hk => hk) trivial (Below.refl _ _) (Nat.le_refl _) (by simp) ?_; (case hd => rfl); (case hg => rfl); (case hr => first | (go_simp; done) | (go_simp; rfl)); (case hp => exact (Reps.none _ _)); intro v1 w1 ho hb hg_ hnew_; clear hg_ hnew_; have n0_ := Aside0.mk (Kd.R_lower ho (below_size HB.out)); have n1_ := Aside0.mk (below_step HB.out hb); clear HB ho hb; have HO := n0_; have HB := n1_; clear n0_ n1_) | ((with_reducible refine gate_builtin (b := .append) (xs := #[.tmp 5, .tmp 6]) rfl ?_); (try (refine gate_guard (by rfl) ?_; dsimp only)); at_builtin; refine Kd.R_append_rows k61 (w0 := w) w.heap.size rfl (.tmp 5) (.tmp 6) 22 61 (.agg #[(.string ⟨#[]⟩), (.int .i64 0), (.int .i64 0), (.string ⟨#[]⟩), (.int .i64 0)]) 56 rfl Tryd.underlying22 info61 rfl (by decide) (by omega) v1 [] l0 _ _ _ (fun _ => True) (fun _ => False) rfl rfl ?aO ?aR (fun _ _ h => h) (fun _ h => h.elim) ?aF ?aB ?aS ?aL ?_; (case aR => exact Kd.C_below HR0.out HB.out); (case aB => exact HB.out); (case aF => exact (fun _ _ => trivial)); (case aO => exact HO.out); (case aS => exact (below_size HB.out)); (case aL => have := HL.out; simp; omega); intro v2 w2 ho hb hg hat; have n0_ := Aside0.mk hb; have n1_ := Aside0.mk ho; clear HB HO ho hb hg hat; have HB := n0_; have HO := n1_; clear n0_ n1_))
   go_ret
   exact ⟨_, rfl, by simpa using HO.out, HB.out⟩
 ·rw [if_neg hl] at h
  cases h

/-! ### impl_keyed: function 45 -/
def impl_keyed.f (l0 : List (S61)) (a1 : ByteArray) : Option ((List (S61))) := (impl_Node.f l0).bind fun t255 => (if 0 < (t255.length : Int) then (some (t255.set (0 : Int).toNat (⟨a1, (rd_T61 t255 0).f1, (rd_T61 t255 0).f2, (rd_T61 t255 0).f3, (rd_T61 t255 0).f4⟩ : S61))) else (none))
set_option maxHeartbeats 8000000 in
set_option maxRecDepth 100000 in
theorem impl_keyed.calls (A0 : Option Addr) (c0 : Nat) (l0 : List (S61)) (a1 : ByteArray) (r : List (S61)) (w : World) (hr0 : Kd.C k61 w A0 l0.length l0) (hc0 : l0.length ≤ c0) (h : impl_keyed.f l0 a1 = some r) :
  Calls Tryd.prog 45 #[.slice A0 l0.length c0, .string a1] w fun e w' => ∃ v0_ : Value, e = .returned (v0_) ∧ Kd.R k61 61 w' w.heap.size (fun _ => True) v0_ r ∧ Below w.heap.size w w' := by
 have HR0 := Aside0.mk hr0
 have HC0 := Aside0.mk hc0
 clear hr0 hc0
 have HB := Aside0.mk (Below.refl w.heap.size w)
 have H : ((impl_Node.f l0).bind fun t255 => (if 0 < (t255.length : Int) then (some (t255.set (0 : Int).toNat (⟨a1, (rd_T61 t255 0).f1, (rd_T61 t255 0).f2, (rd_T61 t255 0).f3, (rd_T61 t255 0).f4⟩ : S61))) else (none))) = some r := h
 clear h
 replace H := Option.bind_eq_some_iff.mp H
 obtain ⟨t255, A30, H⟩ := H
 replace H : (if 0 < (t255.length : Int) then (some (t255.set (0 : Int).toNat (⟨a1, (rd_T61 t255 0).f1, (rd_T61 t255 0).f2, (rd_T61 t255 0).f3, (rd_T61 t255 0).f4⟩ : S61))) else (none)) = some r := H
 have A3 := Aside0.mk A30
 clear A30
 by_cases c4 : 0 < (t255.length : Int)
 ·rw [if_pos c4] at H
  have c4b0 : decide (0 < (t255.length : Int)) = true := decide_eq_true c4
  have c4b1 : decide (0 < t255.length) = true := decide_eq_true (by omega)
  clear c4
  obtain ⟨y258, hy258⟩ : ∃ y_ : List (S61), y_ = (t255.set (0 : Int).toNat (⟨a1, (rd_T61 t255 0).f1, (rd_T61 t255 0).f2, (rd_T61 t255 0).f3, (rd_T61 t255 0).f4⟩ : S61)) := ⟨_, rfl⟩
  replace H : (some y258) = some r := by first | (rw [hy258]; with_reducible exact H) | (have H2_ := (Option.bind_some _ _).symm.trans H; rw [hy258]; with_reducible exact H2_) | (have H2_ := (Option.bind_some _ _).symm.trans H; with_reducible exact H2_) | with_reducible exact H | (rw [hy258]; exact H) | exact H
  have Ny258 := Aside0.mk hy258
  clear hy258
  obtain rfl := Option.some.inj H
  go_enter Tryd.func45, Tryd.ntmps45
  go_wp2_with (first | ((with_reducible refine gate_callee (f := 73) rfl ?_); refine goesL_ (some 7) rfl rfl Tryd.func73 (by kernel_rfl) rfl #[.slice A0 l0.length c0] rfl (by (try simp only [List.map_toArray, List.map_cons, List.map_nil]); first | done | rfl | (simp only [List.length_drop, List.length_take]; rfl)) ?_; (with_reducible refine (impl_Node.calls _ _ l0 t255 _ ?side1 ?side2 A3.out).mono ?_); (case side1 => repeat (first | exact HR0.out | (with_reducible refine Kd.C_alloc ?_ _) | (with_reducible refine Kd.C_drewN ?_ _) | (with_reducible refine Kd.C_drew ?_))); (case side2 => exact HC0.out); rintro e w6 ⟨v256, rfl, ho0, hb⟩; refine ⟨_, rfl, ?_⟩; have n0_ := Aside0.mk (Kd.R_lower ho0 (below_size (by repeat first | (with_reducible first | exact HB.out | apply jD | apply jE | apply jF) | exact HB.out))); have n1_ := Aside0.mk (below_step (by repeat first | (with_reducible first | exact HB.out | apply jD | apply jE | apply jF) | exact HB.out) hb); clear HB; have HO257 := n0_; have HB := n1_; clear n0_ n1_; (try clear hb); (try clear hk); (try clear hi); (try clear ho0); have p5 : 0 ≤ (0 : Int) := (by omega); have q5 : (0 : Int) < ((t255.length : Int) : Int) := of_decide_eq_true (by first | (with_reducible assumption) | assumption); have qi5 : (0 < t255.length) = True := eq_true (by omega); obtain ⟨go5, co5, eo5, gb5, gl5, cl5, HG5⟩ := Kd.R_form HO257.out (by omega); (first | cases eo5 | (injection eo5 with ea_ en_ ec_; (first | subst ea_ | (injection ea_ with ea_; subst ea_)); subst ec_; clear en_)); have GB5 := Aside0.mk gb5; have GG5 := Aside0.mk HG5; clear gb5 gl5 HG5; obtain ⟨ce5, hcl5, hM5, hcc5, hfr5⟩ := Kd.R_elem HO257.out z61 (0 : Int) p5 q5; obtain rfl := k61_openM hM5; have hx5_0 : w6.cell? ⟨go5, (0 : Int).toNat * 5, none⟩ = some (.string ((rd_T61 t255 0).f0)) := hcc5 0 _ rfl; have hx5_1 : w6.cell? ⟨go5, (0 : Int).toNat * 5 + 1, none⟩ = some (.int .i64 ((rd_T61 t255 0).f1)) := hcc5 1 _ rfl; have hx5_2 : w6.cell? ⟨go5, (0 : Int).toNat * 5 + 2, none⟩ = some (.int .i64 ((rd_T61 t255 0).f2)) := hcc5 2 _ rfl; have hx5_3 : w6.cell? ⟨go5, (0 : Int).toNat * 5 + 3, none⟩ = some (.string ((rd_T61 t255 0).f3)) := hcc5 3 _ rfl; have hx5_4 : w6.cell? ⟨go5, (0 : Int).toNat * 5 + 4, none⟩ = some (.int .i64 ((rd_T61 t255 0).f4)) := hcc5 4 _ rfl; have hf5_0 : w6.frozen? ⟨go5, (0 : Int).toNat * 5, none⟩ = false := hfr5 0; have hf5_1 : w6.frozen? ⟨go5, (0 : Int).toNat * 5 + 1, none⟩ = false := hfr5 1; have hf5_2 : w6.frozen? ⟨go5, (0 : Int).toNat * 5 + 2, none⟩ = false := hfr5 2; have hf5_3 : w6.frozen? ⟨go5, (0 : Int).toNat * 5 + 3, none⟩ = false := hfr5 3; have hf5_4 : w6.frozen? ⟨go5, (0 : Int).toNat * 5 + 4, none⟩ = false := hfr5 4; clear hcl5 hcc5 hfr5 hM5; (try rw [show ((0 : Int)).toNat = 0 from rfl] at hx5_0); (try simp only [Nat.reduceMul, Nat.zero_mul, Nat.zero_add, Nat.reduceAdd] at hx5_0); (try rw [show ((0 : Int)).toNat = 0 from rfl] at hf5_0); (try simp only [Nat.reduceMul, Nat.zero_mul, Nat.zero_add, Nat.reduceAdd] at hf5_0); (try rw [show ((0 : Int)).toNat = 0 from rfl] at hx5_1); (try simp only [Nat.reduceMul, Nat.zero_mul, Nat.zero_add, Nat.reduceAdd] at hx5_1); (try rw [show ((0 : Int)).toNat = 0 from rfl] at hf5_1); (try simp only [Nat.reduceMul, Nat.zero_mul, Nat.zero_add, Nat.reduceAdd] at hf5_1); (try rw [show ((0 : Int)).toNat = 0 from rfl] at hx5_2); (try simp only [Nat.reduceMul, Nat.zero_mul, Nat.zero_add, Nat.reduceAdd] at hx5_2); (try rw [show ((0 : Int)).toNat = 0 from rfl] at hf5_2); (try simp only [Nat.reduceMul, Nat.zero_mul, Nat.zero_add, Nat.reduceAdd] at hf5_2); (try rw [show ((0 : Int)).toNat = 0 from rfl] at hx5_3); (try simp only [Nat.reduceMul, Nat.zero_mul, Nat.zero_add, Nat.reduceAdd] at hx5_3); (try rw [show ((0 : Int)).toNat = 0 from rfl] at hf5_3); (try simp only [Nat.reduceMul, Nat.zero_mul, Nat.zero_add, Nat.reduceAdd] at hf5_3); (try rw [show ((0 : Int)).toNat = 0 from rfl] at hx5_4); (try simp only [Nat.reduceMul, Nat.zero_mul, Nat.zero_add, Nat.reduceAdd] at hx5_4); (try rw [show ((0 : Int)).toNat = 0 from rfl] at hf5_4); (try simp only [Nat.reduceMul, Nat.zero_mul, Nat.zero_add, Nat.reduceAdd] at hf5_4); replace p5 := eq_true p5; replace q5 := eq_true q5; have HX7 := Aside0.mk (show Kd.R k61 61 w6 w.heap.size (fun _ => True) (.slice (some ⟨go5, 0, none⟩) t255.length co5) t255 from (by (with_reducible repeat (first | apply Kd.R_alloc | apply Kd.R_drewN | apply Kd.R_drew)); exact HO257.out)); obtain ⟨ce7, hcl7, hM7, hcc7, hfr7⟩ := Kd.R_elem HX7.out z61 (0 : Int) (by omega) (by have h_ : (0 : Int) < ((t255.length : Int) : Int) := of_decide_eq_true (by first | (with_reducible assumption) | assumption); first | exact h_ | (have e_ := (Kd.R_reads' HO257.out).1; omega) | simpa using h_); obtain rfl := k61_openM hM7; have HP7 := Kd.R_seg HX7.out (0 : Int) (by omega) (by have h_ : (0 : Int) < ((t255.length : Int) : Int) := of_decide_eq_true (by first | (with_reducible assumption) | assumption); first | exact h_ | (have e_ := (Kd.R_reads' HO257.out).1; omega) | simpa using h_) (seg := [.string a1]) (j := 0) hcl7 hcc7 (show 1 ≤ 5 from by decide) (x' := (⟨a1, (rd_T61 t255 0).f1, (rd_T61 t255 0).f2, (rd_T61 t255 0).f3, (rd_T61 t255 0).f4⟩ : S61)) (k61_mkM _ _ _ (⟨a1, (rd_T61 t255 0).f1, (rd_T61 t255 0).f2, (rd_T61 t255 0).f3, (rd_T61 t255 0).f4⟩ : S61) ) (fun _ hk => hk); have hx7_0 := hcc7 0 _ rfl; (try simp only [show (k61).sz = 5 from rfl, Nat.mul_one, Nat.add_zero] at hx7_0); (try rw [show ((0 : Int)).toNat = 0 from rfl] at hx7_0); (try simp only [Nat.reduceMul, Nat.zero_mul, Nat.zero_add, Nat.reduceAdd] at hx7_0); have hf7_0 := hfr7 0; (try simp only [show (k61).sz = 5 from rfl, Nat.mul_one, Nat.add_zero] at hf7_0); (try rw [show ((0 : Int)).toNat = 0 from rfl] at hf7_0); (try simp only [Nat.reduceMul, Nat.zero_mul, Nat.zero_add, Nat.reduceAdd] at hf7_0); clear hcl7 hcc7 hfr7 hM7) | ((with_reducible refine gate_store (t := 9) (p := 11) rfl ?_); refine store_event (t := 9) (p := 11) (v := ?vo_w8) (w1 := (w6.setCell ⟨go5, 0, none⟩ (.string a1))) ?hg ?ho ?hn ?hr ?_; (case ho => rfl); (case hg => rfl); (case hn => rfl); (case hr => first | (go_simp; done) | (go_simp; rfl)); intro w8 hw; have hg : w6.grownBy w8 (some go5) := (by rw [hw]; exact HP7.2); have hp_ : Kd.R k61 61 w8 w.heap.size (fun _ => True) (.slice (some ⟨go5, 0, none⟩) t255.length co5) y258 := (by rw [hw, Ny258.out]; exact HP7.1); clear HP7; have n0_ := Aside0.mk (hp_); have n1_ := Aside0.mk ((by rw [hw]; exact below_set (HB.out) GB5.out : Below w.heap.size w w8)); clear HO257; clear HB; have HO257 := n0_; have HB := n1_; clear n0_ n1_; clear hg hw hp_))
  go_ret
  exact ⟨_, by first | rfl | (simp [errW_none, errW_some] <;> rfl) | (simp [*, errW_none, errW_some] <;> rfl), by (with_reducible repeat (first | apply Kd.R_alloc | apply Kd.R_drewN | apply Kd.R_drew)); exact HO257.out, by repeat (first | (with_reducible first | exact HB.out | apply jD | apply jE | apply jF) | exact HB.out)⟩
 ·rw [if_neg c4] at H
  exact absurd H (by simp)

/-! ### impl_FieldOf: function 22 -/
mutual
def impl_FieldOf.j0 : Nat → List (S61) → ByteArray → Bool → Option ((List (S61)) × Bool)
 | 0, _, _, _ => none
 | k + 1, x0, x1, x17 => if x17 = true then (some (([] : List (S61)), false)) else ((impl_partsOf.f k x0).bind fun t261 => (impl_FieldOf.l0 k x1 t261 (t261.length : Int) 0))
def impl_FieldOf.l0 : Nat → ByteArray → List (List (S61)) → Int → Int → Option ((List (S61)) × Bool)
 | 0, _, _, _, _ => none
 | k + 1, x1, x19, x20, x21 => if x21 < x20 then (if 0 ≤ x21 then (if x21 < (x19.length : Int) then (if 0 < ((rd_L3 x19 x21).length : Int) then (if ((rd_T61 (rd_L3 x19 x21) 0).f0).toList = x1.toList then ((impl_keyed.f (rd_L3 x19 x21) (⟨#[]⟩ : ByteArray)).bind fun t266 => (some (t266, true))) else (impl_FieldOf.l0 k x1 x19 x20 (wrap64 (x21 + 1)))) else (none)) else (none)) else (none)) else (some (([] : List (S61)), false))
end
def impl_FieldOf.f (k : Nat) (l0 : List (S61)) (a1 : ByteArray) : Option ((List (S61)) × Bool) := (impl_isValue.f k l0).bind fun t259 => (if t259 = true then (if 0 < (l0.length : Int) then (impl_FieldOf.j0 k l0 a1 (((rd_T61 l0 0).f1) != 7)) else (none)) else (impl_FieldOf.j0 k l0 a1 true))
theorem impl_FieldOf.mono_l : ∀ k, (∀ y0 y1 y2, LeO (impl_FieldOf.j0 k y0 y1 y2) (impl_FieldOf.j0 (k + 1) y0 y1 y2)) ∧ (∀ y0 y1 y2 y3, LeO (impl_FieldOf.l0 k y0 y1 y2 y3) (impl_FieldOf.l0 (k + 1) y0 y1 y2 y3))
 | 0 => ⟨fun _ _ _ r h => by simp [impl_FieldOf.j0] at h, fun _ _ _ _ r h => by simp [impl_FieldOf.l0] at h⟩
 | k + 1 => by
  obtain ⟨ih0, ih1⟩ := impl_FieldOf.mono_l k
  refine ⟨?_, ?_⟩
  ·intro y0 y1 y2
   unfold impl_FieldOf.j0
   repeat' first
   | (with_reducible exact ih0 _ _ _)
   | (with_reducible exact ih1 _ _ _ _)
   | (with_reducible exact impl_isValue.mono _ _)
   | (with_reducible exact impl_partsOf.mono _ _)
   | (with_reducible exact LeO.refl _)
   | (with_reducible exact LeO.none _)
   | (with_reducible refine LeO.ite ?_ ?_)
   | (with_reducible refine LeO.bind ?_ (fun _ => ?_))
   | exact ih0 _ _ _
   | exact ih1 _ _ _ _
   | exact impl_isValue.mono _ _
   | exact impl_partsOf.mono _ _
   | exact LeO.none _
   | refine LeO.ite ?_ ?_
   | refine LeO.bind ?_ (fun _ => ?_)
  ·intro y0 y1 y2 y3
   unfold impl_FieldOf.l0
   repeat' first
   | (with_reducible exact ih0 _ _ _)
   | (with_reducible exact ih1 _ _ _ _)
   | (with_reducible exact impl_isValue.mono _ _)
   | (with_reducible exact impl_partsOf.mono _ _)
   | (with_reducible exact LeO.refl _)
   | (with_reducible exact LeO.none _)
   | (with_reducible refine LeO.ite ?_ ?_)
   | (with_reducible refine LeO.bind ?_ (fun _ => ?_))
   | exact ih0 _ _ _
   | exact ih1 _ _ _ _
   | exact impl_isValue.mono _ _
   | exact impl_partsOf.mono _ _
   | exact LeO.none _
   | refine LeO.ite ?_ ?_
   | refine LeO.bind ?_ (fun _ => ?_)
theorem impl_FieldOf.mono : ∀ a0 a1 k, LeO (impl_FieldOf.f k a0 a1) (impl_FieldOf.f (k + 1) a0 a1) := by
 intro a0 a1 k
 obtain ⟨ih0, ih1⟩ := impl_FieldOf.mono_l k
 unfold impl_FieldOf.f
 repeat' first
   | (with_reducible exact ih0 _ _ _)
   | (with_reducible exact ih1 _ _ _ _)
   | (with_reducible exact impl_isValue.mono _ _)
   | (with_reducible exact impl_partsOf.mono _ _)
   | (with_reducible exact LeO.refl _)
   | (with_reducible exact LeO.none _)
   | (with_reducible refine LeO.ite ?_ ?_)
   | (with_reducible refine LeO.bind ?_ (fun _ => ?_))
   | exact ih0 _ _ _
   | exact ih1 _ _ _ _
   | exact impl_isValue.mono _ _
   | exact impl_partsOf.mono _ _
   | exact LeO.none _
   | refine LeO.ite ?_ ?_
   | refine LeO.bind ?_ (fun _ => ?_)
set_option maxHeartbeats 8000000 in
set_option maxRecDepth 100000 in
theorem impl_FieldOf.calls (k : Nat) (A0 : Option Addr) (c0 : Nat) (l0 : List (S61)) (a1 : ByteArray) (r1 : List (S61)) (r2 : Bool) (w : World) (tb : TabsU.Tabs0 w) (hr0 : Kd.C k61 w A0 l0.length l0) (hc0 : l0.length ≤ c0) (h : impl_FieldOf.f k l0 a1 = some (r1, r2)) :
  Calls Tryd.prog 22 #[.slice A0 l0.length c0, .string a1] w fun e w' => ∃ v0_ : Value, e = .returned (.tuple #[v0_, .bool r2]) ∧ Kd.R k61 61 w' w.heap.size (fun _ => True) v0_ r1 ∧ Below w.heap.size w w' := by
 have TB := Aside0.mk tb
 clear tb
 have HR0 := Aside0.mk hr0
 have HC0 := Aside0.mk hc0
 clear hr0 hc0
 have HB := Aside0.mk (Below.refl w.heap.size w)
 have H : ((impl_isValue.f k l0).bind fun t259 => (if t259 = true then (if 0 < (l0.length : Int) then (impl_FieldOf.j0 k l0 a1 (((rd_T61 l0 0).f1) != 7)) else (none)) else (impl_FieldOf.j0 k l0 a1 true))) = some (r1, r2) := h
 clear h
 have HC3 := Aside0.mk H
 clear H
 go_enter Tryd.func22, Tryd.ntmps22
 go_upto_region 1 with (fail)
 go_cut [17] (fun v17 wc => ∃ (kq : Nat) (x17_2 : Bool), v17 = .bool x17_2 ∧ Aside0 (impl_FieldOf.j0 kq l0 a1 x17_2 = some (r1, r2)) ∧ Aside0 (kq ≤ k) ∧ Aside0 (Below w.heap.size w wc))
 case first =>
  have H := HC3.out
  clear HC3
  replace H := Option.bind_eq_some_iff.mp H
  obtain ⟨t259, A40, H⟩ := H
  replace H : (if t259 = true then (if 0 < (l0.length : Int) then (impl_FieldOf.j0 k l0 a1 (((rd_T61 l0 0).f1) != 7)) else (none)) else (impl_FieldOf.j0 k l0 a1 true)) = some (r1, r2) := H
  have A4 := Aside0.mk A40
  clear A40
  by_cases c5 : t259 = true
  ·subst c5
   have H1 : (if 0 < (l0.length : Int) then (impl_FieldOf.j0 k l0 a1 (((rd_T61 l0 0).f1) != 7)) else (none)) = some (r1, r2) := by rw [if_pos rfl] at H; exact H
   clear H
   have H := H1
   clear H1
   by_cases c6 : 0 < (l0.length : Int)
   ·rw [if_pos c6] at H
    have c6b0 : decide (0 < (l0.length : Int)) = true := decide_eq_true c6
    have c6b1 : decide (0 < l0.length) = true := decide_eq_true (by omega)
    clear c6
    (first | rw [c6b0] | (simp only [i64_w, i32_w]; rw [c6b0]) | skip)
    have H' := Aside0.mk H
    clear H
    go_wp2_with (first | ((with_reducible refine gate_callee (f := 41) rfl ?_); refine goesL_ (some 9) rfl rfl Tryd.func41 (by kernel_rfl) rfl #[.slice A0 l0.length c0] rfl (by (try simp only [List.map_toArray, List.map_cons, List.map_nil]); first | done | rfl | (simp only [List.length_drop, List.length_take]; rfl)) ?_; (with_reducible refine (impl_isValue.calls k _ _ l0 true _ ?side1 ?side2 ?side3 A4.out).mono ?_); (case side1 => exact TabsU.Tabs0.of_below TB.out (by repeat first | (with_reducible first | exact HB.out | apply jD | apply jE | apply jF) | exact HB.out)); (case side2 => repeat (first | exact (Kd.C_below HR0.out HB.out) | (with_reducible refine Kd.C_alloc ?_ _) | (with_reducible refine Kd.C_drewN ?_ _) | (with_reducible refine Kd.C_drew ?_))); (case side3 => exact HC0.out); rintro e w7 ⟨rfl, hb⟩; refine ⟨_, rfl, ?_⟩; have n0_ := Aside0.mk (below_step (by repeat first | (with_reducible first | exact HB.out | apply jD | apply jE | apply jF) | exact HB.out) hb); clear HB; have HB := n0_; clear n0_; (try clear hb); (try clear hk); (try clear hi); have p260 : 0 ≤ (0 : Int) := (by omega); have q260 : 0 < (l0.length : Int) := of_decide_eq_true (by first | (with_reducible assumption) | assumption); obtain ⟨ad260, e260, hx260_0, hx260_1, hx260_2, hx260_3, hx260_4⟩ := at_T61 HR0.out 0 p260 q260; cases e260; have qi260 : (0 < l0.length) = True := eq_true (by omega); (try rw [show ((0 : Int)).toNat = 0 from rfl] at hx260_0); (try rw [show 0 * 5 = 0 from rfl] at hx260_0); (try rw [Addr.add_zero'] at hx260_0); (try rw [show ((0 : Int)).toNat = 0 from rfl] at hx260_1); (try rw [show 0 * 5 = 0 from rfl] at hx260_1); (try rw [Addr.add_zero'] at hx260_1); (try rw [show ((0 : Int)).toNat = 0 from rfl] at hx260_2); (try rw [show 0 * 5 = 0 from rfl] at hx260_2); (try rw [Addr.add_zero'] at hx260_2); (try rw [show ((0 : Int)).toNat = 0 from rfl] at hx260_3); (try rw [show 0 * 5 = 0 from rfl] at hx260_3); (try rw [Addr.add_zero'] at hx260_3); (try rw [show ((0 : Int)).toNat = 0 from rfl] at hx260_4); (try rw [show 0 * 5 = 0 from rfl] at hx260_4); (try rw [Addr.add_zero'] at hx260_4); replace hx260_0 := (HB.out.cell (World.block_lt_of_cell? w _ hx260_0)).trans hx260_0; replace hx260_1 := (HB.out.cell (World.block_lt_of_cell? w _ hx260_1)).trans hx260_1; replace hx260_2 := (HB.out.cell (World.block_lt_of_cell? w _ hx260_2)).trans hx260_2; replace hx260_3 := (HB.out.cell (World.block_lt_of_cell? w _ hx260_3)).trans hx260_3; replace hx260_4 := (HB.out.cell (World.block_lt_of_cell? w _ hx260_4)).trans hx260_4; replace p260 := eq_true p260; replace q260 := eq_true q260))
    go_meet
    case rel => exact ⟨_, ((((rd_T61 l0 0).f1) != 7)), (by first | rfl | (simp; done) | (simp [*]; done) | (simp; apply Bool.eq_iff_iff.mpr; simp only [bne_iff_ne, ne_eq, beq_iff_eq]; omega)), H', ⟨by first | omega | exact Nat.le_refl _⟩, ⟨by repeat (first | (with_reducible first | exact HB.out | apply jD | apply jE | apply jF) | exact HB.out)⟩⟩
   ·rw [if_neg c6] at H
    exact absurd H (by simp)
  ·replace c5 := Bool.eq_false_iff.mpr c5
   subst c5
   have H1 : (impl_FieldOf.j0 k l0 a1 true) = some (r1, r2) := by rw [if_neg (show ¬ (false = true) by decide)] at H; exact H
   clear H
   have H := H1
   clear H1
   have H' := Aside0.mk H
   clear H
   go_wp2_with (first | ((with_reducible refine gate_callee (f := 41) rfl ?_); refine goesL_ (some 9) rfl rfl Tryd.func41 (by kernel_rfl) rfl #[.slice A0 l0.length c0] rfl (by (try simp only [List.map_toArray, List.map_cons, List.map_nil]); first | done | rfl | (simp only [List.length_drop, List.length_take]; rfl)) ?_; (with_reducible refine (impl_isValue.calls k _ _ l0 false _ ?side1 ?side2 ?side3 A4.out).mono ?_); (case side1 => exact TabsU.Tabs0.of_below TB.out (by repeat first | (with_reducible first | exact HB.out | apply jD | apply jE | apply jF) | exact HB.out)); (case side2 => repeat (first | exact (Kd.C_below HR0.out HB.out) | (with_reducible refine Kd.C_alloc ?_ _) | (with_reducible refine Kd.C_drewN ?_ _) | (with_reducible refine Kd.C_drew ?_))); (case side3 => exact HC0.out); rintro e w8 ⟨rfl, hb⟩; refine ⟨_, rfl, ?_⟩; have n0_ := Aside0.mk (below_step (by repeat first | (with_reducible first | exact HB.out | apply jD | apply jE | apply jF) | exact HB.out) hb); clear HB; have HB := n0_; clear n0_; (try clear hb); (try clear hk); (try clear hi)))
   go_meet
   case rel => exact ⟨_, (true), (by first | rfl | (simp; done) | (simp [*]; done) | (simp; apply Bool.eq_iff_iff.mpr; simp only [bne_iff_ne, ne_eq, beq_iff_eq]; omega)), H', ⟨by first | omega | exact Nat.le_refl _⟩, ⟨by repeat (first | (with_reducible first | exact HB.out | apply jD | apply jE | apply jF) | exact HB.out)⟩⟩
 case rest =>
  clear HC3
  try clear c2
  try clear p2
  try clear q2
  try clear hx2
  try clear qi2
  try clear c4
  try clear c5
  try clear c6
  try clear c6b0
  try clear c6b1
  try clear hx260_0
  try clear hx260_1
  try clear hx260_2
  try clear hx260_3
  try clear hx260_4
  try clear p260
  try clear q260
  obtain ⟨kq, x17_2, rfl, HA, HJ2, HB⟩ := hcut
  cases kq with
  | zero => exact absurd HA.out (by simp [impl_FieldOf.j0])
  | succ kj2 =>
   have H := HA.out
   clear HA
   simp only [impl_FieldOf.j0] at H
   by_cases c9 : x17_2 = true
   ·subst c9
    have H1 : (some (([] : List (S61)), false)) = some (r1, r2) := by rw [if_pos rfl] at H; exact H
    clear H
    have H := H1
    clear H1
    simp only [Option.some.injEq, Prod.mk.injEq] at H
    obtain ⟨rfl, rfl⟩ := H
    go_wp2
    go_ret2
    exact ⟨_, by first | rfl | (simp [errW_none, errW_some] <;> rfl) | (simp [*, errW_none, errW_some] <;> rfl), by first | exact Kd.R_nil _ _ _ _ _ | exact Kd.N_nil _ _ _ _ _ | exact Kd.V_nil _ _ _ _ _ | exact Kd.Q_nil _ _ _ _ _ | exact Kd.S_nil _ _ _ _ _, by repeat (first | (with_reducible first | exact HB.out | apply jD | apply jE | apply jF) | exact HB.out)⟩
   ·replace c9 := Bool.eq_false_iff.mpr c9
    subst c9
    have H1 : ((impl_partsOf.f kj2 l0).bind fun t261 => (impl_FieldOf.l0 kj2 a1 t261 (t261.length : Int) 0)) = some (r1, r2) := by rw [if_neg (show ¬ (false = true) by decide)] at H; exact H
    clear H
    have H := H1
    clear H1
    replace H := Option.bind_eq_some_iff.mp H
    obtain ⟨t261, A100, H⟩ := H
    replace H : (impl_FieldOf.l0 kj2 a1 t261 (t261.length : Int) 0) = some (r1, r2) := H
    have A10 := Aside0.mk A100
    clear A100
    have H' := Aside0.mk H
    clear H
    go_wp2_with (first | ((with_reducible refine gate_callee (f := 44) rfl ?_); refine goesL_ (some 19) rfl rfl Tryd.func44 (by kernel_rfl) rfl #[.slice A0 l0.length c0] rfl (by (try simp only [List.map_toArray, List.map_cons, List.map_nil]); first | done | rfl | (simp only [List.length_drop, List.length_take]; rfl)) ?_; (with_reducible refine (impl_partsOf.calls kj2 (fun k_ => k_ < w.heap.size) _ _ l0 t261 _ ?side1 A10.out).mono ?_); (case side1 => exact Kd.V_mk HC0.out (Kd.F_below (Kd.C_F k61_heap HR0.out) (by repeat first | (with_reducible first | exact HB.out | apply jD | apply jE | apply jF) | exact HB.out))); rintro e w11 ⟨v262, rfl, ho0, hb⟩; refine ⟨_, rfl, ?_⟩; have n0_ := Aside0.mk (Kd.N_lower (Kd.N_mono (ok' := fun k_ => True) ho0 (fun k_ hk_ => trivial)) (below_size (by repeat first | (with_reducible first | exact HB.out | apply jD | apply jE | apply jF) | exact HB.out))); have n1_ := Aside0.mk (below_step (by repeat first | (with_reducible first | exact HB.out | apply jD | apply jE | apply jF) | exact HB.out) hb); clear HB; have HO263 := n0_; have HB := n1_; clear n0_ n1_; (try clear hb); (try clear hk); (try clear hi); (try clear ho0); obtain ⟨Ao12, co12, eo12⟩ := Kd.N_slice HO263.out; subst eo12))
    go_loopg [21] kj2 (fun kq v21 w' => ∃ (x21_2 : Int), v21 = .int .i64 x21_2 ∧ Aside0 (impl_FieldOf.l0 kq a1 t261 (t261.length : Int) x21_2 = some (r1, r2)) ∧ Aside0 (kq ≤ kj2) ∧ Aside0 (Kd.N (Kd.slice 61 k61) 22 w' w.heap.size (fun _ => True) (.slice Ao12 t261.length co12) t261) ∧ Aside0 (Below w.heap.size w w'))
    case atStart => exact ⟨(0), (by first | rfl | (simp; done) | (simp [*]; done) | (simp; apply Bool.eq_iff_iff.mpr; simp only [bne_iff_ne, ne_eq, beq_iff_eq]; omega)), H', ⟨Nat.le_refl _⟩, ⟨by (with_reducible repeat (first | apply Kd.N_alloc | apply Kd.N_drewN | apply Kd.N_drew)); exact HO263.out⟩, ⟨by repeat (first | (with_reducible first | exact HB.out | apply jD | apply jE | apply jF) | exact HB.out)⟩⟩
    case round =>
     clear H'
     try clear c2
     try clear p2
     try clear q2
     try clear hx2
     try clear qi2
     try clear c4
     try clear c5
     try clear c6
     try clear c6b0
     try clear c6b1
     try clear c9
     try clear hx260_0
     try clear hx260_1
     try clear hx260_2
     try clear hx260_3
     try clear hx260_4
     try clear p2
     try clear p260
     try clear q2
     try clear q260
     obtain ⟨x21_2, rfl, HA, HK2, HO_19, HB⟩ := hrel
     cases gk with
     | zero => exact absurd HA.out (by simp [impl_FieldOf.l0])
     | succ k2 =>
      have H := HA.out
      clear HA
      simp only [impl_FieldOf.l0] at H
      by_cases c13 : x21_2 < (t261.length : Int)
      ·rw [if_pos c13] at H
       have c13b0 : decide (x21_2 < (t261.length : Int)) = true := decide_eq_true c13
       clear c13
       by_cases c14 : 0 ≤ x21_2
       ·rw [if_pos c14] at H
        have c14b0 : decide (0 ≤ x21_2) = true := decide_eq_true c14
        clear c14
        by_cases c15 : x21_2 < (t261.length : Int)
        ·rw [if_pos c15] at H
         have c15b0 : decide (x21_2 < (t261.length : Int)) = true := decide_eq_true c15
         clear c15
         by_cases c16 : 0 < ((rd_L3 t261 x21_2).length : Int)
         ·rw [if_pos c16] at H
          have c16b0 : decide (0 < ((rd_L3 t261 x21_2).length : Int)) = true := decide_eq_true c16
          have c16b1 : decide (0 < (rd_L3 t261 x21_2).length) = true := decide_eq_true (by omega)
          clear c16
          by_cases c17 : ((rd_T61 (rd_L3 t261 x21_2) 0).f0).toList = a1.toList
          ·rw [if_pos c17] at H
           have c17b0 : (((rd_T61 (rd_L3 t261 x21_2) 0).f0).toList == a1.toList) = true := beq_iff_eq.mpr c17
           have c17b1 : (((rd_T61 (rd_L3 t261 x21_2) 0).f0).toList != a1.toList) = false := bne_eq_false_iff_eq.mpr c17
           clear c17
           replace H := Option.bind_eq_some_iff.mp H
           obtain ⟨t266, A180, H⟩ := H
           replace H : (some (t266, true)) = some (r1, r2) := H
           have A18 := Aside0.mk A180
           clear A180
           simp only [Option.some.injEq, Prod.mk.injEq] at H
           obtain ⟨rfl, rfl⟩ := H
           have p264 : 0 ≤ (x21_2 : Int) := of_decide_eq_true (by first | (with_reducible assumption) | assumption)
           have q264 : x21_2 < (t261.length : Int) := of_decide_eq_true (by first | (with_reducible assumption) | assumption)
           obtain ⟨ad264, A264_0, c264_0, e264, hx264_0, hl264_0, hi264_0⟩ := at_L3 (Kd.N_reads' HO_19.out).2.2 x21_2 p264 q264
           cases e264
           obtain ⟨ce264, hce264, hMe264, hcc264⟩ := Kd.N_get HO_19.out [] x21_2 p264 (by first | exact q264 | exact of_decide_eq_true (by first | (with_reducible assumption) | assumption) | (have e_ := (Kd.N_reads' HO_19.out).1; omega))
           obtain ⟨ua264_0, uc264_0, rfl, ul264_0, ge264_0⟩ := Kd.FK_slice_open hMe264
           have hv264_0 := hcc264 0 _ rfl
           rw [Nat.add_zero, show ((Kd.slice 61 k61)).sz = 1 from rfl, Nat.mul_one] at hv264_0
           replace hv264_0 := Option.some.inj (hv264_0.symm.trans hx264_0)
           injection hv264_0 with hva_ hvn_ hvc_
           rw [hva_] at ge264_0
           rw [hvc_] at ul264_0
           have HL264_0 := Aside0.mk (show Kd.V k61 61 _ w.heap.size _ _ (rd_L3 t261 x21_2) from Kd.V_mk ul264_0 ge264_0)
           clear hva_ hvn_ hvc_ ge264_0 ul264_0 hcc264 hce264
           have HR264_0 := Aside0.mk hi264_0
           have HC264_0 := Aside0.mk hl264_0
           clear hi264_0 hl264_0
           replace p264 := eq_true p264
           replace q264 := eq_true q264
           have p265 : 0 ≤ (0 : Int) := (by omega)
           have q265 : 0 < ((rd_L3 t261 x21_2).length : Int) := of_decide_eq_true (by first | (with_reducible assumption) | assumption)
           obtain ⟨ad265, e265, hx265_0, hx265_1, hx265_2, hx265_3, hx265_4⟩ := at_T61 (by repeat (first | (with_reducible exact HR264_0.out) | (with_reducible refine Kd.C_alloc ?_ _) | (with_reducible refine Kd.C_drewN ?_ _) | (with_reducible refine Kd.C_drew ?_) | exact HR264_0.out)) 0 p265 q265
           cases e265
           have qi265 : (0 < (rd_L3 t261 x21_2).length) = True := eq_true (by omega)
           (try rw [show ((0 : Int)).toNat = 0 from rfl] at hx265_0)
           (try rw [show 0 * 5 = 0 from rfl] at hx265_0)
           (try rw [Addr.add_zero'] at hx265_0)
           (try rw [show ((0 : Int)).toNat = 0 from rfl] at hx265_1)
           (try rw [show 0 * 5 = 0 from rfl] at hx265_1)
           (try rw [Addr.add_zero'] at hx265_1)
           (try rw [show ((0 : Int)).toNat = 0 from rfl] at hx265_2)
           (try rw [show 0 * 5 = 0 from rfl] at hx265_2)
           (try rw [Addr.add_zero'] at hx265_2)
           (try rw [show ((0 : Int)).toNat = 0 from rfl] at hx265_3)
           (try rw [show 0 * 5 = 0 from rfl] at hx265_3)
           (try rw [Addr.add_zero'] at hx265_3)
           (try rw [show ((0 : Int)).toNat = 0 from rfl] at hx265_4)
           (try rw [show 0 * 5 = 0 from rfl] at hx265_4)
           (try rw [Addr.add_zero'] at hx265_4)
           replace p265 := eq_true p265
           replace q265 := eq_true q265
           go_wp2_with (first | ((with_reducible refine gate_callee (f := 45) rfl ?_); refine goesL_ (some 32) rfl rfl Tryd.func45 (by kernel_rfl) rfl #[.slice (some ad265) (rd_L3 t261 x21_2).length c264_0, .string (⟨#[]⟩ : ByteArray)] rfl (by (try simp only [List.map_toArray, List.map_cons, List.map_nil]); first | done | rfl | (simp only [List.length_drop, List.length_take]; rfl)) ?_; (with_reducible refine (impl_keyed.calls _ _ (rd_L3 t261 x21_2) (⟨#[]⟩ : ByteArray) t266 _ ?side1 ?side2 A18.out).mono ?_); (case side1 => repeat (first | exact (by repeat (first | (with_reducible exact HR264_0.out) | (with_reducible refine Kd.C_alloc ?_ _) | (with_reducible refine Kd.C_drewN ?_ _) | (with_reducible refine Kd.C_drew ?_) | exact HR264_0.out)) | (with_reducible refine Kd.C_alloc ?_ _) | (with_reducible refine Kd.C_drewN ?_ _) | (with_reducible refine Kd.C_drew ?_))); (case side2 => exact HC264_0.out); rintro e w19 ⟨v267, rfl, ho0, hb⟩; refine ⟨_, rfl, ?_⟩; have n0_ := Aside0.mk (Kd.N_elder' (by (with_reducible repeat (first | apply Kd.N_alloc | apply Kd.N_drewN | apply Kd.N_drew)); exact HO_19.out) (Kd.R_base ho0) hb); have n1_ := Aside0.mk (Kd.V_elder' (by (with_reducible repeat (first | apply Kd.V_alloc | apply Kd.V_drewN | apply Kd.V_drew)); exact HL264_0.out) (Kd.R_base ho0) hb); have n2_ := Aside0.mk (Kd.R_lower ho0 (below_size (by repeat first | (with_reducible first | exact HB.out | apply jD | apply jE | apply jF) | exact HB.out))); have n3_ := Aside0.mk (Kd.C_below (by repeat (first | (with_reducible exact HR264_0.out) | (with_reducible refine Kd.C_alloc ?_ _) | (with_reducible refine Kd.C_drewN ?_ _) | (with_reducible refine Kd.C_drew ?_) | exact HR264_0.out)) hb); have n4_ := Aside0.mk (below_step (by repeat first | (with_reducible first | exact HB.out | apply jD | apply jE | apply jF) | exact HB.out) hb); clear HO_19; clear HL264_0; clear HR264_0; clear HB; have HO_19 := n0_; have HL264_0 := n1_; have HO268 := n2_; have HR264_0 := n3_; have HB := n4_; clear n0_ n1_ n2_ n3_ n4_; (try clear hb); (try clear hk); (try clear hi); (try clear ho0)))
           go_ret2
           exact ⟨_, by first | rfl | (simp [errW_none, errW_some] <;> rfl) | (simp [*, errW_none, errW_some] <;> rfl), by (with_reducible repeat (first | apply Kd.R_alloc | apply Kd.R_drewN | apply Kd.R_drew)); exact HO268.out, by repeat (first | (with_reducible first | exact HB.out | apply jD | apply jE | apply jF) | exact HB.out)⟩
          ·rw [if_neg c17] at H
           have c17b0 : (((rd_T61 (rd_L3 t261 x21_2) 0).f0).toList == a1.toList) = false := beq_eq_false_iff_ne.mpr c17
           have c17b1 : (((rd_T61 (rd_L3 t261 x21_2) 0).f0).toList != a1.toList) = true := bne_iff_ne.mpr c17
           have H' := Aside0.mk H
           clear H
           have p264 : 0 ≤ (x21_2 : Int) := of_decide_eq_true (by first | (with_reducible assumption) | assumption)
           have q264 : x21_2 < (t261.length : Int) := of_decide_eq_true (by first | (with_reducible assumption) | assumption)
           obtain ⟨ad264, A264_0, c264_0, e264, hx264_0, hl264_0, hi264_0⟩ := at_L3 (Kd.N_reads' HO_19.out).2.2 x21_2 p264 q264
           cases e264
           obtain ⟨ce264, hce264, hMe264, hcc264⟩ := Kd.N_get HO_19.out [] x21_2 p264 (by first | exact q264 | exact of_decide_eq_true (by first | (with_reducible assumption) | assumption) | (have e_ := (Kd.N_reads' HO_19.out).1; omega))
           obtain ⟨ua264_0, uc264_0, rfl, ul264_0, ge264_0⟩ := Kd.FK_slice_open hMe264
           have hv264_0 := hcc264 0 _ rfl
           rw [Nat.add_zero, show ((Kd.slice 61 k61)).sz = 1 from rfl, Nat.mul_one] at hv264_0
           replace hv264_0 := Option.some.inj (hv264_0.symm.trans hx264_0)
           injection hv264_0 with hva_ hvn_ hvc_
           rw [hva_] at ge264_0
           rw [hvc_] at ul264_0
           have HL264_0 := Aside0.mk (show Kd.V k61 61 _ w.heap.size _ _ (rd_L3 t261 x21_2) from Kd.V_mk ul264_0 ge264_0)
           clear hva_ hvn_ hvc_ ge264_0 ul264_0 hcc264 hce264
           have HR264_0 := Aside0.mk hi264_0
           have HC264_0 := Aside0.mk hl264_0
           clear hi264_0 hl264_0
           replace p264 := eq_true p264
           replace q264 := eq_true q264
           have p265 : 0 ≤ (0 : Int) := (by omega)
           have q265 : 0 < ((rd_L3 t261 x21_2).length : Int) := of_decide_eq_true (by first | (with_reducible assumption) | assumption)
           obtain ⟨ad265, e265, hx265_0, hx265_1, hx265_2, hx265_3, hx265_4⟩ := at_T61 (by repeat (first | (with_reducible exact HR264_0.out) | (with_reducible refine Kd.C_alloc ?_ _) | (with_reducible refine Kd.C_drewN ?_ _) | (with_reducible refine Kd.C_drew ?_) | exact HR264_0.out)) 0 p265 q265
           cases e265
           have qi265 : (0 < (rd_L3 t261 x21_2).length) = True := eq_true (by omega)
           (try rw [show ((0 : Int)).toNat = 0 from rfl] at hx265_0)
           (try rw [show 0 * 5 = 0 from rfl] at hx265_0)
           (try rw [Addr.add_zero'] at hx265_0)
           (try rw [show ((0 : Int)).toNat = 0 from rfl] at hx265_1)
           (try rw [show 0 * 5 = 0 from rfl] at hx265_1)
           (try rw [Addr.add_zero'] at hx265_1)
           (try rw [show ((0 : Int)).toNat = 0 from rfl] at hx265_2)
           (try rw [show 0 * 5 = 0 from rfl] at hx265_2)
           (try rw [Addr.add_zero'] at hx265_2)
           (try rw [show ((0 : Int)).toNat = 0 from rfl] at hx265_3)
           (try rw [show 0 * 5 = 0 from rfl] at hx265_3)
           (try rw [Addr.add_zero'] at hx265_3)
           (try rw [show ((0 : Int)).toNat = 0 from rfl] at hx265_4)
           (try rw [show 0 * 5 = 0 from rfl] at hx265_4)
           (try rw [Addr.add_zero'] at hx265_4)
           replace p265 := eq_true p265
           replace q265 := eq_true q265
           go_wp2
           go_roundg k2
           case measure => have := HJ2.out; have := HK2.out; omega
           case rel => exact ⟨(wrap64 (x21_2 + 1)), (by first | rfl | (simp; done) | (simp [*]; done) | (simp; apply Bool.eq_iff_iff.mpr; simp only [bne_iff_ne, ne_eq, beq_iff_eq]; omega)), H', ⟨by have := HJ2.out; have := HK2.out; omega⟩, ⟨by (with_reducible repeat (first | apply Kd.N_alloc | apply Kd.N_drewN | apply Kd.N_drew)); exact HO_19.out⟩, ⟨by repeat (first | (with_reducible first | exact HB.out | apply jD | apply jE | apply jF) | exact HB.out)⟩⟩
         ·rw [if_neg c16] at H
          exact absurd H (by simp)
        ·rw [if_neg c15] at H
         exact absurd H (by simp)
       ·rw [if_neg c14] at H
        exact absurd H (by simp)
      ·rw [if_neg c13] at H
       have c13b0 : decide (x21_2 < (t261.length : Int)) = false := decide_eq_false c13
       clear c13
       simp only [Option.some.injEq, Prod.mk.injEq] at H
       obtain ⟨rfl, rfl⟩ := H
       go_wp2
       go_ret2
       exact ⟨_, by first | rfl | (simp [errW_none, errW_some] <;> rfl) | (simp [*, errW_none, errW_some] <;> rfl), by first | exact Kd.R_nil _ _ _ _ _ | exact Kd.N_nil _ _ _ _ _ | exact Kd.V_nil _ _ _ _ _ | exact Kd.Q_nil _ _ _ _ _ | exact Kd.S_nil _ _ _ _ _, by repeat (first | (with_reducible first | exact HB.out | apply jD | apply jE | apply jF) | exact HB.out)⟩

end
end Go.Proofs.YtkfbdopfeacnfaaDoor.PFnFields
