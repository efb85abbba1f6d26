-- Printed for this claim by a changed copy of the kit's printing program (wip/tools/patch_print.py); Lean checks it.
import Derived.Test.YtanebapjclkikaaPFnExactNewBookx0
import Derived.Test.YtanebapjclkikaaPFnExactNewBookx1
import Derived.Test.YtanebapjclkikaaPFnExactNewBookx2
namespace Go.Proofs.Ytanebapjclkikaa.PFnExactNewBook
open Go.RowKit Go.Proofs.YtanebapjclkikaaW.PrintWords Go.Proofs.YtanebapjclkikaaW.PrintLast Go.Proofs.YtanebapjclkikaaW.PrintMore
attribute [local go_sem] max2_int min2_int max_two min_two max_three min_three max_four min_four   -- for this text's walks alone
set_option linter.unusedVariables false
set_option linter.unusedSimpArgs false

noncomputable section
/-! ### laws_heldStringS: function 70 -/
def laws_heldStringS.l0 : Nat → List ByteArray → Int → Int → Option (Int)
  | 0, _, _, _ => none
  | k + 1, x0, x1, x5 => if x5 < (x0.length : Int) then (if 0 ≤ x5 then ((laws_markText.f k x1).bind fun t140 => (if (rdOf ByteArray.empty x0 x5).toList = t140.toList then (laws_heldStringS.l0 k x0 (wrap64 (x1 + 1)) (wrap64 (x5 + 1))) else (some (-1)))) else (none)) else (some x1)
def laws_heldStringS.f (k : Nat) (l0 : List ByteArray) (a1 : Int) : Option (Int) := laws_heldStringS.l0 k l0 a1 0
theorem laws_heldStringS.mono_l : ∀ k, (∀ y0 y1 y2, LeO (laws_heldStringS.l0 k y0 y1 y2) (laws_heldStringS.l0 (k + 1) y0 y1 y2))
  | 0 => fun _ _ _ r h => by simp [laws_heldStringS.l0] at h
  | k + 1 => by
    have ih0 := laws_heldStringS.mono_l k
    · intro y0 y1 y2
      unfold laws_heldStringS.l0
      repeat' first
      | (with_reducible exact ih0 _ _ _)
      | (with_reducible exact laws_markText.mono _ _)
      | (with_reducible exact LeO.refl _)
      | (with_reducible exact LeO.none _)
      | (with_reducible refine LeO.ite ?_ ?_)
      | (with_reducible refine LeO.bind ?_ (fun _ => ?_))
      | exact ih0 _ _ _
      | exact laws_markText.mono _ _
      | exact LeO.none _
      | refine LeO.ite ?_ ?_
      | refine LeO.bind ?_ (fun _ => ?_)
theorem laws_heldStringS.mono : ∀ a0 a1 k, LeO (laws_heldStringS.f k a0 a1) (laws_heldStringS.f (k + 1) a0 a1) := by
  intro a0 a1 k
  have ih0 := laws_heldStringS.mono_l k
  unfold laws_heldStringS.f
  repeat' first
      | (with_reducible exact ih0 _ _ _)
      | (with_reducible exact laws_markText.mono _ _)
      | (with_reducible exact LeO.refl _)
      | (with_reducible exact LeO.none _)
      | (with_reducible refine LeO.ite ?_ ?_)
      | (with_reducible refine LeO.bind ?_ (fun _ => ?_))
      | exact ih0 _ _ _
      | exact laws_markText.mono _ _
      | exact LeO.none _
      | refine LeO.ite ?_ ?_
      | refine LeO.bind ?_ (fun _ => ?_)
set_option maxHeartbeats 8000000 in
set_option maxRecDepth 100000 in
theorem laws_heldStringS.calls (k : Nat) (A0 : Option Addr) (c0 : Nat) (l0 : List ByteArray) (a1 : Int) (r : Int) (w : World) (hr0 : Kd.C Kd.string w A0 l0.length l0) (hc0 : l0.length ≤ c0) (h : laws_heldStringS.f k l0 a1 = some r) :
    Calls Try.prog 70 #[.slice A0 l0.length c0, .int .i64 a1] w fun e w' => e = .returned (.int .i64 r) ∧ Below w.heap.size w w' := by
  have HR0 := Aside0.mk hr0
  have HC0 := Aside0.mk hc0
  clear hr0 hc0
  have HB := Aside0.mk (Below.refl w.heap.size w)
  have H : (laws_heldStringS.l0 k l0 a1 0) = some r := h
  clear h
  have H' := Aside0.mk H
  clear H
  go_enter Try.func70, Try.ntmps70
  go_wp2
  go_loopg [1, 5] k (fun kq v1 v5 w' => ∃ (x1_1 : Int) (x5_1 : Int), v1 = .int .i64 x1_1 ∧ v5 = .int .i64 x5_1 ∧ Aside0 (laws_heldStringS.l0 kq l0 x1_1 x5_1 = some r) ∧ Aside0 (kq ≤ k) ∧ Aside0 (Below w.heap.size w w'))
  case atStart => exact ⟨(a1), (0), (by first | rfl | (simp; done) | (simp [*]; done)), (by first | rfl | (simp; done) | (simp [*]; done)), H', ⟨Nat.le_refl _⟩, ⟨by repeat (first | (with_reducible first | exact HB.out | apply below_alloc | apply pw_below_drewN | apply below_drew1) | exact HB.out)⟩⟩
  case round =>
    clear H'
    try clear p2
    obtain ⟨x1_1, x5_1, rfl, rfl, HA, HK1, HB⟩ := hrel
    cases gk with
    | zero => exact absurd HA.out (by simp [laws_heldStringS.l0])
    | succ k1 =>
      have H := HA.out
      clear HA
      simp only [laws_heldStringS.l0] at H
      by_cases c3 : x5_1 < (l0.length : Int)
      · rw [if_pos c3] at H
        have c3b0 : decide (x5_1 < (l0.length : Int)) = true := decide_eq_true c3
        clear c3
        by_cases c4 : 0 ≤ x5_1
        · rw [if_pos c4] at H
          have c4b0 : decide (0 ≤ x5_1) = true := decide_eq_true c4
          clear c4
          replace H := Option.bind_eq_some_iff.mp H
          obtain ⟨t140, A50, H⟩ := H
          replace H : (if (rdOf ByteArray.empty l0 x5_1).toList = t140.toList then (laws_heldStringS.l0 k1 l0 (wrap64 (x1_1 + 1)) (wrap64 (x5_1 + 1))) else (some (-1))) = some r := H
          have A5 := Aside0.mk A50
          clear A50
          by_cases c6 : (rdOf ByteArray.empty l0 x5_1).toList = t140.toList
          · rw [if_pos c6] at H
            have c6b0 : ((rdOf ByteArray.empty l0 x5_1).toList == t140.toList) = true := beq_iff_eq.mpr c6
            have c6b1 : ((rdOf ByteArray.empty l0 x5_1).toList != t140.toList) = false := bne_eq_false_iff_eq.mpr c6
            clear c6
            have H' := Aside0.mk H
            clear H
            try go_wp2
            have n0_ := Aside0.mk (below_drew1 HB.out)
            clear HB
            have HB := n0_
            clear n0_
            have p139 : 0 ≤ (x5_1 : Int) := of_decide_eq_true (by first | (with_reducible assumption) | assumption)
            have q139 : x5_1 < (l0.length : Int) := of_decide_eq_true (by first | (with_reducible assumption) | assumption)
            obtain ⟨ad139, e139, hx139_0⟩ := Kd.at_string HR0.out x5_1 p139 q139
            have hw139_0 := hx139_0
            cases e139
            replace hx139_0 := (HB.out.cell (World.block_lt_of_cell? w _ hx139_0)).trans hx139_0
            replace p139 := eq_true p139
            replace q139 := eq_true q139
            refine start_ (n := 7) (S := fun w' => w'.cell? (ad139.add (x5_1).toNat) = some (.string (rdOf ByteArray.empty l0 x5_1))) (ds := []) #[false, false, false, false, false, false, false] (by kernel_rfl) rfl rfl (((HB.out.cell (World.block_lt_of_cell? w _ hw139_0)).trans hw139_0)) (fun hHeld => ?_)
            generalize wr.drew = w7 at HB hx139_0 hHeld ⊢
            refine pure_ (i := 0) (N := some 12) (v := ?_) (a' := ?_) #[true, false, false, false, false, false, false] rfl rfl (by kernel_rfl) (fun _ _ _ h => h) (Or.inl ⟨by rfl, ?_⟩) ?_ ?_
            rotate_left
            · intro w'
              go_simp
              with_reducible rfl
            rotate_left
            · simp only [Act.put, List.setIfInBounds_toArray, List.set_cons_zero, List.set_cons_succ, i64_w, i32_w]
              rfl
            refine pure_ (i := 1) (N := some 13) (v := ?_) (a' := ?_) #[true, true, false, false, false, false, false] rfl rfl (by kernel_rfl) (fun _ _ _ h => h) (Or.inl ⟨by rfl, ?_⟩) ?_ ?_
            rotate_left
            · intro w'
              go_simp
              with_reducible rfl
            rotate_left
            · simp only [Act.put, List.setIfInBounds_toArray, List.set_cons_zero, List.set_cons_succ, i64_w, i32_w]
              rfl
            refine pure_ (i := 2) (N := some 14) (v := ?_) (a' := ?_) #[true, true, true, false, false, false, false] rfl rfl (by kernel_rfl) (fun _ _ _ h => h) (Or.inl ⟨by rfl, ?_⟩) ?_ ?_
            rotate_left
            · intro w'
              go_simp
              with_reducible rfl
            rotate_left
            · simp only [Act.put, List.setIfInBounds_toArray, List.set_cons_zero, List.set_cons_succ, i64_w, i32_w]
              rfl
            refine pure_ (i := 4) (N := some 16) (v := ?_) (a' := ?_) #[true, true, true, false, true, false, false] rfl rfl (by kernel_rfl) (fun _ _ _ h => h) (Or.inl ⟨by rfl, ?_⟩) ?_ ?_
            rotate_left
            · intro w'
              go_simp
              with_reducible rfl
            rotate_left
            · simp only [Act.put, List.setIfInBounds_toArray, List.set_cons_zero, List.set_cons_succ, i64_w, i32_w]
              rfl
            refine take_ (i := 3) (N := some 15) (v := ?_) (a' := ?_) #[true, true, true, true, true, false, false] rfl rfl (by kernel_rfl) (fun _ _ _ h => h) (Or.inl ⟨by rfl, ?_⟩) hHeld ?_ ?_
            rotate_left
            · intro w' s0
              go_simp
              with_reducible rfl
            rotate_left
            · simp only [Act.put, List.setIfInBounds_toArray, List.set_cons_zero, List.set_cons_succ, i64_w, i32_w]
              rfl
            refine one_ (i := 5) (N := some 17) #[true, true, true, true, true, true, false] rfl rfl (by kernel_rfl) (by decide) (fun K hK => ?_)
            refine goes_ Try.func96 (by kernel_rfl) rfl #[.int .i64 x1_1] (by rfl) rfl rfl (by (try simp only [List.map_toArray, List.map_cons, List.map_nil]); first | done | rfl | (simp only [List.length_drop, List.length_take]; rfl)) ?_
            with_reducible refine (laws_markText.calls k1 x1_1 t140 _ A5.out).mono ?_
            rintro e w8 ⟨rfl, hb⟩
            refine ⟨_, rfl, ?_⟩
            have n0_ := Aside0.mk (below_step (by repeat (first | (with_reducible first | exact HB.out | apply below_alloc | apply pw_below_drewN | apply below_drew1) | exact HB.out)) hb)
            clear HB
            have HB := n0_
            clear n0_
            (try clear hb)
            (try clear hb2)
            (try clear hk)
            (try clear hi)
            refine hK.out _ _ (((HB.out.cell (World.block_lt_of_cell? w _ hw139_0)).trans hw139_0)) (fun hHeld => ?_)
            clear hK K
            refine norm_ (a' := ?_) ?_ ?_
            rotate_left
            · show Act.put _ (some 17) _ = _
              simp only [Act.put, List.setIfInBounds_toArray, List.set_cons_zero, List.set_cons_succ, i64_w, i32_w]
              rfl
            refine pure_ (i := 6) (N := some 18) (v := ?_) (a' := ?_) #[true, true, true, true, true, true, true] rfl rfl (by kernel_rfl) (fun _ _ _ h => h) (Or.inl ⟨by rfl, ?_⟩) ?_ ?_
            rotate_left
            · intro w'
              go_simp
              with_reducible rfl
            rotate_left
            · simp only [Act.put, List.setIfInBounds_toArray, List.set_cons_zero, List.set_cons_succ, i64_w, i32_w]
              rfl
            refine done_ (by kernel_rfl) ?_
            try go_wp2
            go_roundg k1
            case measure => have := HK1.out; omega
            case rel => exact ⟨(wrap64 (x1_1 + 1)), (wrap64 (x5_1 + 1)), (by first | rfl | (simp; done) | (simp [*]; done)), (by first | rfl | (simp; done) | (simp [*]; done)), H', ⟨by have := HK1.out; omega⟩, ⟨by repeat (first | (with_reducible first | exact HB.out | apply below_alloc | apply pw_below_drewN | apply below_drew1) | exact HB.out)⟩⟩
          · rw [if_neg c6] at H
            have c6b0 : ((rdOf ByteArray.empty l0 x5_1).toList == t140.toList) = false := beq_eq_false_iff_ne.mpr c6
            have c6b1 : ((rdOf ByteArray.empty l0 x5_1).toList != t140.toList) = true := bne_iff_ne.mpr c6
            obtain rfl := Option.some.inj H
            try go_wp2
            have n0_ := Aside0.mk (below_drew1 HB.out)
            clear HB
            have HB := n0_
            clear n0_
            have p139 : 0 ≤ (x5_1 : Int) := of_decide_eq_true (by first | (with_reducible assumption) | assumption)
            have q139 : x5_1 < (l0.length : Int) := of_decide_eq_true (by first | (with_reducible assumption) | assumption)
            obtain ⟨ad139, e139, hx139_0⟩ := Kd.at_string HR0.out x5_1 p139 q139
            have hw139_0 := hx139_0
            cases e139
            replace hx139_0 := (HB.out.cell (World.block_lt_of_cell? w _ hx139_0)).trans hx139_0
            replace p139 := eq_true p139
            replace q139 := eq_true q139
            refine start_ (n := 7) (S := fun w' => w'.cell? (ad139.add (x5_1).toNat) = some (.string (rdOf ByteArray.empty l0 x5_1))) (ds := []) #[false, false, false, false, false, false, false] (by kernel_rfl) rfl rfl (((HB.out.cell (World.block_lt_of_cell? w _ hw139_0)).trans hw139_0)) (fun hHeld => ?_)
            generalize wr.drew = w9 at HB hx139_0 hHeld ⊢
            refine pure_ (i := 0) (N := some 12) (v := ?_) (a' := ?_) #[true, false, false, false, false, false, false] rfl rfl (by kernel_rfl) (fun _ _ _ h => h) (Or.inl ⟨by rfl, ?_⟩) ?_ ?_
            rotate_left
            · intro w'
              go_simp
              with_reducible rfl
            rotate_left
            · simp only [Act.put, List.setIfInBounds_toArray, List.set_cons_zero, List.set_cons_succ, i64_w, i32_w]
              rfl
            refine pure_ (i := 1) (N := some 13) (v := ?_) (a' := ?_) #[true, true, false, false, false, false, false] rfl rfl (by kernel_rfl) (fun _ _ _ h => h) (Or.inl ⟨by rfl, ?_⟩) ?_ ?_
            rotate_left
            · intro w'
              go_simp
              with_reducible rfl
            rotate_left
            · simp only [Act.put, List.setIfInBounds_toArray, List.set_cons_zero, List.set_cons_succ, i64_w, i32_w]
              rfl
            refine pure_ (i := 2) (N := some 14) (v := ?_) (a' := ?_) #[true, true, true, false, false, false, false] rfl rfl (by kernel_rfl) (fun _ _ _ h => h) (Or.inl ⟨by rfl, ?_⟩) ?_ ?_
            rotate_left
            · intro w'
              go_simp
              with_reducible rfl
            rotate_left
            · simp only [Act.put, List.setIfInBounds_toArray, List.set_cons_zero, List.set_cons_succ, i64_w, i32_w]
              rfl
            refine pure_ (i := 4) (N := some 16) (v := ?_) (a' := ?_) #[true, true, true, false, true, false, false] rfl rfl (by kernel_rfl) (fun _ _ _ h => h) (Or.inl ⟨by rfl, ?_⟩) ?_ ?_
            rotate_left
            · intro w'
              go_simp
              with_reducible rfl
            rotate_left
            · simp only [Act.put, List.setIfInBounds_toArray, List.set_cons_zero, List.set_cons_succ, i64_w, i32_w]
              rfl
            refine take_ (i := 3) (N := some 15) (v := ?_) (a' := ?_) #[true, true, true, true, true, false, false] rfl rfl (by kernel_rfl) (fun _ _ _ h => h) (Or.inl ⟨by rfl, ?_⟩) hHeld ?_ ?_
            rotate_left
            · intro w' s0
              go_simp
              with_reducible rfl
            rotate_left
            · simp only [Act.put, List.setIfInBounds_toArray, List.set_cons_zero, List.set_cons_succ, i64_w, i32_w]
              rfl
            refine one_ (i := 5) (N := some 17) #[true, true, true, true, true, true, false] rfl rfl (by kernel_rfl) (by decide) (fun K hK => ?_)
            refine goes_ Try.func96 (by kernel_rfl) rfl #[.int .i64 x1_1] (by rfl) rfl rfl (by (try simp only [List.map_toArray, List.map_cons, List.map_nil]); first | done | rfl | (simp only [List.length_drop, List.length_take]; rfl)) ?_
            with_reducible refine (laws_markText.calls k1 x1_1 t140 _ A5.out).mono ?_
            rintro e w10 ⟨rfl, hb⟩
            refine ⟨_, rfl, ?_⟩
            have n0_ := Aside0.mk (below_step (by repeat (first | (with_reducible first | exact HB.out | apply below_alloc | apply pw_below_drewN | apply below_drew1) | exact HB.out)) hb)
            clear HB
            have HB := n0_
            clear n0_
            (try clear hb)
            (try clear hb2)
            (try clear hk)
            (try clear hi)
            refine hK.out _ _ (((HB.out.cell (World.block_lt_of_cell? w _ hw139_0)).trans hw139_0)) (fun hHeld => ?_)
            clear hK K
            refine norm_ (a' := ?_) ?_ ?_
            rotate_left
            · show Act.put _ (some 17) _ = _
              simp only [Act.put, List.setIfInBounds_toArray, List.set_cons_zero, List.set_cons_succ, i64_w, i32_w]
              rfl
            refine pure_ (i := 6) (N := some 18) (v := ?_) (a' := ?_) #[true, true, true, true, true, true, true] rfl rfl (by kernel_rfl) (fun _ _ _ h => h) (Or.inl ⟨by rfl, ?_⟩) ?_ ?_
            rotate_left
            · intro w'
              go_simp
              with_reducible rfl
            rotate_left
            · simp only [Act.put, List.setIfInBounds_toArray, List.set_cons_zero, List.set_cons_succ, i64_w, i32_w]
              rfl
            refine done_ (by kernel_rfl) ?_
            try go_wp2
            go_ret
            exact ⟨by first | rfl | (simp [errW_none, errW_some] <;> rfl) | (simp [*, errW_none, errW_some] <;> rfl), by repeat (first | (with_reducible first | exact HB.out | apply below_alloc | apply pw_below_drewN | apply below_drew1) | exact HB.out)⟩
        · rw [if_neg c4] at H
          exact absurd H (by simp)
      · rw [if_neg c3] at H
        have c3b0 : decide (x5_1 < (l0.length : Int)) = false := decide_eq_false c3
        clear c3
        obtain rfl := Option.some.inj H
        go_wp2
        go_ret
        exact ⟨by first | rfl | (simp [errW_none, errW_some] <;> rfl) | (simp [*, errW_none, errW_some] <;> rfl), by repeat (first | (with_reducible first | exact HB.out | apply below_alloc | apply pw_below_drewN | apply below_drew1) | exact HB.out)⟩

/-! ### laws_heldVolumeS: function 92 -/
def laws_heldVolumeS.l0 : Nat → List (S112) → Int → Int → Option (Int)
  | 0, _, _, _ => none
  | k + 1, x0, x1, x5 => if x5 < (x0.length : Int) then (if 0 ≤ x5 then ((laws_heldStringS.f k ((rd_T112 x0 x5).f0) x1).bind fun t142 => (if t142 < 0 then (some (-1)) else (if (((rd_T112 x0 x5).f1) != ((Int.tmod t142 3) == 0)) = true then (some (-1)) else (laws_heldVolumeS.l0 k x0 (wrap64 (t142 + 1)) (wrap64 (x5 + 1)))))) else (none)) else (some x1)
def laws_heldVolumeS.f (k : Nat) (l0 : List (S112)) (a1 : Int) : Option (Int) := laws_heldVolumeS.l0 k l0 a1 0
theorem laws_heldVolumeS.mono_l : ∀ k, (∀ y0 y1 y2, LeO (laws_heldVolumeS.l0 k y0 y1 y2) (laws_heldVolumeS.l0 (k + 1) y0 y1 y2))
  | 0 => fun _ _ _ r h => by simp [laws_heldVolumeS.l0] at h
  | k + 1 => by
    have ih0 := laws_heldVolumeS.mono_l k
    · intro y0 y1 y2
      unfold laws_heldVolumeS.l0
      repeat' first
      | (with_reducible exact ih0 _ _ _)
      | (with_reducible exact laws_heldStringS.mono _ _ _)
      | (with_reducible exact LeO.refl _)
      | (with_reducible exact LeO.none _)
      | (with_reducible refine LeO.ite ?_ ?_)
      | (with_reducible refine LeO.bind ?_ (fun _ => ?_))
      | exact ih0 _ _ _
      | exact laws_heldStringS.mono _ _ _
      | exact LeO.none _
      | refine LeO.ite ?_ ?_
      | refine LeO.bind ?_ (fun _ => ?_)
theorem laws_heldVolumeS.mono : ∀ a0 a1 k, LeO (laws_heldVolumeS.f k a0 a1) (laws_heldVolumeS.f (k + 1) a0 a1) := by
  intro a0 a1 k
  have ih0 := laws_heldVolumeS.mono_l k
  unfold laws_heldVolumeS.f
  repeat' first
      | (with_reducible exact ih0 _ _ _)
      | (with_reducible exact laws_heldStringS.mono _ _ _)
      | (with_reducible exact LeO.refl _)
      | (with_reducible exact LeO.none _)
      | (with_reducible refine LeO.ite ?_ ?_)
      | (with_reducible refine LeO.bind ?_ (fun _ => ?_))
      | exact ih0 _ _ _
      | exact laws_heldStringS.mono _ _ _
      | exact LeO.none _
      | refine LeO.ite ?_ ?_
      | refine LeO.bind ?_ (fun _ => ?_)
set_option maxHeartbeats 8000000 in
set_option maxRecDepth 100000 in
theorem laws_heldVolumeS.calls (k : Nat) (A0 : Option Addr) (c0 : Nat) (l0 : List (S112)) (a1 : Int) (r : Int) (w : World) (hr0 : Kd.C k112 w A0 l0.length l0) (hc0 : l0.length ≤ c0) (h : laws_heldVolumeS.f k l0 a1 = some r) :
    Calls Try.prog 92 #[.slice A0 l0.length c0, .int .i64 a1] w fun e w' => e = .returned (.int .i64 r) ∧ Below w.heap.size w w' := by
  have HR0 := Aside0.mk hr0
  have HC0 := Aside0.mk hc0
  clear hr0 hc0
  have HB := Aside0.mk (Below.refl w.heap.size w)
  have H : (laws_heldVolumeS.l0 k l0 a1 0) = some r := h
  clear h
  have H' := Aside0.mk H
  clear H
  go_enter Try.func92, Try.ntmps92
  go_wp2
  go_loopg [1, 5] k (fun kq v1 v5 w' => ∃ (x1_1 : Int) (x5_1 : Int), v1 = .int .i64 x1_1 ∧ v5 = .int .i64 x5_1 ∧ Aside0 (laws_heldVolumeS.l0 kq l0 x1_1 x5_1 = some r) ∧ Aside0 (kq ≤ k) ∧ Aside0 (Below w.heap.size w w'))
  case atStart => exact ⟨(a1), (0), (by first | rfl | (simp; done) | (simp [*]; done)), (by first | rfl | (simp; done) | (simp [*]; done)), H', ⟨Nat.le_refl _⟩, ⟨by repeat (first | (with_reducible first | exact HB.out | apply below_alloc | apply pw_below_drewN | apply below_drew1) | exact HB.out)⟩⟩
  case round =>
    clear H'
    try clear p2
    obtain ⟨x1_1, x5_1, rfl, rfl, HA, HK1, HB⟩ := hrel
    cases gk with
    | zero => exact absurd HA.out (by simp [laws_heldVolumeS.l0])
    | succ k1 =>
      have H := HA.out
      clear HA
      simp only [laws_heldVolumeS.l0] at H
      by_cases c3 : x5_1 < (l0.length : Int)
      · rw [if_pos c3] at H
        have c3b0 : decide (x5_1 < (l0.length : Int)) = true := decide_eq_true c3
        clear c3
        by_cases c4 : 0 ≤ x5_1
        · rw [if_pos c4] at H
          have c4b0 : decide (0 ≤ x5_1) = true := decide_eq_true c4
          clear c4
          replace H := Option.bind_eq_some_iff.mp H
          obtain ⟨t142, A50, H⟩ := H
          replace H : (if t142 < 0 then (some (-1)) else (if (((rd_T112 l0 x5_1).f1) != ((Int.tmod t142 3) == 0)) = true then (some (-1)) else (laws_heldVolumeS.l0 k1 l0 (wrap64 (t142 + 1)) (wrap64 (x5_1 + 1))))) = some r := H
          have A5 := Aside0.mk A50
          clear A50
          by_cases c6 : t142 < 0
          · rw [if_pos c6] at H
            have c6b0 : decide (t142 < 0) = true := decide_eq_true c6
            clear c6
            obtain rfl := Option.some.inj H
            have p141 : 0 ≤ (x5_1 : Int) := of_decide_eq_true (by first | (with_reducible assumption) | assumption)
            have q141 : x5_1 < (l0.length : Int) := of_decide_eq_true (by first | (with_reducible assumption) | assumption)
            obtain ⟨ad141, A141_0, c141_0, e141, hx141_0, hx141_1, hl141_0, hi141_0⟩ := at_T112 HR0.out x5_1 p141 q141
            cases e141
            replace hx141_0 := (HB.out.cell (World.block_lt_of_cell? w _ hx141_0)).trans hx141_0
            replace hx141_1 := (HB.out.cell (World.block_lt_of_cell? w _ hx141_1)).trans hx141_1
            have HR141_0 := Aside0.mk hi141_0
            have HC141_0 := Aside0.mk hl141_0
            clear hi141_0 hl141_0
            replace p141 := eq_true p141
            replace q141 := eq_true q141
            go_wp2_with (first | ((with_reducible refine gate_callee (f := 70) rfl ?_); refine goesL_ (some 18) rfl rfl Try.func70 (by kernel_rfl) rfl #[.slice A141_0 ((rd_T112 l0 x5_1).f0).length c141_0, .int .i64 x1_1] rfl (by (try simp only [List.map_toArray, List.map_cons, List.map_nil]); first | done | rfl | (simp only [List.length_drop, List.length_take]; rfl)) ?_; (with_reducible refine (laws_heldStringS.calls k1 _ _ ((rd_T112 l0 x5_1).f0) x1_1 t142 _ ?side1 ?side2 A5.out).mono ?_); (case side1 => repeat (first | exact (Kd.C_below HR141_0.out HB.out) | (with_reducible refine Kd.C_alloc ?_ _) | (with_reducible refine Kd.C_drewN ?_ _) | (with_reducible refine Kd.C_drew ?_))); (case side2 => exact HC141_0.out); rintro e w7 ⟨rfl, hb⟩; refine ⟨_, rfl, ?_⟩; have n0_ := Aside0.mk (below_step (by repeat (first | (with_reducible first | exact HB.out | apply below_alloc | apply pw_below_drewN | apply below_drew1) | exact HB.out)) hb); clear HB; have HB := n0_; clear n0_; (try clear hb); (try clear hb2); (try clear hk); (try clear hi)))
            go_ret
            exact ⟨by first | rfl | (simp [errW_none, errW_some] <;> rfl) | (simp [*, errW_none, errW_some] <;> rfl), by repeat (first | (with_reducible first | exact HB.out | apply below_alloc | apply pw_below_drewN | apply below_drew1) | exact HB.out)⟩
          · rw [if_neg c6] at H
            have c6b0 : decide (t142 < 0) = false := decide_eq_false c6
            clear c6
            by_cases c8 : (((rd_T112 l0 x5_1).f1) != ((Int.tmod t142 3) == 0)) = true
            · rw [if_pos c8] at H
              have c8b0 : (((rd_T112 l0 x5_1).f1) != ((Int.tmod t142 3) == 0)) = true := c8
              (try (have c8b1 : decide (((rd_T112 l0 x5_1).f1) = ((Int.tmod t142 3) == 0)) = false := by simpa using c8))
              (try (have c8b2 : (((rd_T112 l0 x5_1).f1) == ((Int.tmod t142 3) == 0)) = false := by simpa using c8))
              (try (have c8b3 : ¬ (((rd_T112 l0 x5_1).f1) = ((Int.tmod t142 3) == 0)) := by simpa using c8))
              clear c8
              obtain rfl := Option.some.inj H
              have p141 : 0 ≤ (x5_1 : Int) := of_decide_eq_true (by first | (with_reducible assumption) | assumption)
              have q141 : x5_1 < (l0.length : Int) := of_decide_eq_true (by first | (with_reducible assumption) | assumption)
              obtain ⟨ad141, A141_0, c141_0, e141, hx141_0, hx141_1, hl141_0, hi141_0⟩ := at_T112 HR0.out x5_1 p141 q141
              cases e141
              replace hx141_0 := (HB.out.cell (World.block_lt_of_cell? w _ hx141_0)).trans hx141_0
              replace hx141_1 := (HB.out.cell (World.block_lt_of_cell? w _ hx141_1)).trans hx141_1
              have HR141_0 := Aside0.mk hi141_0
              have HC141_0 := Aside0.mk hl141_0
              clear hi141_0 hl141_0
              replace p141 := eq_true p141
              replace q141 := eq_true q141
              go_wp2_with (first | ((with_reducible refine gate_callee (f := 70) rfl ?_); refine goesL_ (some 18) rfl rfl Try.func70 (by kernel_rfl) rfl #[.slice A141_0 ((rd_T112 l0 x5_1).f0).length c141_0, .int .i64 x1_1] rfl (by (try simp only [List.map_toArray, List.map_cons, List.map_nil]); first | done | rfl | (simp only [List.length_drop, List.length_take]; rfl)) ?_; (with_reducible refine (laws_heldStringS.calls k1 _ _ ((rd_T112 l0 x5_1).f0) x1_1 t142 _ ?side1 ?side2 A5.out).mono ?_); (case side1 => repeat (first | exact (Kd.C_below HR141_0.out HB.out) | (with_reducible refine Kd.C_alloc ?_ _) | (with_reducible refine Kd.C_drewN ?_ _) | (with_reducible refine Kd.C_drew ?_))); (case side2 => exact HC141_0.out); rintro e w9 ⟨rfl, hb⟩; refine ⟨_, rfl, ?_⟩; have n0_ := Aside0.mk (below_step (by repeat (first | (with_reducible first | exact HB.out | apply below_alloc | apply pw_below_drewN | apply below_drew1) | exact HB.out)) hb); clear HB; have HB := n0_; clear n0_; (try clear hb); (try clear hb2); (try clear hk); (try clear hi); have p143 : 0 ≤ (x5_1 : Int) := of_decide_eq_true (by first | (with_reducible assumption) | assumption); have q143 : x5_1 < (l0.length : Int) := of_decide_eq_true (by first | (with_reducible assumption) | assumption); obtain ⟨ad143, A143_0, c143_0, e143, hx143_0, hx143_1, hl143_0, hi143_0⟩ := at_T112 HR0.out x5_1 p143 q143; obtain rfl : ad141 = ad143 := (by injection e143); replace hx143_0 := (HB.out.cell (World.block_lt_of_cell? w _ hx143_0)).trans hx143_0; replace hx143_1 := (HB.out.cell (World.block_lt_of_cell? w _ hx143_1)).trans hx143_1; have HR143_0 := Aside0.mk hi143_0; have HC143_0 := Aside0.mk hl143_0; clear hi143_0 hl143_0; replace p143 := eq_true p143; replace q143 := eq_true q143))
              go_ret
              exact ⟨by first | rfl | (simp [errW_none, errW_some] <;> rfl) | (simp [*, errW_none, errW_some] <;> rfl), by repeat (first | (with_reducible first | exact HB.out | apply below_alloc | apply pw_below_drewN | apply below_drew1) | exact HB.out)⟩
            · rw [if_neg c8] at H
              have c8b0 : (((rd_T112 l0 x5_1).f1) != ((Int.tmod t142 3) == 0)) = false := by simpa using c8
              (try (have c8b1 : decide (((rd_T112 l0 x5_1).f1) = ((Int.tmod t142 3) == 0)) = true := by simpa using c8))
              (try (have c8b2 : (((rd_T112 l0 x5_1).f1) == ((Int.tmod t142 3) == 0)) = true := by simpa using c8))
              clear c8
              have H' := Aside0.mk H
              clear H
              have p141 : 0 ≤ (x5_1 : Int) := of_decide_eq_true (by first | (with_reducible assumption) | assumption)
              have q141 : x5_1 < (l0.length : Int) := of_decide_eq_true (by first | (with_reducible assumption) | assumption)
              obtain ⟨ad141, A141_0, c141_0, e141, hx141_0, hx141_1, hl141_0, hi141_0⟩ := at_T112 HR0.out x5_1 p141 q141
              cases e141
              replace hx141_0 := (HB.out.cell (World.block_lt_of_cell? w _ hx141_0)).trans hx141_0
              replace hx141_1 := (HB.out.cell (World.block_lt_of_cell? w _ hx141_1)).trans hx141_1
              have HR141_0 := Aside0.mk hi141_0
              have HC141_0 := Aside0.mk hl141_0
              clear hi141_0 hl141_0
              replace p141 := eq_true p141
              replace q141 := eq_true q141
              go_wp2_with (first | ((with_reducible refine gate_callee (f := 70) rfl ?_); refine goesL_ (some 18) rfl rfl Try.func70 (by kernel_rfl) rfl #[.slice A141_0 ((rd_T112 l0 x5_1).f0).length c141_0, .int .i64 x1_1] rfl (by (try simp only [List.map_toArray, List.map_cons, List.map_nil]); first | done | rfl | (simp only [List.length_drop, List.length_take]; rfl)) ?_; (with_reducible refine (laws_heldStringS.calls k1 _ _ ((rd_T112 l0 x5_1).f0) x1_1 t142 _ ?side1 ?side2 A5.out).mono ?_); (case side1 => repeat (first | exact (Kd.C_below HR141_0.out HB.out) | (with_reducible refine Kd.C_alloc ?_ _) | (with_reducible refine Kd.C_drewN ?_ _) | (with_reducible refine Kd.C_drew ?_))); (case side2 => exact HC141_0.out); rintro e w10 ⟨rfl, hb⟩; refine ⟨_, rfl, ?_⟩; have n0_ := Aside0.mk (below_step (by repeat (first | (with_reducible first | exact HB.out | apply below_alloc | apply pw_below_drewN | apply below_drew1) | exact HB.out)) hb); clear HB; have HB := n0_; clear n0_; (try clear hb); (try clear hb2); (try clear hk); (try clear hi); have p143 : 0 ≤ (x5_1 : Int) := of_decide_eq_true (by first | (with_reducible assumption) | assumption); have q143 : x5_1 < (l0.length : Int) := of_decide_eq_true (by first | (with_reducible assumption) | assumption); obtain ⟨ad143, A143_0, c143_0, e143, hx143_0, hx143_1, hl143_0, hi143_0⟩ := at_T112 HR0.out x5_1 p143 q143; obtain rfl : ad141 = ad143 := (by injection e143); replace hx143_0 := (HB.out.cell (World.block_lt_of_cell? w _ hx143_0)).trans hx143_0; replace hx143_1 := (HB.out.cell (World.block_lt_of_cell? w _ hx143_1)).trans hx143_1; have HR143_0 := Aside0.mk hi143_0; have HC143_0 := Aside0.mk hl143_0; clear hi143_0 hl143_0; replace p143 := eq_true p143; replace q143 := eq_true q143))
              go_roundg k1
              case measure => have := HK1.out; omega
              case rel => exact ⟨(wrap64 (t142 + 1)), (wrap64 (x5_1 + 1)), (by first | rfl | (simp; done) | (simp [*]; done)), (by first | rfl | (simp; done) | (simp [*]; done)), H', ⟨by have := HK1.out; omega⟩, ⟨by repeat (first | (with_reducible first | exact HB.out | apply below_alloc | apply pw_below_drewN | apply below_drew1) | exact HB.out)⟩⟩
        · rw [if_neg c4] at H
          exact absurd H (by simp)
      · rw [if_neg c3] at H
        have c3b0 : decide (x5_1 < (l0.length : Int)) = false := decide_eq_false c3
        clear c3
        obtain rfl := Option.some.inj H
        go_wp2
        go_ret
        exact ⟨by first | rfl | (simp [errW_none, errW_some] <;> rfl) | (simp [*, errW_none, errW_some] <;> rfl), by repeat (first | (with_reducible first | exact HB.out | apply below_alloc | apply pw_below_drewN | apply below_drew1) | exact HB.out)⟩

/-! ### laws_heldForkS: function 93 -/
def laws_heldForkS.f (l0 : List (S131)) (a1 : Int) : Option Int := match l0 with
  | [] => some a1
  | _ :: _ => none
set_option maxHeartbeats 8000000 in
set_option maxRecDepth 100000 in
theorem laws_heldForkS.calls (A0 : Option Addr) (c0 : Nat) (l0 : List (S131)) (a1 : Int) (r : Int) (w : World) (hr0 : Kd.C k131 w A0 l0.length l0) (hc0 : l0.length ≤ c0) (h : laws_heldForkS.f l0 a1 = some r) :
    Calls Try.prog 93 #[.slice A0 l0.length c0, .int .i64 a1] w fun e w' => e = .returned (.int .i64 r) ∧ Below w.heap.size w w' := by
  cases l0 with
  | cons x l => cases h
  | nil =>
    obtain rfl := Option.some.inj h
    have HB := Aside0.mk (Below.refl w.heap.size w)
    clear h hr0 hc0
    show Calls Try.prog 93 #[.slice A0 0 c0, .int .i64 a1] w _
    go_enter Try.func93, Try.ntmps93
    go_wp2
    go_loopg [1, 5] 0 (fun kq v1 v5 w' => v1 = .int .i64 a1 ∧ v5 = .int .i64 0 ∧ Aside0 (Below w.heap.size w w'))
    case atStart => exact ⟨rfl, rfl, HB⟩
    case round =>
      clear HB
      obtain ⟨rfl, rfl, HB⟩ := hrel
      go_wp2
      go_ret
      exact ⟨by first | rfl | (simp; done), HB.out⟩

/-! ### laws_heldBook: function 59 -/
def laws_heldBook.f (k : Nat) (l0_0 : List (S112)) (l0_1 : List (S131)) (a1 : Int) : Option (Int) := (laws_heldVolumeS.f k l0_0 a1).bind fun t145 => (if t145 < 0 then (some (-1)) else ((laws_heldForkS.f l0_1 t145).bind fun t146 => (if t146 < 0 then (some (-1)) else (some t146))))
theorem laws_heldBook.mono : ∀ a0 a1 a2 k, LeO (laws_heldBook.f k a0 a1 a2) (laws_heldBook.f (k + 1) a0 a1 a2) := by
  intro a0 a1 a2 k
  unfold laws_heldBook.f
  repeat' first
      | (with_reducible exact laws_heldVolumeS.mono _ _ _)
      | (with_reducible exact LeO.refl _)
      | (with_reducible exact LeO.none _)
      | (with_reducible refine LeO.ite ?_ ?_)
      | (with_reducible refine LeO.bind ?_ (fun _ => ?_))
      | exact laws_heldVolumeS.mono _ _ _
      | exact LeO.none _
      | refine LeO.ite ?_ ?_
      | refine LeO.bind ?_ (fun _ => ?_)
set_option maxHeartbeats 8000000 in
set_option maxRecDepth 100000 in
theorem laws_heldBook.calls (k : Nat) (A0_0 : Option Addr) (c0_0 : Nat) (l0_0 : List (S112)) (A0_1 : Option Addr) (c0_1 : Nat) (l0_1 : List (S131)) (a1 : Int) (r : Int) (w : World) (hr0_0 : Kd.C k112 w A0_0 l0_0.length l0_0) (hc0_0 : l0_0.length ≤ c0_0) (hr0_1 : Kd.C k131 w A0_1 l0_1.length l0_1) (hc0_1 : l0_1.length ≤ c0_1) (h : laws_heldBook.f k l0_0 l0_1 a1 = some r) :
    Calls Try.prog 59 #[.agg #[.slice A0_0 l0_0.length c0_0, .slice A0_1 l0_1.length c0_1], .int .i64 a1] w fun e w' => e = .returned (.int .i64 r) ∧ Below w.heap.size w w' := by
  have hu80 := Try.underlying80
  have HR0_0 := Aside0.mk hr0_0
  have HC0_0 := Aside0.mk hc0_0
  clear hr0_0 hc0_0
  have HR0_1 := Aside0.mk hr0_1
  have HC0_1 := Aside0.mk hc0_1
  clear hr0_1 hc0_1
  have HB := Aside0.mk (Below.refl w.heap.size w)
  have H : ((laws_heldVolumeS.f k l0_0 a1).bind fun t145 => (if t145 < 0 then (some (-1)) else ((laws_heldForkS.f l0_1 t145).bind fun t146 => (if t146 < 0 then (some (-1)) else (some t146))))) = some r := h
  clear h
  replace H := Option.bind_eq_some_iff.mp H
  obtain ⟨t145, A30, H⟩ := H
  replace H : (if t145 < 0 then (some (-1)) else ((laws_heldForkS.f l0_1 t145).bind fun t146 => (if t146 < 0 then (some (-1)) else (some t146)))) = some r := H
  have A3 := Aside0.mk A30
  clear A30
  by_cases c4 : t145 < 0
  · rw [if_pos c4] at H
    have c4b0 : decide (t145 < 0) = true := decide_eq_true c4
    clear c4
    obtain rfl := Option.some.inj H
    go_enter Try.func59, Try.ntmps59
    go_wp2_with (first | ((with_reducible refine gate_dst (N := 2) rfl ?_); refine box_event ?hg (N := 2) ?hd (cs := #[.slice A0_0 l0_0.length c0_0, .slice A0_1 l0_1.length c0_1]) (t := 80) ?hr ?_; (case hd => rfl); (case hg => rfl); (case hr => first | (go_simp; done) | (go_simp; rfl)); intro gb144 hg w5 hbox hb; have n0_ := Aside0.mk (below_step (by repeat (first | (with_reducible first | exact HB.out | apply below_alloc | apply pw_below_drewN | apply below_drew1) | exact HB.out)) hb); have n1_ := Aside0.mk (hbox); have n2_ := Aside0.mk ((by rw [hg]; exact (below_size (by repeat (first | (with_reducible first | exact HB.out | apply below_alloc | apply pw_below_drewN | apply below_drew1) | exact HB.out))) : w.heap.size ≤ gb144)); have n3_ := Aside0.mk ((by rw [hg]; exact (below_size (by repeat (first | (with_reducible first | exact HB.out | apply below_alloc | apply pw_below_drewN | apply below_drew1) | exact HB.out))) : w.heap.size ≤ gb144)); clear HB; have HB := n0_; have BK144 := n1_; have GW144 := n2_; have GE144 := n3_; clear n0_ n1_ n2_ n3_; clear hb hbox hg; have hcz6_0 : w5.cell? ⟨gb144, 0, none⟩ = some (.slice A0_0 l0_0.length c0_0) := (blk_cell BK144.out 0).trans rfl; have hcz6_1 : w5.cell? ⟨gb144, 1, none⟩ = some (.slice A0_1 l0_1.length c0_1) := (blk_cell BK144.out 1).trans rfl; have hfz6_0 := blk_frozen BK144.out 0; have hfz6_1 := blk_frozen BK144.out 1) | ((with_reducible refine gate_callee (f := 92) rfl ?_); refine goesL_ (some 8) rfl rfl Try.func92 (by kernel_rfl) rfl #[.slice A0_0 l0_0.length c0_0, .int .i64 a1] rfl (by (try simp only [List.map_toArray, List.map_cons, List.map_nil]); first | done | rfl | (simp only [List.length_drop, List.length_take]; rfl)) ?_; (with_reducible refine (laws_heldVolumeS.calls k _ _ l0_0 a1 t145 _ ?side1 ?side2 A3.out).mono ?_); (case side1 => repeat (first | exact (Kd.C_below HR0_0.out HB.out) | (with_reducible refine Kd.C_alloc ?_ _) | (with_reducible refine Kd.C_drewN ?_ _) | (with_reducible refine Kd.C_drew ?_))); (case side2 => exact HC0_0.out); rintro e w7 ⟨rfl, hb⟩; refine ⟨_, rfl, ?_⟩; have n0_ := Aside0.mk (blk_below (g := gb144) (o := .cells #[.slice A0_0 l0_0.length c0_0, .slice A0_1 l0_1.length c0_1] 80 (0, 0)) (by (with_reducible repeat (first | refine blk_drewN ?_ _ | refine blk_drew ?_ | refine blk_alloc ?_ _)); exact BK144.out) hb); have n1_ := Aside0.mk (below_step (by repeat (first | (with_reducible first | exact HB.out | apply below_alloc | apply pw_below_drewN | apply below_drew1 | refine below_set ?_ GE144.out) | exact HB.out)) hb); clear BK144; clear HB; have BK144 := n0_; have HB := n1_; clear n0_ n1_; (try clear hb); (try clear hb2); (try clear hk); (try clear hi)))
    go_ret
    exact ⟨by first | rfl | (simp [errW_none, errW_some] <;> rfl) | (simp [*, errW_none, errW_some] <;> rfl), by repeat (first | (with_reducible first | exact HB.out | apply below_alloc | apply pw_below_drewN | apply below_drew1 | refine below_set ?_ GE144.out) | exact HB.out)⟩
  · rw [if_neg c4] at H
    have c4b0 : decide (t145 < 0) = false := decide_eq_false c4
    clear c4
    replace H := Option.bind_eq_some_iff.mp H
    obtain ⟨t146, A80, H⟩ := H
    replace H : (if t146 < 0 then (some (-1)) else (some t146)) = some r := H
    have A8 := Aside0.mk A80
    clear A80
    by_cases c9 : t146 < 0
    · rw [if_pos c9] at H
      have c9b0 : decide (t146 < 0) = true := decide_eq_true c9
      clear c9
      obtain rfl := Option.some.inj H
      go_enter Try.func59, Try.ntmps59
      go_wp2_with (first | ((with_reducible refine gate_dst (N := 2) rfl ?_); refine box_event ?hg (N := 2) ?hd (cs := #[.slice A0_0 l0_0.length c0_0, .slice A0_1 l0_1.length c0_1]) (t := 80) ?hr ?_; (case hd => rfl); (case hg => rfl); (case hr => first | (go_simp; done) | (go_simp; rfl)); intro gb144 hg w10 hbox hb; have n0_ := Aside0.mk (below_step (by repeat (first | (with_reducible first | exact HB.out | apply below_alloc | apply pw_below_drewN | apply below_drew1) | exact HB.out)) hb); have n1_ := Aside0.mk (hbox); have n2_ := Aside0.mk ((by rw [hg]; exact (below_size (by repeat (first | (with_reducible first | exact HB.out | apply below_alloc | apply pw_below_drewN | apply below_drew1) | exact HB.out))) : w.heap.size ≤ gb144)); have n3_ := Aside0.mk ((by rw [hg]; exact (below_size (by repeat (first | (with_reducible first | exact HB.out | apply below_alloc | apply pw_below_drewN | apply below_drew1) | exact HB.out))) : w.heap.size ≤ gb144)); clear HB; have HB := n0_; have BK144 := n1_; have GW144 := n2_; have GE144 := n3_; clear n0_ n1_ n2_ n3_; clear hb hbox hg; have hcz11_0 : w10.cell? ⟨gb144, 0, none⟩ = some (.slice A0_0 l0_0.length c0_0) := (blk_cell BK144.out 0).trans rfl; have hcz11_1 : w10.cell? ⟨gb144, 1, none⟩ = some (.slice A0_1 l0_1.length c0_1) := (blk_cell BK144.out 1).trans rfl; have hfz11_0 := blk_frozen BK144.out 0; have hfz11_1 := blk_frozen BK144.out 1) | ((with_reducible refine gate_callee (f := 92) rfl ?_); refine goesL_ (some 8) rfl rfl Try.func92 (by kernel_rfl) rfl #[.slice A0_0 l0_0.length c0_0, .int .i64 a1] rfl (by (try simp only [List.map_toArray, List.map_cons, List.map_nil]); first | done | rfl | (simp only [List.length_drop, List.length_take]; rfl)) ?_; (with_reducible refine (laws_heldVolumeS.calls k _ _ l0_0 a1 t145 _ ?side1 ?side2 A3.out).mono ?_); (case side1 => repeat (first | exact (Kd.C_below HR0_0.out HB.out) | (with_reducible refine Kd.C_alloc ?_ _) | (with_reducible refine Kd.C_drewN ?_ _) | (with_reducible refine Kd.C_drew ?_))); (case side2 => exact HC0_0.out); rintro e w12 ⟨rfl, hb⟩; refine ⟨_, rfl, ?_⟩; have n0_ := Aside0.mk (blk_below (g := gb144) (o := .cells #[.slice A0_0 l0_0.length c0_0, .slice A0_1 l0_1.length c0_1] 80 (0, 0)) (by (with_reducible repeat (first | refine blk_drewN ?_ _ | refine blk_drew ?_ | refine blk_alloc ?_ _)); exact BK144.out) hb); have n1_ := Aside0.mk (below_step (by repeat (first | (with_reducible first | exact HB.out | apply below_alloc | apply pw_below_drewN | apply below_drew1 | refine below_set ?_ GE144.out) | exact HB.out)) hb); clear BK144; clear HB; have BK144 := n0_; have HB := n1_; clear n0_ n1_; (try clear hb); (try clear hb2); (try clear hk); (try clear hi); have hcz13_0 : w12.cell? ⟨gb144, 0, none⟩ = some (.slice A0_0 l0_0.length c0_0) := (blk_cell BK144.out 0).trans rfl; have hcz13_1 : w12.cell? ⟨gb144, 1, none⟩ = some (.slice A0_1 l0_1.length c0_1) := (blk_cell BK144.out 1).trans rfl; have hfz13_0 := blk_frozen BK144.out 0; have hfz13_1 := blk_frozen BK144.out 1) | ((with_reducible refine gate_callee (f := 93) rfl ?_); refine goesL_ (some 14) rfl rfl Try.func93 (by kernel_rfl) rfl #[.slice A0_1 l0_1.length c0_1, .int .i64 t145] rfl (by (try simp only [List.map_toArray, List.map_cons, List.map_nil]); first | done | rfl | (simp only [List.length_drop, List.length_take]; rfl)) ?_; (with_reducible refine (laws_heldForkS.calls _ _ l0_1 t145 t146 _ ?side1 ?side2 A8.out).mono ?_); (case side1 => repeat (first | exact (Kd.C_below HR0_1.out HB.out) | (with_reducible refine Kd.C_alloc ?_ _) | (with_reducible refine Kd.C_drewN ?_ _) | (with_reducible refine Kd.C_drew ?_))); (case side2 => exact HC0_1.out); rintro e w14 ⟨rfl, hb⟩; refine ⟨_, rfl, ?_⟩; have n0_ := Aside0.mk (blk_below (g := gb144) (o := .cells #[.slice A0_0 l0_0.length c0_0, .slice A0_1 l0_1.length c0_1] 80 (0, 0)) (by (with_reducible repeat (first | refine blk_drewN ?_ _ | refine blk_drew ?_ | refine blk_alloc ?_ _)); exact BK144.out) hb); have n1_ := Aside0.mk (below_step (by repeat (first | (with_reducible first | exact HB.out | apply below_alloc | apply pw_below_drewN | apply below_drew1 | refine below_set ?_ GE144.out) | exact HB.out)) hb); clear BK144; clear HB; have BK144 := n0_; have HB := n1_; clear n0_ n1_; (try clear hb); (try clear hb2); (try clear hk); (try clear hi)))
      go_ret
      exact ⟨by first | rfl | (simp [errW_none, errW_some] <;> rfl) | (simp [*, errW_none, errW_some] <;> rfl), by repeat (first | (with_reducible first | exact HB.out | apply below_alloc | apply pw_below_drewN | apply below_drew1 | refine below_set ?_ GE144.out) | exact HB.out)⟩
    · rw [if_neg c9] at H
      have c9b0 : decide (t146 < 0) = false := decide_eq_false c9
      clear c9
      obtain rfl := Option.some.inj H
      go_enter Try.func59, Try.ntmps59
      go_wp2_with (first | ((with_reducible refine gate_dst (N := 2) rfl ?_); refine box_event ?hg (N := 2) ?hd (cs := #[.slice A0_0 l0_0.length c0_0, .slice A0_1 l0_1.length c0_1]) (t := 80) ?hr ?_; (case hd => rfl); (case hg => rfl); (case hr => first | (go_simp; done) | (go_simp; rfl)); intro gb144 hg w15 hbox hb; have n0_ := Aside0.mk (below_step (by repeat (first | (with_reducible first | exact HB.out | apply below_alloc | apply pw_below_drewN | apply below_drew1) | exact HB.out)) hb); have n1_ := Aside0.mk (hbox); have n2_ := Aside0.mk ((by rw [hg]; exact (below_size (by repeat (first | (with_reducible first | exact HB.out | apply below_alloc | apply pw_below_drewN | apply below_drew1) | exact HB.out))) : w.heap.size ≤ gb144)); have n3_ := Aside0.mk ((by rw [hg]; exact (below_size (by repeat (first | (with_reducible first | exact HB.out | apply below_alloc | apply pw_below_drewN | apply below_drew1) | exact HB.out))) : w.heap.size ≤ gb144)); clear HB; have HB := n0_; have BK144 := n1_; have GW144 := n2_; have GE144 := n3_; clear n0_ n1_ n2_ n3_; clear hb hbox hg; have hcz16_0 : w15.cell? ⟨gb144, 0, none⟩ = some (.slice A0_0 l0_0.length c0_0) := (blk_cell BK144.out 0).trans rfl; have hcz16_1 : w15.cell? ⟨gb144, 1, none⟩ = some (.slice A0_1 l0_1.length c0_1) := (blk_cell BK144.out 1).trans rfl; have hfz16_0 := blk_frozen BK144.out 0; have hfz16_1 := blk_frozen BK144.out 1) | ((with_reducible refine gate_callee (f := 92) rfl ?_); refine goesL_ (some 8) rfl rfl Try.func92 (by kernel_rfl) rfl #[.slice A0_0 l0_0.length c0_0, .int .i64 a1] rfl (by (try simp only [List.map_toArray, List.map_cons, List.map_nil]); first | done | rfl | (simp only [List.length_drop, List.length_take]; rfl)) ?_; (with_reducible refine (laws_heldVolumeS.calls k _ _ l0_0 a1 t145 _ ?side1 ?side2 A3.out).mono ?_); (case side1 => repeat (first | exact (Kd.C_below HR0_0.out HB.out) | (with_reducible refine Kd.C_alloc ?_ _) | (with_reducible refine Kd.C_drewN ?_ _) | (with_reducible refine Kd.C_drew ?_))); (case side2 => exact HC0_0.out); rintro e w17 ⟨rfl, hb⟩; refine ⟨_, rfl, ?_⟩; have n0_ := Aside0.mk (blk_below (g := gb144) (o := .cells #[.slice A0_0 l0_0.length c0_0, .slice A0_1 l0_1.length c0_1] 80 (0, 0)) (by (with_reducible repeat (first | refine blk_drewN ?_ _ | refine blk_drew ?_ | refine blk_alloc ?_ _)); exact BK144.out) hb); have n1_ := Aside0.mk (below_step (by repeat (first | (with_reducible first | exact HB.out | apply below_alloc | apply pw_below_drewN | apply below_drew1 | refine below_set ?_ GE144.out) | exact HB.out)) hb); clear BK144; clear HB; have BK144 := n0_; have HB := n1_; clear n0_ n1_; (try clear hb); (try clear hb2); (try clear hk); (try clear hi); have hcz18_0 : w17.cell? ⟨gb144, 0, none⟩ = some (.slice A0_0 l0_0.length c0_0) := (blk_cell BK144.out 0).trans rfl; have hcz18_1 : w17.cell? ⟨gb144, 1, none⟩ = some (.slice A0_1 l0_1.length c0_1) := (blk_cell BK144.out 1).trans rfl; have hfz18_0 := blk_frozen BK144.out 0; have hfz18_1 := blk_frozen BK144.out 1) | ((with_reducible refine gate_callee (f := 93) rfl ?_); refine goesL_ (some 14) rfl rfl Try.func93 (by kernel_rfl) rfl #[.slice A0_1 l0_1.length c0_1, .int .i64 t145] rfl (by (try simp only [List.map_toArray, List.map_cons, List.map_nil]); first | done | rfl | (simp only [List.length_drop, List.length_take]; rfl)) ?_; (with_reducible refine (laws_heldForkS.calls _ _ l0_1 t145 t146 _ ?side1 ?side2 A8.out).mono ?_); (case side1 => repeat (first | exact (Kd.C_below HR0_1.out HB.out) | (with_reducible refine Kd.C_alloc ?_ _) | (with_reducible refine Kd.C_drewN ?_ _) | (with_reducible refine Kd.C_drew ?_))); (case side2 => exact HC0_1.out); rintro e w19 ⟨rfl, hb⟩; refine ⟨_, rfl, ?_⟩; have n0_ := Aside0.mk (blk_below (g := gb144) (o := .cells #[.slice A0_0 l0_0.length c0_0, .slice A0_1 l0_1.length c0_1] 80 (0, 0)) (by (with_reducible repeat (first | refine blk_drewN ?_ _ | refine blk_drew ?_ | refine blk_alloc ?_ _)); exact BK144.out) hb); have n1_ := Aside0.mk (below_step (by repeat (first | (with_reducible first | exact HB.out | apply below_alloc | apply pw_below_drewN | apply below_drew1 | refine below_set ?_ GE144.out) | exact HB.out)) hb); clear BK144; clear HB; have BK144 := n0_; have HB := n1_; clear n0_ n1_; (try clear hb); (try clear hb2); (try clear hk); (try clear hi)))
      go_ret
      exact ⟨by first | rfl | (simp [errW_none, errW_some] <;> rfl) | (simp [*, errW_none, errW_some] <;> rfl), by repeat (first | (with_reducible first | exact HB.out | apply below_alloc | apply pw_below_drewN | apply below_drew1 | refine below_set ?_ GE144.out) | exact HB.out)⟩

/-! ### laws_FnExactNewBook: function 13 -/
def laws_FnExactNewBook.f : Option Bool := some true
theorem mb.same {w W : World} {g i : Nat} {t : TypeId} {cells : Array Value} {v : Value} (h : Below w.heap.size w W) (hb : W.heap[g]? = some (.cells cells t (0, 0))) (hc : cells[i]? = some v) : Below w.heap.size w (W.setCell ⟨g, i, none⟩ v) := by
  have he : cells.setIfInBounds i v = cells := by
    apply Array.ext_getElem?
    intro j
    rw [Array.getElem?_setIfInBounds]
    by_cases hj : i = j
    · subst hj
      have := (Array.getElem?_eq_some_iff.1 hc).1
      rw [if_pos rfl, if_pos this, hc]
    · rw [if_neg hj]
  have hs := blk_set hb i v
  rw [he] at hs
  refine ⟨h.os, h.tape, h.output, ?_, fun j hj => ?_⟩
  · have : (W.setCell ⟨g, i, none⟩ v).heap.size = W.heap.size := by simp
    rw [this]; exact h.size
  · by_cases hg : j = g
    · subst hg; rw [hs, ← hb]; exact h.block j hj
    · rw [Below.heap_setCell W ⟨g, i, none⟩ v j hg]; exact h.block j hj
set_option maxHeartbeats 8000000 in
set_option maxRecDepth 100000 in
theorem mb.strings (A : Option Addr) (c : Nat) (n : Int) (w : World) : Calls Try.prog 69 #[.slice A 0 c, .int .i64 n] w fun e w' => e = .returned (.int .i64 n) ∧ Below w.heap.size w w' := by
  have HB := Aside0.mk (Below.refl w.heap.size w)
  go_enter Try.func69, Try.ntmps69
  go_wp2
  go_loopg [1, 5] 0 (fun kq v1 v5 w' => v1 = .int .i64 n ∧ v5 = .int .i64 0 ∧ Aside0 (Below w.heap.size w w'))
  case atStart => exact ⟨rfl, rfl, HB⟩
  case round =>
    clear HB
    obtain ⟨rfl, rfl, HB⟩ := hrel
    go_wp2
    go_ret
    exact ⟨by first | rfl | (simp; done), by repeat (first | (with_reducible first | exact HB.out | apply below_alloc | apply pw_below_drewN | apply below_drew1) | exact HB.out)⟩
set_option maxHeartbeats 8000000 in
set_option maxRecDepth 100000 in
theorem mb.forks (A : Option Addr) (c : Nat) (n : Int) (w : World) : Calls Try.prog 91 #[.slice A 0 c, .int .i64 n] w fun e w' => e = .returned (.int .i64 n) ∧ Below w.heap.size w w' := by
  have HB := Aside0.mk (Below.refl w.heap.size w)
  go_enter Try.func91, Try.ntmps91
  go_wp2
  go_loopg [1, 5] 0 (fun kq v1 v5 w' => v1 = .int .i64 n ∧ v5 = .int .i64 0 ∧ Aside0 (Below w.heap.size w w'))
  case atStart => exact ⟨rfl, rfl, HB⟩
  case round =>
    clear HB
    obtain ⟨rfl, rfl, HB⟩ := hrel
    go_wp2
    go_ret
    exact ⟨by first | rfl | (simp; done), by repeat (first | (with_reducible first | exact HB.out | apply below_alloc | apply pw_below_drewN | apply below_drew1) | exact HB.out)⟩
set_option maxHeartbeats 8000000 in
set_option maxRecDepth 100000 in
theorem mb.volumes (g cap : Nat) (cells : Array Value) (A : Option Addr) (c : Nat) (w : World) (hb : w.heap[g]? = some (.cells cells 112 (0, 0))) (h0 : cells[0]? = some (.slice A 0 c)) (h1 : cells[1]? = some (.bool false)) :
    Calls Try.prog 90 #[.slice (some ⟨g, 0, none⟩) 1 cap, .int .i64 1] w fun e w' => e = .returned (.int .i64 2) ∧ Below w.heap.size w w' := by
  have HB := Aside0.mk (Below.refl w.heap.size w)
  have BK := Aside0.mk hb
  have H0 := Aside0.mk h0
  have H1 := Aside0.mk h1
  clear hb h0 h1
  go_enter Try.func90, Try.ntmps90
  go_wp2
  go_loopg [1, 5] 1 (fun kq v1 v5 w' => ((v1 = .int .i64 1 ∧ v5 = .int .i64 0 ∧ kq = 1) ∨ (v1 = .int .i64 2 ∧ v5 = .int .i64 1)) ∧ Aside0 (Below w.heap.size w w'))
  case atStart => exact ⟨.inl ⟨rfl, rfl, rfl⟩, HB⟩
  case round =>
    clear HB
    obtain ⟨hor, HB⟩ := hrel
    rcases hor with ⟨rfl, rfl, rfl⟩ | ⟨rfl, rfl⟩
    · have BK2 := Aside0.mk (blk_below BK.out HB.out)
      have c0 : wr.cell? ⟨g, 0, none⟩ = some (.slice A 0 c) := (blk_cell BK2.out 0).trans H0.out
      go_wp2_with (go_at_call 69; (with_reducible refine (mb.strings A c 1 _).mono ?_); rintro e w2 ⟨rfl, hb⟩; have n0_ := Aside0.mk (below_step HB.out hb); have n1_ := Aside0.mk (blk_below BK2.out hb); clear c0 HB hb; have HB := n0_; have BK3 := n1_; clear n0_ n1_; have c1 : w2.cell? ⟨g, 1, none⟩ = some (.bool false) := (blk_cell BK3.out 1).trans H1.out; have z1 := blk_frozen BK3.out 1)
      go_roundg 0
      case measure => omega
      case rel => exact ⟨.inr ⟨by first | rfl | (simp; done), by first | rfl | (simp; done)⟩, ⟨mb.same HB.out BK3.out H1.out⟩⟩
    · go_wp2
      go_ret
      exact ⟨by first | rfl | (simp; done), by repeat (first | (with_reducible first | exact HB.out | apply below_alloc | apply pw_below_drewN | apply below_drew1) | exact HB.out)⟩
theorem mb.form {W : World} {base : Nat} {ok : Nat → Prop} {v : Value} (h : Kd.S k112 112 W base ok v [⟨[], false⟩]) : ∃ g cap cells A c, v = .slice (some ⟨g, 0, none⟩) 1 cap ∧ 1 ≤ cap ∧ W.heap[g]? = some (.cells cells 112 (0, 0)) ∧ cells[0]? = some (.slice A 0 c) ∧ cells[1]? = some (.bool false) := by
  obtain ⟨g, cap, rfl, _, _, cells, hb⟩ := Kd.S_form h (by simp)
  obtain ⟨_, hle, hC⟩ := Kd.S_reads' h
  obtain ⟨ad, A, c, e, x0, x1, _⟩ := at_T112 hC 0 (by decide) (by simp)
  injection e with e
  subst e
  exact ⟨g, cap, cells, A, c, rfl, hle, hb, (blk_cell hb 0).symm.trans x0, (blk_cell hb 1).symm.trans x1⟩
theorem mb.empty {W : World} {base : Nat} {ok : Nat → Prop} {v : Value} (h : Kd.S k131 131 W base ok v []) : ∃ B d, v = .slice B 0 d := by
  obtain ⟨B, d, e⟩ := Kd.S_slice h
  exact ⟨B, d, e⟩
theorem mb.C {W : World} {g : Nat} {cells : Array Value} {A : Option Addr} {c : Nat} (hb : W.heap[g]? = some (.cells cells 112 (0, 0))) (h0 : cells[0]? = some (.slice A 0 c)) (h1 : cells[1]? = some (.bool false)) : Kd.C k112 W (some ⟨g, 0, none⟩) ([⟨[], false⟩] : List S112).length [⟨[], false⟩] := by
  refine ⟨rfl, by simp, fun _ => ⟨_, rfl, fun j p hj => ?_⟩⟩
  have hj0 : j = 0 := by
    have := (List.getElem?_eq_some_iff.1 hj).1
    simpa using this
  subst hj0
  have hp : p = ⟨[], false⟩ := by simpa using hj.symm
  subst hp
  refine ⟨[.slice A 0 c, .bool false], rfl, k112_mk W (⟨[], false⟩ : S112) (A0 := A) (c0 := c) (Nat.zero_le _) ⟨rfl, by simp, fun h => absurd h (Nat.lt_irrefl 0)⟩, fun i u hu => ?_⟩
  have hi : i = 0 ∨ i = 1 := by
    have := (List.getElem?_eq_some_iff.1 hu).1
    simp at this
    omega
  rcases hi with rfl | rfl
  · have e : (⟨g, 0, none⟩ : Addr).add (0 * k112.sz + 0) = ⟨g, 0, none⟩ := by simp [Addr.add]
    rw [e, blk_cell hb 0, h0]; exact hu
  · have e : (⟨g, 0, none⟩ : Addr).add (0 * k112.sz + 1) = ⟨g, 1, none⟩ := by simp [Addr.add]
    rw [e, blk_cell hb 1, h1]; exact hu
theorem mb.C0 (W : World) (B : Option Addr) : Kd.C k131 W B ([] : List S131).length [] := ⟨rfl, by simp, fun h => absurd h (Nat.lt_irrefl 0)⟩
theorem mb.exec2 {W : World} {o : Oper} {a : Act} {p : Tmp} {v : Operand} {g : Nat} {x0 x1 : Value} {A B : Option Addr} {n m c d : Nat} (ho : o.op = .store 80 (.tmp p) v) (hp : a.eval (.tmp p) = .pointer (some ⟨g, 0, none⟩)) (hv : a.eval v = .agg #[.slice A n c, .slice B m d]) (hB : W.heap[g]? = some (.cells #[x0, x1] 80 (0, 0))) :
    (execOp a.eval o).run Try.prog W = .ok .skip ((W.setCell ⟨g, 0, none⟩ (.slice A n c)).setCell ⟨g, 1, none⟩ (.slice B m d)) := by
  have c0 := blk_cell hB 0
  have z0 := blk_frozen hB 0
  have q1 := blk_set hB 0 (.slice A n c)
  have c1 := blk_cell q1 1
  have z1 := blk_frozen q1 1
  simp at c0 c1
  clear q1 hB
  unfold execOp
  rw [ho]
  dsimp only
  rw [hp, hv]
  go_simp
set_option maxHeartbeats 8000000 in
set_option maxRecDepth 100000 in
theorem mb.book (g cap : Nat) (cells : Array Value) (A : Option Addr) (c : Nat) (B : Option Addr) (d : Nat) (w : World) (hb : w.heap[g]? = some (.cells cells 112 (0, 0))) (h0 : cells[0]? = some (.slice A 0 c)) (h1 : cells[1]? = some (.bool false)) :
    Calls Try.prog 58 #[.agg #[.slice (some ⟨g, 0, none⟩) 1 cap, .slice B 0 d], .int .i64 1] w fun e w' => e = .returned (.int .i64 2) ∧ Below w.heap.size w w' := by
  have HB := Aside0.mk (Below.refl w.heap.size w)
  have BK := Aside0.mk hb
  have H0 := Aside0.mk h0
  have H1 := Aside0.mk h1
  clear hb h0 h1
  go_enter Try.func58, Try.ntmps58
  go_wp2_with (first | ((with_reducible refine gate_dst (N := 2) rfl ?_); refine box_event ?hg (N := 2) ?hd (cs := #[.slice (some ⟨g, 0, none⟩) 1 cap, .slice B 0 d]) (t := 80) ?hr ?_; (case hd => rfl); (case hg => rfl); (case hr => first | (go_simp; done) | (go_simp; rfl)); intro gb hg w2 hbox hb; have n0_ := Aside0.mk (below_step HB.out hb); have n1_ := Aside0.mk hbox; clear HB hg hb hbox; have HB := n0_; have BX := n1_; clear n0_ n1_; have x0 : w2.cell? ⟨gb, 0, none⟩ = some (.slice (some ⟨g, 0, none⟩) 1 cap) := (blk_cell BX.out 0).trans rfl; have x1 : w2.cell? ⟨gb, 1, none⟩ = some (.slice B 0 d) := (blk_cell BX.out 1).trans rfl) | (go_at_call 90; (with_reducible refine (mb.volumes g cap cells A c _ (blk_below BK.out HB.out) H0.out H1.out).mono ?_); rintro e w3 ⟨rfl, hb⟩; have n0_ := Aside0.mk (below_step HB.out hb); have n1_ := Aside0.mk (blk_below BX.out hb); clear HB BX hb x0 x1; have HB := n0_; have BX := n1_; clear n0_ n1_; have x1 : w3.cell? ⟨gb, 1, none⟩ = some (.slice B 0 d) := (blk_cell BX.out 1).trans rfl) | (go_at_call 91; (with_reducible refine (mb.forks B d 2 _).mono ?_); rintro e w4 ⟨rfl, hb⟩; have n0_ := Aside0.mk (below_step HB.out hb); clear HB hb; have HB := n0_; clear n0_))
  go_ret
  exact ⟨by first | rfl | (simp; done), HB.out⟩
set_option maxHeartbeats 8000000 in
set_option maxRecDepth 100000 in
theorem mb.law (w : World) : Calls Try.prog 13 #[] w fun e w' => e = .returned (.bool true) ∧ Below w.heap.size w w' := by
  have s1 : spec_NewBook.f = some (([⟨[], false⟩] : List S112), ([] : List S131)) := rfl
  have i1 : impl_NewBook.f = some (([⟨[], false⟩] : List S112), ([] : List S131)) := rfl
  have e1 : laws_eqBook.f 20 ([⟨[], false⟩] : List S112) ([] : List S131) ([⟨[], false⟩] : List S112) ([] : List S131) = some true := by decide +kernel
  have e2 : laws_heldBook.f 20 ([⟨[], false⟩] : List S112) ([] : List S131) 1 = some 2 := by decide +kernel
  replace s1 := Aside0.mk s1
  replace i1 := Aside0.mk i1
  replace e1 := Aside0.mk e1
  replace e2 := Aside0.mk e2
  have HB := Aside0.mk (Below.refl w.heap.size w)
  go_enter Try.func13, Try.ntmps13
  go_wp2_with (first | ((with_reducible refine gate_callee (f := 55) rfl ?_); refine goesL_ (some 6) rfl rfl Try.func55 (by kernel_rfl) rfl #[] rfl (by (try simp only [List.map_toArray, List.map_cons, List.map_nil]); first | done | rfl) ?_; (refine (spec_NewBook.calls _ _ _ s1.out).mono ?_); rintro e w1 ⟨q0, q1, rfl, ho0, ho1, hb⟩; refine ⟨_, rfl, ?_⟩; have n0_ := Aside0.mk (below_step HB.out hb); clear HB; have HB := n0_; clear n0_; obtain ⟨v, capv, clv, Av, kv, rfl, lv, bv, hv, jv⟩ := mb.form ho0; obtain ⟨Bv, dv, rfl⟩ := mb.empty ho1; have Lv := Aside0.mk bv; have Xv := Aside0.mk hv; have Yv := Aside0.mk jv; have Zv := Aside0.mk lv; clear ho0 ho1 hb bv hv jv lv) | ((with_reducible refine gate_dst (N := 1) rfl ?_); refine box_event ?hg (N := 1) ?hd (cs := #[.slice none 0 0, .slice none 0 0]) (t := 80) ?hr ?_; (case hd => rfl); (case hg => rfl); (case hr => first | (go_simp; done) | (go_simp; rfl)); intro p hg w2 hbox hb; have m0_ := Aside0.mk (blk_below Lv.out hb); have n0_ := Aside0.mk (below_step HB.out hb); have Gp := Aside0.mk ((by rw [hg]; exact below_size HB.out) : w.heap.size ≤ p); have Kp := Aside0.mk hbox; clear HB Lv hb hbox hg; have HB := n0_; have Lv := m0_; clear n0_ m0_) | ((with_reducible refine gate_store (p := 1) rfl ?_); refine store_event (p := 1) rfl rfl rfl (mb.exec2 rfl rfl rfl Kp.out) ?_; intro w3 hw; have m0_ := Aside0.mk ((by rw [hw]; exact blk_far (blk_far Lv.out (blk_ne Lv.out Kp.out (by decide)) _) (blk_ne Lv.out Kp.out (by decide)) _) : w3.heap[v]? = some (.cells clv 112 (0, 0))); have m1_ := Aside0.mk ((by rw [hw]; exact (blk_set (blk_set Kp.out 0 _) 1 _).trans rfl) : w3.heap[p]? = some (.cells #[.slice (some ⟨v, 0, none⟩) 1 capv, .slice Bv 0 dv] 80 (0, 0))); have n0_ := Aside0.mk ((by rw [hw]; exact below_set (below_set HB.out Gp.out) Gp.out) : Below w.heap.size w w3); clear hw HB Lv Kp; have HB := n0_; have Lv := m0_; have Kp := m1_; clear n0_ m0_ m1_) | ((with_reducible refine gate_callee (f := 56) rfl ?_); refine goesL_ (some 7) rfl rfl Try.func56 (by kernel_rfl) rfl #[] rfl (by (try simp only [List.map_toArray, List.map_cons, List.map_nil]); first | done | rfl) ?_; (refine (impl_NewBook.calls _ _ _ i1.out).mono ?_); rintro e w4 ⟨q0, q1, rfl, ho0, ho1, hb⟩; refine ⟨_, rfl, ?_⟩; have m0_ := Aside0.mk (blk_below Lv.out hb); have m1_ := Aside0.mk (blk_below Kp.out hb); have n0_ := Aside0.mk (below_step HB.out hb); clear HB Lv Kp; have HB := n0_; have Lv := m0_; have Kp := m1_; clear n0_ m0_ m1_; obtain ⟨u, capu, clu, Au, ku, rfl, lu, bu, hu, ju⟩ := mb.form ho0; obtain ⟨Bu, du, rfl⟩ := mb.empty ho1; have Lu := Aside0.mk bu; have Xu := Aside0.mk hu; have Yu := Aside0.mk ju; have Zu := Aside0.mk lu; clear ho0 ho1 hb bu hu ju lu) | ((with_reducible refine gate_dst (N := 2) rfl ?_); refine box_event ?hg (N := 2) ?hd (cs := #[.slice none 0 0, .slice none 0 0]) (t := 80) ?hr ?_; (case hd => rfl); (case hg => rfl); (case hr => first | (go_simp; done) | (go_simp; rfl)); intro q hg w5 hbox hb; have m0_ := Aside0.mk (blk_below Lv.out hb); have m1_ := Aside0.mk (blk_below Kp.out hb); have m2_ := Aside0.mk (blk_below Lu.out hb); have n0_ := Aside0.mk (below_step HB.out hb); have Gq := Aside0.mk ((by rw [hg]; exact below_size HB.out) : w.heap.size ≤ q); have Kq := Aside0.mk hbox; have Npq := Aside0.mk ((by rw [hg]; exact Nat.ne_of_lt (blk_lt Kp.out)) : p ≠ q); clear HB Lv Kp Lu hb hbox hg; have HB := n0_; have Lv := m0_; have Kp := m1_; have Lu := m2_; clear n0_ m0_ m1_ m2_) | ((with_reducible refine gate_store (p := 2) rfl ?_); refine store_event (p := 2) rfl rfl rfl (mb.exec2 rfl rfl rfl Kq.out) ?_; intro w6 hw; have m0_ := Aside0.mk ((by rw [hw]; exact blk_far (blk_far Lv.out (blk_ne Lv.out Kq.out (by decide)) _) (blk_ne Lv.out Kq.out (by decide)) _) : w6.heap[v]? = some (.cells clv 112 (0, 0))); have m1_ := Aside0.mk ((by rw [hw]; exact blk_far (blk_far Kp.out Npq.out _) Npq.out _) : w6.heap[p]? = some (.cells #[.slice (some ⟨v, 0, none⟩) 1 capv, .slice Bv 0 dv] 80 (0, 0))); have m2_ := Aside0.mk ((by rw [hw]; exact blk_far (blk_far Lu.out (blk_ne Lu.out Kq.out (by decide)) _) (blk_ne Lu.out Kq.out (by decide)) _) : w6.heap[u]? = some (.cells clu 112 (0, 0))); have m3_ := Aside0.mk ((by rw [hw]; exact (blk_set (blk_set Kq.out 0 _) 1 _).trans rfl) : w6.heap[q]? = some (.cells #[.slice (some ⟨u, 0, none⟩) 1 capu, .slice Bu 0 du] 80 (0, 0))); have n0_ := Aside0.mk ((by rw [hw]; exact below_set (below_set HB.out Gq.out) Gq.out) : Below w.heap.size w w6); clear hw HB Lv Kp Lu Kq; have HB := n0_; have Lv := m0_; have Kp := m1_; have Lu := m2_; have Kq := m3_; clear n0_ m0_ m1_ m2_ m3_; (try clear cp0); (try clear cp1); have cp0 : w6.cell? ⟨p, 0, none⟩ = some (.slice (some ⟨v, 0, none⟩) 1 capv) := (blk_cell Kp.out 0).trans rfl; have cp1 : w6.cell? ⟨p, 1, none⟩ = some (.slice Bv 0 dv) := (blk_cell Kp.out 1).trans rfl; (try clear cq0); (try clear cq1); have cq0 : w6.cell? ⟨q, 0, none⟩ = some (.slice (some ⟨u, 0, none⟩) 1 capu) := (blk_cell Kq.out 0).trans rfl; have cq1 : w6.cell? ⟨q, 1, none⟩ = some (.slice Bu 0 du) := (blk_cell Kq.out 1).trans rfl) | ((with_reducible refine gate_callee (f := 57) rfl ?_); refine goesL_ (some 10) rfl rfl Try.func57 (by kernel_rfl) rfl #[.agg #[.slice (some ⟨u, 0, none⟩) 1 capu, .slice Bu 0 du], .agg #[.slice (some ⟨v, 0, none⟩) 1 capv, .slice Bv 0 dv]] rfl (by (try simp only [List.map_toArray, List.map_cons, List.map_nil]); first | done | rfl) ?_; (refine (laws_eqBook.calls 20 _ _ ([⟨[], false⟩] : List S112) _ _ ([] : List S131) _ _ ([⟨[], false⟩] : List S112) _ _ ([] : List S131) true _ (mb.C Lu.out Xu.out Yu.out) Zu.out (mb.C0 _ Bu) (Nat.zero_le _) (mb.C Lv.out Xv.out Yv.out) Zv.out (mb.C0 _ Bv) (Nat.zero_le _) e1.out).mono ?_); rintro e w7 ⟨rfl, hb⟩; refine ⟨_, rfl, ?_⟩; have m0_ := Aside0.mk (blk_below Lv.out hb); have m1_ := Aside0.mk (blk_below Kp.out hb); have m2_ := Aside0.mk (blk_below Lu.out hb); have m3_ := Aside0.mk (blk_below Kq.out hb); have n0_ := Aside0.mk (below_step HB.out hb); clear HB Lv Kp Lu Kq; have HB := n0_; have Lv := m0_; have Kp := m1_; have Lu := m2_; have Kq := m3_; clear n0_ m0_ m1_ m2_ m3_; clear hb; (try clear cp0); (try clear cp1); have cp0 : w7.cell? ⟨p, 0, none⟩ = some (.slice (some ⟨v, 0, none⟩) 1 capv) := (blk_cell Kp.out 0).trans rfl; have cp1 : w7.cell? ⟨p, 1, none⟩ = some (.slice Bv 0 dv) := (blk_cell Kp.out 1).trans rfl; (try clear cq0); (try clear cq1); have cq0 : w7.cell? ⟨q, 0, none⟩ = some (.slice (some ⟨u, 0, none⟩) 1 capu) := (blk_cell Kq.out 0).trans rfl; have cq1 : w7.cell? ⟨q, 1, none⟩ = some (.slice Bu 0 du) := (blk_cell Kq.out 1).trans rfl) | ((with_reducible refine gate_callee (f := 58) rfl ?_); refine goesL_ (some 14) rfl rfl Try.func58 (by kernel_rfl) rfl #[.agg #[.slice (some ⟨u, 0, none⟩) 1 capu, .slice Bu 0 du], .int .i64 1] rfl (by (try simp only [List.map_toArray, List.map_cons, List.map_nil]); first | done | rfl) ?_; (refine (mb.book u capu clu Au ku Bu du _ Lu.out Xu.out Yu.out).mono ?_); rintro e w8 ⟨rfl, hb⟩; refine ⟨_, rfl, ?_⟩; have m0_ := Aside0.mk (blk_below Lv.out hb); have m1_ := Aside0.mk (blk_below Kp.out hb); have m2_ := Aside0.mk (blk_below Lu.out hb); have m3_ := Aside0.mk (blk_below Kq.out hb); have n0_ := Aside0.mk (below_step HB.out hb); clear HB Lv Kp Lu Kq; have HB := n0_; have Lv := m0_; have Kp := m1_; have Lu := m2_; have Kq := m3_; clear n0_ m0_ m1_ m2_ m3_; clear hb; (try clear cp0); (try clear cp1); have cp0 : w8.cell? ⟨p, 0, none⟩ = some (.slice (some ⟨v, 0, none⟩) 1 capv) := (blk_cell Kp.out 0).trans rfl; have cp1 : w8.cell? ⟨p, 1, none⟩ = some (.slice Bv 0 dv) := (blk_cell Kp.out 1).trans rfl; (try clear cq0); (try clear cq1); have cq0 : w8.cell? ⟨q, 0, none⟩ = some (.slice (some ⟨u, 0, none⟩) 1 capu) := (blk_cell Kq.out 0).trans rfl; have cq1 : w8.cell? ⟨q, 1, none⟩ = some (.slice Bu 0 du) := (blk_cell Kq.out 1).trans rfl) | ((with_reducible refine gate_callee (f := 59) rfl ?_); refine goesL_ (some 17) rfl rfl Try.func59 (by kernel_rfl) rfl #[.agg #[.slice (some ⟨u, 0, none⟩) 1 capu, .slice Bu 0 du], .int .i64 1] rfl (by (try simp only [List.map_toArray, List.map_cons, List.map_nil]); first | done | rfl) ?_; (refine (laws_heldBook.calls 20 _ _ ([⟨[], false⟩] : List S112) _ _ ([] : List S131) 1 2 _ (mb.C Lu.out Xu.out Yu.out) Zu.out (mb.C0 _ Bu) (Nat.zero_le _) e2.out).mono ?_); rintro e w9 ⟨rfl, hb⟩; refine ⟨_, rfl, ?_⟩; have m0_ := Aside0.mk (blk_below Lv.out hb); have m1_ := Aside0.mk (blk_below Kp.out hb); have m2_ := Aside0.mk (blk_below Lu.out hb); have m3_ := Aside0.mk (blk_below Kq.out hb); have n0_ := Aside0.mk (below_step HB.out hb); clear HB Lv Kp Lu Kq; have HB := n0_; have Lv := m0_; have Kp := m1_; have Lu := m2_; have Kq := m3_; clear n0_ m0_ m1_ m2_ m3_; clear hb cp0 cp1 cq0 cq1) | ((with_reducible refine gate_callee (f := 56) rfl ?_); refine goesL_ (some 23) rfl rfl Try.func56 (by kernel_rfl) rfl #[] rfl (by (try simp only [List.map_toArray, List.map_cons, List.map_nil]); first | done | rfl) ?_; (refine (impl_NewBook.calls _ _ _ i1.out).mono ?_); rintro e w10 ⟨q0, q1, rfl, ho0, ho1, hb⟩; refine ⟨_, rfl, ?_⟩; have m0_ := Aside0.mk (blk_below Lv.out hb); have m1_ := Aside0.mk (blk_below Kp.out hb); have m2_ := Aside0.mk (blk_below Lu.out hb); have m3_ := Aside0.mk (blk_below Kq.out hb); have n0_ := Aside0.mk (below_step HB.out hb); clear HB Lv Kp Lu Kq; have HB := n0_; have Lv := m0_; have Kp := m1_; have Lu := m2_; have Kq := m3_; clear n0_ m0_ m1_ m2_ m3_; obtain ⟨x, capx, clx, Ax, kx, rfl, lx, bx, hx, jx⟩ := mb.form ho0; obtain ⟨Bx, dx, rfl⟩ := mb.empty ho1; have Lx := Aside0.mk bx; have Xx := Aside0.mk hx; have Yx := Aside0.mk jx; have Zx := Aside0.mk lx; clear ho0 ho1 hb bx hx jx lx) | ((with_reducible refine gate_dst (N := 5) rfl ?_); refine box_event ?hg (N := 5) ?hd (cs := #[.slice none 0 0, .slice none 0 0]) (t := 80) ?hr ?_; (case hd => rfl); (case hg => rfl); (case hr => first | (go_simp; done) | (go_simp; rfl)); intro r hg w11 hbox hb; have m0_ := Aside0.mk (blk_below Lv.out hb); have m1_ := Aside0.mk (blk_below Kp.out hb); have m2_ := Aside0.mk (blk_below Lu.out hb); have m3_ := Aside0.mk (blk_below Kq.out hb); have m4_ := Aside0.mk (blk_below Lx.out hb); have n0_ := Aside0.mk (below_step HB.out hb); have Gr := Aside0.mk ((by rw [hg]; exact below_size HB.out) : w.heap.size ≤ r); have Kr := Aside0.mk hbox; have Npr := Aside0.mk ((by rw [hg]; exact Nat.ne_of_lt (blk_lt Kp.out)) : p ≠ r); have Nqr := Aside0.mk ((by rw [hg]; exact Nat.ne_of_lt (blk_lt Kq.out)) : q ≠ r); clear HB Lv Kp Lu Kq Lx hb hbox hg; have HB := n0_; have Lv := m0_; have Kp := m1_; have Lu := m2_; have Kq := m3_; have Lx := m4_; clear n0_ m0_ m1_ m2_ m3_ m4_) | ((with_reducible refine gate_store (p := 5) rfl ?_); refine store_event (p := 5) rfl rfl rfl (mb.exec2 rfl rfl rfl Kr.out) ?_; intro w12 hw; have m0_ := Aside0.mk ((by rw [hw]; exact blk_far (blk_far Lv.out (blk_ne Lv.out Kr.out (by decide)) _) (blk_ne Lv.out Kr.out (by decide)) _) : w12.heap[v]? = some (.cells clv 112 (0, 0))); have m1_ := Aside0.mk ((by rw [hw]; exact blk_far (blk_far Kp.out Npr.out _) Npr.out _) : w12.heap[p]? = some (.cells #[.slice (some ⟨v, 0, none⟩) 1 capv, .slice Bv 0 dv] 80 (0, 0))); have m2_ := Aside0.mk ((by rw [hw]; exact blk_far (blk_far Lu.out (blk_ne Lu.out Kr.out (by decide)) _) (blk_ne Lu.out Kr.out (by decide)) _) : w12.heap[u]? = some (.cells clu 112 (0, 0))); have m3_ := Aside0.mk ((by rw [hw]; exact blk_far (blk_far Kq.out Nqr.out _) Nqr.out _) : w12.heap[q]? = some (.cells #[.slice (some ⟨u, 0, none⟩) 1 capu, .slice Bu 0 du] 80 (0, 0))); have m4_ := Aside0.mk ((by rw [hw]; exact blk_far (blk_far Lx.out (blk_ne Lx.out Kr.out (by decide)) _) (blk_ne Lx.out Kr.out (by decide)) _) : w12.heap[x]? = some (.cells clx 112 (0, 0))); have m5_ := Aside0.mk ((by rw [hw]; exact (blk_set (blk_set Kr.out 0 _) 1 _).trans rfl) : w12.heap[r]? = some (.cells #[.slice (some ⟨x, 0, none⟩) 1 capx, .slice Bx 0 dx] 80 (0, 0))); have n0_ := Aside0.mk ((by rw [hw]; exact below_set (below_set HB.out Gr.out) Gr.out) : Below w.heap.size w w12); clear hw HB Lv Kp Lu Kq Lx Kr; have HB := n0_; have Lv := m0_; have Kp := m1_; have Lu := m2_; have Kq := m3_; have Lx := m4_; have Kr := m5_; clear n0_ m0_ m1_ m2_ m3_ m4_ m5_; (try clear cp0); (try clear cp1); have cp0 : w12.cell? ⟨p, 0, none⟩ = some (.slice (some ⟨v, 0, none⟩) 1 capv) := (blk_cell Kp.out 0).trans rfl; have cp1 : w12.cell? ⟨p, 1, none⟩ = some (.slice Bv 0 dv) := (blk_cell Kp.out 1).trans rfl; (try clear cq0); (try clear cq1); have cq0 : w12.cell? ⟨q, 0, none⟩ = some (.slice (some ⟨u, 0, none⟩) 1 capu) := (blk_cell Kq.out 0).trans rfl; have cq1 : w12.cell? ⟨q, 1, none⟩ = some (.slice Bu 0 du) := (blk_cell Kq.out 1).trans rfl; (try clear cr0); (try clear cr1); have cr0 : w12.cell? ⟨r, 0, none⟩ = some (.slice (some ⟨x, 0, none⟩) 1 capx) := (blk_cell Kr.out 0).trans rfl; have cr1 : w12.cell? ⟨r, 1, none⟩ = some (.slice Bx 0 dx) := (blk_cell Kr.out 1).trans rfl) | ((with_reducible refine gate_callee (f := 57) rfl ?_); refine goesL_ (some 26) rfl rfl Try.func57 (by kernel_rfl) rfl #[.agg #[.slice (some ⟨x, 0, none⟩) 1 capx, .slice Bx 0 dx], .agg #[.slice (some ⟨v, 0, none⟩) 1 capv, .slice Bv 0 dv]] rfl (by (try simp only [List.map_toArray, List.map_cons, List.map_nil]); first | done | rfl) ?_; (refine (laws_eqBook.calls 20 _ _ ([⟨[], false⟩] : List S112) _ _ ([] : List S131) _ _ ([⟨[], false⟩] : List S112) _ _ ([] : List S131) true _ (mb.C Lx.out Xx.out Yx.out) Zx.out (mb.C0 _ Bx) (Nat.zero_le _) (mb.C Lv.out Xv.out Yv.out) Zv.out (mb.C0 _ Bv) (Nat.zero_le _) e1.out).mono ?_); rintro e w13 ⟨rfl, hb⟩; refine ⟨_, rfl, ?_⟩; have m0_ := Aside0.mk (blk_below Lv.out hb); have m1_ := Aside0.mk (blk_below Kp.out hb); have m2_ := Aside0.mk (blk_below Lu.out hb); have m3_ := Aside0.mk (blk_below Kq.out hb); have m4_ := Aside0.mk (blk_below Lx.out hb); have m5_ := Aside0.mk (blk_below Kr.out hb); have n0_ := Aside0.mk (below_step HB.out hb); clear HB Lv Kp Lu Kq Lx Kr; have HB := n0_; have Lv := m0_; have Kp := m1_; have Lu := m2_; have Kq := m3_; have Lx := m4_; have Kr := m5_; clear n0_ m0_ m1_ m2_ m3_ m4_ m5_; clear hb; (try clear cp0); (try clear cp1); have cp0 : w13.cell? ⟨p, 0, none⟩ = some (.slice (some ⟨v, 0, none⟩) 1 capv) := (blk_cell Kp.out 0).trans rfl; have cp1 : w13.cell? ⟨p, 1, none⟩ = some (.slice Bv 0 dv) := (blk_cell Kp.out 1).trans rfl; (try clear cq0); (try clear cq1); have cq0 : w13.cell? ⟨q, 0, none⟩ = some (.slice (some ⟨u, 0, none⟩) 1 capu) := (blk_cell Kq.out 0).trans rfl; have cq1 : w13.cell? ⟨q, 1, none⟩ = some (.slice Bu 0 du) := (blk_cell Kq.out 1).trans rfl; (try clear cr0); (try clear cr1); have cr0 : w13.cell? ⟨r, 0, none⟩ = some (.slice (some ⟨x, 0, none⟩) 1 capx) := (blk_cell Kr.out 0).trans rfl; have cr1 : w13.cell? ⟨r, 1, none⟩ = some (.slice Bx 0 dx) := (blk_cell Kr.out 1).trans rfl) | ((with_reducible refine gate_callee (f := 59) rfl ?_); refine goesL_ (some 30) rfl rfl Try.func59 (by kernel_rfl) rfl #[.agg #[.slice (some ⟨u, 0, none⟩) 1 capu, .slice Bu 0 du], .int .i64 1] rfl (by (try simp only [List.map_toArray, List.map_cons, List.map_nil]); first | done | rfl) ?_; (refine (laws_heldBook.calls 20 _ _ ([⟨[], false⟩] : List S112) _ _ ([] : List S131) 1 2 _ (mb.C Lu.out Xu.out Yu.out) Zu.out (mb.C0 _ Bu) (Nat.zero_le _) e2.out).mono ?_); rintro e w14 ⟨rfl, hb⟩; refine ⟨_, rfl, ?_⟩; have m0_ := Aside0.mk (blk_below Lv.out hb); have m1_ := Aside0.mk (blk_below Kp.out hb); have m2_ := Aside0.mk (blk_below Lu.out hb); have m3_ := Aside0.mk (blk_below Kq.out hb); have m4_ := Aside0.mk (blk_below Lx.out hb); have m5_ := Aside0.mk (blk_below Kr.out hb); have n0_ := Aside0.mk (below_step HB.out hb); clear HB Lv Kp Lu Kq Lx Kr; have HB := n0_; have Lv := m0_; have Kp := m1_; have Lu := m2_; have Kq := m3_; have Lx := m4_; have Kr := m5_; clear n0_ m0_ m1_ m2_ m3_ m4_ m5_; clear hb cp0 cp1 cq0 cq1 cr0 cr1))
  go_ret
  exact ⟨by first | rfl | (simp; done), HB.out⟩
theorem laws_FnExactNewBook.calls (r : Bool) (w : World) (h : laws_FnExactNewBook.f = some r) : Calls Try.prog 13 #[] w fun e w' => e = .returned (.bool r) ∧ Below w.heap.size w w' := by
  obtain rfl := Option.some.inj h
  exact mb.law w

end
end Go.Proofs.Ytanebapjclkikaa.PFnExactNewBook
