/-
Every step of the machine draws no fewer questions than were drawn before it: the count of draws never falls.
No condition.
-/
import Derived.Calls
import Derived.StepT
import Derived.Below
import Derived.Sort.Grow
import Derived.Deep.Draws
namespace Go.Proofs.Drawn
open Go Go.RowKit
theorem ask_mono {α : Type} : ∀ (x : Ask α) (w : World), w.drawn ≤ (w.ask x).2.drawn
  | .done a, w => Nat.le_refl _
  | .ask what range k, w => by
    unfold World.ask
    dsimp only
    split
    · exact ask_mono _ w
    · exact Nat.le_trans (Nat.le_succ _) (ask_mono _ { w with drawn := w.drawn + 1 })
theorem sys_mono (w : World) (c : Sys) : w.drawn ≤ (w.sys c).2.drawn := by
  have h := ask_mono (Kernel.perform c w.os) w
  unfold World.sys
  split
  · exact Nat.le_refl _
  · rename_i e; rw [e] at h; exact h
theorem store_mono {p : Program} {w w' : World} {at_ k : Addr} {u : TypeId} {v : Value} {b : Bool} {l : List Addr} (h : w.viewStore p at_ u k v b = .ok (w', l)) : w'.drawn = w.drawn := by
  unfold World.viewStore at h
  simp only [bind, Except.bind, pure, Except.pure] at h
  repeat' split at h
  all_goals first | (cases h; done) | (cases h; rfl) | (injection h with h; injection h with h1 _; rw [← h1]; done) | skip
theorem far_mono {p : Program} {w w' : World} {a : Addr} {v : Value} {b : Bool} {l : List Addr} (h : w.farStore p a v b = .ok (w', l)) : w'.drawn = w.drawn := by
  unfold World.farStore at h
  split at h
  · split at h
    · rename_i r hr; cases h; exact store_mono hr
    · cases h
  · cases h
def rw_ {α : Type} : Result α → World
  | .ok _ w => w
  | .halt _ w => w
theorem run_mono {α : Type} (p : Program) : ∀ (s : Sem α) (w : World), w.drawn ≤ (rw_ (s.run p w)).drawn
  | .pure a, w => Nat.le_refl _
  | .load m a k, w => by
    simp only [Sem.run]
    split
    · exact run_mono p _ w
    · split
      · exact run_mono p _ w
      · exact Nat.le_refl _
  | .store m a v k, w => by
    cases v <;> simp only [Sem.run] <;> first | exact Nat.le_refl _ | skip
    all_goals
      split
      · split
        · exact Nat.le_refl _
        · exact run_mono p k (w.setCell a _)
      · split
        · rename_i w1 l1 h; have h1 := run_mono p k w1; rw [far_mono h] at h1; exact h1
        · exact Nat.le_refl _
  | .new o k, w => by simp only [Sem.run]; exact run_mono p _ { w with heap := w.heap.push o }
  | .shape r k, w => by simp only [Sem.run]; exact run_mono p _ _
  | .freeze a n k, w => by
    simp only [Sem.run]
    have h := run_mono p k (w.freeze a n)
    rw [show (w.freeze a n).drawn = w.drawn by unfold World.freeze; split <;> rfl] at h
    exact h
  | .frozen a k, w => by simp only [Sem.run]; exact run_mono p _ _
  | .getObj r k, w => by
    simp only [Sem.run]
    split
    · exact Nat.le_refl _
    · exact run_mono p _ _
    · exact Nat.le_refl _
  | .setObj r o k, w => by
    simp only [Sem.run]
    split
    · exact Nat.le_refl _
    · exact run_mono p k { w with heap := w.heap.setIfInBounds r o }
    · exact Nat.le_refl _
  | .choose q k, w => by
    simp only [Sem.run]
    split
    · exact run_mono p _ _
    · exact Nat.le_trans (Nat.le_succ _) (run_mono p _ { w with drawn := w.drawn + 1 })
  | .sys c k, w => by simp only [Sem.run]; exact Nat.le_trans (sys_mono w c) (run_mono p _ _)
  | .program k, w => by simp only [Sem.run]; exact run_mono p _ _
  | .mark m k, w => by simp only [Sem.run]; exact run_mono p _ _
  | .halt h, w => Nat.le_refl _
theorem run_ok {α : Type} {p : Program} {s : Sem α} {w w' : World} {a : α} (h : s.run p w = .ok a w') : w.drawn ≤ w'.drawn := by have := run_mono p s w; rw [h] at this; exact this
theorem run_halt {α : Type} {p : Program} {s : Sem α} {w w' : World} {a : Halt} (h : s.run p w = .halt a w') : w.drawn ≤ w'.drawn := by have := run_mono p s w; rw [h] at this; exact this
def gw : GStep → World
  | .go _ w _ => w
  | .comm _ _ _ _ w _ => w
  | .spawn _ _ w _ => w
  | .count _ w _ => w
  | .timer _ _ w _ => w
  | .alone _ _ w _ => w
  | .newcoro _ _ _ w _ => w
  | .coroswitch _ _ _ w _ => w
  | .collect _ w _ => w
  | .watch _ w _ => w
  | .ended _ w _ => w
theorem gw_after (es : Array Event) (s : GStep) : gw (GStep.after es s) = gw s := by cases s <;> rfl
theorem endWith_mono (w : World) (fd : Nat) (text : ByteArray) (o : Outcome) : w.drawn ≤ (gw (endWith w fd text o)).drawn := by
  have h := sys_mono w (.write fd text)
  unfold endWith
  dsimp only
  generalize w.sys (.write fd text) = x at h ⊢
  obtain ⟨r, w1⟩ := x
  cases r <;> dsimp only <;> (try split) <;> exact h
theorem endThrow_mono (fr : Frame) (m : String) (w : World) : gw (endThrow fr m w) = w := rfl
theorem endPrinting_mono (p : Program) (fr : Frame) (v : Value) (w : World) : gw (endPrinting p fr v w) = w := by
  unfold endPrinting
  dsimp only
  split <;> rfl
theorem endFatal_mono (p : Program) (fr : Frame) (cs : List Frame) (d : Option Dying) (m : String) (w : World) : w.drawn ≤ (gw (endFatal p fr cs d m w)).drawn := by
  unfold endFatal
  dsimp only
  split <;> rename_i e
  · exact run_ok e
  · exact run_halt e
  · exact run_halt e
theorem writeOn_mono (p : Program) (fr : Frame) (d : Dying) (f : Fatal) (w : World) : w.drawn ≤ (gw (writeOn p fr d f w)).drawn := by
  unfold writeOn
  dsimp only
  split
  · exact Nat.le_refl _
  · simp only [Sem.runT_eq]
    split <;> rename_i e <;> (have e := congrArg Prod.fst e) <;> dsimp only at e
    · exact run_ok e
    · exact run_halt e
    · exact run_halt e
    · exact run_halt e
theorem die_mono (p : Program) (fr : Frame) (d : Dying) (w : World) : w.drawn ≤ (gw (die p fr d w)).drawn := by
  unfold die
  split
  · exact writeOn_mono _ _ _ _ _
  · split
    · split
      · exact Nat.le_refl _
      · exact endWith_mono _ _ _ _
    · dsimp only
      split
      · exact Nat.le_refl _
      · split <;> rename_i e
        · exact run_ok e
        · exact run_halt e
      · simp only [Sem.runT_eq, gw_after]
        split <;> rename_i e
        · exact run_ok e
        · exact run_ok e
        · exact run_halt e
        · rw [endPrinting_mono]; exact run_halt e
        · exact Nat.le_refl _
      · exact Nat.le_refl _
theorem doReturn_mono (p : Program) (main : Bool) (fr : Frame) (cs : List Frame) (d : Option Dying) (v : Value) (w : World) : gw (doReturn p main fr cs d v w) = w := by
  unfold doReturn
  split
  · split <;> rfl
  · split
    · rfl
    · rfl
    · split
      · rfl
      · split <;> rfl
theorem callDeferred_mono (p : Program) (fr : Frame) (cs : List Frame) (dy : Option Dying) (d : Deferred) (w : World) : w.drawn ≤ (gw (callDeferred p fr cs dy d w)).drawn := by
  unfold callDeferred
  simp only [Sem.runT_eq]
  repeat' split
  all_goals first
    | exact Nat.le_refl _
    | exact run_ok (by assumption)
    | exact run_halt (by assumption)
    | exact Nat.le_trans (run_halt (by assumption)) (endFatal_mono _ _ _ _ _ _)
    | (rw [gw_after]; skip)
  all_goals repeat' split
  all_goals first
    | exact Nat.le_refl _
    | exact run_ok (by assumption)
    | exact run_halt (by assumption)
    | exact Nat.le_trans (run_halt (by assumption)) (endFatal_mono _ _ _ _ _ _)
theorem unwind_mono (p : Program) (main : Bool) (fr : Frame) (cs : List Frame) (dy : Option Dying) (w : World) : w.drawn ≤ (gw (unwind p main fr cs dy w)).drawn := by
  unfold unwind
  simp only [Sem.runT_eq]
  repeat' split
  all_goals first
    | exact Nat.le_refl _
    | exact callDeferred_mono _ _ _ _ _ _
    | exact run_ok (by assumption)
    | exact run_halt (by assumption)
    | (rw [endPrinting_mono]; exact Nat.le_refl _)
    | (rw [doReturn_mono]; first | exact Nat.le_refl _ | exact run_ok (by assumption))
    | (rw [gw_after]; skip)
  all_goals repeat' split
  all_goals first
    | exact Nat.le_refl _
    | exact run_ok (by assumption)
    | exact run_halt (by assumption)
    | (rw [doReturn_mono]; first | exact Nat.le_refl _ | exact run_ok (by assumption))
theorem early_mono (p : Program) (fr : Frame) (cs : List Frame) (dy : Option Dying) (g : Nat) (w : World) : w.drawn ≤ (gw (early p fr cs dy g w)).drawn := by
  unfold early
  dsimp only
  repeat' split
  all_goals dsimp only [gw]
  all_goals first
    | exact Nat.le_refl _
    | exact run_ok (by assumption)
    | exact run_halt (by assumption)
theorem apply_mono (p : Program) (fr : Frame) (cs : List Frame) (dy : Option Dying) (s : Sem Next) (w : World) : w.drawn ≤ (gw (stepG.apply p true fr cs dy s w)).drawn := by
  unfold stepG.apply
  simp only [Sem.runT_eq, if_true]
  rw [gw_after]
  generalize hr : s.run p w = r
  cases r with
  | ok a w1 =>
    have h1 := run_ok hr
    cases a <;> (try dsimp only) <;> (repeat' split) <;> first | exact h1
  | halt a w1 =>
    have h1 := run_halt hr
    cases a <;> (try dsimp only) <;> (repeat' split) <;> first | exact h1 | exact Nat.le_trans h1 (endFatal_mono _ _ _ _ _ _) | exact Nat.le_trans h1 (early_mono _ _ _ _ _ _) | (cases ‹Result.halt _ _ = Result.ok _ _›; done) | (cases ‹Result.halt _ _ = Result.halt _ _›; done) | (cases ‹Result.halt _ _ = Result.halt _ _›; first | exact h1 | exact Nat.le_trans h1 (endFatal_mono _ _ _ _ _ _) | exact Nat.le_trans h1 (early_mono _ _ _ _ _ _))
theorem elim_mono {α : Type} {w : World} {o : Option α} {a : GStep} {f : α → GStep} (h1 : w.drawn ≤ (gw a).drawn) (h2 : ∀ k, w.drawn ≤ (gw (f k)).drawn) : w.drawn ≤ (gw (o.elim a f)).drawn := by
  cases o with
  | none => exact h1
  | some k => exact h2 k
theorem exec_mono (p : Program) (main : Bool) (fr : Frame) (cs : List Frame) (dy : Option Dying) (w : World) : w.drawn ≤ (gw (stepG.exec p main true fr cs dy w)).drawn := by
  unfold stepG.exec
  simp only [Sem.runT_eq, stepG.oper]
  repeat' split
  all_goals try refine elim_mono ?_ (fun _ => ?_)
  all_goals first
    | exact Nat.le_refl _
    | exact apply_mono _ _ _ _ _ _
    | exact run_ok (by assumption)
    | exact run_halt (by assumption)
    | (rw [gw_after, doReturn_mono]; exact run_ok (by assumption))
    | (rw [gw_after]; dsimp only [gw]; first | exact run_ok (by assumption) | exact run_halt (by assumption))
    | (rw [gw_after]; exact Nat.le_trans (run_ok (by assumption)) (apply_mono _ _ _ _ _ _))
theorem stepG_mono (p : Program) (main : Bool) (g : Goroutine) (w : World) : w.drawn ≤ (gw (stepG p main g w)).drawn := by
  unfold stepG
  dsimp only
  repeat' split
  all_goals first
    | exact die_mono _ _ _ _
    | exact exec_mono _ _ _ _ _ _
    | exact unwind_mono _ _ _ _ _ _
/-- What a step of the machine leaves. -/
def sw : Stepped → World
  | .next m => m.world
  | .ended _ w => w
theorem waiting_mono {rest : Rest} {cases_ : Array CommCase} {w w' : World} (h : waitingAt rest cases_ w = some w') : w'.drawn = w.drawn := by
  unfold waitingAt at h
  split at h
  · split at h
    · cases h; rfl
    · cases h
  · cases h; rfl
theorem comm_mono (p : Program) (rest : Rest) (gs : Array Goroutine) (i : Nat) (g : Goroutine) (cases_ : Array CommCase) (b : Bool) (sh : CommShape) (w : World) : w.drawn ≤ (sw (communicate p rest gs i g cases_ b sh w).1).drawn := by
  unfold communicate
  dsimp only
  repeat' split
  all_goals try dsimp only [sw]
  all_goals first
    | exact Nat.le_refl _
    | exact Nat.le_of_eq (waiting_mono (by assumption)).symm
    | exact run_ok (by assumption)
    | exact run_halt (by assumption)
    | exact Nat.le_trans (run_ok (by assumption)) (run_ok (by assumption))
    | exact Nat.le_trans (run_ok (by assumption)) (run_halt (by assumption))
theorem look_mono (p : Program) (gs : Array Goroutine) (rest : Rest) (w : World) : w.drawn ≤ (sw (look p gs rest w)).drawn := by
  unfold look
  dsimp only
  repeat' split
  all_goals try dsimp only [sw]
  all_goals first
    | exact Nat.le_refl _
    | exact run_ok (by assumption)
    | exact run_halt (by assumption)
theorem serve_mono (p : Program) (m : Machine) (k : Nat) : m.world.drawn ≤ (sw (serve p m k)).drawn := by
  unfold serve
  dsimp only
  repeat' split
  all_goals first
    | exact Nat.le_refl _
theorem drain_mono (w : World) (c : Nat) : (drain w c).2.drawn = w.drawn := by
  unfold drain
  split <;> rfl
theorem retime_mono (m : Machine) (k : Nat) (t : Timer) (a b : Nat) : (retime m k t a b).2.world.drawn = m.world.drawn := by
  unfold retime
  dsimp only
  split
  · exact drain_mono _ _
  · rfl
theorem timerOp_mono (m m' : Machine) (op : TimerOp) (v : Value) (h : timerOp m op = .ok (v, m')) : m'.world.drawn = m.world.drawn := by
  unfold timerOp at h
  split at h
  · split at h
    · cases h; rfl
    · split at h
      · split at h
        · cases h
        · cases h; rfl
      · cases h
  · unfold timerOp.named at h
    split at h
    · injection h with h; exact (congrArg (fun x => x.world.drawn) (congrArg Prod.snd h)).symm.trans (retime_mono _ _ _ _ _)
    · cases h
  · split at h
    · rename_i m1 hm
      have h1 : m1.world.drawn = m.world.drawn := by
        unfold timerOp.opened at hm
        split at hm
        · split at hm
          · cases hm; rfl
          · cases hm
        · cases hm; rfl
      unfold timerOp.named at h
      split at h
      · injection h with h; exact (congrArg (fun x => x.world.drawn) (congrArg Prod.snd h)).symm.trans ((retime_mono _ _ _ _ _).trans h1)
      · cases h
    · cases h
  · cases h; rfl
theorem runT_mono (p : Program) (m : Machine) (i : Nat) (b : Bool) (hb : b = true) : m.world.drawn ≤ (sw (runT p m i b).1).drawn := by
  subst hb
  unfold runT
  dsimp only
  have h := stepG_mono p (i == 0) (m.gs.swapAt! i { (default : Goroutine) with status := .finished }).1 m.world
  generalize stepG p (i == 0) (m.gs.swapAt! i { (default : Goroutine) with status := .finished }).1 m.world = s at h ⊢
  cases s <;> dsimp only [gw] at h ⊢
  all_goals repeat' split
  all_goals try dsimp only [sw]
  all_goals first
    | exact h
    | exact Nat.le_trans h (comm_mono _ _ _ _ _ _ _ _ _)
    | exact Nat.le_trans h (look_mono _ _ _ _)
    | exact Nat.le_trans h (Nat.le_of_eq (timerOp_mono _ _ _ _ (by assumption)).symm)
    | exact Nat.le_trans h (Nat.le_of_eq (congrArg (fun x => (gw x).drawn) (by assumption : endThrow _ _ _ = GStep.go _ _ _)))
def mw : Move → World
  | .goroutine m _ => m.world
  | .machine s _ => sw s
/-- The machine's own turn: only what leads on is told. -/
def nx (w : World) : Move → Prop
  | .goroutine m _ => w.drawn ≤ m.world.drawn
  | .machine (.next m) _ => w.drawn ≤ m.world.drawn
  | .machine (.ended _ _) _ => True
theorem nx_serve (p : Program) (m : Machine) (k : Nat) (w : World) (h : w.drawn ≤ m.world.drawn) (l : Array MemOp) : nx w (.machine (serve p m k) l) := by
  have := serve_mono p m k
  generalize serve p m k = s at this ⊢
  cases s with
  | next m => exact Nat.le_trans h this
  | ended => trivial
theorem nx_look (p : Program) (gs : Array Goroutine) (r : Rest) (w1 w : World) (h : w.drawn ≤ w1.drawn) (l : Array MemOp) : nx w (.machine (look p gs r w1) l) := by
  have := look_mono p gs r w1
  generalize look p gs r w1 = s at this ⊢
  cases s with
  | next m => exact Nat.le_trans h this
  | ended => trivial
theorem askOn_mono (p : Program) (m : Machine) : nx m.world (askOn p m) := by
  unfold askOn
  dsimp only
  repeat' split
  all_goals try dsimp only [nx, Machine.advanceTo]
  all_goals first
    | trivial
    | exact Nat.le_refl _
    | exact run_ok (by assumption)
    | (refine nx_serve _ _ _ _ ?_ _; exact run_ok (by assumption))
    | exact Nat.le_trans (run_ok (by assumption)) (run_ok (by assumption))
    | (refine Nat.le_trans (Nat.le_trans (run_ok (by assumption)) (run_ok (by assumption))) (run_ok (by assumption)); done)
    | (refine Nat.le_trans (Nat.le_trans (Nat.le_trans (run_ok (by assumption)) (run_ok (by assumption))) (run_ok (by assumption))) (run_ok (by assumption)); done)
    | (refine Nat.le_trans ?_ (run_ok (by assumption)); dsimp only [Machine.advanceTo]; exact Nat.le_trans (run_ok (by assumption)) (run_ok (by assumption)))
    | (refine Nat.le_trans ?_ (run_ok (by assumption)); refine Nat.le_trans ?_ (run_ok (by assumption)); dsimp only [Machine.advanceTo]; exact Nat.le_trans (run_ok (by assumption)) (run_ok (by assumption)))
theorem ask_move (p : Program) (m : Machine) : nx m.world (ask p m) := by
  unfold ask
  split
  · split
    · trivial
    · rename_i h
      split
      · rename_i s1 m1 e
        have h1 := nx_look p m.gs m.rest _ m.world (run_ok h) #[]
        rw [e] at h1
        have h3 := askOn_mono p m1
        generalize askOn p m1 = s at h3 ⊢
        cases s with
        | goroutine m2 i => exact Nat.le_trans h1 h3
        | machine s l => cases s with
          | next m2 => exact Nat.le_trans h1 h3
          | ended => trivial
      · exact nx_look _ _ _ _ _ (run_ok h) _
    · rename_i w1 _ h2
      have h3 := askOn_mono p { m with world := w1 }
      generalize askOn p { m with world := w1 } = s at h3 ⊢
      cases s with
      | goroutine m2 i => exact Nat.le_trans (run_ok h2) h3
      | machine s l => cases s with
        | next m2 => exact Nat.le_trans (run_ok h2) h3
        | ended => trivial
  · exact askOn_mono p m
theorem move_mono (p : Program) (m : Machine) : nx m.world (move p m) := by
  unfold move
  split
  · split
    · exact Nat.le_refl _
    · trivial
  · split
    · split
      · exact Nat.le_refl _
      · exact ask_move p _
    · exact ask_move p m
theorem step_mono {p : Program} {m m' : Machine} (h : step p m = .next m') : m.world.drawn ≤ m'.world.drawn := by
  unfold step stepT at h
  have h1 := move_mono p m
  generalize move p m = s at h h1
  cases s with
  | goroutine m1 i =>
    have h2 := runT_mono p m1 i true rfl
    dsimp only at h
    rw [h] at h2
    exact Nat.le_trans h1 h2
  | machine s l =>
    dsimp only at h
    subst h
    exact h1
theorem steps_mono {p : Program} : ∀ {m m' : Machine}, Steps p m m' → m.world.drawn ≤ m'.world.drawn := by
  suffices h : ∀ (n : Nat) (m m' : Machine), runN p n m = .next m' → m.world.drawn ≤ m'.world.drawn from fun {m m'} ⟨n, hn⟩ => h n m m' hn
  intro n
  induction n with
  | zero => intro m m' h; simp only [runN] at h; cases h; exact Nat.le_refl _
  | succ n ih =>
    intro m m' h
    simp only [runN] at h
    cases hs : step p m with
    | next m1 => rw [hs] at h; exact Nat.le_trans (step_mono hs) (ih _ _ h)
    | ended o w => rw [hs] at h; cases h
/-- A world that is below, and has drawn no less, is the elder one with rows behind it. -/
theorem grow_of {w w' : World} (hb : Below w.heap.size w w') (hd : w.drawn ≤ w'.drawn) : ∃ q os', w' = Sort.grow (w.drewN q) os' := by
  refine ⟨w'.drawn - w.drawn, w'.heap.extract w.heap.size w'.heap.size, ?_⟩
  have hh : w'.heap = w.heap ++ w'.heap.extract w.heap.size w'.heap.size := by
    refine Array.ext_getElem? (fun i => ?_)
    rw [Array.getElem?_append]
    split
    · rename_i hi; exact hb.block i hi
    · rename_i hi
      rw [Array.getElem?_extract]
      have := hb.size
      split
      · rw [show w.heap.size + (i - w.heap.size) = i by omega]
      · rw [Array.getElem?_eq_none (by omega)]
  obtain ⟨h, t, d, o, u⟩ := w'
  have h1 := hb.os
  have h2 := hb.tape
  have h3 := hb.output
  simp only at h1 h2 h3 hh hd
  subst h1 h2 h3
  simp only [Sort.grow, World.drewN, World.mk.injEq, true_and, and_true]
  exact ⟨hh, by omega⟩
/-- What a call leaves has drawn no less. -/
theorem calls_drawn {P : Program} {f : FuncId} {args : Array Value} {w : World} {R : Ending → World → Prop} (h : Calls P f args w R) (hr : ∀ e w', R e w' → ∃ v, e = .returned v) : Calls P f args w fun e w' => R e w' ∧ w.drawn ≤ w'.drawn := by
  intro cs
  obtain ⟨e, w', fr, h1, h2, h3⟩ := h cs
  obtain ⟨v, rfl⟩ := hr e w' h1
  exact ⟨_, w', fr, ⟨h1, steps_mono h2⟩, h2, h3⟩
end Go.Proofs.Drawn
