-- Printed for this claim by a changed copy of the kit's printing program (wip/tools/patch_print.py); Lean checks it.
import Derived.Test.YtdlljfejfgfmgaaProg
import Derived.Below
import Derived.Deep.Draws
import Derived.Deep.AppendLies
import Derived.Maps.AppendAt
import Derived.OwnWalk
import Derived.Laws.BytesArg
import Derived.Laws.MakeOwn
import Derived.Laws.OwnMore
import Derived.Deep.OwnRows
import Derived.Tactics
import Derived.Lib.ConvBytes
import Derived.Laws.Slices
import Derived.WalkKit
import Derived.KernelRfl
import Derived.RowKit3
import Derived.Deep.LoopGhost
import Derived.Deep.QuietTactic
import Derived.BigQuiet
import Derived.WideLaws
import Derived.Deep.DeepCutAuto
import Derived.Deep.CutBlock
import Derived.Deep.RegionHeld3
import Derived.Laws.Rows
import Derived.Lib.AppendStr
import Derived.ArgAppend
import Derived.Laws.IdiomCopy
import Derived.OrdersHeld
import Derived.Laws.BitsLemmas
import Derived.RowKit
import Derived.Test.YtdlljfejfgfmgaaWWords
import Derived.Test.YtdlljfejfgfmgaaWLast
import Derived.Test.YtdlljfejfgfmgaaWTab
import Derived.Test.YtdlljfejfgfmgaaWFour
import Derived.Test.YtdlljfejfgfmgaaWQPut
import Derived.Test.YtdlljfejfgfmgaaWApart
import Derived.Test.YtdlljfejfgfmgaaWArr
import Derived.Test.YtdlljfejfgfmgaaWZeros
import Derived.Test.YtdlljfejfgfmgaaWFoot
import Derived.Test.YtdlljfejfgfmgaaWKept
import Derived.Test.YtdlljfejfgfmgaaWShare
import Derived.Test.YtdlljfejfgfmgaaWN
import Derived.Test.YtdlljfejfgfmgaaWFootNe
import Derived.Test.YtdlljfejfgfmgaaWAt
import Derived.Test.YtdlljfejfgfmgaaWEqStruct
import Derived.Test.YtdlljfejfgfmgaaWRepsOne
import Derived.Test.YtdlljfejfgfmgaaWInv
import Derived.Test.YtdlljfejfgfmgaaWInvWords
import Derived.Test.YtdlljfejfgfmgaaWGuard
import Derived.Test.YtdlljfejfgfmgaaWNEv
import Derived.Test.YtdlljfejfgfmgaaWMore
import Derived.Test.YtdlljfejfgfmgaaShelf
namespace Go.Proofs.Ytdlljfejfgfmgaa.PFnPoints
open Go.RowKit Go.Proofs.YtdlljfejfgfmgaaW.PrintWords Go.Proofs.YtdlljfejfgfmgaaW.PrintLast Go.Proofs.YtdlljfejfgfmgaaW.PrintMore
attribute [local go_sem] max2_int min2_int max_two min_two max_three min_three max_four min_four   -- for this text's walks alone
set_option linter.unusedVariables false
set_option linter.unusedSimpArgs false

noncomputable section


def errW : Option Int → Value
  | none => .nilIface
  | some c => .iface 0 (.int .i64 c)
theorem errW_none : errW none = .nilIface := rfl
theorem errW_some (c : Int) : errW (some c) = .iface 0 (.int .i64 c) := rfl

-- the values' own types
/-! #### struct type 38 -/
structure S38 where
  f0 : Int
  f1 : Int
/-! #### struct type 40 -/
structure S40 where
  f0 : Int
  f1 : Int
def z40 : S40 := ⟨(0 : Int), (0 : Int)⟩
def k40 : Kd S40 := Kd.iso (Kd.pair (Kd.int .i64) (Kd.int .i64)) (fun x : S40 => (x.f0, x.f1))
theorem k40_open {w : World} {x : S40} {cs : List Value} (h : k40.K w x cs) : cs = [.int .i64 x.f0, .int .i64 x.f1] := by
  obtain ⟨_, _, rfl, rfl, rfl⟩ := h
  exact rfl
theorem k40_mkM (w : World) (base : Nat) (ok : Nat → Prop) (x : S40)  : k40.M w base ok x [.int .i64 x.f0, .int .i64 x.f1] := ⟨[.int .i64 x.f0], [.int .i64 x.f1], rfl, rfl, rfl⟩
def rd_T40 (xs : List S40) (i : Int) : S40 := xs.getD i.toNat z40
theorem at_T40 {w : World} {A : Option Addr} {n : Nat} {xs : List S40} (h : Kd.C k40 w A n xs) (i : Int) (h0 : 0 ≤ i) (h1 : i < n) : ∃ ad , A = some ad ∧ w.cell? (ad.add (i.toNat * 2)) = some (.int .i64 (rd_T40 xs i).f0) ∧ w.cell? ⟨(ad.add (i.toNat * 2)).block, (ad.add (i.toNat * 2)).off + 1, none⟩ = some (.int .i64 (rd_T40 xs i).f1) := by
  obtain ⟨ad, c, e, _, hK, hc0⟩ := Kd.C_get h z40 i h0 h1
  have hc : ∀ j u, c[j]? = some u → w.cell? (ad.add (i.toNat * 2 + j)) = some u := hc0
  obtain rfl := k40_open hK
  exact ⟨ad, e, hc 0 _ rfl, by rw [← add_field _ _ 1 (by omega)]; exact hc 1 _ rfl⟩

end
end Go.Proofs.Ytdlljfejfgfmgaa.PFnPoints
