/-
  No cell of these rows narrows 'for every input' (looked for: loops, veiled, ifaces, maps, wideKeys, modest, calm, conditions, laid).
  DERIVED. THE GIVEN ROWS OF THIS SEAT. 5 by the template 'for every input the law returns true; each argument reads behind the call as it read before'; 0 by the template 'total and deterministic' (their statements: YtdkbkgogagpocaaTotals.lean).
  GIVEN WITH THE SEED: the statements are not yours to turn. If you find one false, say at which input.
  Laid BY PROGRAM, IN A SANDBOX (cutbox-rows.mjs): the forced cells as the released guide's own fill.sh prints them over the translation 35e7c47f80a598e0… (all of the seat's roots in one cut). By AI agents, Wed Nov 11 2026. No macro, syntax, notation, axiom, sorry.
-/
import Derived.Test.YtdkbkgogagpocaaChecked
import GoSem.Claim
import GoSem.ClaimJoined
import GoSem.ClaimMapViews
import Derived.JoinedTies
import Derived.KernelRfl
namespace Go.Proofs.Ytdkbkgogagpocaa
/- THE CELL 'sum', in the pinned program and in every row, IS THE sha256 OF THE DUMP (.gsa) THAT YtdkbkgogagpocaaProg.lean LOADS. Nothing in Lean hashes anything: it is a label: what it is worth is what the hold of that sum in a sandbox is worth. -/
noncomputable def Try.pinned : Pinned := { name := "ytdkbkgogagpocaa", sum := "35e7c47f80a598e0db63bdb34f44447e1eadf561a6baded9bdcfaa95349039a0", checked := Try.checked }
namespace Rows
def none {H : Type} : Left H := { results := [], args := [] }

/-- 'laws.FnExactFirstUnlike': WHATEVER THE INPUT: true; the input reads as it did. -/
def fnExactFirstUnlikeSpec : ChangeSpec := { name := "fnExactFirstUnlike", fn := fun _ => fun
  | [d1, d2] => { results := [.lit (.bool true)], args := [d1, d2] }
  | _ => none }
def fnExactFirstUnlikeRow : OpenClaim := { program := "ytdkbkgogagpocaa", sum := "35e7c47f80a598e0db63bdb34f44447e1eadf561a6baded9bdcfaa95349039a0", func := "loop.example/g00532/laws.FnExactFirstUnlike", spec := "fnExactFirstUnlike", apart := false }
def FnExactFirstUnlikeSaid : Prop := fnExactFirstUnlikeRow.holds Try.pinned (OpenSpec.ofChange fnExactFirstUnlikeSpec)

/-- ITS FALSE NEIGHBOUR: 'it returns false'. Refute it at one input. -/
def fnExactFirstUnlikeWrong : ChangeSpec := { name := "fnExactFirstUnlike", fn := fun _ => fun
  | [d1, d2] => { results := [.lit (.bool false)], args := [d1, d2] }
  | _ => none }
def FnExactFirstUnlikeWrongFalsely : Prop := fnExactFirstUnlikeRow.holds Try.pinned (OpenSpec.ofChange fnExactFirstUnlikeWrong)

/-- 'laws.FnExactSplitOf': WHATEVER THE INPUT: true; the input reads as it did. -/
def fnExactSplitOfSpec : ChangeSpec := { name := "fnExactSplitOf", fn := fun _ => fun
  | [d] => { results := [.lit (.bool true)], args := [d] }
  | _ => none }
def fnExactSplitOfRow : OpenClaim := { program := "ytdkbkgogagpocaa", sum := "35e7c47f80a598e0db63bdb34f44447e1eadf561a6baded9bdcfaa95349039a0", func := "loop.example/g00532/laws.FnExactSplitOf", spec := "fnExactSplitOf", apart := false }
def FnExactSplitOfSaid : Prop := fnExactSplitOfRow.holds Try.pinned (OpenSpec.ofChange fnExactSplitOfSpec)

/-- ITS FALSE NEIGHBOUR: 'it returns false'. Refute it at one input. -/
def fnExactSplitOfWrong : ChangeSpec := { name := "fnExactSplitOf", fn := fun _ => fun
  | [d] => { results := [.lit (.bool false)], args := [d] }
  | _ => none }
def FnExactSplitOfWrongFalsely : Prop := fnExactSplitOfRow.holds Try.pinned (OpenSpec.ofChange fnExactSplitOfWrong)

/-- 'laws.FnExactIsBody': WHATEVER THE INPUT: true; the input reads as it did. -/
def fnExactIsBodySpec : ChangeSpec := { name := "fnExactIsBody", fn := fun _ => fun
  | [d1, d2] => { results := [.lit (.bool true)], args := [d1, d2] }
  | _ => none }
def fnExactIsBodyRow : OpenClaim := { program := "ytdkbkgogagpocaa", sum := "35e7c47f80a598e0db63bdb34f44447e1eadf561a6baded9bdcfaa95349039a0", func := "loop.example/g00532/laws.FnExactIsBody", spec := "fnExactIsBody", inPlace := ["internal/bytealg.IndexByteString"], apart := false }
def FnExactIsBodySaid : Prop := fnExactIsBodyRow.holds Try.pinned (OpenSpec.ofChange fnExactIsBodySpec)

/-- ITS FALSE NEIGHBOUR: 'it returns false'. Refute it at one input. -/
def fnExactIsBodyWrong : ChangeSpec := { name := "fnExactIsBody", fn := fun _ => fun
  | [d1, d2] => { results := [.lit (.bool false)], args := [d1, d2] }
  | _ => none }
def FnExactIsBodyWrongFalsely : Prop := fnExactIsBodyRow.holds Try.pinned (OpenSpec.ofChange fnExactIsBodyWrong)

/-- 'laws.FnExactKeyFor': WHATEVER THE INPUT: true; the input reads as it did. -/
def fnExactKeyForSpec : ChangeSpec := { name := "fnExactKeyFor", fn := fun _ => fun
  | [d] => { results := [.lit (.bool true)], args := [d] }
  | _ => none }
def fnExactKeyForRow : OpenClaim := { program := "ytdkbkgogagpocaa", sum := "35e7c47f80a598e0db63bdb34f44447e1eadf561a6baded9bdcfaa95349039a0", func := "loop.example/g00532/laws.FnExactKeyFor", spec := "fnExactKeyFor", apart := false }
def FnExactKeyForSaid : Prop := fnExactKeyForRow.holds Try.pinned (OpenSpec.ofChange fnExactKeyForSpec)

/-- ITS FALSE NEIGHBOUR: 'it returns false'. Refute it at one input. -/
def fnExactKeyForWrong : ChangeSpec := { name := "fnExactKeyFor", fn := fun _ => fun
  | [d] => { results := [.lit (.bool false)], args := [d] }
  | _ => none }
def FnExactKeyForWrongFalsely : Prop := fnExactKeyForRow.holds Try.pinned (OpenSpec.ofChange fnExactKeyForWrong)

/-- 'laws.FnExactGoodHead': WHATEVER THE INPUT: true; the input reads as it did. -/
def fnExactGoodHeadSpec : ChangeSpec := { name := "fnExactGoodHead", fn := fun _ => fun
  | [d] => { results := [.lit (.bool true)], args := [d] }
  | _ => none }
def fnExactGoodHeadRow : OpenClaim := { program := "ytdkbkgogagpocaa", sum := "35e7c47f80a598e0db63bdb34f44447e1eadf561a6baded9bdcfaa95349039a0", func := "loop.example/g00532/laws.FnExactGoodHead", spec := "fnExactGoodHead", apart := false }
def FnExactGoodHeadSaid : Prop := fnExactGoodHeadRow.holds Try.pinned (OpenSpec.ofChange fnExactGoodHeadSpec)

/-- ITS FALSE NEIGHBOUR: 'it returns false'. Refute it at one input. -/
def fnExactGoodHeadWrong : ChangeSpec := { name := "fnExactGoodHead", fn := fun _ => fun
  | [d] => { results := [.lit (.bool false)], args := [d] }
  | _ => none }
def FnExactGoodHeadWrongFalsely : Prop := fnExactGoodHeadRow.holds Try.pinned (OpenSpec.ofChange fnExactGoodHeadWrong)

/- THE SECOND FORM. 'bulk': how many values and letters a reading holds, each counted each time it is reached (what is shared counts as often as it is met; a slice's spare places count too). A statement '..UptoSaid' is the law's where the arguments, and the package variables that the reading takes, are together of bulk at most 1048576: NARROWER than '..Said'. Prove '..Said' where nothing that the law and all that it calls make is longer than what came in: it says more and counts as full. Else prove '..UptoSaid'. A law counts once. -/
mutual
def uptoBulk {H : Type} : DataW H → Nat
  | .lit (.string bytes) => bytes.length + 1
  | .lit _ => 1
  | .nil => 1
  | .ptr d => uptoBulk d + 1
  | .slice elems spare => uptoBulkAll elems + uptoBulkAll spare + 1
  | .agg parts => uptoBulkAll parts + 1
  | .iface _ d => uptoBulk d + 1
  | .map entries => uptoBulkEntries entries + 1
  | .held _ => 1
def uptoBulkAll {H : Type} : List (DataW H) → Nat
  | [] => 0
  | d :: r => uptoBulk d + uptoBulkAll r
def uptoBulkEntries {H : Type} : List (Lit × DataW H) → Nat
  | [] => 0
  | x :: r => uptoBulkEntry x + uptoBulkEntries r
def uptoBulkEntry {H : Type} : Lit × DataW H → Nat
  | (.string bytes, d) => bytes.length + uptoBulk d + 1
  | (_, d) => uptoBulk d + 1
 end
def uptoSmall : (H : Type) → List (DataW H) → Bool := fun _ ds => decide (uptoBulkAll ds ≤ 1048576)
def OpenSpec.upto (s : _root_.Go.ChangeSpec) : _root_.Go.OpenSpec := { _root_.Go.OpenSpec.ofChange s with cond := some uptoSmall }

/-- 'laws.FnExactFirstUnlike', WHERE WHAT IT READS IS OF BULK AT MOST 1048576: true; the input reads as it did. -/
def fnExactFirstUnlikeUptoRow : OpenClaim := { program := "ytdkbkgogagpocaa", sum := "35e7c47f80a598e0db63bdb34f44447e1eadf561a6baded9bdcfaa95349039a0", func := "loop.example/g00532/laws.FnExactFirstUnlike", spec := "fnExactFirstUnlike", apart := false, narrowed := true }
def FnExactFirstUnlikeUptoSaid : Prop := fnExactFirstUnlikeUptoRow.holds Try.pinned (OpenSpec.upto fnExactFirstUnlikeSpec)

/-- 'laws.FnExactSplitOf', WHERE WHAT IT READS IS OF BULK AT MOST 1048576: true; the input reads as it did. -/
def fnExactSplitOfUptoRow : OpenClaim := { program := "ytdkbkgogagpocaa", sum := "35e7c47f80a598e0db63bdb34f44447e1eadf561a6baded9bdcfaa95349039a0", func := "loop.example/g00532/laws.FnExactSplitOf", spec := "fnExactSplitOf", apart := false, narrowed := true }
def FnExactSplitOfUptoSaid : Prop := fnExactSplitOfUptoRow.holds Try.pinned (OpenSpec.upto fnExactSplitOfSpec)

/-- 'laws.FnExactIsBody', WHERE WHAT IT READS IS OF BULK AT MOST 1048576: true; the input reads as it did. -/
def fnExactIsBodyUptoRow : OpenClaim := { program := "ytdkbkgogagpocaa", sum := "35e7c47f80a598e0db63bdb34f44447e1eadf561a6baded9bdcfaa95349039a0", func := "loop.example/g00532/laws.FnExactIsBody", spec := "fnExactIsBody", inPlace := ["internal/bytealg.IndexByteString"], apart := false, narrowed := true }
def FnExactIsBodyUptoSaid : Prop := fnExactIsBodyUptoRow.holds Try.pinned (OpenSpec.upto fnExactIsBodySpec)

/-- 'laws.FnExactKeyFor', WHERE WHAT IT READS IS OF BULK AT MOST 1048576: true; the input reads as it did. -/
def fnExactKeyForUptoRow : OpenClaim := { program := "ytdkbkgogagpocaa", sum := "35e7c47f80a598e0db63bdb34f44447e1eadf561a6baded9bdcfaa95349039a0", func := "loop.example/g00532/laws.FnExactKeyFor", spec := "fnExactKeyFor", apart := false, narrowed := true }
def FnExactKeyForUptoSaid : Prop := fnExactKeyForUptoRow.holds Try.pinned (OpenSpec.upto fnExactKeyForSpec)

/-- 'laws.FnExactGoodHead', WHERE WHAT IT READS IS OF BULK AT MOST 1048576: true; the input reads as it did. -/
def fnExactGoodHeadUptoRow : OpenClaim := { program := "ytdkbkgogagpocaa", sum := "35e7c47f80a598e0db63bdb34f44447e1eadf561a6baded9bdcfaa95349039a0", func := "loop.example/g00532/laws.FnExactGoodHead", spec := "fnExactGoodHead", apart := false, narrowed := true }
def FnExactGoodHeadUptoSaid : Prop := fnExactGoodHeadUptoRow.holds Try.pinned (OpenSpec.upto fnExactGoodHeadSpec)

end Rows
end Go.Proofs.Ytdkbkgogagpocaa
