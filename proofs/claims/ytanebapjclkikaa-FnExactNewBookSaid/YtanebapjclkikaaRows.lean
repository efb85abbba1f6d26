/-
  No cell of these rows narrows 'for every input' (looked for: loops, veiled, ifaces, maps, wideKeys, modest, calm, conditions, laid).
  DERIVED. THE GIVEN ROWS OF THIS SEAT. 11 by the template 'for every input the law returns true; each argument reads behind the call as it read before'; 0 by the template 'total and deterministic' (their statements: YtanebapjclkikaaTotals.lean).
  GIVEN WITH THE SEED: the statements are not yours to turn. If you find one false, say at which input.
  Laid BY PROGRAM, IN A SANDBOX (cutbox-rows.mjs): the forced cells as the released guide's own fill.sh prints them over the translation 593871629b049d81… (all of the seat's roots in one cut). By AI agents, Wed Nov 11 2026. No macro, syntax, notation, axiom, sorry.
-/
import Derived.Test.YtanebapjclkikaaChecked
import GoSem.Claim
import GoSem.ClaimJoined
import GoSem.ClaimMapViews
import Derived.JoinedTies
import Derived.KernelRfl
namespace Go.Proofs.Ytanebapjclkikaa
/- THE CELL 'sum', in the pinned program and in every row, IS THE sha256 OF THE DUMP (.gsa) THAT YtanebapjclkikaaProg.lean LOADS. Nothing in Lean hashes anything: it is a label: what it is worth is what the hold of that sum in a sandbox is worth. -/
noncomputable def Try.pinned : Pinned := { name := "ytanebapjclkikaa", sum := "593871629b049d815b0ce5e65c73a2edd1eaa48fa0949549ca743468db1494b7", checked := Try.checked }
namespace Rows
def none {H : Type} : Left H := { results := [], args := [] }

/-- 'laws.FnExactIsBody': WHATEVER THE INPUT: true; the input reads as it did. -/
def fnExactIsBodySpec : ChangeSpec := { name := "fnExactIsBody", fn := fun _ => fun
  | [d1, d2] => { results := [.lit (.bool true)], args := [d1, d2] }
  | _ => none }
def fnExactIsBodyRow : OpenClaim := { program := "ytanebapjclkikaa", sum := "593871629b049d815b0ce5e65c73a2edd1eaa48fa0949549ca743468db1494b7", func := "loop.example/g00532/laws.FnExactIsBody", spec := "fnExactIsBody", inPlace := ["internal/bytealg.IndexByteString"], apart := false }
def FnExactIsBodySaid : Prop := fnExactIsBodyRow.holds Try.pinned (OpenSpec.ofChange fnExactIsBodySpec)

/-- ITS FALSE NEIGHBOUR: 'it returns false'. Refute it at one input. -/
def fnExactIsBodyWrong : ChangeSpec := { name := "fnExactIsBody", fn := fun _ => fun
  | [d1, d2] => { results := [.lit (.bool false)], args := [d1, d2] }
  | _ => none }
def FnExactIsBodyWrongFalsely : Prop := fnExactIsBodyRow.holds Try.pinned (OpenSpec.ofChange fnExactIsBodyWrong)

/-- 'laws.FnExactGoodHead': WHATEVER THE INPUT: true; the input reads as it did. -/
def fnExactGoodHeadSpec : ChangeSpec := { name := "fnExactGoodHead", fn := fun _ => fun
  | [d] => { results := [.lit (.bool true)], args := [d] }
  | _ => none }
def fnExactGoodHeadRow : OpenClaim := { program := "ytanebapjclkikaa", sum := "593871629b049d815b0ce5e65c73a2edd1eaa48fa0949549ca743468db1494b7", func := "loop.example/g00532/laws.FnExactGoodHead", spec := "fnExactGoodHead", apart := false }
def FnExactGoodHeadSaid : Prop := fnExactGoodHeadRow.holds Try.pinned (OpenSpec.ofChange fnExactGoodHeadSpec)

/-- ITS FALSE NEIGHBOUR: 'it returns false'. Refute it at one input. -/
def fnExactGoodHeadWrong : ChangeSpec := { name := "fnExactGoodHead", fn := fun _ => fun
  | [d] => { results := [.lit (.bool false)], args := [d] }
  | _ => none }
def FnExactGoodHeadWrongFalsely : Prop := fnExactGoodHeadRow.holds Try.pinned (OpenSpec.ofChange fnExactGoodHeadWrong)

/-- 'laws.FnExactMessageOf': WHATEVER THE INPUT: true; the input reads as it did. -/
def fnExactMessageOfSpec : ChangeSpec := { name := "fnExactMessageOf", fn := fun _ => fun
  | [d1, d2] => { results := [.lit (.bool true)], args := [d1, d2] }
  | _ => none }
def fnExactMessageOfRow : OpenClaim := { program := "ytanebapjclkikaa", sum := "593871629b049d815b0ce5e65c73a2edd1eaa48fa0949549ca743468db1494b7", func := "loop.example/g00532/laws.FnExactMessageOf", spec := "fnExactMessageOf", inPlace := ["internal/bytealg.IndexByteString"], apart := false }
def FnExactMessageOfSaid : Prop := fnExactMessageOfRow.holds Try.pinned (OpenSpec.ofChange fnExactMessageOfSpec)

/-- ITS FALSE NEIGHBOUR: 'it returns false'. Refute it at one input. -/
def fnExactMessageOfWrong : ChangeSpec := { name := "fnExactMessageOf", fn := fun _ => fun
  | [d1, d2] => { results := [.lit (.bool false)], args := [d1, d2] }
  | _ => none }
def FnExactMessageOfWrongFalsely : Prop := fnExactMessageOfRow.holds Try.pinned (OpenSpec.ofChange fnExactMessageOfWrong)

/-- 'laws.FnExactPartsFor': WHATEVER THE INPUT: true; the input reads as it did. -/
def fnExactPartsForSpec : ChangeSpec := { name := "fnExactPartsFor", fn := fun _ => fun
  | [d] => { results := [.lit (.bool true)], args := [d] }
  | _ => none }
def fnExactPartsForRow : OpenClaim := { program := "ytanebapjclkikaa", sum := "593871629b049d815b0ce5e65c73a2edd1eaa48fa0949549ca743468db1494b7", func := "loop.example/g00532/laws.FnExactPartsFor", spec := "fnExactPartsFor", apart := false }
def FnExactPartsForSaid : Prop := fnExactPartsForRow.holds Try.pinned (OpenSpec.ofChange fnExactPartsForSpec)

/-- ITS FALSE NEIGHBOUR: 'it returns false'. Refute it at one input. -/
def fnExactPartsForWrong : ChangeSpec := { name := "fnExactPartsFor", fn := fun _ => fun
  | [d] => { results := [.lit (.bool false)], args := [d] }
  | _ => none }
def FnExactPartsForWrongFalsely : Prop := fnExactPartsForRow.holds Try.pinned (OpenSpec.ofChange fnExactPartsForWrong)

/-- 'laws.FnExactNewEdge': WHATEVER THE INPUT: true; the input reads as it did. -/
def fnExactNewEdgeSpec : ChangeSpec := { name := "fnExactNewEdge", fn := fun _ => fun
  | [d1, d2] => { results := [.lit (.bool true)], args := [d1, d2] }
  | _ => none }
def fnExactNewEdgeRow : OpenClaim := { program := "ytanebapjclkikaa", sum := "593871629b049d815b0ce5e65c73a2edd1eaa48fa0949549ca743468db1494b7", func := "loop.example/g00532/laws.FnExactNewEdge", spec := "fnExactNewEdge", apart := false }
def FnExactNewEdgeSaid : Prop := fnExactNewEdgeRow.holds Try.pinned (OpenSpec.ofChange fnExactNewEdgeSpec)

/-- ITS FALSE NEIGHBOUR: 'it returns false'. Refute it at one input. -/
def fnExactNewEdgeWrong : ChangeSpec := { name := "fnExactNewEdge", fn := fun _ => fun
  | [d1, d2] => { results := [.lit (.bool false)], args := [d1, d2] }
  | _ => none }
def FnExactNewEdgeWrongFalsely : Prop := fnExactNewEdgeRow.holds Try.pinned (OpenSpec.ofChange fnExactNewEdgeWrong)

/-- 'laws.FnExactGoodPolicy': WHATEVER THE INPUT: true; the input reads as it did. -/
def fnExactGoodPolicySpec : ChangeSpec := { name := "fnExactGoodPolicy", fn := fun _ => fun
  | [d] => { results := [.lit (.bool true)], args := [d] }
  | _ => none }
def fnExactGoodPolicyRow : OpenClaim := { program := "ytanebapjclkikaa", sum := "593871629b049d815b0ce5e65c73a2edd1eaa48fa0949549ca743468db1494b7", func := "loop.example/g00532/laws.FnExactGoodPolicy", spec := "fnExactGoodPolicy", apart := false }
def FnExactGoodPolicySaid : Prop := fnExactGoodPolicyRow.holds Try.pinned (OpenSpec.ofChange fnExactGoodPolicySpec)

/-- ITS FALSE NEIGHBOUR: 'it returns false'. Refute it at one input. -/
def fnExactGoodPolicyWrong : ChangeSpec := { name := "fnExactGoodPolicy", fn := fun _ => fun
  | [d] => { results := [.lit (.bool false)], args := [d] }
  | _ => none }
def FnExactGoodPolicyWrongFalsely : Prop := fnExactGoodPolicyRow.holds Try.pinned (OpenSpec.ofChange fnExactGoodPolicyWrong)

/-- 'laws.FnExactIsStrict': WHATEVER THE INPUT: true; the input reads as it did. -/
def fnExactIsStrictSpec : ChangeSpec := { name := "fnExactIsStrict", fn := fun _ => fun
  | [d] => { results := [.lit (.bool true)], args := [d] }
  | _ => none }
def fnExactIsStrictRow : OpenClaim := { program := "ytanebapjclkikaa", sum := "593871629b049d815b0ce5e65c73a2edd1eaa48fa0949549ca743468db1494b7", func := "loop.example/g00532/laws.FnExactIsStrict", spec := "fnExactIsStrict", apart := false }
def FnExactIsStrictSaid : Prop := fnExactIsStrictRow.holds Try.pinned (OpenSpec.ofChange fnExactIsStrictSpec)

/-- ITS FALSE NEIGHBOUR: 'it returns false'. Refute it at one input. -/
def fnExactIsStrictWrong : ChangeSpec := { name := "fnExactIsStrict", fn := fun _ => fun
  | [d] => { results := [.lit (.bool false)], args := [d] }
  | _ => none }
def FnExactIsStrictWrongFalsely : Prop := fnExactIsStrictRow.holds Try.pinned (OpenSpec.ofChange fnExactIsStrictWrong)

/-- 'laws.FnExactGoodPairs': WHATEVER THE INPUT: true; the input reads as it did. -/
def fnExactGoodPairsSpec : ChangeSpec := { name := "fnExactGoodPairs", fn := fun _ => fun
  | [d] => { results := [.lit (.bool true)], args := [d] }
  | _ => none }
def fnExactGoodPairsRow : OpenClaim := { program := "ytanebapjclkikaa", sum := "593871629b049d815b0ce5e65c73a2edd1eaa48fa0949549ca743468db1494b7", func := "loop.example/g00532/laws.FnExactGoodPairs", spec := "fnExactGoodPairs", apart := false }
def FnExactGoodPairsSaid : Prop := fnExactGoodPairsRow.holds Try.pinned (OpenSpec.ofChange fnExactGoodPairsSpec)

/-- ITS FALSE NEIGHBOUR: 'it returns false'. Refute it at one input. -/
def fnExactGoodPairsWrong : ChangeSpec := { name := "fnExactGoodPairs", fn := fun _ => fun
  | [d] => { results := [.lit (.bool false)], args := [d] }
  | _ => none }
def FnExactGoodPairsWrongFalsely : Prop := fnExactGoodPairsRow.holds Try.pinned (OpenSpec.ofChange fnExactGoodPairsWrong)

/-- 'laws.FnExactGoodEdge': WHATEVER THE INPUT: true; the input reads as it did. -/
def fnExactGoodEdgeSpec : ChangeSpec := { name := "fnExactGoodEdge", fn := fun _ => fun
  | [d] => { results := [.lit (.bool true)], args := [d] }
  | _ => none }
def fnExactGoodEdgeRow : OpenClaim := { program := "ytanebapjclkikaa", sum := "593871629b049d815b0ce5e65c73a2edd1eaa48fa0949549ca743468db1494b7", func := "loop.example/g00532/laws.FnExactGoodEdge", spec := "fnExactGoodEdge", unfollowed := true, recurses := true, apart := false }
def FnExactGoodEdgeSaid : Prop := fnExactGoodEdgeRow.holds Try.pinned (OpenSpec.ofChange fnExactGoodEdgeSpec)

/-- ITS FALSE NEIGHBOUR: 'it returns false'. Refute it at one input. -/
def fnExactGoodEdgeWrong : ChangeSpec := { name := "fnExactGoodEdge", fn := fun _ => fun
  | [d] => { results := [.lit (.bool false)], args := [d] }
  | _ => none }
def FnExactGoodEdgeWrongFalsely : Prop := fnExactGoodEdgeRow.holds Try.pinned (OpenSpec.ofChange fnExactGoodEdgeWrong)

/-- 'laws.FnExactJoinVotes': WHATEVER THE INPUT: true; the input reads as it did. -/
def fnExactJoinVotesSpec : ChangeSpec := { name := "fnExactJoinVotes", fn := fun _ => fun
  | [d1, d2] => { results := [.lit (.bool true)], args := [d1, d2] }
  | _ => none }
def fnExactJoinVotesRow : OpenClaim := { program := "ytanebapjclkikaa", sum := "593871629b049d815b0ce5e65c73a2edd1eaa48fa0949549ca743468db1494b7", func := "loop.example/g00532/laws.FnExactJoinVotes", spec := "fnExactJoinVotes", apart := false }
def FnExactJoinVotesSaid : Prop := fnExactJoinVotesRow.holds Try.pinned (OpenSpec.ofChange fnExactJoinVotesSpec)

/-- ITS FALSE NEIGHBOUR: 'it returns false'. Refute it at one input. -/
def fnExactJoinVotesWrong : ChangeSpec := { name := "fnExactJoinVotes", fn := fun _ => fun
  | [d1, d2] => { results := [.lit (.bool false)], args := [d1, d2] }
  | _ => none }
def FnExactJoinVotesWrongFalsely : Prop := fnExactJoinVotesRow.holds Try.pinned (OpenSpec.ofChange fnExactJoinVotesWrong)

/-- 'laws.FnExactNewBook': WHATEVER THE INPUT: true; the input reads as it did. -/
def fnExactNewBookSpec : ChangeSpec := { name := "fnExactNewBook", fn := fun _ => fun
  | [] => { results := [.lit (.bool true)], args := [] }
  | _ => none }
def fnExactNewBookRow : OpenClaim := { program := "ytanebapjclkikaa", sum := "593871629b049d815b0ce5e65c73a2edd1eaa48fa0949549ca743468db1494b7", func := "loop.example/g00532/laws.FnExactNewBook", spec := "fnExactNewBook", apart := false }
def FnExactNewBookSaid : Prop := fnExactNewBookRow.holds Try.pinned (OpenSpec.ofChange fnExactNewBookSpec)

/-- ITS FALSE NEIGHBOUR: 'it returns false'. Refute it at one input. -/
def fnExactNewBookWrong : ChangeSpec := { name := "fnExactNewBook", fn := fun _ => fun
  | [] => { results := [.lit (.bool false)], args := [] }
  | _ => none }
def FnExactNewBookWrongFalsely : Prop := fnExactNewBookRow.holds Try.pinned (OpenSpec.ofChange fnExactNewBookWrong)

/- THE SECOND FORM. 'bulk': how many values and letters a reading holds, each counted each time it is reached (what is shared counts as often as it is met; a slice's spare places count too). A statement '..UptoSaid' is the law's where the arguments, and the package variables that the reading takes, are together of bulk at most 1048576: NARROWER than '..Said'. Prove '..Said' where nothing that the law and all that it calls make is longer than what came in: it says more and counts as full. Else prove '..UptoSaid'. A law counts once. -/
mutual
def uptoBulk {H : Type} : DataW H → Nat
  | .lit (.string bytes) => bytes.length + 1
  | .lit _ => 1
  | .nil => 1
  | .ptr d => uptoBulk d + 1
  | .slice elems spare => uptoBulkAll elems + uptoBulkAll spare + 1
  | .agg parts => uptoBulkAll parts + 1
  | .iface _ d => uptoBulk d + 1
  | .map entries => uptoBulkEntries entries + 1
  | .held _ => 1
def uptoBulkAll {H : Type} : List (DataW H) → Nat
  | [] => 0
  | d :: r => uptoBulk d + uptoBulkAll r
def uptoBulkEntries {H : Type} : List (Lit × DataW H) → Nat
  | [] => 0
  | x :: r => uptoBulkEntry x + uptoBulkEntries r
def uptoBulkEntry {H : Type} : Lit × DataW H → Nat
  | (.string bytes, d) => bytes.length + uptoBulk d + 1
  | (_, d) => uptoBulk d + 1
 end
def uptoSmall : (H : Type) → List (DataW H) → Bool := fun _ ds => decide (uptoBulkAll ds ≤ 1048576)
def OpenSpec.upto (s : _root_.Go.ChangeSpec) : _root_.Go.OpenSpec := { _root_.Go.OpenSpec.ofChange s with cond := some uptoSmall }

/-- 'laws.FnExactIsBody', WHERE WHAT IT READS IS OF BULK AT MOST 1048576: true; the input reads as it did. -/
def fnExactIsBodyUptoRow : OpenClaim := { program := "ytanebapjclkikaa", sum := "593871629b049d815b0ce5e65c73a2edd1eaa48fa0949549ca743468db1494b7", func := "loop.example/g00532/laws.FnExactIsBody", spec := "fnExactIsBody", inPlace := ["internal/bytealg.IndexByteString"], apart := false, narrowed := true }
def FnExactIsBodyUptoSaid : Prop := fnExactIsBodyUptoRow.holds Try.pinned (OpenSpec.upto fnExactIsBodySpec)

/-- 'laws.FnExactGoodHead', WHERE WHAT IT READS IS OF BULK AT MOST 1048576: true; the input reads as it did. -/
def fnExactGoodHeadUptoRow : OpenClaim := { program := "ytanebapjclkikaa", sum := "593871629b049d815b0ce5e65c73a2edd1eaa48fa0949549ca743468db1494b7", func := "loop.example/g00532/laws.FnExactGoodHead", spec := "fnExactGoodHead", apart := false, narrowed := true }
def FnExactGoodHeadUptoSaid : Prop := fnExactGoodHeadUptoRow.holds Try.pinned (OpenSpec.upto fnExactGoodHeadSpec)

/-- 'laws.FnExactMessageOf', WHERE WHAT IT READS IS OF BULK AT MOST 1048576: true; the input reads as it did. -/
def fnExactMessageOfUptoRow : OpenClaim := { program := "ytanebapjclkikaa", sum := "593871629b049d815b0ce5e65c73a2edd1eaa48fa0949549ca743468db1494b7", func := "loop.example/g00532/laws.FnExactMessageOf", spec := "fnExactMessageOf", inPlace := ["internal/bytealg.IndexByteString"], apart := false, narrowed := true }
def FnExactMessageOfUptoSaid : Prop := fnExactMessageOfUptoRow.holds Try.pinned (OpenSpec.upto fnExactMessageOfSpec)

/-- 'laws.FnExactPartsFor', WHERE WHAT IT READS IS OF BULK AT MOST 1048576: true; the input reads as it did. -/
def fnExactPartsForUptoRow : OpenClaim := { program := "ytanebapjclkikaa", sum := "593871629b049d815b0ce5e65c73a2edd1eaa48fa0949549ca743468db1494b7", func := "loop.example/g00532/laws.FnExactPartsFor", spec := "fnExactPartsFor", apart := false, narrowed := true }
def FnExactPartsForUptoSaid : Prop := fnExactPartsForUptoRow.holds Try.pinned (OpenSpec.upto fnExactPartsForSpec)

/-- 'laws.FnExactNewEdge', WHERE WHAT IT READS IS OF BULK AT MOST 1048576: true; the input reads as it did. -/
def fnExactNewEdgeUptoRow : OpenClaim := { program := "ytanebapjclkikaa", sum := "593871629b049d815b0ce5e65c73a2edd1eaa48fa0949549ca743468db1494b7", func := "loop.example/g00532/laws.FnExactNewEdge", spec := "fnExactNewEdge", apart := false, narrowed := true }
def FnExactNewEdgeUptoSaid : Prop := fnExactNewEdgeUptoRow.holds Try.pinned (OpenSpec.upto fnExactNewEdgeSpec)

/-- 'laws.FnExactGoodPolicy', WHERE WHAT IT READS IS OF BULK AT MOST 1048576: true; the input reads as it did. -/
def fnExactGoodPolicyUptoRow : OpenClaim := { program := "ytanebapjclkikaa", sum := "593871629b049d815b0ce5e65c73a2edd1eaa48fa0949549ca743468db1494b7", func := "loop.example/g00532/laws.FnExactGoodPolicy", spec := "fnExactGoodPolicy", apart := false, narrowed := true }
def FnExactGoodPolicyUptoSaid : Prop := fnExactGoodPolicyUptoRow.holds Try.pinned (OpenSpec.upto fnExactGoodPolicySpec)

/-- 'laws.FnExactIsStrict', WHERE WHAT IT READS IS OF BULK AT MOST 1048576: true; the input reads as it did. -/
def fnExactIsStrictUptoRow : OpenClaim := { program := "ytanebapjclkikaa", sum := "593871629b049d815b0ce5e65c73a2edd1eaa48fa0949549ca743468db1494b7", func := "loop.example/g00532/laws.FnExactIsStrict", spec := "fnExactIsStrict", apart := false, narrowed := true }
def FnExactIsStrictUptoSaid : Prop := fnExactIsStrictUptoRow.holds Try.pinned (OpenSpec.upto fnExactIsStrictSpec)

/-- 'laws.FnExactGoodPairs', WHERE WHAT IT READS IS OF BULK AT MOST 1048576: true; the input reads as it did. -/
def fnExactGoodPairsUptoRow : OpenClaim := { program := "ytanebapjclkikaa", sum := "593871629b049d815b0ce5e65c73a2edd1eaa48fa0949549ca743468db1494b7", func := "loop.example/g00532/laws.FnExactGoodPairs", spec := "fnExactGoodPairs", apart := false, narrowed := true }
def FnExactGoodPairsUptoSaid : Prop := fnExactGoodPairsUptoRow.holds Try.pinned (OpenSpec.upto fnExactGoodPairsSpec)

/-- 'laws.FnExactGoodEdge', WHERE WHAT IT READS IS OF BULK AT MOST 1048576: true; the input reads as it did. -/
def fnExactGoodEdgeUptoRow : OpenClaim := { program := "ytanebapjclkikaa", sum := "593871629b049d815b0ce5e65c73a2edd1eaa48fa0949549ca743468db1494b7", func := "loop.example/g00532/laws.FnExactGoodEdge", spec := "fnExactGoodEdge", unfollowed := true, recurses := true, apart := false, narrowed := true }
def FnExactGoodEdgeUptoSaid : Prop := fnExactGoodEdgeUptoRow.holds Try.pinned (OpenSpec.upto fnExactGoodEdgeSpec)

/-- 'laws.FnExactJoinVotes', WHERE WHAT IT READS IS OF BULK AT MOST 1048576: true; the input reads as it did. -/
def fnExactJoinVotesUptoRow : OpenClaim := { program := "ytanebapjclkikaa", sum := "593871629b049d815b0ce5e65c73a2edd1eaa48fa0949549ca743468db1494b7", func := "loop.example/g00532/laws.FnExactJoinVotes", spec := "fnExactJoinVotes", apart := false, narrowed := true }
def FnExactJoinVotesUptoSaid : Prop := fnExactJoinVotesUptoRow.holds Try.pinned (OpenSpec.upto fnExactJoinVotesSpec)

/-- 'laws.FnExactNewBook', WHERE WHAT IT READS IS OF BULK AT MOST 1048576: true; the input reads as it did. -/
def fnExactNewBookUptoRow : OpenClaim := { program := "ytanebapjclkikaa", sum := "593871629b049d815b0ce5e65c73a2edd1eaa48fa0949549ca743468db1494b7", func := "loop.example/g00532/laws.FnExactNewBook", spec := "fnExactNewBook", apart := false, narrowed := true }
def FnExactNewBookUptoSaid : Prop := fnExactNewBookUptoRow.holds Try.pinned (OpenSpec.upto fnExactNewBookSpec)

end Rows
end Go.Proofs.Ytanebapjclkikaa
