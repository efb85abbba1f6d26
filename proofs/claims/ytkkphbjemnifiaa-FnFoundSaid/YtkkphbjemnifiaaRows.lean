/-
  No cell of these rows narrows 'for every input' (looked for: loops, veiled, ifaces, maps, wideKeys, modest, calm, conditions, laid).
  DERIVED. THE GIVEN ROWS OF THIS SEAT. 8 by the template 'for every input the law returns true; each argument reads behind the call as it read before'; 0 by the template 'total and deterministic' (their statements: YtkkphbjemnifiaaTotals.lean).
  GIVEN WITH THE SEED: the statements are not yours to turn. If you find one false, say at which input.
  Laid BY PROGRAM, IN A SANDBOX (cutbox-rows.mjs): the forced cells as the released guide's own fill.sh prints them over the translation 101e157d44911c4b… (all of the seat's roots in one cut). By AI agents, Wed Nov 11 2026. No macro, syntax, notation, axiom, sorry.
-/
import Derived.Test.YtkkphbjemnifiaaChecked
import GoSem.Claim
import GoSem.ClaimJoined
import GoSem.ClaimMapViews
import Derived.JoinedTies
import Derived.KernelRfl
namespace Go.Proofs.Ytkkphbjemnifiaa
/- THE CELL 'sum', in the pinned program and in every row, IS THE sha256 OF THE DUMP (.gsa) THAT YtkkphbjemnifiaaProg.lean LOADS. Nothing in Lean hashes anything: it is a label: what it is worth is what the hold of that sum in a sandbox is worth. -/
noncomputable def Try.pinned : Pinned := { name := "ytkkphbjemnifiaa", sum := "101e157d44911c4b2c7c6ed373f735eda0c94b7ecf4b143363a439630f04d688", checked := Try.checked }
namespace Rows
def none {H : Type} : Left H := { results := [], args := [] }

/-- 'laws.FnExactGoodIndex': WHATEVER THE INPUT: true; the input reads as it did. -/
def fnExactGoodIndexSpec : ChangeSpec := { name := "fnExactGoodIndex", fn := fun _ => fun
  | [d] => { results := [.lit (.bool true)], args := [d] }
  | _ => none }
def fnExactGoodIndexRow : OpenClaim := { program := "ytkkphbjemnifiaa", sum := "101e157d44911c4b2c7c6ed373f735eda0c94b7ecf4b143363a439630f04d688", func := "loop.example/g00532/laws.FnExactGoodIndex", spec := "fnExactGoodIndex", inPlace := ["internal/bytealg.abigen_runtime_cmpstring"], unfollowed := true, recurses := true, apart := false }
def FnExactGoodIndexSaid : Prop := fnExactGoodIndexRow.holds Try.pinned (OpenSpec.ofChange fnExactGoodIndexSpec)

/-- ITS FALSE NEIGHBOUR: 'it returns false'. Refute it at one input. -/
def fnExactGoodIndexWrong : ChangeSpec := { name := "fnExactGoodIndex", fn := fun _ => fun
  | [d] => { results := [.lit (.bool false)], args := [d] }
  | _ => none }
def FnExactGoodIndexWrongFalsely : Prop := fnExactGoodIndexRow.holds Try.pinned (OpenSpec.ofChange fnExactGoodIndexWrong)

/-- 'laws.FnExactIndexOf': WHATEVER THE INPUT: true; the input reads as it did. -/
def fnExactIndexOfSpec : ChangeSpec := { name := "fnExactIndexOf", fn := fun _ => fun
  | [d] => { results := [.lit (.bool true)], args := [d] }
  | _ => none }
def fnExactIndexOfRow : OpenClaim := { program := "ytkkphbjemnifiaa", sum := "101e157d44911c4b2c7c6ed373f735eda0c94b7ecf4b143363a439630f04d688", func := "loop.example/g00532/laws.FnExactIndexOf", spec := "fnExactIndexOf", inPlace := ["internal/bytealg.abigen_runtime_cmpstring"], unfollowed := true, recurses := true, apart := false }
def FnExactIndexOfSaid : Prop := fnExactIndexOfRow.holds Try.pinned (OpenSpec.ofChange fnExactIndexOfSpec)

/-- ITS FALSE NEIGHBOUR: 'it returns false'. Refute it at one input. -/
def fnExactIndexOfWrong : ChangeSpec := { name := "fnExactIndexOf", fn := fun _ => fun
  | [d] => { results := [.lit (.bool false)], args := [d] }
  | _ => none }
def FnExactIndexOfWrongFalsely : Prop := fnExactIndexOfRow.holds Try.pinned (OpenSpec.ofChange fnExactIndexOfWrong)

/-- 'laws.FnExactFindKey': WHATEVER THE INPUT: true; the input reads as it did. -/
def fnExactFindKeySpec : ChangeSpec := { name := "fnExactFindKey", fn := fun _ => fun
  | [d1, d2] => { results := [.lit (.bool true)], args := [d1, d2] }
  | _ => none }
def fnExactFindKeyRow : OpenClaim := { program := "ytkkphbjemnifiaa", sum := "101e157d44911c4b2c7c6ed373f735eda0c94b7ecf4b143363a439630f04d688", func := "loop.example/g00532/laws.FnExactFindKey", spec := "fnExactFindKey", inPlace := ["internal/bytealg.abigen_runtime_cmpstring"], unfollowed := true, recurses := true, apart := false }
def FnExactFindKeySaid : Prop := fnExactFindKeyRow.holds Try.pinned (OpenSpec.ofChange fnExactFindKeySpec)

/-- ITS FALSE NEIGHBOUR: 'it returns false'. Refute it at one input. -/
def fnExactFindKeyWrong : ChangeSpec := { name := "fnExactFindKey", fn := fun _ => fun
  | [d1, d2] => { results := [.lit (.bool false)], args := [d1, d2] }
  | _ => none }
def FnExactFindKeyWrongFalsely : Prop := fnExactFindKeyRow.holds Try.pinned (OpenSpec.ofChange fnExactFindKeyWrong)

/-- 'laws.FnExactPairsIn': WHATEVER THE INPUT: true; the input reads as it did. -/
def fnExactPairsInSpec : ChangeSpec := { name := "fnExactPairsIn", fn := fun _ => fun
  | [d] => { results := [.lit (.bool true)], args := [d] }
  | _ => none }
def fnExactPairsInRow : OpenClaim := { program := "ytkkphbjemnifiaa", sum := "101e157d44911c4b2c7c6ed373f735eda0c94b7ecf4b143363a439630f04d688", func := "loop.example/g00532/laws.FnExactPairsIn", spec := "fnExactPairsIn", inPlace := ["internal/bytealg.abigen_runtime_cmpstring"], unfollowed := true, recurses := true, apart := false }
def FnExactPairsInSaid : Prop := fnExactPairsInRow.holds Try.pinned (OpenSpec.ofChange fnExactPairsInSpec)

/-- ITS FALSE NEIGHBOUR: 'it returns false'. Refute it at one input. -/
def fnExactPairsInWrong : ChangeSpec := { name := "fnExactPairsIn", fn := fun _ => fun
  | [d] => { results := [.lit (.bool false)], args := [d] }
  | _ => none }
def FnExactPairsInWrongFalsely : Prop := fnExactPairsInRow.holds Try.pinned (OpenSpec.ofChange fnExactPairsInWrong)

/-- 'laws.FnExactPutPair': WHATEVER THE INPUT: true; the input reads as it did. -/
def fnExactPutPairSpec : ChangeSpec := { name := "fnExactPutPair", fn := fun _ => fun
  | [d1, d2] => { results := [.lit (.bool true)], args := [d1, d2] }
  | _ => none }
def fnExactPutPairRow : OpenClaim := { program := "ytkkphbjemnifiaa", sum := "101e157d44911c4b2c7c6ed373f735eda0c94b7ecf4b143363a439630f04d688", func := "loop.example/g00532/laws.FnExactPutPair", spec := "fnExactPutPair", inPlace := ["internal/bytealg.abigen_runtime_cmpstring"], unfollowed := true, recurses := true, apart := false }
def FnExactPutPairSaid : Prop := fnExactPutPairRow.holds Try.pinned (OpenSpec.ofChange fnExactPutPairSpec)

/-- ITS FALSE NEIGHBOUR: 'it returns false'. Refute it at one input. -/
def fnExactPutPairWrong : ChangeSpec := { name := "fnExactPutPair", fn := fun _ => fun
  | [d1, d2] => { results := [.lit (.bool false)], args := [d1, d2] }
  | _ => none }
def FnExactPutPairWrongFalsely : Prop := fnExactPutPairRow.holds Try.pinned (OpenSpec.ofChange fnExactPutPairWrong)

/-- 'laws.FnExactFindBeginning': WHATEVER THE INPUT: true; the input reads as it did. -/
def fnExactFindBeginningSpec : ChangeSpec := { name := "fnExactFindBeginning", fn := fun _ => fun
  | [d1, d2] => { results := [.lit (.bool true)], args := [d1, d2] }
  | _ => none }
def fnExactFindBeginningRow : OpenClaim := { program := "ytkkphbjemnifiaa", sum := "101e157d44911c4b2c7c6ed373f735eda0c94b7ecf4b143363a439630f04d688", func := "loop.example/g00532/laws.FnExactFindBeginning", spec := "fnExactFindBeginning", inPlace := ["internal/bytealg.abigen_runtime_cmpstring"], unfollowed := true, recurses := true, apart := false }
def FnExactFindBeginningSaid : Prop := fnExactFindBeginningRow.holds Try.pinned (OpenSpec.ofChange fnExactFindBeginningSpec)

/-- ITS FALSE NEIGHBOUR: 'it returns false'. Refute it at one input. -/
def fnExactFindBeginningWrong : ChangeSpec := { name := "fnExactFindBeginning", fn := fun _ => fun
  | [d1, d2] => { results := [.lit (.bool false)], args := [d1, d2] }
  | _ => none }
def FnExactFindBeginningWrongFalsely : Prop := fnExactFindBeginningRow.holds Try.pinned (OpenSpec.ofChange fnExactFindBeginningWrong)

/-- 'laws.FnIndex': WHATEVER THE INPUT: true; the input reads as it did. -/
def fnIndexSpec : ChangeSpec := { name := "fnIndex", fn := fun _ => fun
  | [d1, d2] => { results := [.lit (.bool true)], args := [d1, d2] }
  | _ => none }
def fnIndexRow : OpenClaim := { program := "ytkkphbjemnifiaa", sum := "101e157d44911c4b2c7c6ed373f735eda0c94b7ecf4b143363a439630f04d688", func := "loop.example/g00532/laws.FnIndex", spec := "fnIndex", inPlace := ["internal/bytealg.abigen_runtime_cmpstring"], unfollowed := true, recurses := true, apart := false }
def FnIndexSaid : Prop := fnIndexRow.holds Try.pinned (OpenSpec.ofChange fnIndexSpec)

/-- ITS FALSE NEIGHBOUR: 'it returns false'. Refute it at one input. -/
def fnIndexWrong : ChangeSpec := { name := "fnIndex", fn := fun _ => fun
  | [d1, d2] => { results := [.lit (.bool false)], args := [d1, d2] }
  | _ => none }
def FnIndexWrongFalsely : Prop := fnIndexRow.holds Try.pinned (OpenSpec.ofChange fnIndexWrong)

/-- 'laws.FnFound': WHATEVER THE INPUT: true; the input reads as it did. -/
def fnFoundSpec : ChangeSpec := { name := "fnFound", fn := fun _ => fun
  | [d1, d2] => { results := [.lit (.bool true)], args := [d1, d2] }
  | _ => none }
def fnFoundRow : OpenClaim := { program := "ytkkphbjemnifiaa", sum := "101e157d44911c4b2c7c6ed373f735eda0c94b7ecf4b143363a439630f04d688", func := "loop.example/g00532/laws.FnFound", spec := "fnFound", inPlace := ["internal/bytealg.abigen_runtime_cmpstring"], unfollowed := true, recurses := true, apart := false }
def FnFoundSaid : Prop := fnFoundRow.holds Try.pinned (OpenSpec.ofChange fnFoundSpec)

/-- ITS FALSE NEIGHBOUR: 'it returns false'. Refute it at one input. -/
def fnFoundWrong : ChangeSpec := { name := "fnFound", fn := fun _ => fun
  | [d1, d2] => { results := [.lit (.bool false)], args := [d1, d2] }
  | _ => none }
def FnFoundWrongFalsely : Prop := fnFoundRow.holds Try.pinned (OpenSpec.ofChange fnFoundWrong)

/- THE SECOND FORM. 'bulk': how many values and letters a reading holds, each counted each time it is reached (what is shared counts as often as it is met; a slice's spare places count too). A statement '..UptoSaid' is the law's where the arguments, and the package variables that the reading takes, are together of bulk at most 1048576: NARROWER than '..Said'. Prove '..Said' where nothing that the law and all that it calls make is longer than what came in: it says more and counts as full. Else prove '..UptoSaid'. A law counts once. -/
mutual
def uptoBulk {H : Type} : DataW H → Nat
  | .lit (.string bytes) => bytes.length + 1
  | .lit _ => 1
  | .nil => 1
  | .ptr d => uptoBulk d + 1
  | .slice elems spare => uptoBulkAll elems + uptoBulkAll spare + 1
  | .agg parts => uptoBulkAll parts + 1
  | .iface _ d => uptoBulk d + 1
  | .map entries => uptoBulkEntries entries + 1
  | .held _ => 1
def uptoBulkAll {H : Type} : List (DataW H) → Nat
  | [] => 0
  | d :: r => uptoBulk d + uptoBulkAll r
def uptoBulkEntries {H : Type} : List (Lit × DataW H) → Nat
  | [] => 0
  | x :: r => uptoBulkEntry x + uptoBulkEntries r
def uptoBulkEntry {H : Type} : Lit × DataW H → Nat
  | (.string bytes, d) => bytes.length + uptoBulk d + 1
  | (_, d) => uptoBulk d + 1
 end
def uptoSmall : (H : Type) → List (DataW H) → Bool := fun _ ds => decide (uptoBulkAll ds ≤ 1048576)
def OpenSpec.upto (s : _root_.Go.ChangeSpec) : _root_.Go.OpenSpec := { _root_.Go.OpenSpec.ofChange s with cond := some uptoSmall }

/-- 'laws.FnExactGoodIndex', WHERE WHAT IT READS IS OF BULK AT MOST 1048576: true; the input reads as it did. -/
def fnExactGoodIndexUptoRow : OpenClaim := { program := "ytkkphbjemnifiaa", sum := "101e157d44911c4b2c7c6ed373f735eda0c94b7ecf4b143363a439630f04d688", func := "loop.example/g00532/laws.FnExactGoodIndex", spec := "fnExactGoodIndex", inPlace := ["internal/bytealg.abigen_runtime_cmpstring"], unfollowed := true, recurses := true, apart := false, narrowed := true }
def FnExactGoodIndexUptoSaid : Prop := fnExactGoodIndexUptoRow.holds Try.pinned (OpenSpec.upto fnExactGoodIndexSpec)

/-- 'laws.FnExactIndexOf', WHERE WHAT IT READS IS OF BULK AT MOST 1048576: true; the input reads as it did. -/
def fnExactIndexOfUptoRow : OpenClaim := { program := "ytkkphbjemnifiaa", sum := "101e157d44911c4b2c7c6ed373f735eda0c94b7ecf4b143363a439630f04d688", func := "loop.example/g00532/laws.FnExactIndexOf", spec := "fnExactIndexOf", inPlace := ["internal/bytealg.abigen_runtime_cmpstring"], unfollowed := true, recurses := true, apart := false, narrowed := true }
def FnExactIndexOfUptoSaid : Prop := fnExactIndexOfUptoRow.holds Try.pinned (OpenSpec.upto fnExactIndexOfSpec)

/-- 'laws.FnExactFindKey', WHERE WHAT IT READS IS OF BULK AT MOST 1048576: true; the input reads as it did. -/
def fnExactFindKeyUptoRow : OpenClaim := { program := "ytkkphbjemnifiaa", sum := "101e157d44911c4b2c7c6ed373f735eda0c94b7ecf4b143363a439630f04d688", func := "loop.example/g00532/laws.FnExactFindKey", spec := "fnExactFindKey", inPlace := ["internal/bytealg.abigen_runtime_cmpstring"], unfollowed := true, recurses := true, apart := false, narrowed := true }
def FnExactFindKeyUptoSaid : Prop := fnExactFindKeyUptoRow.holds Try.pinned (OpenSpec.upto fnExactFindKeySpec)

/-- 'laws.FnExactPairsIn', WHERE WHAT IT READS IS OF BULK AT MOST 1048576: true; the input reads as it did. -/
def fnExactPairsInUptoRow : OpenClaim := { program := "ytkkphbjemnifiaa", sum := "101e157d44911c4b2c7c6ed373f735eda0c94b7ecf4b143363a439630f04d688", func := "loop.example/g00532/laws.FnExactPairsIn", spec := "fnExactPairsIn", inPlace := ["internal/bytealg.abigen_runtime_cmpstring"], unfollowed := true, recurses := true, apart := false, narrowed := true }
def FnExactPairsInUptoSaid : Prop := fnExactPairsInUptoRow.holds Try.pinned (OpenSpec.upto fnExactPairsInSpec)

/-- 'laws.FnExactPutPair', WHERE WHAT IT READS IS OF BULK AT MOST 1048576: true; the input reads as it did. -/
def fnExactPutPairUptoRow : OpenClaim := { program := "ytkkphbjemnifiaa", sum := "101e157d44911c4b2c7c6ed373f735eda0c94b7ecf4b143363a439630f04d688", func := "loop.example/g00532/laws.FnExactPutPair", spec := "fnExactPutPair", inPlace := ["internal/bytealg.abigen_runtime_cmpstring"], unfollowed := true, recurses := true, apart := false, narrowed := true }
def FnExactPutPairUptoSaid : Prop := fnExactPutPairUptoRow.holds Try.pinned (OpenSpec.upto fnExactPutPairSpec)

/-- 'laws.FnExactFindBeginning', WHERE WHAT IT READS IS OF BULK AT MOST 1048576: true; the input reads as it did. -/
def fnExactFindBeginningUptoRow : OpenClaim := { program := "ytkkphbjemnifiaa", sum := "101e157d44911c4b2c7c6ed373f735eda0c94b7ecf4b143363a439630f04d688", func := "loop.example/g00532/laws.FnExactFindBeginning", spec := "fnExactFindBeginning", inPlace := ["internal/bytealg.abigen_runtime_cmpstring"], unfollowed := true, recurses := true, apart := false, narrowed := true }
def FnExactFindBeginningUptoSaid : Prop := fnExactFindBeginningUptoRow.holds Try.pinned (OpenSpec.upto fnExactFindBeginningSpec)

/-- 'laws.FnIndex', WHERE WHAT IT READS IS OF BULK AT MOST 1048576: true; the input reads as it did. -/
def fnIndexUptoRow : OpenClaim := { program := "ytkkphbjemnifiaa", sum := "101e157d44911c4b2c7c6ed373f735eda0c94b7ecf4b143363a439630f04d688", func := "loop.example/g00532/laws.FnIndex", spec := "fnIndex", inPlace := ["internal/bytealg.abigen_runtime_cmpstring"], unfollowed := true, recurses := true, apart := false, narrowed := true }
def FnIndexUptoSaid : Prop := fnIndexUptoRow.holds Try.pinned (OpenSpec.upto fnIndexSpec)

/-- 'laws.FnFound', WHERE WHAT IT READS IS OF BULK AT MOST 1048576: true; the input reads as it did. -/
def fnFoundUptoRow : OpenClaim := { program := "ytkkphbjemnifiaa", sum := "101e157d44911c4b2c7c6ed373f735eda0c94b7ecf4b143363a439630f04d688", func := "loop.example/g00532/laws.FnFound", spec := "fnFound", inPlace := ["internal/bytealg.abigen_runtime_cmpstring"], unfollowed := true, recurses := true, apart := false, narrowed := true }
def FnFoundUptoSaid : Prop := fnFoundUptoRow.holds Try.pinned (OpenSpec.upto fnFoundSpec)

end Rows
end Go.Proofs.Ytkkphbjemnifiaa
