/-
  No cell of these rows narrows 'for every input' (looked for: loops, veiled, ifaces, maps, wideKeys, modest, calm, conditions, laid).
  DERIVED. THE GIVEN ROWS OF THIS SEAT. 10 by the template 'for every input the law returns true; each argument reads behind the call as it read before'; 0 by the template 'total and deterministic' (their statements: YtcaljngigbfadaaGreatTotals.lean).
  GIVEN WITH THE SEED: the statements are not yours to turn. If you find one false, say at which input.
  Laid BY PROGRAM, IN A SANDBOX (cutbox-rows.mjs): the forced cells as the released guide's own fill.sh prints them over the translation 22f778e048452339… (all of the seat's roots in one cut). By AI agents, Wed Nov 11 2026. No macro, syntax, notation, axiom, sorry.
-/
import Derived.Test.YtcaljngigbfadaaGreatChecked
import GoSem.Claim
import GoSem.ClaimJoined
import GoSem.ClaimMapViews
import Derived.JoinedTies
import Derived.KernelRfl
namespace Go.Proofs.YtcaljngigbfadaaGreat
/- THE CELL 'sum', in the pinned program and in every row, IS THE sha256 OF THE DUMP (.gsa) THAT YtcaljngigbfadaaGreatProg.lean LOADS. Nothing in Lean hashes anything: it is a label: what it is worth is what the hold of that sum in a sandbox is worth. -/
noncomputable def Tryz.pinned : Pinned := { name := "ytcaljngigbfadaagreat", sum := "22f778e0484523396ed7175509ecf7a445c1f99b4fdf2e4a41b0a6e3f45ac123", checked := Tryz.checked }
namespace Rows
def none {H : Type} : Left H := { results := [], args := [] }

/-- 'laws.FnExactLoopAgain': WHATEVER THE INPUT: true; the input reads as it did. -/
def fnExactLoopAgainSpec : ChangeSpec := { name := "fnExactLoopAgain", fn := fun _ => fun
  | [d1, d2, d3] => { results := [.lit (.bool true)], args := [d1, d2, d3] }
  | _ => none }
def fnExactLoopAgainRow : OpenClaim := { program := "ytcaljngigbfadaagreat", sum := "22f778e0484523396ed7175509ecf7a445c1f99b4fdf2e4a41b0a6e3f45ac123", func := "loop.example/g00895/laws.FnExactLoopAgain", spec := "fnExactLoopAgain", unfollowed := true, recurses := true, apart := false }
def FnExactLoopAgainSaid : Prop := fnExactLoopAgainRow.holds Tryz.pinned (OpenSpec.ofChange fnExactLoopAgainSpec)

/-- ITS FALSE NEIGHBOUR: 'it returns false'. Refute it at one input. -/
def fnExactLoopAgainWrong : ChangeSpec := { name := "fnExactLoopAgain", fn := fun _ => fun
  | [d1, d2, d3] => { results := [.lit (.bool false)], args := [d1, d2, d3] }
  | _ => none }
def FnExactLoopAgainWrongFalsely : Prop := fnExactLoopAgainRow.holds Tryz.pinned (OpenSpec.ofChange fnExactLoopAgainWrong)

/-- 'laws.FnChains': WHATEVER THE INPUT: true; the input reads as it did. -/
def fnChainsSpec : ChangeSpec := { name := "fnChains", fn := fun _ => fun
  | [d] => { results := [.lit (.bool true)], args := [d] }
  | _ => none }
def fnChainsRow : OpenClaim := { program := "ytcaljngigbfadaagreat", sum := "22f778e0484523396ed7175509ecf7a445c1f99b4fdf2e4a41b0a6e3f45ac123", func := "loop.example/g00895/laws.FnChains", spec := "fnChains", unfollowed := true, recurses := true, apart := false }
def FnChainsSaid : Prop := fnChainsRow.holds Tryz.pinned (OpenSpec.ofChange fnChainsSpec)

/-- ITS FALSE NEIGHBOUR: 'it returns false'. Refute it at one input. -/
def fnChainsWrong : ChangeSpec := { name := "fnChains", fn := fun _ => fun
  | [d] => { results := [.lit (.bool false)], args := [d] }
  | _ => none }
def FnChainsWrongFalsely : Prop := fnChainsRow.holds Tryz.pinned (OpenSpec.ofChange fnChainsWrong)

/-- 'laws.FnBounds': WHATEVER THE INPUT: true; the input reads as it did. -/
def fnBoundsSpec : ChangeSpec := { name := "fnBounds", fn := fun _ => fun
  | [d] => { results := [.lit (.bool true)], args := [d] }
  | _ => none }
def fnBoundsRow : OpenClaim := { program := "ytcaljngigbfadaagreat", sum := "22f778e0484523396ed7175509ecf7a445c1f99b4fdf2e4a41b0a6e3f45ac123", func := "loop.example/g00895/laws.FnBounds", spec := "fnBounds", unfollowed := true, recurses := true, apart := false }
def FnBoundsSaid : Prop := fnBoundsRow.holds Tryz.pinned (OpenSpec.ofChange fnBoundsSpec)

/-- ITS FALSE NEIGHBOUR: 'it returns false'. Refute it at one input. -/
def fnBoundsWrong : ChangeSpec := { name := "fnBounds", fn := fun _ => fun
  | [d] => { results := [.lit (.bool false)], args := [d] }
  | _ => none }
def FnBoundsWrongFalsely : Prop := fnBoundsRow.holds Tryz.pinned (OpenSpec.ofChange fnBoundsWrong)

/-- 'laws.FnExactShapesAt': WHATEVER THE INPUT: true; the input reads as it did. -/
def fnExactShapesAtSpec : ChangeSpec := { name := "fnExactShapesAt", fn := fun _ => fun
  | [d1, d2] => { results := [.lit (.bool true)], args := [d1, d2] }
  | _ => none }
def fnExactShapesAtRow : OpenClaim := { program := "ytcaljngigbfadaagreat", sum := "22f778e0484523396ed7175509ecf7a445c1f99b4fdf2e4a41b0a6e3f45ac123", func := "loop.example/g00895/laws.FnExactShapesAt", spec := "fnExactShapesAt", unfollowed := true, recurses := true, apart := false }
def FnExactShapesAtSaid : Prop := fnExactShapesAtRow.holds Tryz.pinned (OpenSpec.ofChange fnExactShapesAtSpec)

/-- ITS FALSE NEIGHBOUR: 'it returns false'. Refute it at one input. -/
def fnExactShapesAtWrong : ChangeSpec := { name := "fnExactShapesAt", fn := fun _ => fun
  | [d1, d2] => { results := [.lit (.bool false)], args := [d1, d2] }
  | _ => none }
def FnExactShapesAtWrongFalsely : Prop := fnExactShapesAtRow.holds Tryz.pinned (OpenSpec.ofChange fnExactShapesAtWrong)

/-- 'laws.FnWordShown': WHATEVER THE INPUT: true; the input reads as it did. -/
def fnWordShownSpec : ChangeSpec := { name := "fnWordShown", fn := fun _ => fun
  | [d] => { results := [.lit (.bool true)], args := [d] }
  | _ => none }
def fnWordShownRow : OpenClaim := { program := "ytcaljngigbfadaagreat", sum := "22f778e0484523396ed7175509ecf7a445c1f99b4fdf2e4a41b0a6e3f45ac123", func := "loop.example/g00895/laws.FnWordShown", spec := "fnWordShown", unfollowed := true, recurses := true, apart := false }
def FnWordShownSaid : Prop := fnWordShownRow.holds Tryz.pinned (OpenSpec.ofChange fnWordShownSpec)

/-- ITS FALSE NEIGHBOUR: 'it returns false'. Refute it at one input. -/
def fnWordShownWrong : ChangeSpec := { name := "fnWordShown", fn := fun _ => fun
  | [d] => { results := [.lit (.bool false)], args := [d] }
  | _ => none }
def FnWordShownWrongFalsely : Prop := fnWordShownRow.holds Tryz.pinned (OpenSpec.ofChange fnWordShownWrong)

/-- 'laws.FnExactEqualProof': WHATEVER THE INPUT: true; the input reads as it did. -/
def fnExactEqualProofSpec : ChangeSpec := { name := "fnExactEqualProof", fn := fun _ => fun
  | [d1, d2, d3, d4] => { results := [.lit (.bool true)], args := [d1, d2, d3, d4] }
  | _ => none }
def fnExactEqualProofRow : OpenClaim := { program := "ytcaljngigbfadaagreat", sum := "22f778e0484523396ed7175509ecf7a445c1f99b4fdf2e4a41b0a6e3f45ac123", func := "loop.example/g00895/laws.FnExactEqualProof", spec := "fnExactEqualProof", unfollowed := true, recurses := true, apart := false }
def FnExactEqualProofSaid : Prop := fnExactEqualProofRow.holds Tryz.pinned (OpenSpec.ofChange fnExactEqualProofSpec)

/-- ITS FALSE NEIGHBOUR: 'it returns false'. Refute it at one input. -/
def fnExactEqualProofWrong : ChangeSpec := { name := "fnExactEqualProof", fn := fun _ => fun
  | [d1, d2, d3, d4] => { results := [.lit (.bool false)], args := [d1, d2, d3, d4] }
  | _ => none }
def FnExactEqualProofWrongFalsely : Prop := fnExactEqualProofRow.holds Tryz.pinned (OpenSpec.ofChange fnExactEqualProofWrong)

/-- 'laws.FnExactAcInstance': WHATEVER THE INPUT: true; the input reads as it did. -/
def fnExactAcInstanceSpec : ChangeSpec := { name := "fnExactAcInstance", fn := fun _ => fun
  | [d1, d2, d3, d4] => { results := [.lit (.bool true)], args := [d1, d2, d3, d4] }
  | _ => none }
def fnExactAcInstanceRow : OpenClaim := { program := "ytcaljngigbfadaagreat", sum := "22f778e0484523396ed7175509ecf7a445c1f99b4fdf2e4a41b0a6e3f45ac123", func := "loop.example/g00895/laws.FnExactAcInstance", spec := "fnExactAcInstance", unfollowed := true, recurses := true, apart := false }
def FnExactAcInstanceSaid : Prop := fnExactAcInstanceRow.holds Tryz.pinned (OpenSpec.ofChange fnExactAcInstanceSpec)

/-- ITS FALSE NEIGHBOUR: 'it returns false'. Refute it at one input. -/
def fnExactAcInstanceWrong : ChangeSpec := { name := "fnExactAcInstance", fn := fun _ => fun
  | [d1, d2, d3, d4] => { results := [.lit (.bool false)], args := [d1, d2, d3, d4] }
  | _ => none }
def FnExactAcInstanceWrongFalsely : Prop := fnExactAcInstanceRow.holds Tryz.pinned (OpenSpec.ofChange fnExactAcInstanceWrong)

/-- 'laws.FnExactTimeOf': WHATEVER THE INPUT: true; the input reads as it did. -/
def fnExactTimeOfSpec : ChangeSpec := { name := "fnExactTimeOf", fn := fun _ => fun
  | [d1, d2, d3] => { results := [.lit (.bool true)], args := [d1, d2, d3] }
  | _ => none }
def fnExactTimeOfRow : OpenClaim := { program := "ytcaljngigbfadaagreat", sum := "22f778e0484523396ed7175509ecf7a445c1f99b4fdf2e4a41b0a6e3f45ac123", func := "loop.example/g00895/laws.FnExactTimeOf", spec := "fnExactTimeOf", inPlace := ["internal/abi.NoEscape"], unfollowed := true, recurses := true, apart := false }
def FnExactTimeOfSaid : Prop := fnExactTimeOfRow.holds Tryz.pinned (OpenSpec.ofChange fnExactTimeOfSpec)

/-- ITS FALSE NEIGHBOUR: 'it returns false'. Refute it at one input. -/
def fnExactTimeOfWrong : ChangeSpec := { name := "fnExactTimeOf", fn := fun _ => fun
  | [d1, d2, d3] => { results := [.lit (.bool false)], args := [d1, d2, d3] }
  | _ => none }
def FnExactTimeOfWrongFalsely : Prop := fnExactTimeOfRow.holds Tryz.pinned (OpenSpec.ofChange fnExactTimeOfWrong)

/-- 'laws.FnExactRunTime': WHATEVER THE INPUT: true; the input reads as it did. -/
def fnExactRunTimeSpec : ChangeSpec := { name := "fnExactRunTime", fn := fun _ => fun
  | [d1, d2, d3] => { results := [.lit (.bool true)], args := [d1, d2, d3] }
  | _ => none }
def fnExactRunTimeRow : OpenClaim := { program := "ytcaljngigbfadaagreat", sum := "22f778e0484523396ed7175509ecf7a445c1f99b4fdf2e4a41b0a6e3f45ac123", func := "loop.example/g00895/laws.FnExactRunTime", spec := "fnExactRunTime", inPlace := ["internal/abi.NoEscape"], unfollowed := true, recurses := true, apart := false }
def FnExactRunTimeSaid : Prop := fnExactRunTimeRow.holds Tryz.pinned (OpenSpec.ofChange fnExactRunTimeSpec)

/-- ITS FALSE NEIGHBOUR: 'it returns false'. Refute it at one input. -/
def fnExactRunTimeWrong : ChangeSpec := { name := "fnExactRunTime", fn := fun _ => fun
  | [d1, d2, d3] => { results := [.lit (.bool false)], args := [d1, d2, d3] }
  | _ => none }
def FnExactRunTimeWrongFalsely : Prop := fnExactRunTimeRow.holds Tryz.pinned (OpenSpec.ofChange fnExactRunTimeWrong)

/-- 'laws.FnExactInmostTime': WHATEVER THE INPUT: true; the input reads as it did. -/
def fnExactInmostTimeSpec : ChangeSpec := { name := "fnExactInmostTime", fn := fun _ => fun
  | [d1, d2, d3] => { results := [.lit (.bool true)], args := [d1, d2, d3] }
  | _ => none }
def fnExactInmostTimeRow : OpenClaim := { program := "ytcaljngigbfadaagreat", sum := "22f778e0484523396ed7175509ecf7a445c1f99b4fdf2e4a41b0a6e3f45ac123", func := "loop.example/g00895/laws.FnExactInmostTime", spec := "fnExactInmostTime", unfollowed := true, recurses := true, apart := false }
def FnExactInmostTimeSaid : Prop := fnExactInmostTimeRow.holds Tryz.pinned (OpenSpec.ofChange fnExactInmostTimeSpec)

/-- ITS FALSE NEIGHBOUR: 'it returns false'. Refute it at one input. -/
def fnExactInmostTimeWrong : ChangeSpec := { name := "fnExactInmostTime", fn := fun _ => fun
  | [d1, d2, d3] => { results := [.lit (.bool false)], args := [d1, d2, d3] }
  | _ => none }
def FnExactInmostTimeWrongFalsely : Prop := fnExactInmostTimeRow.holds Tryz.pinned (OpenSpec.ofChange fnExactInmostTimeWrong)

/- THE SECOND FORM. 'bulk': how many values and letters a reading holds, each counted each time it is reached (what is shared counts as often as it is met; a slice's spare places count too). A statement '..UptoSaid' is the law's where the arguments, and the package variables that the reading takes, are together of bulk at most 1048576: NARROWER than '..Said'. Prove '..Said' where nothing that the law and all that it calls make is longer than what came in: it says more and counts as full. Else prove '..UptoSaid'. A law counts once. -/
mutual
def uptoBulk {H : Type} : DataW H → Nat
  | .lit (.string bytes) => bytes.length + 1
  | .lit _ => 1
  | .nil => 1
  | .ptr d => uptoBulk d + 1
  | .slice elems spare => uptoBulkAll elems + uptoBulkAll spare + 1
  | .agg parts => uptoBulkAll parts + 1
  | .iface _ d => uptoBulk d + 1
  | .map entries => uptoBulkEntries entries + 1
  | .held _ => 1
def uptoBulkAll {H : Type} : List (DataW H) → Nat
  | [] => 0
  | d :: r => uptoBulk d + uptoBulkAll r
def uptoBulkEntries {H : Type} : List (Lit × DataW H) → Nat
  | [] => 0
  | x :: r => uptoBulkEntry x + uptoBulkEntries r
def uptoBulkEntry {H : Type} : Lit × DataW H → Nat
  | (.string bytes, d) => bytes.length + uptoBulk d + 1
  | (_, d) => uptoBulk d + 1
 end
def uptoSmall : (H : Type) → List (DataW H) → Bool := fun _ ds => decide (uptoBulkAll ds ≤ 1048576)
def OpenSpec.upto (s : _root_.Go.ChangeSpec) : _root_.Go.OpenSpec := { _root_.Go.OpenSpec.ofChange s with cond := some uptoSmall }

/-- 'laws.FnExactLoopAgain', WHERE WHAT IT READS IS OF BULK AT MOST 1048576: true; the input reads as it did. -/
def fnExactLoopAgainUptoRow : OpenClaim := { program := "ytcaljngigbfadaagreat", sum := "22f778e0484523396ed7175509ecf7a445c1f99b4fdf2e4a41b0a6e3f45ac123", func := "loop.example/g00895/laws.FnExactLoopAgain", spec := "fnExactLoopAgain", unfollowed := true, recurses := true, apart := false, narrowed := true }
def FnExactLoopAgainUptoSaid : Prop := fnExactLoopAgainUptoRow.holds Tryz.pinned (OpenSpec.upto fnExactLoopAgainSpec)

/-- 'laws.FnChains', WHERE WHAT IT READS IS OF BULK AT MOST 1048576: true; the input reads as it did. -/
def fnChainsUptoRow : OpenClaim := { program := "ytcaljngigbfadaagreat", sum := "22f778e0484523396ed7175509ecf7a445c1f99b4fdf2e4a41b0a6e3f45ac123", func := "loop.example/g00895/laws.FnChains", spec := "fnChains", unfollowed := true, recurses := true, apart := false, narrowed := true }
def FnChainsUptoSaid : Prop := fnChainsUptoRow.holds Tryz.pinned (OpenSpec.upto fnChainsSpec)

/-- 'laws.FnBounds', WHERE WHAT IT READS IS OF BULK AT MOST 1048576: true; the input reads as it did. -/
def fnBoundsUptoRow : OpenClaim := { program := "ytcaljngigbfadaagreat", sum := "22f778e0484523396ed7175509ecf7a445c1f99b4fdf2e4a41b0a6e3f45ac123", func := "loop.example/g00895/laws.FnBounds", spec := "fnBounds", unfollowed := true, recurses := true, apart := false, narrowed := true }
def FnBoundsUptoSaid : Prop := fnBoundsUptoRow.holds Tryz.pinned (OpenSpec.upto fnBoundsSpec)

/-- 'laws.FnExactShapesAt', WHERE WHAT IT READS IS OF BULK AT MOST 1048576: true; the input reads as it did. -/
def fnExactShapesAtUptoRow : OpenClaim := { program := "ytcaljngigbfadaagreat", sum := "22f778e0484523396ed7175509ecf7a445c1f99b4fdf2e4a41b0a6e3f45ac123", func := "loop.example/g00895/laws.FnExactShapesAt", spec := "fnExactShapesAt", unfollowed := true, recurses := true, apart := false, narrowed := true }
def FnExactShapesAtUptoSaid : Prop := fnExactShapesAtUptoRow.holds Tryz.pinned (OpenSpec.upto fnExactShapesAtSpec)

/-- 'laws.FnWordShown', WHERE WHAT IT READS IS OF BULK AT MOST 1048576: true; the input reads as it did. -/
def fnWordShownUptoRow : OpenClaim := { program := "ytcaljngigbfadaagreat", sum := "22f778e0484523396ed7175509ecf7a445c1f99b4fdf2e4a41b0a6e3f45ac123", func := "loop.example/g00895/laws.FnWordShown", spec := "fnWordShown", unfollowed := true, recurses := true, apart := false, narrowed := true }
def FnWordShownUptoSaid : Prop := fnWordShownUptoRow.holds Tryz.pinned (OpenSpec.upto fnWordShownSpec)

/-- 'laws.FnExactEqualProof', WHERE WHAT IT READS IS OF BULK AT MOST 1048576: true; the input reads as it did. -/
def fnExactEqualProofUptoRow : OpenClaim := { program := "ytcaljngigbfadaagreat", sum := "22f778e0484523396ed7175509ecf7a445c1f99b4fdf2e4a41b0a6e3f45ac123", func := "loop.example/g00895/laws.FnExactEqualProof", spec := "fnExactEqualProof", unfollowed := true, recurses := true, apart := false, narrowed := true }
def FnExactEqualProofUptoSaid : Prop := fnExactEqualProofUptoRow.holds Tryz.pinned (OpenSpec.upto fnExactEqualProofSpec)

/-- 'laws.FnExactAcInstance', WHERE WHAT IT READS IS OF BULK AT MOST 1048576: true; the input reads as it did. -/
def fnExactAcInstanceUptoRow : OpenClaim := { program := "ytcaljngigbfadaagreat", sum := "22f778e0484523396ed7175509ecf7a445c1f99b4fdf2e4a41b0a6e3f45ac123", func := "loop.example/g00895/laws.FnExactAcInstance", spec := "fnExactAcInstance", unfollowed := true, recurses := true, apart := false, narrowed := true }
def FnExactAcInstanceUptoSaid : Prop := fnExactAcInstanceUptoRow.holds Tryz.pinned (OpenSpec.upto fnExactAcInstanceSpec)

/-- 'laws.FnExactTimeOf', WHERE WHAT IT READS IS OF BULK AT MOST 1048576: true; the input reads as it did. -/
def fnExactTimeOfUptoRow : OpenClaim := { program := "ytcaljngigbfadaagreat", sum := "22f778e0484523396ed7175509ecf7a445c1f99b4fdf2e4a41b0a6e3f45ac123", func := "loop.example/g00895/laws.FnExactTimeOf", spec := "fnExactTimeOf", inPlace := ["internal/abi.NoEscape"], unfollowed := true, recurses := true, apart := false, narrowed := true }
def FnExactTimeOfUptoSaid : Prop := fnExactTimeOfUptoRow.holds Tryz.pinned (OpenSpec.upto fnExactTimeOfSpec)

/-- 'laws.FnExactRunTime', WHERE WHAT IT READS IS OF BULK AT MOST 1048576: true; the input reads as it did. -/
def fnExactRunTimeUptoRow : OpenClaim := { program := "ytcaljngigbfadaagreat", sum := "22f778e0484523396ed7175509ecf7a445c1f99b4fdf2e4a41b0a6e3f45ac123", func := "loop.example/g00895/laws.FnExactRunTime", spec := "fnExactRunTime", inPlace := ["internal/abi.NoEscape"], unfollowed := true, recurses := true, apart := false, narrowed := true }
def FnExactRunTimeUptoSaid : Prop := fnExactRunTimeUptoRow.holds Tryz.pinned (OpenSpec.upto fnExactRunTimeSpec)

/-- 'laws.FnExactInmostTime', WHERE WHAT IT READS IS OF BULK AT MOST 1048576: true; the input reads as it did. -/
def fnExactInmostTimeUptoRow : OpenClaim := { program := "ytcaljngigbfadaagreat", sum := "22f778e0484523396ed7175509ecf7a445c1f99b4fdf2e4a41b0a6e3f45ac123", func := "loop.example/g00895/laws.FnExactInmostTime", spec := "fnExactInmostTime", unfollowed := true, recurses := true, apart := false, narrowed := true }
def FnExactInmostTimeUptoSaid : Prop := fnExactInmostTimeUptoRow.holds Tryz.pinned (OpenSpec.upto fnExactInmostTimeSpec)

end Rows
end Go.Proofs.YtcaljngigbfadaaGreat
