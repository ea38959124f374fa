/-
  No cell of these rows narrows 'for every input' (looked for: loops, veiled, ifaces, maps, wideKeys, modest, calm, conditions, laid).
  DERIVED. THE GIVEN ROWS OF THIS SEAT. 4 by the template 'for every input the law returns true; each argument reads behind the call as it read before'; 0 by the template 'total and deterministic' (their statements: YtklfjpilhbkekaaGreatTotals.lean).
  GIVEN WITH THE SEED: the statements are not yours to turn. If you find one false, say at which input.
  Laid BY PROGRAM, IN A SANDBOX (cutbox-rows.mjs): the forced cells as the released guide's own fill.sh prints them over the translation 226804b41914085c… (all of the seat's roots in one cut). By AI agents, Wed Nov 11 2026. No macro, syntax, notation, axiom, sorry.
-/
import Derived.Test.YtklfjpilhbkekaaGreatChecked
import GoSem.Claim
import GoSem.ClaimJoined
import GoSem.ClaimMapViews
import Derived.JoinedTies
import Derived.KernelRfl
namespace Go.Proofs.YtklfjpilhbkekaaGreat
/- THE CELL 'sum', in the pinned program and in every row, IS THE sha256 OF THE DUMP (.gsa) THAT YtklfjpilhbkekaaGreatProg.lean LOADS. Nothing in Lean hashes anything: it is a label: what it is worth is what the hold of that sum in a sandbox is worth. -/
noncomputable def Tryz.pinned : Pinned := { name := "ytklfjpilhbkekaagreat", sum := "226804b41914085cd906ab1940670aaef5218fa8bbf40e49b05aa0ddff8d4fdb", checked := Tryz.checked }
namespace Rows
def none {H : Type} : Left H := { results := [], args := [] }

/-- 'laws.FnExactLoopAgain': WHATEVER THE INPUT: true; the input reads as it did. -/
def fnExactLoopAgainSpec : ChangeSpec := { name := "fnExactLoopAgain", fn := fun _ => fun
  | [d1, d2, d3] => { results := [.lit (.bool true)], args := [d1, d2, d3] }
  | _ => none }
def fnExactLoopAgainRow : OpenClaim := { program := "ytklfjpilhbkekaagreat", sum := "226804b41914085cd906ab1940670aaef5218fa8bbf40e49b05aa0ddff8d4fdb", func := "loop.example/g00895/laws.FnExactLoopAgain", spec := "fnExactLoopAgain", unfollowed := true, recurses := true, apart := false }
def FnExactLoopAgainSaid : Prop := fnExactLoopAgainRow.holds Tryz.pinned (OpenSpec.ofChange fnExactLoopAgainSpec)

/-- ITS FALSE NEIGHBOUR: 'it returns false'. Refute it at one input. -/
def fnExactLoopAgainWrong : ChangeSpec := { name := "fnExactLoopAgain", fn := fun _ => fun
  | [d1, d2, d3] => { results := [.lit (.bool false)], args := [d1, d2, d3] }
  | _ => none }
def FnExactLoopAgainWrongFalsely : Prop := fnExactLoopAgainRow.holds Tryz.pinned (OpenSpec.ofChange fnExactLoopAgainWrong)

/-- 'laws.FnExactEqualProof': WHATEVER THE INPUT: true; the input reads as it did. -/
def fnExactEqualProofSpec : ChangeSpec := { name := "fnExactEqualProof", fn := fun _ => fun
  | [d1, d2, d3, d4] => { results := [.lit (.bool true)], args := [d1, d2, d3, d4] }
  | _ => none }
def fnExactEqualProofRow : OpenClaim := { program := "ytklfjpilhbkekaagreat", sum := "226804b41914085cd906ab1940670aaef5218fa8bbf40e49b05aa0ddff8d4fdb", func := "loop.example/g00895/laws.FnExactEqualProof", spec := "fnExactEqualProof", unfollowed := true, recurses := true, apart := false }
def FnExactEqualProofSaid : Prop := fnExactEqualProofRow.holds Tryz.pinned (OpenSpec.ofChange fnExactEqualProofSpec)

/-- ITS FALSE NEIGHBOUR: 'it returns false'. Refute it at one input. -/
def fnExactEqualProofWrong : ChangeSpec := { name := "fnExactEqualProof", fn := fun _ => fun
  | [d1, d2, d3, d4] => { results := [.lit (.bool false)], args := [d1, d2, d3, d4] }
  | _ => none }
def FnExactEqualProofWrongFalsely : Prop := fnExactEqualProofRow.holds Tryz.pinned (OpenSpec.ofChange fnExactEqualProofWrong)

/-- 'laws.FnUnravelled': WHATEVER THE INPUT: true; the input reads as it did. -/
def fnUnravelledSpec : ChangeSpec := { name := "fnUnravelled", fn := fun _ => fun
  | [d] => { results := [.lit (.bool true)], args := [d] }
  | _ => none }
def fnUnravelledRow : OpenClaim := { program := "ytklfjpilhbkekaagreat", sum := "226804b41914085cd906ab1940670aaef5218fa8bbf40e49b05aa0ddff8d4fdb", func := "loop.example/g00895/laws.FnUnravelled", spec := "fnUnravelled", unfollowed := true, recurses := true, apart := false }
def FnUnravelledSaid : Prop := fnUnravelledRow.holds Tryz.pinned (OpenSpec.ofChange fnUnravelledSpec)

/-- ITS FALSE NEIGHBOUR: 'it returns false'. Refute it at one input. -/
def fnUnravelledWrong : ChangeSpec := { name := "fnUnravelled", fn := fun _ => fun
  | [d] => { results := [.lit (.bool false)], args := [d] }
  | _ => none }
def FnUnravelledWrongFalsely : Prop := fnUnravelledRow.holds Tryz.pinned (OpenSpec.ofChange fnUnravelledWrong)

/-- 'laws.FnExactCWalkOf': WHATEVER THE INPUT: true; the input reads as it did. -/
def fnExactCWalkOfSpec : ChangeSpec := { name := "fnExactCWalkOf", fn := fun _ => fun
  | [d1, d2, d3, d4, d5] => { results := [.lit (.bool true)], args := [d1, d2, d3, d4, d5] }
  | _ => none }
def fnExactCWalkOfRow : OpenClaim := { program := "ytklfjpilhbkekaagreat", sum := "226804b41914085cd906ab1940670aaef5218fa8bbf40e49b05aa0ddff8d4fdb", func := "loop.example/g00895/laws.FnExactCWalkOf", spec := "fnExactCWalkOf", unfollowed := true, recurses := true, apart := false }
def FnExactCWalkOfSaid : Prop := fnExactCWalkOfRow.holds Tryz.pinned (OpenSpec.ofChange fnExactCWalkOfSpec)

/-- ITS FALSE NEIGHBOUR: 'it returns false'. Refute it at one input. -/
def fnExactCWalkOfWrong : ChangeSpec := { name := "fnExactCWalkOf", fn := fun _ => fun
  | [d1, d2, d3, d4, d5] => { results := [.lit (.bool false)], args := [d1, d2, d3, d4, d5] }
  | _ => none }
def FnExactCWalkOfWrongFalsely : Prop := fnExactCWalkOfRow.holds Tryz.pinned (OpenSpec.ofChange fnExactCWalkOfWrong)

/- THE SECOND FORM. 'bulk': how many values and letters a reading holds, each counted each time it is reached (what is shared counts as often as it is met; a slice's spare places count too). A statement '..UptoSaid' is the law's where the arguments, and the package variables that the reading takes, are together of bulk at most 1048576: NARROWER than '..Said'. Prove '..Said' where nothing that the law and all that it calls make is longer than what came in: it says more and counts as full. Else prove '..UptoSaid'. A law counts once. -/
mutual
def uptoBulk {H : Type} : DataW H → Nat
  | .lit (.string bytes) => bytes.length + 1
  | .lit _ => 1
  | .nil => 1
  | .ptr d => uptoBulk d + 1
  | .slice elems spare => uptoBulkAll elems + uptoBulkAll spare + 1
  | .agg parts => uptoBulkAll parts + 1
  | .iface _ d => uptoBulk d + 1
  | .map entries => uptoBulkEntries entries + 1
  | .held _ => 1
def uptoBulkAll {H : Type} : List (DataW H) → Nat
  | [] => 0
  | d :: r => uptoBulk d + uptoBulkAll r
def uptoBulkEntries {H : Type} : List (Lit × DataW H) → Nat
  | [] => 0
  | x :: r => uptoBulkEntry x + uptoBulkEntries r
def uptoBulkEntry {H : Type} : Lit × DataW H → Nat
  | (.string bytes, d) => bytes.length + uptoBulk d + 1
  | (_, d) => uptoBulk d + 1
 end
def uptoSmall : (H : Type) → List (DataW H) → Bool := fun _ ds => decide (uptoBulkAll ds ≤ 1048576)
def OpenSpec.upto (s : _root_.Go.ChangeSpec) : _root_.Go.OpenSpec := { _root_.Go.OpenSpec.ofChange s with cond := some uptoSmall }

/-- 'laws.FnExactLoopAgain', WHERE WHAT IT READS IS OF BULK AT MOST 1048576: true; the input reads as it did. -/
def fnExactLoopAgainUptoRow : OpenClaim := { program := "ytklfjpilhbkekaagreat", sum := "226804b41914085cd906ab1940670aaef5218fa8bbf40e49b05aa0ddff8d4fdb", func := "loop.example/g00895/laws.FnExactLoopAgain", spec := "fnExactLoopAgain", unfollowed := true, recurses := true, apart := false, narrowed := true }
def FnExactLoopAgainUptoSaid : Prop := fnExactLoopAgainUptoRow.holds Tryz.pinned (OpenSpec.upto fnExactLoopAgainSpec)

/-- 'laws.FnExactEqualProof', WHERE WHAT IT READS IS OF BULK AT MOST 1048576: true; the input reads as it did. -/
def fnExactEqualProofUptoRow : OpenClaim := { program := "ytklfjpilhbkekaagreat", sum := "226804b41914085cd906ab1940670aaef5218fa8bbf40e49b05aa0ddff8d4fdb", func := "loop.example/g00895/laws.FnExactEqualProof", spec := "fnExactEqualProof", unfollowed := true, recurses := true, apart := false, narrowed := true }
def FnExactEqualProofUptoSaid : Prop := fnExactEqualProofUptoRow.holds Tryz.pinned (OpenSpec.upto fnExactEqualProofSpec)

/-- 'laws.FnUnravelled', WHERE WHAT IT READS IS OF BULK AT MOST 1048576: true; the input reads as it did. -/
def fnUnravelledUptoRow : OpenClaim := { program := "ytklfjpilhbkekaagreat", sum := "226804b41914085cd906ab1940670aaef5218fa8bbf40e49b05aa0ddff8d4fdb", func := "loop.example/g00895/laws.FnUnravelled", spec := "fnUnravelled", unfollowed := true, recurses := true, apart := false, narrowed := true }
def FnUnravelledUptoSaid : Prop := fnUnravelledUptoRow.holds Tryz.pinned (OpenSpec.upto fnUnravelledSpec)

/-- 'laws.FnExactCWalkOf', WHERE WHAT IT READS IS OF BULK AT MOST 1048576: true; the input reads as it did. -/
def fnExactCWalkOfUptoRow : OpenClaim := { program := "ytklfjpilhbkekaagreat", sum := "226804b41914085cd906ab1940670aaef5218fa8bbf40e49b05aa0ddff8d4fdb", func := "loop.example/g00895/laws.FnExactCWalkOf", spec := "fnExactCWalkOf", unfollowed := true, recurses := true, apart := false, narrowed := true }
def FnExactCWalkOfUptoSaid : Prop := fnExactCWalkOfUptoRow.holds Tryz.pinned (OpenSpec.upto fnExactCWalkOfSpec)

end Rows
end Go.Proofs.YtklfjpilhbkekaaGreat
