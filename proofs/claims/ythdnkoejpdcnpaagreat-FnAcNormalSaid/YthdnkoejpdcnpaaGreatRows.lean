/-
  No cell of these rows narrows 'for every input' (looked for: loops, veiled, ifaces, maps, wideKeys, modest, calm, conditions, laid).
  DERIVED. THE GIVEN ROWS OF THIS SEAT. 7 by the template 'for every input the law returns true; each argument reads behind the call as it read before'; 0 by the template 'total and deterministic' (their statements: YthdnkoejpdcnpaaGreatTotals.lean).
  GIVEN WITH THE SEED: the statements are not yours to turn. If you find one false, say at which input.
  Laid BY PROGRAM, IN A SANDBOX (cutbox-rows.mjs): the forced cells as the released guide's own fill.sh prints them over the translation 777f379719d34614… (all of the seat's roots in one cut). By AI agents, Wed Nov 11 2026. No macro, syntax, notation, axiom, sorry.
-/
import Derived.Test.YthdnkoejpdcnpaaGreatChecked
import GoSem.Claim
import GoSem.ClaimJoined
import GoSem.ClaimMapViews
import Derived.JoinedTies
import Derived.KernelRfl
namespace Go.Proofs.YthdnkoejpdcnpaaGreat
/- THE CELL 'sum', in the pinned program and in every row, IS THE sha256 OF THE DUMP (.gsa) THAT YthdnkoejpdcnpaaGreatProg.lean LOADS. Nothing in Lean hashes anything: it is a label: what it is worth is what the hold of that sum in a sandbox is worth. -/
noncomputable def Tryz.pinned : Pinned := { name := "ythdnkoejpdcnpaagreat", sum := "777f379719d34614759ec1c34a2950d5c30535688711717e01f11f2e03c574dd", checked := Tryz.checked }
namespace Rows
def none {H : Type} : Left H := { results := [], args := [] }

/-- 'laws.FnExactAcInstance': WHATEVER THE INPUT: true; the input reads as it did. -/
def fnExactAcInstanceSpec : ChangeSpec := { name := "fnExactAcInstance", fn := fun _ => fun
  | [d1, d2, d3, d4] => { results := [.lit (.bool true)], args := [d1, d2, d3, d4] }
  | _ => none }
def fnExactAcInstanceRow : OpenClaim := { program := "ythdnkoejpdcnpaagreat", sum := "777f379719d34614759ec1c34a2950d5c30535688711717e01f11f2e03c574dd", func := "loop.example/g00895/laws.FnExactAcInstance", spec := "fnExactAcInstance", unfollowed := true, recurses := true, apart := false }
def FnExactAcInstanceSaid : Prop := fnExactAcInstanceRow.holds Tryz.pinned (OpenSpec.ofChange fnExactAcInstanceSpec)

/-- ITS FALSE NEIGHBOUR: 'it returns false'. Refute it at one input. -/
def fnExactAcInstanceWrong : ChangeSpec := { name := "fnExactAcInstance", fn := fun _ => fun
  | [d1, d2, d3, d4] => { results := [.lit (.bool false)], args := [d1, d2, d3, d4] }
  | _ => none }
def FnExactAcInstanceWrongFalsely : Prop := fnExactAcInstanceRow.holds Tryz.pinned (OpenSpec.ofChange fnExactAcInstanceWrong)

/-- 'laws.FnExactAcMatches': WHATEVER THE INPUT: true; the input reads as it did. -/
def fnExactAcMatchesSpec : ChangeSpec := { name := "fnExactAcMatches", fn := fun _ => fun
  | [d1, d2, d3, d4] => { results := [.lit (.bool true)], args := [d1, d2, d3, d4] }
  | _ => none }
def fnExactAcMatchesRow : OpenClaim := { program := "ythdnkoejpdcnpaagreat", sum := "777f379719d34614759ec1c34a2950d5c30535688711717e01f11f2e03c574dd", func := "loop.example/g00895/laws.FnExactAcMatches", spec := "fnExactAcMatches", unfollowed := true, recurses := true, apart := false }
def FnExactAcMatchesSaid : Prop := fnExactAcMatchesRow.holds Tryz.pinned (OpenSpec.ofChange fnExactAcMatchesSpec)

/-- ITS FALSE NEIGHBOUR: 'it returns false'. Refute it at one input. -/
def fnExactAcMatchesWrong : ChangeSpec := { name := "fnExactAcMatches", fn := fun _ => fun
  | [d1, d2, d3, d4] => { results := [.lit (.bool false)], args := [d1, d2, d3, d4] }
  | _ => none }
def FnExactAcMatchesWrongFalsely : Prop := fnExactAcMatchesRow.holds Tryz.pinned (OpenSpec.ofChange fnExactAcMatchesWrong)

/-- 'laws.FnAcMatches': WHATEVER THE INPUT: true; the input reads as it did. -/
def fnAcMatchesSpec : ChangeSpec := { name := "fnAcMatches", fn := fun _ => fun
  | [d] => { results := [.lit (.bool true)], args := [d] }
  | _ => none }
def fnAcMatchesRow : OpenClaim := { program := "ythdnkoejpdcnpaagreat", sum := "777f379719d34614759ec1c34a2950d5c30535688711717e01f11f2e03c574dd", func := "loop.example/g00895/laws.FnAcMatches", spec := "fnAcMatches", unfollowed := true, recurses := true, apart := false }
def FnAcMatchesSaid : Prop := fnAcMatchesRow.holds Tryz.pinned (OpenSpec.ofChange fnAcMatchesSpec)

/-- ITS FALSE NEIGHBOUR: 'it returns false'. Refute it at one input. -/
def fnAcMatchesWrong : ChangeSpec := { name := "fnAcMatches", fn := fun _ => fun
  | [d] => { results := [.lit (.bool false)], args := [d] }
  | _ => none }
def FnAcMatchesWrongFalsely : Prop := fnAcMatchesRow.holds Tryz.pinned (OpenSpec.ofChange fnAcMatchesWrong)

/-- 'laws.FnExactAcNormalBy': WHATEVER THE INPUT: true; the input reads as it did. -/
def fnExactAcNormalBySpec : ChangeSpec := { name := "fnExactAcNormalBy", fn := fun _ => fun
  | [d1, d2, d3, d4] => { results := [.lit (.bool true)], args := [d1, d2, d3, d4] }
  | _ => none }
def fnExactAcNormalByRow : OpenClaim := { program := "ythdnkoejpdcnpaagreat", sum := "777f379719d34614759ec1c34a2950d5c30535688711717e01f11f2e03c574dd", func := "loop.example/g00895/laws.FnExactAcNormalBy", spec := "fnExactAcNormalBy", unfollowed := true, recurses := true, apart := false }
def FnExactAcNormalBySaid : Prop := fnExactAcNormalByRow.holds Tryz.pinned (OpenSpec.ofChange fnExactAcNormalBySpec)

/-- ITS FALSE NEIGHBOUR: 'it returns false'. Refute it at one input. -/
def fnExactAcNormalByWrong : ChangeSpec := { name := "fnExactAcNormalBy", fn := fun _ => fun
  | [d1, d2, d3, d4] => { results := [.lit (.bool false)], args := [d1, d2, d3, d4] }
  | _ => none }
def FnExactAcNormalByWrongFalsely : Prop := fnExactAcNormalByRow.holds Tryz.pinned (OpenSpec.ofChange fnExactAcNormalByWrong)

/-- 'laws.FnExactAcSteps': WHATEVER THE INPUT: true; the input reads as it did. -/
def fnExactAcStepsSpec : ChangeSpec := { name := "fnExactAcSteps", fn := fun _ => fun
  | [d1, d2, d3] => { results := [.lit (.bool true)], args := [d1, d2, d3] }
  | _ => none }
def fnExactAcStepsRow : OpenClaim := { program := "ythdnkoejpdcnpaagreat", sum := "777f379719d34614759ec1c34a2950d5c30535688711717e01f11f2e03c574dd", func := "loop.example/g00895/laws.FnExactAcSteps", spec := "fnExactAcSteps", unfollowed := true, recurses := true, apart := false }
def FnExactAcStepsSaid : Prop := fnExactAcStepsRow.holds Tryz.pinned (OpenSpec.ofChange fnExactAcStepsSpec)

/-- ITS FALSE NEIGHBOUR: 'it returns false'. Refute it at one input. -/
def fnExactAcStepsWrong : ChangeSpec := { name := "fnExactAcSteps", fn := fun _ => fun
  | [d1, d2, d3] => { results := [.lit (.bool false)], args := [d1, d2, d3] }
  | _ => none }
def FnExactAcStepsWrongFalsely : Prop := fnExactAcStepsRow.holds Tryz.pinned (OpenSpec.ofChange fnExactAcStepsWrong)

/-- 'laws.FnAcNormal': WHATEVER THE INPUT: true; the input reads as it did. -/
def fnAcNormalSpec : ChangeSpec := { name := "fnAcNormal", fn := fun _ => fun
  | [d] => { results := [.lit (.bool true)], args := [d] }
  | _ => none }
def fnAcNormalRow : OpenClaim := { program := "ythdnkoejpdcnpaagreat", sum := "777f379719d34614759ec1c34a2950d5c30535688711717e01f11f2e03c574dd", func := "loop.example/g00895/laws.FnAcNormal", spec := "fnAcNormal", unfollowed := true, recurses := true, apart := false }
def FnAcNormalSaid : Prop := fnAcNormalRow.holds Tryz.pinned (OpenSpec.ofChange fnAcNormalSpec)

/-- ITS FALSE NEIGHBOUR: 'it returns false'. Refute it at one input. -/
def fnAcNormalWrong : ChangeSpec := { name := "fnAcNormal", fn := fun _ => fun
  | [d] => { results := [.lit (.bool false)], args := [d] }
  | _ => none }
def FnAcNormalWrongFalsely : Prop := fnAcNormalRow.holds Tryz.pinned (OpenSpec.ofChange fnAcNormalWrong)

/-- 'laws.FnAcSteps': WHATEVER THE INPUT: true; the input reads as it did. -/
def fnAcStepsSpec : ChangeSpec := { name := "fnAcSteps", fn := fun _ => fun
  | [d] => { results := [.lit (.bool true)], args := [d] }
  | _ => none }
def fnAcStepsRow : OpenClaim := { program := "ythdnkoejpdcnpaagreat", sum := "777f379719d34614759ec1c34a2950d5c30535688711717e01f11f2e03c574dd", func := "loop.example/g00895/laws.FnAcSteps", spec := "fnAcSteps", unfollowed := true, recurses := true, apart := false }
def FnAcStepsSaid : Prop := fnAcStepsRow.holds Tryz.pinned (OpenSpec.ofChange fnAcStepsSpec)

/-- ITS FALSE NEIGHBOUR: 'it returns false'. Refute it at one input. -/
def fnAcStepsWrong : ChangeSpec := { name := "fnAcSteps", fn := fun _ => fun
  | [d] => { results := [.lit (.bool false)], args := [d] }
  | _ => none }
def FnAcStepsWrongFalsely : Prop := fnAcStepsRow.holds Tryz.pinned (OpenSpec.ofChange fnAcStepsWrong)

/- THE SECOND FORM. 'bulk': how many values and letters a reading holds, each counted each time it is reached (what is shared counts as often as it is met; a slice's spare places count too). A statement '..UptoSaid' is the law's where the arguments, and the package variables that the reading takes, are together of bulk at most 1048576: NARROWER than '..Said'. Prove '..Said' where nothing that the law and all that it calls make is longer than what came in: it says more and counts as full. Else prove '..UptoSaid'. A law counts once. -/
mutual
def uptoBulk {H : Type} : DataW H → Nat
  | .lit (.string bytes) => bytes.length + 1
  | .lit _ => 1
  | .nil => 1
  | .ptr d => uptoBulk d + 1
  | .slice elems spare => uptoBulkAll elems + uptoBulkAll spare + 1
  | .agg parts => uptoBulkAll parts + 1
  | .iface _ d => uptoBulk d + 1
  | .map entries => uptoBulkEntries entries + 1
  | .held _ => 1
def uptoBulkAll {H : Type} : List (DataW H) → Nat
  | [] => 0
  | d :: r => uptoBulk d + uptoBulkAll r
def uptoBulkEntries {H : Type} : List (Lit × DataW H) → Nat
  | [] => 0
  | x :: r => uptoBulkEntry x + uptoBulkEntries r
def uptoBulkEntry {H : Type} : Lit × DataW H → Nat
  | (.string bytes, d) => bytes.length + uptoBulk d + 1
  | (_, d) => uptoBulk d + 1
 end
def uptoSmall : (H : Type) → List (DataW H) → Bool := fun _ ds => decide (uptoBulkAll ds ≤ 1048576)
def OpenSpec.upto (s : _root_.Go.ChangeSpec) : _root_.Go.OpenSpec := { _root_.Go.OpenSpec.ofChange s with cond := some uptoSmall }

/-- 'laws.FnExactAcInstance', WHERE WHAT IT READS IS OF BULK AT MOST 1048576: true; the input reads as it did. -/
def fnExactAcInstanceUptoRow : OpenClaim := { program := "ythdnkoejpdcnpaagreat", sum := "777f379719d34614759ec1c34a2950d5c30535688711717e01f11f2e03c574dd", func := "loop.example/g00895/laws.FnExactAcInstance", spec := "fnExactAcInstance", unfollowed := true, recurses := true, apart := false, narrowed := true }
def FnExactAcInstanceUptoSaid : Prop := fnExactAcInstanceUptoRow.holds Tryz.pinned (OpenSpec.upto fnExactAcInstanceSpec)

/-- 'laws.FnExactAcMatches', WHERE WHAT IT READS IS OF BULK AT MOST 1048576: true; the input reads as it did. -/
def fnExactAcMatchesUptoRow : OpenClaim := { program := "ythdnkoejpdcnpaagreat", sum := "777f379719d34614759ec1c34a2950d5c30535688711717e01f11f2e03c574dd", func := "loop.example/g00895/laws.FnExactAcMatches", spec := "fnExactAcMatches", unfollowed := true, recurses := true, apart := false, narrowed := true }
def FnExactAcMatchesUptoSaid : Prop := fnExactAcMatchesUptoRow.holds Tryz.pinned (OpenSpec.upto fnExactAcMatchesSpec)

/-- 'laws.FnAcMatches', WHERE WHAT IT READS IS OF BULK AT MOST 1048576: true; the input reads as it did. -/
def fnAcMatchesUptoRow : OpenClaim := { program := "ythdnkoejpdcnpaagreat", sum := "777f379719d34614759ec1c34a2950d5c30535688711717e01f11f2e03c574dd", func := "loop.example/g00895/laws.FnAcMatches", spec := "fnAcMatches", unfollowed := true, recurses := true, apart := false, narrowed := true }
def FnAcMatchesUptoSaid : Prop := fnAcMatchesUptoRow.holds Tryz.pinned (OpenSpec.upto fnAcMatchesSpec)

/-- 'laws.FnExactAcNormalBy', WHERE WHAT IT READS IS OF BULK AT MOST 1048576: true; the input reads as it did. -/
def fnExactAcNormalByUptoRow : OpenClaim := { program := "ythdnkoejpdcnpaagreat", sum := "777f379719d34614759ec1c34a2950d5c30535688711717e01f11f2e03c574dd", func := "loop.example/g00895/laws.FnExactAcNormalBy", spec := "fnExactAcNormalBy", unfollowed := true, recurses := true, apart := false, narrowed := true }
def FnExactAcNormalByUptoSaid : Prop := fnExactAcNormalByUptoRow.holds Tryz.pinned (OpenSpec.upto fnExactAcNormalBySpec)

/-- 'laws.FnExactAcSteps', WHERE WHAT IT READS IS OF BULK AT MOST 1048576: true; the input reads as it did. -/
def fnExactAcStepsUptoRow : OpenClaim := { program := "ythdnkoejpdcnpaagreat", sum := "777f379719d34614759ec1c34a2950d5c30535688711717e01f11f2e03c574dd", func := "loop.example/g00895/laws.FnExactAcSteps", spec := "fnExactAcSteps", unfollowed := true, recurses := true, apart := false, narrowed := true }
def FnExactAcStepsUptoSaid : Prop := fnExactAcStepsUptoRow.holds Tryz.pinned (OpenSpec.upto fnExactAcStepsSpec)

/-- 'laws.FnAcNormal', WHERE WHAT IT READS IS OF BULK AT MOST 1048576: true; the input reads as it did. -/
def fnAcNormalUptoRow : OpenClaim := { program := "ythdnkoejpdcnpaagreat", sum := "777f379719d34614759ec1c34a2950d5c30535688711717e01f11f2e03c574dd", func := "loop.example/g00895/laws.FnAcNormal", spec := "fnAcNormal", unfollowed := true, recurses := true, apart := false, narrowed := true }
def FnAcNormalUptoSaid : Prop := fnAcNormalUptoRow.holds Tryz.pinned (OpenSpec.upto fnAcNormalSpec)

/-- 'laws.FnAcSteps', WHERE WHAT IT READS IS OF BULK AT MOST 1048576: true; the input reads as it did. -/
def fnAcStepsUptoRow : OpenClaim := { program := "ythdnkoejpdcnpaagreat", sum := "777f379719d34614759ec1c34a2950d5c30535688711717e01f11f2e03c574dd", func := "loop.example/g00895/laws.FnAcSteps", spec := "fnAcSteps", unfollowed := true, recurses := true, apart := false, narrowed := true }
def FnAcStepsUptoSaid : Prop := fnAcStepsUptoRow.holds Tryz.pinned (OpenSpec.upto fnAcStepsSpec)

end Rows
end Go.Proofs.YthdnkoejpdcnpaaGreat
