/-
  NARROWER THAN 'FOR EVERY INPUT', by the rows' own cells (each row's printed sentence says how): FnExactJoinsAll: ifaces, laid · FnJoinedPeaks: ifaces, laid · FnExactUnjoinedOf: ifaces, laid.
  DERIVED. THE GIVEN ROWS OF THIS SEAT. 3 by the template 'for every input the law returns true; each argument reads behind the call as it read before'; 0 by the template 'total and deterministic' (their statements: YtjgbnaihpicpgaaGreatDoorTotals.lean).
  GIVEN WITH THE SEED: the statements are not yours to turn. If you find one false, say at which input.
  Laid BY PROGRAM, IN A SANDBOX (cutbox-rows.mjs): the forced cells as the released guide's own fill.sh prints them over the translation d9094f6576e41bb8… (all of the seat's roots in one cut). By AI agents, Wed Nov 11 2026. No macro, syntax, notation, axiom, sorry.
-/
import Derived.Test.YtjgbnaihpicpgaaGreatDoorChecked
import GoSem.Claim
import GoSem.ClaimJoined
import GoSem.ClaimMapViews
import Derived.JoinedTies
import Derived.KernelRfl
namespace Go.Proofs.YtjgbnaihpicpgaaGreatDoor
/- THE CELL 'sum', in the pinned program and in every row, IS THE sha256 OF THE DUMP (.gsa) THAT YtjgbnaihpicpgaaGreatDoorProg.lean LOADS. Nothing in Lean hashes anything: it is a label: what it is worth is what the hold of that sum in a sandbox is worth. -/
noncomputable def Tryz.pinned : Pinned := { name := "ytjgbnaihpicpgaagreatdoor", sum := "d9094f6576e41bb83f27fb4adb8e98b8ba16429ed26ecf439651bf5caeaab638", checked := Tryz.checked }
namespace Rows
def none {H : Type} : Left H := { results := [], args := [] }

/- WHAT THE LISTED PACKAGE-LEVEL VARIABLES READ AS WHEN THE CALL BEGINS. Each datum BY PROGRAM (the guide's laid-datum.mjs) off the statement by which the dump's own 'gosem.cut.vars' lays the variable. In a bare row this is a premise. The card (YtjgbnaihpicpgaaGreatDoorCards.lean) ties it to the program's text. -/
def laid_loop_example_g00895_impl_errApart {H : Type} : DataW H := .iface "*errors.errorString" (.ptr (.agg [.lit (.string [110, 111, 32, 99, 111, 109, 109, 111, 110, 32, 116, 101, 114, 109])]))

/-- 'laws.FnExactJoinsAll': WHATEVER THE INPUT: true; the input reads as it did. -/
def fnExactJoinsAllSpec : ChangeSpec := { name := "fnExactJoinsAll", vars := ["loop.example/g00895/impl.errApart"], fn := fun _ => fun
  | [d1, d2, g1] => { results := [.lit (.bool true)], args := [d1, d2], vars := [g1] }
  | _ => none }
def fnExactJoinsAllRow : OpenClaim := { program := "ytjgbnaihpicpgaagreatdoor", sum := "d9094f6576e41bb83f27fb4adb8e98b8ba16429ed26ecf439651bf5caeaab638", func := "loop.example/g00895/laws.FnExactJoinsAll", spec := "fnExactJoinsAll", inPlace := ["internal/reflectlite.TypeOf"], unfollowed := true, recurses := true, named := ["loop.example/g00895/impl.errApart"], ifaces := true, apart := false, laid := [("loop.example/g00895/impl.errApart", laid_loop_example_g00895_impl_errApart)] }
def FnExactJoinsAllSaid : Prop := fnExactJoinsAllRow.holds Tryz.pinned (OpenSpec.ofChange fnExactJoinsAllSpec)

/-- ITS FALSE NEIGHBOUR: 'it returns false'. Refute it at one input. -/
def fnExactJoinsAllWrong : ChangeSpec := { name := "fnExactJoinsAll", vars := ["loop.example/g00895/impl.errApart"], fn := fun _ => fun
  | [d1, d2, g1] => { results := [.lit (.bool false)], args := [d1, d2], vars := [g1] }
  | _ => none }
def FnExactJoinsAllWrongFalsely : Prop := fnExactJoinsAllRow.holds Tryz.pinned (OpenSpec.ofChange fnExactJoinsAllWrong)

/-- 'laws.FnJoinedPeaks': WHATEVER THE INPUT: true; the input reads as it did. -/
def fnJoinedPeaksSpec : ChangeSpec := { name := "fnJoinedPeaks", vars := ["loop.example/g00895/impl.errApart"], fn := fun _ => fun
  | [d, g1] => { results := [.lit (.bool true)], args := [d], vars := [g1] }
  | _ => none }
def fnJoinedPeaksRow : OpenClaim := { program := "ytjgbnaihpicpgaagreatdoor", sum := "d9094f6576e41bb83f27fb4adb8e98b8ba16429ed26ecf439651bf5caeaab638", func := "loop.example/g00895/laws.FnJoinedPeaks", spec := "fnJoinedPeaks", inPlace := ["internal/reflectlite.TypeOf"], unfollowed := true, recurses := true, named := ["loop.example/g00895/impl.errApart"], ifaces := true, apart := false, laid := [("loop.example/g00895/impl.errApart", laid_loop_example_g00895_impl_errApart)] }
def FnJoinedPeaksSaid : Prop := fnJoinedPeaksRow.holds Tryz.pinned (OpenSpec.ofChange fnJoinedPeaksSpec)

/-- ITS FALSE NEIGHBOUR: 'it returns false'. Refute it at one input. -/
def fnJoinedPeaksWrong : ChangeSpec := { name := "fnJoinedPeaks", vars := ["loop.example/g00895/impl.errApart"], fn := fun _ => fun
  | [d, g1] => { results := [.lit (.bool false)], args := [d], vars := [g1] }
  | _ => none }
def FnJoinedPeaksWrongFalsely : Prop := fnJoinedPeaksRow.holds Tryz.pinned (OpenSpec.ofChange fnJoinedPeaksWrong)

/-- 'laws.FnExactUnjoinedOf': WHATEVER THE INPUT: true; the input reads as it did. -/
def fnExactUnjoinedOfSpec : ChangeSpec := { name := "fnExactUnjoinedOf", vars := ["loop.example/g00895/impl.errApart"], fn := fun _ => fun
  | [d1, d2, g1] => { results := [.lit (.bool true)], args := [d1, d2], vars := [g1] }
  | _ => none }
def fnExactUnjoinedOfRow : OpenClaim := { program := "ytjgbnaihpicpgaagreatdoor", sum := "d9094f6576e41bb83f27fb4adb8e98b8ba16429ed26ecf439651bf5caeaab638", func := "loop.example/g00895/laws.FnExactUnjoinedOf", spec := "fnExactUnjoinedOf", unfollowed := true, recurses := true, named := ["loop.example/g00895/impl.errApart"], ifaces := true, apart := false, laid := [("loop.example/g00895/impl.errApart", laid_loop_example_g00895_impl_errApart)] }
def FnExactUnjoinedOfSaid : Prop := fnExactUnjoinedOfRow.holds Tryz.pinned (OpenSpec.ofChange fnExactUnjoinedOfSpec)

/-- ITS FALSE NEIGHBOUR: 'it returns false'. Refute it at one input. -/
def fnExactUnjoinedOfWrong : ChangeSpec := { name := "fnExactUnjoinedOf", vars := ["loop.example/g00895/impl.errApart"], fn := fun _ => fun
  | [d1, d2, g1] => { results := [.lit (.bool false)], args := [d1, d2], vars := [g1] }
  | _ => none }
def FnExactUnjoinedOfWrongFalsely : Prop := fnExactUnjoinedOfRow.holds Tryz.pinned (OpenSpec.ofChange fnExactUnjoinedOfWrong)

/- THE SECOND FORM. 'bulk': how many values and letters a reading holds, each counted each time it is reached (what is shared counts as often as it is met; a slice's spare places count too). A statement '..UptoSaid' is the law's where the arguments, and the package variables that the reading takes, are together of bulk at most 1048576: NARROWER than '..Said'. Prove '..Said' where nothing that the law and all that it calls make is longer than what came in: it says more and counts as full. Else prove '..UptoSaid'. A law counts once. -/
mutual
def uptoBulk {H : Type} : DataW H → Nat
  | .lit (.string bytes) => bytes.length + 1
  | .lit _ => 1
  | .nil => 1
  | .ptr d => uptoBulk d + 1
  | .slice elems spare => uptoBulkAll elems + uptoBulkAll spare + 1
  | .agg parts => uptoBulkAll parts + 1
  | .iface _ d => uptoBulk d + 1
  | .map entries => uptoBulkEntries entries + 1
  | .held _ => 1
def uptoBulkAll {H : Type} : List (DataW H) → Nat
  | [] => 0
  | d :: r => uptoBulk d + uptoBulkAll r
def uptoBulkEntries {H : Type} : List (Lit × DataW H) → Nat
  | [] => 0
  | x :: r => uptoBulkEntry x + uptoBulkEntries r
def uptoBulkEntry {H : Type} : Lit × DataW H → Nat
  | (.string bytes, d) => bytes.length + uptoBulk d + 1
  | (_, d) => uptoBulk d + 1
 end
def uptoSmall : (H : Type) → List (DataW H) → Bool := fun _ ds => decide (uptoBulkAll ds ≤ 1048576)
def OpenSpec.upto (s : _root_.Go.ChangeSpec) : _root_.Go.OpenSpec := { _root_.Go.OpenSpec.ofChange s with cond := some uptoSmall }

/-- 'laws.FnExactJoinsAll', WHERE WHAT IT READS IS OF BULK AT MOST 1048576: true; the input reads as it did. -/
def fnExactJoinsAllUptoRow : OpenClaim := { program := "ytjgbnaihpicpgaagreatdoor", sum := "d9094f6576e41bb83f27fb4adb8e98b8ba16429ed26ecf439651bf5caeaab638", func := "loop.example/g00895/laws.FnExactJoinsAll", spec := "fnExactJoinsAll", inPlace := ["internal/reflectlite.TypeOf"], unfollowed := true, recurses := true, named := ["loop.example/g00895/impl.errApart"], ifaces := true, apart := false, laid := [("loop.example/g00895/impl.errApart", laid_loop_example_g00895_impl_errApart)], narrowed := true }
def FnExactJoinsAllUptoSaid : Prop := fnExactJoinsAllUptoRow.holds Tryz.pinned (OpenSpec.upto fnExactJoinsAllSpec)

/-- 'laws.FnJoinedPeaks', WHERE WHAT IT READS IS OF BULK AT MOST 1048576: true; the input reads as it did. -/
def fnJoinedPeaksUptoRow : OpenClaim := { program := "ytjgbnaihpicpgaagreatdoor", sum := "d9094f6576e41bb83f27fb4adb8e98b8ba16429ed26ecf439651bf5caeaab638", func := "loop.example/g00895/laws.FnJoinedPeaks", spec := "fnJoinedPeaks", inPlace := ["internal/reflectlite.TypeOf"], unfollowed := true, recurses := true, named := ["loop.example/g00895/impl.errApart"], ifaces := true, apart := false, laid := [("loop.example/g00895/impl.errApart", laid_loop_example_g00895_impl_errApart)], narrowed := true }
def FnJoinedPeaksUptoSaid : Prop := fnJoinedPeaksUptoRow.holds Tryz.pinned (OpenSpec.upto fnJoinedPeaksSpec)

/-- 'laws.FnExactUnjoinedOf', WHERE WHAT IT READS IS OF BULK AT MOST 1048576: true; the input reads as it did. -/
def fnExactUnjoinedOfUptoRow : OpenClaim := { program := "ytjgbnaihpicpgaagreatdoor", sum := "d9094f6576e41bb83f27fb4adb8e98b8ba16429ed26ecf439651bf5caeaab638", func := "loop.example/g00895/laws.FnExactUnjoinedOf", spec := "fnExactUnjoinedOf", unfollowed := true, recurses := true, named := ["loop.example/g00895/impl.errApart"], ifaces := true, apart := false, laid := [("loop.example/g00895/impl.errApart", laid_loop_example_g00895_impl_errApart)], narrowed := true }
def FnExactUnjoinedOfUptoSaid : Prop := fnExactUnjoinedOfUptoRow.holds Tryz.pinned (OpenSpec.upto fnExactUnjoinedOfSpec)

end Rows
end Go.Proofs.YtjgbnaihpicpgaaGreatDoor
