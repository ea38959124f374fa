/- What the tool asks of the program for the law FnExactCWalkOf, by computation; nothing is assumed. -/
import Derived.ProofKit
import Derived.JoinedOf
import Derived.KernelRfl
import Derived.Test.YtklfjpilhbkekaaGreatRows
set_option linter.all false
namespace Go.Proofs.YtklfjpilhbkekaaGreat
open Go Go.ChangeShapes Go.WideShapes Go.ChangeAt Go.RowKit
theorem and2b {a b : Bool} (ha : a = true) (hb : b = true) : (a && b) = true := by rw [ha, hb]; rfl
set_option maxRecDepth 100000 in
set_option maxHeartbeats 4000000 in
theorem x7b : joinedFacts Tryz.prog 6 Tryz.f6 Rows.fnExactCWalkOfSpec Rows.fnExactCWalkOfRow = true := by
 unfold joinedFacts
 with_reducible repeat' refine and2b ?_ ?_
 all_goals as_aux_lemma => kernel_rfl
end Go.Proofs.YtklfjpilhbkekaaGreat
