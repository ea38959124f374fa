/- A part of the proof about FnOneForm (Jd3). -/
import Derived.Test.YtjgbnaihpicpgaaGreatOa
import Derived.ProofKit
import Derived.JoinedOf
import Derived.KernelRfl
import Derived.Test.YtjgbnaihpicpgaaGreatRows
set_option linter.all false
namespace Go.Proofs.YtjgbnaihpicpgaaGreat
open Go Go.ChangeShapes Go.WideShapes Go.ChangeAt Go.RowKit
theorem Ut{a b:Bool}(ha:a=true)(hb:b=true):(a&&b)=true:=by rw[ha,hb];rfl
set_option maxRecDepth 100000 in
set_option maxHeartbeats 4000000 in
theorem QH:joinedFacts Tryz.prog 3 Tryz.f3 Rows.fnOneFormSpec Rows.fnOneFormRow=true:=by
 unfold joinedFacts
 with_reducible repeat' refine Ut ?_ ?_
 all_goals as_aux_lemma=>kernel_rfl
end Go.Proofs.YtjgbnaihpicpgaaGreat
