/- A part of the proof about FnUnravelled (Jd3). -/
import Derived.Test.YtelhemjlfkbkeaaGreatUa
import Derived.ProofKit
import Derived.JoinedOf
import Derived.KernelRfl
import Derived.Test.YtelhemjlfkbkeaaGreatRows
set_option linter.all false
namespace Go.Proofs.YtelhemjlfkbkeaaGreat
open Go Go.ChangeShapes Go.WideShapes Go.ChangeAt Go.RowKit
theorem Uh{a b:Bool}(ha:a=true)(hb:b=true):(a&&b)=true:=by rw[ha,hb];rfl
set_option maxRecDepth 100000 in
set_option maxHeartbeats 4000000 in
theorem RH:joinedFacts Tryz.prog 3 Tryz.f3 Rows.fnUnravelledSpec Rows.fnUnravelledRow=true:=by
 unfold joinedFacts
 with_reducible repeat' refine Uh ?_ ?_
 all_goals as_aux_lemma=>kernel_rfl
end Go.Proofs.YtelhemjlfkbkeaaGreat
