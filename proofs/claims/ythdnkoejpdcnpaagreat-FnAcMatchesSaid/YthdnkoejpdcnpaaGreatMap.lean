/- A part of the proof about FnAcMatches (Jd5). -/
import Derived.Test.YthdnkoejpdcnpaaGreatMaa
import Derived.ProofKit
import Derived.JoinedOf
import Derived.KernelRfl
import Derived.Test.YthdnkoejpdcnpaaGreatRows
set_option linter.all false
namespace Go.Proofs.YthdnkoejpdcnpaaGreat
open Go Go.ChangeShapes Go.WideShapes Go.ChangeAt Go.RowKit
theorem Ra{a b:Bool}(ha:a=true)(hb:b=true):(a&&b)=true:=by rw[ha,hb];rfl
set_option maxRecDepth 100000 in
set_option maxHeartbeats 4000000 in
theorem N4:joinedFacts Tryz.prog 5 Tryz.f5 Rows.fnAcMatchesSpec Rows.fnAcMatchesRow=true:=by
 unfold joinedFacts
 with_reducible repeat' refine Ra ?_ ?_
 all_goals as_aux_lemma=>kernel_rfl
end Go.Proofs.YthdnkoejpdcnpaaGreat
