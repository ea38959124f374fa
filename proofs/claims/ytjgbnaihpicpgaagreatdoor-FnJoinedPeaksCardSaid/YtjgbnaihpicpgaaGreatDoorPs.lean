/- A part of the proof about FnJoinedPeaks (Jd4). -/
import Derived.Test.YtjgbnaihpicpgaaGreatDoorPa
import Derived.ProofKit
import Derived.JoinedOf
import Derived.KernelRfl
import Derived.Test.YtjgbnaihpicpgaaGreatDoorRows
set_option linter.all false
namespace Go.Proofs.YtjgbnaihpicpgaaGreatDoor
open Go Go.ChangeShapes Go.WideShapes Go.ChangeAt Go.RowKit
theorem Ux{a b:Bool}(ha:a=true)(hb:b=true):(a&&b)=true:=by rw[ha,hb];rfl
set_option maxRecDepth 100000 in
set_option maxHeartbeats 4000000 in
theorem Q1:joinedFacts Tryz.prog 4 Tryz.f4 Rows.fnJoinedPeaksSpec Rows.fnJoinedPeaksRow=true:=by
 unfold joinedFacts
 with_reducible repeat' refine Ux ?_ ?_
 all_goals as_aux_lemma=>kernel_rfl
end Go.Proofs.YtjgbnaihpicpgaaGreatDoor
