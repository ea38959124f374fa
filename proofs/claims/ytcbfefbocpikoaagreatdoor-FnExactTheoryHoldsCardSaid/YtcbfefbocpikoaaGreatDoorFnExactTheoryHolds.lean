/- The statement about FnExactTheoryHolds is proved: the law returns true at every input and leaves the input as it was; nothing is assumed. -/
import Derived.Test.YtcbfefbocpikoaaGreatDoorThf
import Derived.Test.YtcbfefbocpikoaaGreatDoorTie
import Derived.Test.YtcbfefbocpikoaaGreatDoorCards
import Derived.SevenTiedAt
set_option linter.unusedSimpArgs false
set_option linter.unusedVariables false
set_option linter.unusedSectionVars false
set_option linter.unnecessarySimpa false
namespace Go.Proofs.YtcbfefbocpikoaaGreatDoor
open Go Abx Go.ChangeShapes Go.WideShapes Go.ChangeAt Go.RowKit
theorem fnExactTheoryHolds_bare : Rows.FnExactTheoryHoldsSaid :=
  OpenClaim.holds_of_wide 4 Tryz.f4 rfl rfl rfl rfl rfl rfl rfl ⟨rfl, rfl, rfl, rfl, rfl⟩ rfl rfl rfl rfl rfl (by kernel_rfl) Tryz.func4 closed4
    (of_decide_eq_true (by kernel_rfl)) (by unfold Func.isWrapper; first | (rw [if_pos (by decide +kernel)]; kernel_rfl) | (rw [if_neg (by decide +kernel)]; exact ⟨rfl, rfl⟩))
    (fun os started H enc _ => fnExactTheoryHolds_lifted os started H enc)
theorem fnExactTheoryHolds_proved : Rows.FnExactTheoryHoldsCardSaid :=
  Claim7.holds_tied_plain_at .later [] Rows.fnExactTheoryHoldsCard.laidKinds true Rows.fnExactTheoryHoldsCard.stood.harness false
    fnExactTheoryHolds_bare (fun _ h => by cases h) (by kernel_rfl) (fun _ h => by cases h) fnExactTheoryHolds_row_tie rfl ⟨rfl, rfl⟩ (by kernel_rfl) rfl
    (fun f fn hf hfn => by
      obtain rfl : f = 4 := Option.some.inj ((show Tryz.prog.funcNamed Tryz.f4.name = some 4 by kernel_rfl).symm.trans hf) |>.symm
      obtain rfl : fn = Tryz.f4 := (Option.some.inj (Tryz.func4.symm.trans hfn)).symm
      exact ⟨by kernel_rfl, fun j t ht => by
        rw [Tryz.params4] at ht
        have hm : t ∈ [2, 31] := by simpa using Array.mem_of_getElem? ht
        have hall : ([2, 31].all fun u => !Tryz.prog.wantsStandIn u) = true := by kernel_rfl
        exact (show Tryz.prog.wantsStandIn t = false by simpa using List.all_eq_true.1 hall t hm)⟩)
    (by kernel_rfl)
end Go.Proofs.YtcbfefbocpikoaaGreatDoor
