/- The statement about FnExactTheoryEqual is proved: the law returns true at every input and leaves the input as it was; nothing is assumed. -/
import Derived.Test.YtcbfefbocpikoaaGreatDoorTef
import Derived.Test.YtcbfefbocpikoaaGreatDoorTie
import Derived.Test.YtcbfefbocpikoaaGreatDoorCards
import Derived.SevenTiedAt
set_option linter.unusedSimpArgs false
set_option linter.unusedVariables false
set_option linter.unusedSectionVars false
set_option linter.unnecessarySimpa false
namespace Go.Proofs.YtcbfefbocpikoaaGreatDoor
open Go Abx Go.ChangeShapes Go.WideShapes Go.ChangeAt Go.RowKit
theorem fnExactTheoryEqual_bare : Rows.FnExactTheoryEqualSaid :=
  OpenClaim.holds_of_wide 3 Tryz.f3 rfl rfl rfl rfl rfl rfl rfl ⟨rfl, rfl, rfl, rfl, rfl⟩ rfl rfl rfl rfl rfl (by kernel_rfl) Tryz.func3 closed3
    (of_decide_eq_true (by kernel_rfl)) (by unfold Func.isWrapper; first | (rw [if_pos (by decide +kernel)]; kernel_rfl) | (rw [if_neg (by decide +kernel)]; exact ⟨rfl, rfl⟩))
    (fun os started H enc _ => fnExactTheoryEqual_lifted os started H enc)
theorem fnExactTheoryEqual_proved : Rows.FnExactTheoryEqualCardSaid :=
  Claim7.holds_tied_plain_at .later [] Rows.fnExactTheoryEqualCard.laidKinds true Rows.fnExactTheoryEqualCard.stood.harness false
    fnExactTheoryEqual_bare (fun _ h => by cases h) (by kernel_rfl) (fun _ h => by cases h) fnExactTheoryEqual_row_tie rfl ⟨rfl, rfl⟩ (by kernel_rfl) rfl
    (fun f fn hf hfn => by
      obtain rfl : f = 3 := Option.some.inj ((show Tryz.prog.funcNamed Tryz.f3.name = some 3 by kernel_rfl).symm.trans hf) |>.symm
      obtain rfl : fn = Tryz.f3 := (Option.some.inj (Tryz.func3.symm.trans hfn)).symm
      exact ⟨by kernel_rfl, fun j t ht => by
        rw [Tryz.params3] at ht
        have hm : t ∈ [2, 22, 22] := by simpa using Array.mem_of_getElem? ht
        have hall : ([2, 22, 22].all fun u => !Tryz.prog.wantsStandIn u) = true := by kernel_rfl
        exact (show Tryz.prog.wantsStandIn t = false by simpa using List.all_eq_true.1 hall t hm)⟩)
    (by kernel_rfl)
end Go.Proofs.YtcbfefbocpikoaaGreatDoor
