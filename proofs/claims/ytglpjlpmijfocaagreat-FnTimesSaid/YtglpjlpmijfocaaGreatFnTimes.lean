/- The statement about FnTimes is proved: the law returns true at every input and leaves the input as it was; nothing is assumed. -/
import Derived.Test.YtglpjlpmijfocaaGreatCg
set_option linter.all false
namespace Go.Proofs.YtglpjlpmijfocaaGreat
open Go Abx Go.ChangeShapes Go.WideShapes Go.ChangeAt Go.RowKit
theorem fnTimes_proved : Rows.FnTimesSaid :=
 OpenClaim.holds_of_wide 5 Tryz.f5 rfl rfl rfl rfl rfl rfl rfl ⟨rfl, rfl, rfl, rfl, rfl⟩ rfl rfl rfl rfl rfl (by kernel_rfl) Tryz.func5 closed5
  (of_decide_eq_true (by kernel_rfl)) (by unfold Func.isWrapper; first | (rw [if_pos (by decide +kernel)]; kernel_rfl) | (rw [if_neg (by decide +kernel)]; exact ⟨rfl, rfl⟩))
  (fun os started H enc _ => fnTimes_lifted os started H enc)
end Go.Proofs.YtglpjlpmijfocaaGreat
