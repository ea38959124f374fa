/- The law FnChains of the program and the equation that it computes; nothing is assumed. -/
import Derived.Test.YtcaljngigbfadaaGreatKh
set_option linter.unusedSimpArgs false
set_option linter.unusedVariables false
set_option linter.unusedSectionVars false
namespace Go.Proofs.YtcaljngigbfadaaGreat
open Go Abx
attribute [local irreducible] vcm vgo vdr vrun vdrun MWp GhostQ BrC BrO BrG BrD BrH AmbO callR callD drQ EnvLe StoLe
set_option maxHeartbeats 4000000
set_option maxRecDepth 4000
def mc26 : MCode :=
 (.seq (.reg [⟨some 2, .mv (.const (.bool false)), none⟩]) (.seq (.reg [⟨some 3, .mv (.tmp 0), none⟩, ⟨some 4, .len (.tmp 3), none⟩, ⟨some 5, .bin .gtr (.tmp 4) (.const (.int .i64 4096)), none⟩, ⟨some 2, .mv (.tmp 5), none⟩]) .ret))
theorem fn26 : MFn Tryz.prog 26 mc26 6 [.tmp 2] :=
  ⟨Tryz.f26, Tryz.func26, by kernel_rfl, Tryz.ntmps26, by kernel_rfl⟩
noncomputable def F_laws_big (code : (List Int)) : Option Bool :=
 some (decide (4096 < (code.length : Int)))
theorem c_laws_big {code : (List Int)} {rr : Bool} (h : F_laws_big code = some rr) : PFun Tryz.prog 26 [(slD 1 (kD .u8)) code] (bD rr) := by
  delta F_laws_big at h
  refine fn26.pureL (vcm_sound ?_)
  delta mc26
  refine stp ?_
  cases h
  exact don
def mc4 : MCode :=
 (.seq (.reg [⟨some 2, .mv (.const (.bool false)), none⟩]) (.seq (.seq (.reg [⟨some 15, .mv (.tmp 0), none⟩, ⟨some 16, .callf 26 [(.tmp 15)], none⟩]) (.cond (.tmp 16) (.seq (.reg [⟨some 2, .mv (.const (.bool true)), none⟩]) .ret) .skip)) (.seq (.reg [⟨some 18, .mv (.tmp 0), none⟩, ⟨some 19, .callf 27 [(.tmp 18)], none⟩, ⟨some 17, .mv (.tmp 19), none⟩, ⟨some 20, .ext (.tmp 17) 0, none⟩, ⟨some 21, .ext (.tmp 17) 1, none⟩, ⟨some 22, .ext (.tmp 17) 2, none⟩, ⟨some 3, .alloc 3 46 [.sl 0 (some true) [], .sl 0 (some true) []], none⟩, ⟨some 4, .alloc 4 40 [.sl 0 (some true) [], .sl 0 (some true) []], none⟩, ⟨some 5, .alloc 5 40 [.sl 0 (some true) [], .sl 0 (some true) []], none⟩, ⟨none, .store 2 (.tmp 3) (.tmp 20), none⟩, ⟨none, .store 2 (.tmp 4) (.tmp 21), none⟩, ⟨none, .store 2 (.tmp 5) (.tmp 22), none⟩]) (.seq (.reg [⟨some 24, .load 2 true (.tmp 3), none⟩, ⟨some 25, .load 2 true (.tmp 4), none⟩, ⟨some 26, .load 2 true (.tmp 5), none⟩, ⟨some 27, .callf 28 [(.tmp 24), (.tmp 25), (.tmp 26)], none⟩, ⟨some 23, .mv (.tmp 27), none⟩, ⟨some 28, .ext (.tmp 23) 0, none⟩, ⟨some 29, .ext (.tmp 23) 1, none⟩, ⟨some 6, .alloc 6 65 [.sl 0 (some true) [], .sl 0 (some true) []], none⟩, ⟨none, .store 2 (.tmp 6) (.tmp 28), none⟩, ⟨some 7, .mv (.tmp 29), none⟩]) (.seq (.reg [⟨some 31, .load 2 true (.tmp 3), none⟩, ⟨some 32, .load 2 true (.tmp 4), none⟩, ⟨some 33, .load 2 true (.tmp 5), none⟩, ⟨some 34, .callf 29 [(.tmp 31), (.tmp 32), (.tmp 33)], none⟩, ⟨some 30, .mv (.tmp 34), none⟩, ⟨some 35, .ext (.tmp 30) 0, none⟩, ⟨some 36, .ext (.tmp 30) 1, none⟩, ⟨some 8, .alloc 8 65 [.sl 0 (some true) [], .sl 0 (some true) []], none⟩, ⟨none, .store 2 (.tmp 8) (.tmp 35), none⟩, ⟨some 9, .mv (.tmp 36), none⟩]) (.seq (.seq (.reg [⟨some 37, .mv (.tmp 7), none⟩, ⟨some 38, .mv (.tmp 9), none⟩, ⟨some 39, .binb true (.tmp 37) (.tmp 38), none⟩]) (.cond (.tmp 39) (.seq (.reg [⟨some 2, .mv (.const (.bool false)), none⟩]) .ret) .skip)) (.seq (.seq (.reg [⟨some 40, .mv (.tmp 9), none⟩, ⟨some 41, .un .not (.tmp 40), none⟩]) (.cond (.tmp 41) (.seq (.reg [⟨some 42, .fad 1 (.tmp 6), none⟩, ⟨some 43, .load 1 false (.tmp 42), none⟩, ⟨some 44, .len (.tmp 43), none⟩, ⟨some 45, .bin .eql (.tmp 44) (.const (.int .i64 0)), none⟩, ⟨some 46, .mv (.tmp 45), none⟩, ⟨some 47, .fad 0 (.tmp 6), (some (some 46, true))⟩, ⟨some 48, .load 1 false (.tmp 47), (some (some 46, true))⟩, ⟨some 49, .len (.tmp 48), (some (some 46, true))⟩, ⟨some 50, .bin .eql (.tmp 49) (.const (.int .i64 0)), (some (some 46, true))⟩, ⟨some 51, .pick (.tmp 46) (.tmp 50) (.const (.bool false)), none⟩, ⟨some 2, .mv (.tmp 51), none⟩]) .ret) .skip)) (.seq (.reg [⟨some 52, .load 2 true (.tmp 3), none⟩, ⟨some 53, .callf 30 [(.tmp 52)], none⟩, ⟨some 10, .mv (.tmp 53), none⟩]) (.seq (.reg [⟨some 55, .fad 0 (.tmp 3), none⟩, ⟨some 56, .load 1 true (.tmp 55), none⟩, ⟨some 57, .mv (.tmp 10), none⟩, ⟨some 58, .load 2 true (.tmp 6), none⟩, ⟨some 59, .callf 31 [(.tmp 56), (.tmp 57), (.tmp 58)], none⟩, ⟨some 54, .mv (.tmp 59), none⟩, ⟨some 60, .ext (.tmp 54) 0, none⟩, ⟨some 61, .ext (.tmp 54) 1, none⟩, ⟨some 11, .alloc 11 65 [.sl 0 (some true) [], .sl 0 (some true) []], none⟩, ⟨none, .store 2 (.tmp 11) (.tmp 60), none⟩, ⟨some 12, .mv (.tmp 61), none⟩]) (.seq (.seq (.reg [⟨some 62, .mv (.tmp 10), none⟩, ⟨some 63, .len (.tmp 62), none⟩, ⟨some 64, .bin .gtr (.tmp 63) (.const (.int .i64 12)), none⟩]) (.cond (.tmp 64) (.seq (.reg [⟨some 2, .mv (.const (.bool true)), none⟩]) .ret) .skip)) (.seq (.seq (.draw [⟨some 65, .fad 0 (.tmp 3), none⟩, ⟨some 66, .load 1 true (.tmp 65), none⟩, ⟨some 67, .mv (.tmp 10), none⟩, ⟨some 68, .load 2 true (.tmp 6), none⟩, ⟨some 69, .callf 32 [(.tmp 66), (.tmp 67), (.tmp 68)], none⟩, ⟨some 70, .un .not (.tmp 69), none⟩, ⟨some 71, .mv (.tmp 70), none⟩, ⟨some 72, .fad 0 (.tmp 6), (some (some 71, false))⟩, ⟨some 73, .load 1 false (.tmp 72), (some (some 71, false))⟩, ⟨some 74, .fad 0 (.tmp 4), (some (some 71, false))⟩, ⟨some 75, .load 1 false (.tmp 74), (some (some 71, false))⟩,
 ⟨some 76, .callf 33 [(.tmp 73), (.tmp 75)], (some (some 71, false))⟩, ⟨some 77, .un .not (.tmp 76), (some (some 71, false))⟩, ⟨some 78, .pick (.tmp 71) (.const (.bool true)) (.tmp 77), none⟩, ⟨some 79, .mv (.tmp 78), none⟩, ⟨some 80, .fad 0 (.tmp 3), (some (some 79, false))⟩, ⟨some 81, .load 1 true (.tmp 80), (some (some 79, false))⟩, ⟨some 82, .mv (.tmp 10), (some (some 79, false))⟩, ⟨some 83, .load 2 true (.tmp 6), (some (some 79, false))⟩, ⟨some 84, .callf 34 [(.tmp 81), (.tmp 82), (.tmp 83)], (some (some 79, false))⟩, ⟨some 85, .fad 0 (.tmp 5), (some (some 79, false))⟩, ⟨some 86, .load 1 false (.tmp 85), (some (some 79, false))⟩, ⟨some 87, .callf 33 [(.tmp 84), (.tmp 86)], (some (some 79, false))⟩, ⟨some 88, .un .not (.tmp 87), (some (some 79, false))⟩, ⟨some 89, .pick (.tmp 79) (.const (.bool true)) (.tmp 88), none⟩, ⟨some 90, .mv (.tmp 89), none⟩, ⟨some 91, .mv (.tmp 12), (some (some 90, false))⟩, ⟨some 92, .un .not (.tmp 91), (some (some 90, false))⟩, ⟨some 93, .pick (.tmp 90) (.const (.bool true)) (.tmp 92), none⟩, ⟨some 94, .mv (.tmp 93), none⟩, ⟨some 95, .fad 0 (.tmp 3), (some (some 94, false))⟩, ⟨some 96, .load 1 true (.tmp 95), (some (some 94, false))⟩, ⟨some 97, .mv (.tmp 10), (some (some 94, false))⟩, ⟨some 98, .load 2 true (.tmp 11), (some (some 94, false))⟩, ⟨some 99, .callf 32 [(.tmp 96), (.tmp 97), (.tmp 98)], (some (some 94, false))⟩, ⟨some 100, .un .not (.tmp 99), (some (some 94, false))⟩, ⟨some 101, .pick (.tmp 94) (.const (.bool true)) (.tmp 100), none⟩] [[], [0], [], [], [1, 2, 3], [4], [5, 4], [6], [7, 6], [6], [9, 6], [8, 10, 6, 6], [11, 6], [6, 12], [13, 11], [14], [15, 14], [14], [14], [16, 17, 18, 14, 14], [14], [20, 14], [19, 21, 19, 14], [22, 14], [14, 23], [24, 22], [25], [26, 25], [25, 27], [28, 25], [29], [30, 29], [29], [29], [31, 32, 33, 29, 29], [34, 29], [29, 35]]) (.cond (.tmp 101) (.seq (.reg [⟨some 2, .mv (.const (.bool false)), none⟩]) .ret) .skip)) (.seq (.seq (.reg [⟨some 102, .fad 1 (.tmp 6), none⟩, ⟨some 103, .load 1 false (.tmp 102), none⟩, ⟨some 104, .len (.tmp 103), none⟩, ⟨some 105, .fad 1 (.tmp 11), none⟩, ⟨some 106, .load 1 false (.tmp 105), none⟩, ⟨some 107, .len (.tmp 106), none⟩, ⟨some 108, .bin .add (.tmp 104) (.tmp 107), none⟩, ⟨some 109, .bin .gtr (.tmp 108) (.const (.int .i64 60)), none⟩]) (.cond (.tmp 109) (.seq (.reg [⟨some 2, .mv (.const (.bool true)), none⟩]) .ret) .skip)) (.seq (.reg [⟨some 111, .fad 0 (.tmp 3), none⟩, ⟨some 112, .load 1 true (.tmp 111), none⟩, ⟨some 113, .mv (.tmp 10), none⟩, ⟨some 114, .load 2 true (.tmp 6), none⟩, ⟨some 115, .load 2 true (.tmp 11), none⟩, ⟨some 116, .callf 35 [(.tmp 112), (.tmp 113), (.tmp 114), (.tmp 115)], none⟩, ⟨some 110, .mv (.tmp 116), none⟩, ⟨some 117, .ext (.tmp 110) 0, none⟩, ⟨some 118, .ext (.tmp 110) 1, none⟩, ⟨some 13, .alloc 13 65 [.sl 0 (some true) [], .sl 0 (some true) []], none⟩, ⟨none, .store 2 (.tmp 13) (.tmp 117), none⟩, ⟨some 14, .mv (.tmp 118), none⟩]) (.seq (.draw [⟨some 119, .mv (.tmp 14), none⟩, ⟨some 120, .mv (.tmp 119), none⟩, ⟨some 121, .fad 0 (.tmp 3), (some (some 120, true))⟩, ⟨some 122, .load 1 true (.tmp 121), (some (some 120, true))⟩, ⟨some 123, .mv (.tmp 10), (some (some 120, true))⟩, ⟨some 124, .load 2 true (.tmp 13), (some (some 120, true))⟩, ⟨some 125, .callf 36 [(.tmp 122), (.tmp 123), (.tmp 124)], (some (some 120, true))⟩, ⟨some 126, .pick (.tmp 120) (.tmp 125) (.const (.bool false)), none⟩, ⟨some 127, .mv (.tmp 126), none⟩, ⟨some 128, .fad 0 (.tmp 3), (some (some 127, true))⟩, ⟨some 129, .load 1 true (.tmp 128), (some (some 127, true))⟩, ⟨some 130, .mv (.tmp 10), (some (some 127, true))⟩, ⟨some 131, .load 2 true (.tmp 13), (some (some 127, true))⟩, ⟨some 132, .callf 34 [(.tmp 129), (.tmp 130), (.tmp 131)], (some (some 127, true))⟩, ⟨some 133, .fad 0 (.tmp 6), (some (some 127, true))⟩, ⟨some 134, .load 1 false (.tmp 133), (some (some 127, true))⟩, ⟨some 135, .callf 33 [(.tmp 132), (.tmp 134)], (some (some 127, true))⟩, ⟨some 136, .pick (.tmp 127) (.tmp 135) (.const (.bool false)), none⟩,
 ⟨some 2, .mv (.tmp 136), none⟩] [[], [0], [1], [2, 1], [1], [1], [3, 4, 5, 1, 1], [1, 6], [7, 6], [8], [9, 8], [8], [8], [10, 11, 12, 8, 8], [8], [14, 8], [13, 15, 13, 8], [8, 16], [17, 16, 0, 1, 2, 3, 4, 5, 6, 7, 8, 9, 10, 11, 12, 13, 14, 15, 16, 17]]) .ret))))))))))))))
theorem fn4 : MFn Tryz.prog 4 mc4 137 [.tmp 2] :=
  ⟨Tryz.f4, Tryz.func4, by kernel_rfl, Tryz.ntmps4, by kernel_rfl⟩
noncomputable def F_laws_FnChains (code : (List Int)) : Option Bool :=
 (F_laws_big code).bind fun r =>
 if r = true then
  some true
 else
  (F_spec_DrawChainOfJoin code).bind fun r_1 =>
  (F_impl_ChainOfJoin r_1.1 r_1.2.1 r_1.2.2).bind fun r_2 =>
  (F_spec_ChainOfJoin r_1.1 r_1.2.1 r_1.2.2).bind fun r_3 =>
  if (r_2.2 != r_3.2) = true then
   some false
  else
   if r_3.2 = true then
    (F_spec_EqsOf r_1.1).bind fun r_4 =>
    (F_impl_TurnedChain r_1.1.1 r_4 r_2.1).bind fun r_5 =>
    if (decide (12 < (r_4.length : Int))) = true then
     some true
    else
     (F_spec_ChainOk r_1.1.1 r_4 r_2.1).bind fun r_6 =>
     if r_6 = true then
      (F_spec_SameTerm r_2.1.1 r_1.2.1.1).bind fun r_7 =>
      if r_7 = true then
       (F_impl_ChainEnd r_1.1.1 r_4 r_2.1).bind fun r_8 =>
       (F_spec_SameTerm r_8 r_1.2.2.1).bind fun r_9 =>
       if r_9 = true then
        if r_5.2 = true then
         (F_spec_ChainOk r_1.1.1 r_4 r_5.1).bind fun r_10 =>
         if r_10 = true then
          if (decide (60 < (IntKind.i64.wrap ((r_2.1.2.length : Int) + (r_5.1.2.length : Int))))) = true then
           some true
          else
           (F_impl_JoinedChain r_1.1.1 r_4 r_2.1 r_5.1).bind fun r_11 =>
           if r_11.2 = true then
            (F_impl_ChainOk r_1.1.1 r_4 r_11.1).bind fun r_12 =>
            if r_12 = true then
             (F_impl_ChainEnd r_1.1.1 r_4 r_11.1).bind fun r_13 =>
             (F_spec_SameTerm r_13 r_2.1.1).bind fun r_14 =>
             some r_14
            else
             some false
           else
            some false
         else
          some false
        else
         some false
       else
        some false
      else
       some false
     else
      some false
   else
    if ((r_2.1.2.length : Int) == 0) = true then
     some ((r_2.1.1.length : Int) == 0)
    else
     some false
theorem c_laws_FnChains {code : (List Int)} {rr : Bool} (h : F_laws_FnChains code = some rr) : PFun Tryz.prog 4 [(slD 1 (kD .u8)) code] (bD rr) := by
  delta F_laws_FnChains at h
  refine fn4.pureL (vcm_sound ?_)
  delta mc4
  refine stp ?_
  obtain ⟨r, hr, h⟩ := bind_some h
  refine cR (c_laws_big hr) (stp ?_)
  rcases ite_some h with ⟨hc, h⟩ | ⟨hc, h⟩
  · refine stpc hc ?_
    cases h
    exact don
  · refine stpc hc ?_
    obtain ⟨r_1, hr_1, h⟩ := bind_some h
    refine cRN (c_spec_DrawChainOfJoin hr_1) (stp ?_)
    obtain ⟨r_2, hr_2, h⟩ := bind_some h
    refine cRN (c_impl_ChainOfJoin hr_2) (stp ?_)
    obtain ⟨r_3, hr_3, h⟩ := bind_some h
    refine cRN (c_spec_ChainOfJoin hr_3) (stp ?_)
    rcases ite_some h with ⟨hc, h⟩ | ⟨hc, h⟩
    · refine stpc hc ?_
      cases h
      exact don
    · refine stpc hc ?_
      rcases ite_some h with ⟨hc, h⟩ | ⟨hc, h⟩
      · refine stpc hc ?_
        obtain ⟨r_4, hr_4, h⟩ := bind_some h
        refine cR (c_spec_EqsOf hr_4) (stp ?_)
        obtain ⟨r_5, hr_5, h⟩ := bind_some h
        refine cRN (c_impl_TurnedChain hr_5) (stp ?_)
        rcases ite_some h with ⟨hc, h⟩ | ⟨hc, h⟩
        · refine stpc hc ?_
          cases h
          exact don
        · refine stpc hc ?_
          obtain ⟨r_6, hr_6, h⟩ := bind_some h
          refine cD' (c_spec_ChainOk hr_6) (stp ?_)
          rcases ite_some h with ⟨hc, h⟩ | ⟨hc, h⟩
          · refine stpc hc ?_
            obtain ⟨r_7, hr_7, h⟩ := bind_some h
            refine cD' (c_spec_SameTerm hr_7) (stp ?_)
            rcases ite_some h with ⟨hc, h⟩ | ⟨hc, h⟩
            · refine stpc hc ?_
              obtain ⟨r_8, hr_8, h⟩ := bind_some h
              refine cD' (c_impl_ChainEnd hr_8) (stp ?_)
              obtain ⟨r_9, hr_9, h⟩ := bind_some h
              refine cD' (c_spec_SameTerm hr_9) (stp ?_)
              rcases ite_some h with ⟨hc, h⟩ | ⟨hc, h⟩
              · refine stpc hc ?_
                rcases ite_some h with ⟨hc, h⟩ | ⟨hc, h⟩
                · refine stpc hc ?_
                  obtain ⟨r_10, hr_10, h⟩ := bind_some h
                  refine cD' (c_spec_ChainOk hr_10) (stp ?_)
                  refine drQ_of (by kernel_rfl) ?_
                  refine stp ?_
                  rcases ite_some h with ⟨hc, h⟩ | ⟨hc, h⟩
                  · refine stpc hc ?_
                    rcases ite_some h with ⟨hc, h⟩ | ⟨hc, h⟩
                    · refine stpc hc ?_
                      cases h
                      exact don
                    · refine stpc hc ?_
                      obtain ⟨r_11, hr_11, h⟩ := bind_some h
                      refine cRN (c_impl_JoinedChain hr_11) (stp ?_)
                      rcases ite_some h with ⟨hc, h⟩ | ⟨hc, h⟩
                      · refine stpc hc ?_
                        obtain ⟨r_12, hr_12, h⟩ := bind_some h
                        refine cD' (c_impl_ChainOk hr_12) (stp ?_)
                        rcases ite_some h with ⟨hc, h⟩ | ⟨hc, h⟩
                        · refine stpc hc ?_
                          obtain ⟨r_13, hr_13, h⟩ := bind_some h
                          refine cD' (c_impl_ChainEnd hr_13) (stp ?_)
                          obtain ⟨r_14, hr_14, h⟩ := bind_some h
                          refine cD' (c_spec_SameTerm hr_14) (stp ?_)
                          refine drQ_of (by kernel_rfl) ?_
                          refine stp ?_
                          cases h
                          exact don
                        · refine stpc hc ?_
                          refine drQ_of (by kernel_rfl) ?_
                          refine stp ?_
                          cases h
                          exact don
                      · refine stpc hc ?_
                        refine drQ_of (by kernel_rfl) ?_
                        refine stp ?_
                        cases h
                        exact don
                  · refine stpc hc ?_
                    cases h
                    exact don
                · refine stpc hc ?_
                  refine drQ_of (by kernel_rfl) ?_
                  refine stp ?_
                  cases h
                  exact don
              · refine stpc hc ?_
                refine drQ_of (by kernel_rfl) ?_
                refine stp ?_
                cases h
                exact don
            · refine stpc hc ?_
              refine drQ_of (by kernel_rfl) ?_
              refine stp ?_
              cases h
              exact don
          · refine stpc hc ?_
            refine drQ_of (by kernel_rfl) ?_
            refine stp ?_
            cases h
            exact don
      · refine stpc hc ?_
        rcases ite_some h with ⟨hc, h⟩ | ⟨hc, h⟩
        · refine stpc hc ?_
          cases h
          exact don
        · refine stpc hc ?_
          cases h
          exact don
end Go.Proofs.YtcaljngigbfadaaGreat
