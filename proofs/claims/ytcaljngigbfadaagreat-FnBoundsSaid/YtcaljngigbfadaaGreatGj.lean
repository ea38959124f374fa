/- The law FnBounds of the program and the equation that it computes; nothing is assumed. -/
import Derived.Test.YtcaljngigbfadaaGreatGi
set_option linter.unusedSimpArgs false
set_option linter.unusedVariables false
set_option linter.unusedSectionVars false
namespace Go.Proofs.YtcaljngigbfadaaGreat
open Go Abx
attribute [local irreducible] vcm vgo vdr vrun vdrun MWp GhostQ BrC BrO BrG BrD BrH AmbO callR callD drQ EnvLe StoLe
set_option maxHeartbeats 4000000
set_option maxRecDepth 4000
def mc26 : MCode :=
 (.seq (.reg [⟨some 2, .mv (.const (.bool false)), none⟩]) (.seq (.reg [⟨some 3, .mv (.tmp 0), none⟩, ⟨some 4, .len (.tmp 3), none⟩, ⟨some 5, .bin .gtr (.tmp 4) (.const (.int .i64 4096)), none⟩, ⟨some 2, .mv (.tmp 5), none⟩]) .ret))
theorem fn26 : MFn Tryz.prog 26 mc26 6 [.tmp 2] :=
  ⟨Tryz.f26, Tryz.func26, by kernel_rfl, Tryz.ntmps26, by kernel_rfl⟩
noncomputable def F_laws_big (code : (List Int)) : Option Bool :=
  some (decide (4096 < (code.length : Int)))
theorem c_laws_big {code : (List Int)} {rr : Bool} (h : F_laws_big code = some rr) : PFun Tryz.prog 26 [(slD 1 (kD .u8)) code] (bD rr) := by
  delta F_laws_big at h
  refine fn26.pureL (vcm_sound ?_)
  delta mc26
  refine stp ?_
  cases h
  exact don

def mc5 : MCode :=
 (.seq (.reg [⟨some 2, .mv (.const (.bool false)), none⟩]) (.seq (.seq (.reg [⟨some 18, .mv (.tmp 0), none⟩, ⟨some 19, .callf 26 [(.tmp 18)], none⟩]) (.cond (.tmp 19) (.seq (.reg [⟨some 2, .mv (.const (.bool true)), none⟩]) .ret) .skip)) (.seq (.reg [⟨some 21, .mv (.tmp 0), none⟩, ⟨some 22, .callf 37 [(.tmp 21)], none⟩, ⟨some 20, .mv (.tmp 22), none⟩, ⟨some 23, .ext (.tmp 20) 0, none⟩, ⟨some 24, .ext (.tmp 20) 1, none⟩, ⟨some 25, .ext (.tmp 20) 2, none⟩, ⟨some 3, .alloc 3 46 [.sl 0 (some true) [], .sl 0 (some true) []], none⟩, ⟨some 5, .alloc 5 40 [.sl 0 (some true) [], .sl 0 (some true) []], none⟩, ⟨none, .store 2 (.tmp 3) (.tmp 23), none⟩, ⟨some 4, .mv (.tmp 24), none⟩, ⟨none, .store 2 (.tmp 5) (.tmp 25), none⟩]) (.seq (.reg [⟨some 27, .load 2 true (.tmp 3), none⟩, ⟨some 28, .mv (.tmp 4), none⟩, ⟨some 29, .fad 0 (.tmp 5), none⟩, ⟨some 30, .load 1 false (.tmp 29), none⟩, ⟨some 31, .callf 38 [(.tmp 27), (.tmp 28), (.tmp 30)], none⟩, ⟨some 26, .mv (.tmp 31), none⟩, ⟨some 32, .ext (.tmp 26) 0, none⟩, ⟨some 33, .ext (.tmp 26) 1, none⟩, ⟨some 6, .mv (.tmp 32), none⟩, ⟨some 7, .mv (.tmp 33), none⟩]) (.seq (.reg [⟨some 35, .load 2 true (.tmp 3), none⟩, ⟨some 36, .mv (.tmp 4), none⟩, ⟨some 37, .fad 0 (.tmp 5), none⟩, ⟨some 38, .load 1 false (.tmp 37), none⟩, ⟨some 39, .callf 39 [(.tmp 35), (.tmp 36), (.tmp 38)], none⟩, ⟨some 34, .mv (.tmp 39), none⟩, ⟨some 40, .ext (.tmp 34) 0, none⟩, ⟨some 41, .ext (.tmp 34) 1, none⟩, ⟨some 8, .mv (.tmp 40), none⟩, ⟨some 9, .mv (.tmp 41), none⟩]) (.seq (.reg [⟨some 43, .load 2 true (.tmp 3), none⟩, ⟨some 44, .mv (.tmp 4), none⟩, ⟨some 45, .callf 40 [(.tmp 43), (.tmp 44)], none⟩, ⟨some 42, .mv (.tmp 45), none⟩, ⟨some 46, .ext (.tmp 42) 0, none⟩, ⟨some 47, .ext (.tmp 42) 1, none⟩, ⟨some 10, .mv (.tmp 46), none⟩, ⟨some 11, .mv (.tmp 47), none⟩]) (.seq (.reg [⟨some 49, .load 2 true (.tmp 3), none⟩, ⟨some 50, .mv (.tmp 4), none⟩, ⟨some 51, .callf 41 [(.tmp 49), (.tmp 50)], none⟩, ⟨some 48, .mv (.tmp 51), none⟩, ⟨some 52, .ext (.tmp 48) 0, none⟩, ⟨some 53, .ext (.tmp 48) 1, none⟩, ⟨some 12, .mv (.tmp 52), none⟩, ⟨some 13, .mv (.tmp 53), none⟩]) (.seq (.seq (.draw [⟨some 54, .mv (.tmp 6), none⟩, ⟨some 55, .mv (.tmp 8), none⟩, ⟨some 56, .bin .neq (.tmp 54) (.tmp 55), none⟩, ⟨some 57, .mv (.tmp 56), none⟩, ⟨some 58, .mv (.tmp 7), (some (some 57, false))⟩, ⟨some 59, .mv (.tmp 9), (some (some 57, false))⟩, ⟨some 60, .binb true (.tmp 58) (.tmp 59), (some (some 57, false))⟩, ⟨some 61, .pick (.tmp 57) (.const (.bool true)) (.tmp 60), none⟩, ⟨some 62, .mv (.tmp 61), none⟩, ⟨some 63, .mv (.tmp 10), (some (some 62, false))⟩, ⟨some 64, .mv (.tmp 12), (some (some 62, false))⟩, ⟨some 65, .bin .neq (.tmp 63) (.tmp 64), (some (some 62, false))⟩, ⟨some 66, .pick (.tmp 62) (.const (.bool true)) (.tmp 65), none⟩, ⟨some 67, .mv (.tmp 66), none⟩, ⟨some 68, .mv (.tmp 11), (some (some 67, false))⟩, ⟨some 69, .mv (.tmp 13), (some (some 67, false))⟩, ⟨some 70, .binb true (.tmp 68) (.tmp 69), (some (some 67, false))⟩, ⟨some 71, .pick (.tmp 67) (.const (.bool true)) (.tmp 70), none⟩, ⟨some 72, .mv (.tmp 71), none⟩, ⟨some 73, .load 2 true (.tmp 3), (some (some 72, false))⟩, ⟨some 74, .mv (.tmp 4), (some (some 72, false))⟩, ⟨some 75, .load 2 true (.tmp 5), (some (some 72, false))⟩, ⟨some 76, .callf 42 [(.tmp 73), (.tmp 74), (.tmp 75)], (some (some 72, false))⟩, ⟨some 77, .load 2 true (.tmp 3), (some (some 72, false))⟩, ⟨some 78, .mv (.tmp 4), (some (some 72, false))⟩, ⟨some 79, .load 2 true (.tmp 5), (some (some 72, false))⟩, ⟨some 80, .callf 43 [(.tmp 77), (.tmp 78), (.tmp 79)], (some (some 72, false))⟩, ⟨some 81, .binb true (.tmp 76) (.tmp 80), (some (some 72, false))⟩, ⟨some 82, .pick (.tmp 72) (.const (.bool true)) (.tmp 81), none⟩] [[], [], [0, 1], [2], [3], [3], [4, 5, 3], [3, 6], [7, 3], [8], [8], [9, 10, 8], [8, 11], [12, 8], [13], [13], [14, 15, 13], [13, 16], [17, 13], [18], [18], [18], [19, 20, 21, 18, 18], [18], [18], [18], [23, 24, 25, 22, 18], [22, 26, 18], [18, 27]]) (.cond (.tmp 82)
 (.seq (.reg [⟨some 2, .mv (.const (.bool false)), none⟩]) .ret) .skip)) (.seq (.seq (.reg [⟨some 83, .mv (.tmp 9), none⟩, ⟨some 84, .un .not (.tmp 83), none⟩, ⟨some 85, .mv (.tmp 84), none⟩, ⟨some 86, .load 2 true (.tmp 3), (some (some 85, false))⟩, ⟨some 87, .load 2 true (.tmp 5), (some (some 85, false))⟩, ⟨some 88, .callf 44 [(.tmp 86), (.tmp 87)], (some (some 85, false))⟩, ⟨some 89, .un .not (.tmp 88), (some (some 85, false))⟩, ⟨some 90, .pick (.tmp 85) (.const (.bool true)) (.tmp 89), none⟩]) (.cond (.tmp 90) (.seq (.reg [⟨some 2, .mv (.const (.bool true)), none⟩]) .ret) .skip)) (.seq (.seq (.reg [⟨some 91, .load 2 true (.tmp 3), none⟩, ⟨some 92, .mv (.tmp 4), none⟩, ⟨some 93, .load 2 true (.tmp 5), none⟩, ⟨some 94, .callf 42 [(.tmp 91), (.tmp 92), (.tmp 93)], none⟩, ⟨some 95, .un .not (.tmp 94), none⟩, ⟨some 96, .mv (.tmp 95), none⟩, ⟨some 97, .mv (.tmp 11), (some (some 96, false))⟩, ⟨some 98, .mv (.tmp 97), (some (some 96, false))⟩, ⟨some 99, .mv (.tmp 6), (some (some 98, true))⟩, ⟨some 100, .mv (.tmp 10), (some (some 98, true))⟩, ⟨some 101, .fad 0 (.tmp 5), (some (some 98, true))⟩, ⟨some 102, .load 1 false (.tmp 101), (some (some 98, true))⟩, ⟨some 103, .len (.tmp 102), (some (some 98, true))⟩, ⟨some 104, .bin .mul (.tmp 100) (.tmp 103), (some (some 98, true))⟩, ⟨some 105, .bin .gtr (.tmp 99) (.tmp 104), (some (some 98, true))⟩, ⟨some 106, .pick (.tmp 98) (.tmp 105) (.const (.bool false)), (some (some 96, false))⟩, ⟨some 107, .pick (.tmp 96) (.const (.bool true)) (.tmp 106), none⟩]) (.cond (.tmp 107) (.seq (.reg [⟨some 2, .mv (.const (.bool false)), none⟩]) .ret) .skip)) (.seq (.reg [⟨some 108, .mv (.tmp 6), none⟩, ⟨some 14, .mv (.tmp 108), none⟩]) (.seq (.seq (.reg [⟨some 15, .mv (.const (.int .i64 0)), none⟩]) (.block 0 (.loop (.seq (.seq (.reg [⟨some 109, .mv (.tmp 15), none⟩, ⟨some 110, .fad 1 (.tmp 5), none⟩, ⟨some 111, .load 1 false (.tmp 110), none⟩, ⟨some 112, .len (.tmp 111), none⟩, ⟨some 113, .bin .lss (.tmp 109) (.tmp 112), none⟩]) (.cond (.tmp 113) .skip (.exit 0))) (.seq (.block 1 (.seq (.draw [⟨some 117, .load 2 true (.tmp 3), none⟩, ⟨some 118, .mv (.tmp 4), none⟩, ⟨some 119, .fad 1 (.tmp 5), none⟩, ⟨some 120, .load 1 false (.tmp 119), none⟩, ⟨some 121, .mv (.tmp 15), none⟩, ⟨some 122, .ixa 3 (.tmp 120) (.tmp 121), none⟩, ⟨some 123, .fad 2 (.tmp 122), none⟩, ⟨some 124, .load 1 false (.tmp 123), none⟩, ⟨some 125, .callf 38 [(.tmp 117), (.tmp 118), (.tmp 124)], none⟩, ⟨some 116, .mv (.tmp 125), none⟩, ⟨some 126, .ext (.tmp 116) 0, none⟩, ⟨some 127, .ext (.tmp 116) 1, none⟩, ⟨some 16, .mv (.tmp 126), none⟩, ⟨some 17, .mv (.tmp 127), none⟩] [[], [], [], [2], [], [3, 4], [5], [6], [0, 1, 7], [8], [9], [9], [10, 8, 0, 1, 2, 3, 4, 5, 6, 7, 8, 9, 10], [11, 12, 0, 1, 2, 3, 4, 5, 6, 7, 8, 9, 10, 11, 12]]) (.seq (.seq (.reg [⟨some 128, .mv (.tmp 17), none⟩, ⟨some 129, .un .not (.tmp 128), none⟩, ⟨some 130, .mv (.tmp 129), none⟩, ⟨some 131, .mv (.tmp 16), (some (some 130, false))⟩, ⟨some 132, .mv (.tmp 14), (some (some 130, false))⟩, ⟨some 133, .bin .geq (.tmp 131) (.tmp 132), (some (some 130, false))⟩, ⟨some 134, .pick (.tmp 130) (.const (.bool true)) (.tmp 133), none⟩]) (.cond (.tmp 134) (.seq (.reg [⟨some 2, .mv (.const (.bool false)), none⟩]) .ret) .skip)) (.reg [⟨some 135, .mv (.tmp 16), none⟩, ⟨some 14, .mv (.tmp 135), none⟩])))) (.reg [⟨some 114, .mv (.tmp 15), none⟩, ⟨some 115, .bin .add (.tmp 114) (.const (.int .i64 1)), none⟩, ⟨some 15, .mv (.tmp 115), none⟩])))))) (.seq (.reg [⟨some 2, .mv (.const (.bool true)), none⟩]) .ret)))))))))))))
theorem fn5 : MFn Tryz.prog 5 mc5 136 [.tmp 2] :=
  ⟨Tryz.f5, Tryz.func5, by kernel_rfl, Tryz.ntmps5, by kernel_rfl⟩
noncomputable def F_laws_FnBounds_l1 (r_1 : (((List Int) × (List ((List Int) × (List Int)))) × (List (Int × (List Int))) × ((List Int) × (List (Int × Int × (List Int)))))) : (Int × Int) → Option ((Int × Int) ⊕ Bool)
  | (last, i) =>
    if (decide (i < (r_1.2.2.2.length : Int))) = true then
      if 0 ≤ i ∧ i < (r_1.2.2.2.length : Int) then
        (F_impl_BoundBy r_1.1 r_1.2.1 ((r_1.2.2.2.getD i.toNat default).2.2)).bind fun r_10 =>
        if r_10.2 = true then
          if (decide (last ≤ r_10.1)) = true then
            Option.map Sum.inr (
              some false)
          else
            some (.inl (r_10.1, (IntKind.i64.wrap (i + 1))))
        else
          Option.map Sum.inr (
            some false)
      else none
    else
      Option.map Sum.inr (
        some true)
noncomputable def F_laws_FnBounds_l2 (r_1 : (((List Int) × (List ((List Int) × (List Int)))) × (List (Int × (List Int))) × ((List Int) × (List (Int × Int × (List Int)))))) : (Int × Int) → Option ((Int × Int) ⊕ Bool)
  | (last_1, i_1) =>
    if (decide (i_1 < (r_1.2.2.2.length : Int))) = true then
      if 0 ≤ i_1 ∧ i_1 < (r_1.2.2.2.length : Int) then
        (F_impl_BoundBy r_1.1 r_1.2.1 ((r_1.2.2.2.getD i_1.toNat default).2.2)).bind fun r_11 =>
        if r_11.2 = true then
          if (decide (last_1 ≤ r_11.1)) = true then
            Option.map Sum.inr (
              some false)
          else
            some (.inl (r_11.1, (IntKind.i64.wrap (i_1 + 1))))
        else
          Option.map Sum.inr (
            some false)
      else none
    else
      Option.map Sum.inr (
        some true)
noncomputable def F_laws_FnBounds (code : (List Int)) : Option Bool :=
  (F_laws_big code).bind fun r =>
  if r = true then
    some true
  else
    (F_spec_DrawBoundedWalk code).bind fun r_1 =>
    (F_impl_BoundBy r_1.1 r_1.2.1 r_1.2.2.1).bind fun r_2 =>
    (F_spec_BoundBy r_1.1 r_1.2.1 r_1.2.2.1).bind fun r_3 =>
    (F_impl_SlopeOf r_1.1 r_1.2.1).bind fun r_4 =>
    (F_spec_SlopeOf r_1.1 r_1.2.1).bind fun r_5 =>
    if (r_2.1 != r_3.1) = true then
      some false
    else
      if (r_2.2 != r_3.2) = true then
        some false
      else
        if (r_4.1 != r_5.1) = true then
          some false
        else
          if (r_4.2 != r_5.2) = true then
            some false
          else
            (F_impl_BoundedWalk r_1.1 r_1.2.1 r_1.2.2).bind fun r_6 =>
            (F_spec_BoundedWalk r_1.1 r_1.2.1 r_1.2.2).bind fun r_7 =>
            if (r_6 != r_7) = true then
              some false
            else
              if r_3.2 = true then
                (F_spec_WalkOk r_1.1 r_1.2.2).bind fun r_8 =>
                if r_8 = true then
                  (F_impl_BoundedWalk r_1.1 r_1.2.1 r_1.2.2).bind fun r_9 =>
                  if r_9 = true then
                    if r_4.2 = true then
                      if (decide ((IntKind.i64.wrap (r_4.1 * (r_1.2.2.1.length : Int))) < r_2.1)) = true then
                        some false
                      else
                        loopC (F_laws_FnBounds_l1 r_1) (r_2.1, 0)
                    else
                      loopC (F_laws_FnBounds_l2 r_1) (r_2.1, 0)
                  else
                    some false
                else
                  some true
              else
                some true
theorem c_laws_FnBounds {code : (List Int)} {rr : Bool} (h : F_laws_FnBounds code = some rr) : PFun Tryz.prog 5 [(slD 1 (kD .u8)) code] (bD rr) := by
  delta F_laws_FnBounds at h
  refine fn5.pureL (vcm_sound ?_)
  delta mc5
  refine stp ?_
  obtain ⟨r, hr, h⟩ := bind_some h
  refine cR (c_laws_big hr) (stp ?_)
  rcases ite_some h with ⟨hc, h⟩ | ⟨hc, h⟩
  · refine stpc hc ?_
    cases h
    exact don
  · refine stpc hc ?_
    obtain ⟨r_1, hr_1, h⟩ := bind_some h
    refine cRN (c_spec_DrawBoundedWalk hr_1) (stp ?_)
    obtain ⟨r_2, hr_2, h⟩ := bind_some h
    refine cRN (c_impl_BoundBy hr_2) (stp ?_)
    obtain ⟨r_3, hr_3, h⟩ := bind_some h
    refine cRN (c_spec_BoundBy hr_3) (stp ?_)
    obtain ⟨r_4, hr_4, h⟩ := bind_some h
    refine cRN (c_impl_SlopeOf hr_4) (stp ?_)
    obtain ⟨r_5, hr_5, h⟩ := bind_some h
    refine cRN (c_spec_SlopeOf hr_5) (stp ?_)
    rcases ite_some h with ⟨hc, h⟩ | ⟨hc, h⟩
    · refine stpc hc ?_
      refine drQ_of (by kernel_rfl) ?_
      refine stp ?_
      cases h
      exact don
    · refine stpc hc ?_
      rcases ite_some h with ⟨hc, h⟩ | ⟨hc, h⟩
      · refine stpc hc ?_
        refine drQ_of (by kernel_rfl) ?_
        refine stp ?_
        cases h
        exact don
      · refine stpc hc ?_
        rcases ite_some h with ⟨hc, h⟩ | ⟨hc, h⟩
        · refine stpc hc ?_
          refine drQ_of (by kernel_rfl) ?_
          refine stp ?_
          cases h
          exact don
        · refine stpc hc ?_
          rcases ite_some h with ⟨hc, h⟩ | ⟨hc, h⟩
          · refine stpc hc ?_
            refine drQ_of (by kernel_rfl) ?_
            refine stp ?_
            cases h
            exact don
          · refine stpc hc ?_
            obtain ⟨r_6, hr_6, h⟩ := bind_some h
            refine cD' (c_impl_BoundedWalk hr_6) (stp ?_)
            obtain ⟨r_7, hr_7, h⟩ := bind_some h
            refine cD' (c_spec_BoundedWalk hr_7) (stp ?_)
            refine drQ_of (by kernel_rfl) ?_
            refine stp ?_
            rcases ite_some h with ⟨hc, h⟩ | ⟨hc, h⟩
            · refine stpc hc ?_
              cases h
              exact don
            · refine stpc hc ?_
              rcases ite_some h with ⟨hc, h⟩ | ⟨hc, h⟩
              · refine stpc hc ?_
                obtain ⟨r_8, hr_8, h⟩ := bind_some h
                refine cR (c_spec_WalkOk hr_8) (stp ?_)
                rcases ite_some h with ⟨hc, h⟩ | ⟨hc, h⟩
                · refine stpc hc ?_
                  obtain ⟨r_9, hr_9, h⟩ := bind_some h
                  refine cR (c_impl_BoundedWalk hr_9) (stp ?_)
                  rcases ite_some h with ⟨hc, h⟩ | ⟨hc, h⟩
                  · refine stpc hc ?_
                    rcases ite_some h with ⟨hc, h⟩ | ⟨hc, h⟩
                    · refine stpc hc ?_
                      rcases ite_some h with ⟨hc, h⟩ | ⟨hc, h⟩
                      · refine stpc hc ?_
                        cases h
                        exact don
                      · refine stpc hc ?_
                        refine m_loopF h [2, 14, 15, 16, 17, 109, 110, 111, 112, 113, 114, 115, 116, 117, 118, 119, 120, 121, 122, 123, 124, 125, 126, 127, 128, 129, 130, 131, 132, 133, 134, 135] (fun pp => [(14, .d (iD pp.1)), (15, .d (iD pp.2))]) (fun pp => [(3, .obj 46 [.d (slD 1 iD r_1.1.1), .d (slD 2 D_impl_Rule r_1.1.2)]), (5, .obj 40 [.d (slD 1 iD r_1.2.2.1), .d (slD 3 D_impl_Step r_1.2.2.2)])]) ?_ ?_
                        · try dsimp only
                          exact wk
                        · rintro ⟨last, i⟩ t1 h hb1
                          unfold F_laws_FnBounds_l1 at h
                          try dsimp only at h
                          refine vcm_sound (stp ?_)
                          rcases ite_some h with ⟨hc, h⟩ | ⟨hc, h⟩
                          · refine stpc hc ?_
                            obtain ⟨hp, h⟩ := need_some h
                            repeat (refine need_i (by omega) ?_; refine stp ?_)
                            obtain ⟨r_10, hr_10, h⟩ := bind_some h
                            refine cDN (c_impl_BoundBy hr_10) (stp ?_)
                            refine drQ_of (by kernel_rfl) ?_
                            refine stp ?_
                            rcases ite_some h with ⟨hc, h⟩ | ⟨hc, h⟩
                            · refine stpc hc ?_
                              rcases ite_some h with ⟨hc, h⟩ | ⟨hc, h⟩
                              · refine stpc hc ?_
                                replace h := inr_some h hb1
                                cases h
                                exact don
                              · refine stpc hc ?_
                                cases h
                                refine ⟨_, rfl, ?_⟩
                                exact wk
                            · refine stpc hc ?_
                              replace h := inr_some h hb1
                              cases h
                              exact don
                          · refine stpc hc ?_
                            replace h := inr_some h hb1
                            cases h
                            exact don
                    · refine stpc hc ?_
                      refine m_loopF h [2, 14, 15, 16, 17, 109, 110, 111, 112, 113, 114, 115, 116, 117, 118, 119, 120, 121, 122, 123, 124, 125, 126, 127, 128, 129, 130, 131, 132, 133, 134, 135] (fun pp => [(14, .d (iD pp.1)), (15, .d (iD pp.2))]) (fun pp => [(3, .obj 46 [.d (slD 1 iD r_1.1.1), .d (slD 2 D_impl_Rule r_1.1.2)]), (5, .obj 40 [.d (slD 1 iD r_1.2.2.1), .d (slD 3 D_impl_Step r_1.2.2.2)])]) ?_ ?_
                      · try dsimp only
                        exact wk
                      · rintro ⟨last_1, i_1⟩ t1 h hb1
                        unfold F_laws_FnBounds_l2 at h
                        try dsimp only at h
                        refine vcm_sound (stp ?_)
                        rcases ite_some h with ⟨hc, h⟩ | ⟨hc, h⟩
                        · refine stpc hc ?_
                          obtain ⟨hp, h⟩ := need_some h
                          repeat (refine need_i (by omega) ?_; refine stp ?_)
                          obtain ⟨r_11, hr_11, h⟩ := bind_some h
                          refine cDN (c_impl_BoundBy hr_11) (stp ?_)
                          refine drQ_of (by kernel_rfl) ?_
                          refine stp ?_
                          rcases ite_some h with ⟨hc, h⟩ | ⟨hc, h⟩
                          · refine stpc hc ?_
                            rcases ite_some h with ⟨hc, h⟩ | ⟨hc, h⟩
                            · refine stpc hc ?_
                              replace h := inr_some h hb1
                              cases h
                              exact don
                            · refine stpc hc ?_
                              cases h
                              refine ⟨_, rfl, ?_⟩
                              exact wk
                          · refine stpc hc ?_
                            replace h := inr_some h hb1
                            cases h
                            exact don
                        · refine stpc hc ?_
                          replace h := inr_some h hb1
                          cases h
                          exact don
                  · refine stpc hc ?_
                    cases h
                    exact don
                · refine stpc hc ?_
                  cases h
                  exact don
              · refine stpc hc ?_
                cases h
                exact don

end Go.Proofs.YtcaljngigbfadaaGreat
