/- The law FnWordShown of the program and the equation that it computes; nothing is assumed. -/
import Derived.Test.YtcaljngigbfadaaGreatWj
set_option linter.unusedSimpArgs false
set_option linter.unusedVariables false
set_option linter.unusedSectionVars false
namespace Go.Proofs.YtcaljngigbfadaaGreat
open Go Abx
attribute [local irreducible] vcm vgo vdr vrun vdrun MWp GhostQ BrC BrO BrG BrD BrH AmbO callR callD drQ EnvLe StoLe
set_option maxHeartbeats 4000000
set_option maxRecDepth 4000
theorem beq_tf : (true == false) = false := rfl
theorem beq_ff : (false == false) = true := rfl
theorem beq_tt : (true == true) = true := rfl
theorem beq_ft : (false == true) = false := rfl
attribute [go_sem] beq_tf beq_ff beq_tt beq_ft
def mc58 : MCode :=
 (.seq (.reg [⟨some 3, .box 3 43 (.tmp 0), none⟩, ⟨some 5, .box 5 65 (.tmp 2), none⟩, ⟨some 6, .mv (.const (.slice none 0 0)), none⟩]) (.seq (.seq (.reg [⟨some 7, .load 1 true (.tmp 3), none⟩, ⟨some 8, .mv (.tmp 1), none⟩, ⟨some 9, .load 2 true (.tmp 5), none⟩, ⟨some 10, .callf 32 [.tmp 7, .tmp 8, .tmp 9], none⟩, ⟨some 11, .un .not (.tmp 10), none⟩]) (.cond (.tmp 11) (.seq (.reg [⟨some 12, .bsl 12 2 1 [], none⟩, ⟨some 6, .mv (.tmp 12), none⟩]) .ret) .skip)) (.seq (.reg [⟨some 13, .load 2 true (.tmp 5), none⟩, ⟨some 14, .callf 154 [.tmp 13], none⟩, ⟨some 15, .callf 114 [.tmp 14], none⟩, ⟨some 6, .mv (.tmp 15), none⟩]) .ret)))
theorem fn58 : MFn Tryz.prog 58 mc58 16 [.tmp 6] :=
  ⟨Tryz.f58, Tryz.func58, by kernel_rfl, Tryz.ntmps58, by kernel_rfl⟩
noncomputable def F_spec_ChainEnd (sig : Ls) (eqs : (List (Ls × Ls))) (c : (Ls × (List (Int × Int × Bool × Ls)))) : Option Ls :=
 (F_spec_ChainOk sig eqs c).bind fun r =>
 if r = true then
  (F_spec_l20End c).bind fun r_1 =>
  (F_spec_l1Copy r_1).bind fun r_2 =>
  some r_2
 else
  some []
theorem c_spec_ChainEnd {sig : Ls} {eqs : (List (Ls × Ls))} {c : (Ls × (List (Int × Int × Bool × Ls)))} {rr : Ls} (h : F_spec_ChainEnd sig eqs c = some rr) : PFun Tryz.prog 58 [D_impl_Sig sig, (slD 2 D_impl_Eq) eqs, D_impl_Chain c] ((slD 1 iD) rr) := by
  delta F_spec_ChainEnd at h
  refine fn58.pureL (vcm_sound ?_)
  delta mc58
  refine stp ?_
  obtain ⟨r, hr, h⟩ := bind_some h
  refine cR (c_spec_ChainOk hr) (stp ?_)
  rcases ite_some h with ⟨hc, h⟩ | ⟨hc, h⟩
  · refine stpc hc ?_
    obtain ⟨r_1, hr_1, h⟩ := bind_some h
    refine cR (c_spec_l20End hr_1) (stp ?_)
    obtain ⟨r_2, hr_2, h⟩ := bind_some h
    refine cRo [] [(3, 15)] (c_spec_l1Copy hr_2) (stp ?_)
    cases h
    exact don
  refine stpc hc ?_
  cases h
  exact don
def mc7 : MCode :=
 (.seq (.reg [⟨some 2, .mv (.const (.bool false)), none⟩]) (.seq (.seq (.reg [⟨some 14, .mv (.tmp 0), none⟩, ⟨some 15, .callf 26 [.tmp 14], none⟩]) (.cond (.tmp 15) (.seq (.reg [⟨some 2, .mv (.const (.bool true)), none⟩]) .ret) .skip)) (.seq (.reg [⟨some 17, .mv (.tmp 0), none⟩, ⟨some 18, .callf 51 [.tmp 17], none⟩, ⟨some 16, .mv (.tmp 18), none⟩, ⟨some 19, .ext (.tmp 16) 0, none⟩, ⟨some 20, .ext (.tmp 16) 1, none⟩, ⟨some 21, .ext (.tmp 16) 2, none⟩, ⟨some 22, .ext (.tmp 16) 3, none⟩, ⟨some 3, .alloc 3 46 [.sl 0 (some true) [], .sl 0 (some true) []], none⟩, ⟨none, .store 2 (.tmp 3) (.tmp 19), none⟩, ⟨some 4, .mv (.tmp 20), none⟩, ⟨some 5, .mv (.tmp 21), none⟩, ⟨some 6, .mv (.tmp 22), none⟩]) (.seq (.reg [⟨some 23, .load 2 true (.tmp 3), none⟩, ⟨some 24, .mv (.tmp 4), none⟩, ⟨some 25, .mv (.tmp 5), none⟩, ⟨some 26, .mv (.tmp 6), none⟩, ⟨some 27, .callf 52 [.tmp 23, .tmp 24, .tmp 25, .tmp 26], none⟩, ⟨some 7, .mv (.tmp 27), none⟩]) (.seq (.reg [⟨some 29, .load 2 true (.tmp 3), none⟩, ⟨some 30, .mv (.tmp 4), none⟩, ⟨some 31, .mv (.tmp 5), none⟩, ⟨some 32, .mv (.tmp 6), none⟩, ⟨some 33, .callf 53 [.tmp 29, .tmp 30, .tmp 31, .tmp 32], none⟩, ⟨some 28, .mv (.tmp 33), none⟩, ⟨some 34, .ext (.tmp 28) 0, none⟩, ⟨some 35, .ext (.tmp 28) 1, none⟩, ⟨some 8, .alloc 8 65 [.sl 0 (some true) [], .sl 0 (some true) []], none⟩, ⟨none, .store 2 (.tmp 8) (.tmp 34), none⟩, ⟨some 9, .mv (.tmp 35), none⟩]) (.seq (.reg [⟨some 37, .load 2 true (.tmp 3), none⟩, ⟨some 38, .mv (.tmp 4), none⟩, ⟨some 39, .mv (.tmp 5), none⟩, ⟨some 40, .mv (.tmp 6), none⟩, ⟨some 41, .callf 54 [.tmp 37, .tmp 38, .tmp 39, .tmp 40], none⟩, ⟨some 36, .mv (.tmp 41), none⟩, ⟨some 42, .ext (.tmp 36) 0, none⟩, ⟨some 43, .ext (.tmp 36) 1, none⟩, ⟨some 44, .ext (.tmp 36) 2, none⟩, ⟨some 10, .alloc 10 40 [.sl 0 (some true) [], .sl 0 (some true) []], none⟩, ⟨some 11, .alloc 11 40 [.sl 0 (some true) [], .sl 0 (some true) []], none⟩, ⟨none, .store 2 (.tmp 10) (.tmp 42), none⟩, ⟨none, .store 2 (.tmp 11) (.tmp 43), none⟩, ⟨some 12, .mv (.tmp 44), none⟩]) (.seq (.seq (.reg [⟨some 45, .mv (.tmp 7), none⟩, ⟨some 46, .load 2 true (.tmp 3), none⟩, ⟨some 47, .mv (.tmp 4), none⟩, ⟨some 48, .mv (.tmp 5), none⟩, ⟨some 49, .mv (.tmp 6), none⟩, ⟨some 50, .callf 55 [.tmp 46, .tmp 47, .tmp 48, .tmp 49], none⟩, ⟨some 51, .bin .neq (.tmp 45) (.tmp 50), none⟩, ⟨some 52, .mv (.tmp 51), none⟩, ⟨some 53, .mv (.tmp 12), (some (some 52, false))⟩, ⟨some 54, .mv (.tmp 7), (some (some 52, false))⟩, ⟨some 55, .bin .eql (.tmp 54) (.const (.int .i64 0)), (some (some 52, false))⟩, ⟨some 56, .binb true (.tmp 53) (.tmp 55), (some (some 52, false))⟩, ⟨some 57, .pick (.tmp 52) (.const (.bool true)) (.tmp 56), none⟩, ⟨some 58, .mv (.tmp 57), none⟩, ⟨some 59, .mv (.tmp 9), (some (some 58, false))⟩, ⟨some 60, .mv (.tmp 59), (some (some 58, false))⟩, ⟨some 61, .mv (.tmp 7), (some (some 60, true))⟩, ⟨some 62, .bin .neq (.tmp 61) (.const (.int .i64 1)), (some (some 60, true))⟩, ⟨some 63, .pick (.tmp 60) (.tmp 62) (.const (.bool false)), (some (some 58, false))⟩, ⟨some 64, .pick (.tmp 58) (.const (.bool true)) (.tmp 63), none⟩]) (.cond (.tmp 64) (.seq (.reg [⟨some 2, .mv (.const (.bool false)), none⟩]) .ret) .skip)) (.seq (.seq (.reg [⟨some 65, .mv (.tmp 12), none⟩]) (.cond (.tmp 65) (.seq (.draw [⟨some 66, .load 2 true (.tmp 3), none⟩, ⟨some 67, .load 2 true (.tmp 10), none⟩, ⟨some 68, .callf 44 [.tmp 66, .tmp 67], none⟩, ⟨some 69, .mv (.tmp 68), none⟩, ⟨some 70, .load 2 true (.tmp 3), (some (some 69, true))⟩, ⟨some 71, .load 2 true (.tmp 11), (some (some 69, true))⟩, ⟨some 72, .callf 44 [.tmp 70, .tmp 71], (some (some 69, true))⟩, ⟨some 73, .pick (.tmp 69) (.tmp 72) (.const (.bool false)), none⟩, ⟨some 74, .mv (.tmp 73), none⟩, ⟨some 75, .load 2 true (.tmp 3), (some (some 74, true))⟩, ⟨some 76, .load 2 true (.tmp 3), (some (some 74, true))⟩, ⟨some 77, .load 2 true (.tmp 10), (some (some 74, true))⟩, ⟨some 78, .callf 57 [.tmp 76, .tmp 77], (some (some 74, true))⟩,
 ⟨some 79, .callf 56 [.tmp 75, .tmp 78], (some (some 74, true))⟩, ⟨some 80, .pick (.tmp 74) (.tmp 79) (.const (.bool false)), none⟩, ⟨some 81, .mv (.tmp 80), none⟩, ⟨some 82, .load 2 true (.tmp 3), (some (some 81, true))⟩, ⟨some 83, .load 2 true (.tmp 3), (some (some 81, true))⟩, ⟨some 84, .load 2 true (.tmp 11), (some (some 81, true))⟩, ⟨some 85, .callf 57 [.tmp 83, .tmp 84], (some (some 81, true))⟩, ⟨some 86, .callf 56 [.tmp 82, .tmp 85], (some (some 81, true))⟩, ⟨some 87, .pick (.tmp 81) (.tmp 86) (.const (.bool false)), none⟩, ⟨some 88, .mv (.tmp 87), none⟩, ⟨some 89, .load 2 true (.tmp 3), (some (some 88, true))⟩, ⟨some 90, .load 2 true (.tmp 10), (some (some 88, true))⟩, ⟨some 91, .callf 57 [.tmp 89, .tmp 90], (some (some 88, true))⟩, ⟨some 92, .load 2 true (.tmp 3), (some (some 88, true))⟩, ⟨some 93, .load 2 true (.tmp 11), (some (some 88, true))⟩, ⟨some 94, .callf 57 [.tmp 92, .tmp 93], (some (some 88, true))⟩, ⟨some 95, .callf 33 [.tmp 91, .tmp 94], (some (some 88, true))⟩, ⟨some 96, .un .not (.tmp 95), (some (some 88, true))⟩, ⟨some 97, .pick (.tmp 88) (.tmp 96) (.const (.bool false)), none⟩, ⟨some 98, .mv (.tmp 97), none⟩, ⟨some 99, .fad 0 (.tmp 10), (some (some 98, true))⟩, ⟨some 100, .load 1 false (.tmp 99), (some (some 98, true))⟩, ⟨some 101, .mv (.tmp 4), (some (some 98, true))⟩, ⟨some 102, .callf 33 [.tmp 100, .tmp 101], (some (some 98, true))⟩, ⟨some 103, .pick (.tmp 98) (.tmp 102) (.const (.bool false)), none⟩, ⟨some 104, .mv (.tmp 103), none⟩, ⟨some 105, .fad 0 (.tmp 11), (some (some 104, true))⟩, ⟨some 106, .load 1 false (.tmp 105), (some (some 104, true))⟩, ⟨some 107, .mv (.tmp 5), (some (some 104, true))⟩, ⟨some 108, .callf 33 [.tmp 106, .tmp 107], (some (some 104, true))⟩, ⟨some 109, .pick (.tmp 104) (.tmp 108) (.const (.bool false)), none⟩, ⟨some 2, .mv (.tmp 109), none⟩] [[], [], [0, 1], [2, 2], [3], [3], [4, 5, 3, 3], [3, 6], [7, 6], [8], [8], [8], [10, 11, 8, 8], [9, 12, 12, 8], [8, 13], [14, 13], [15], [15], [15], [17, 18, 15, 15], [16, 19, 19, 15], [15, 20], [21, 20], [22], [22], [23, 24, 22, 22], [22], [22], [26, 27, 25, 22], [25, 28, 28, 22], [29, 22], [22, 30], [31, 29], [32], [33, 32], [32], [34, 35, 32, 32], [32, 36], [37, 36], [38], [39, 38], [38], [40, 41, 38, 38], [38, 42], [43, 42, 0, 1, 2, 3, 4, 5, 6, 7, 8, 9, 10, 11, 12, 13, 14, 15, 16, 17, 18, 19, 20, 21, 22, 23, 24, 25, 26, 27, 28, 29, 30, 31, 32, 33, 34, 35, 36, 37, 38, 39, 40, 41, 42, 43]]) .ret) .skip)) (.seq (.reg [⟨some 110, .load 2 true (.tmp 3), none⟩, ⟨some 111, .callf 30 [.tmp 110], none⟩, ⟨some 13, .mv (.tmp 111), none⟩]) (.seq (.seq (.reg [⟨some 112, .mv (.tmp 9), none⟩, ⟨some 113, .un .not (.tmp 112), none⟩, ⟨some 114, .mv (.tmp 113), none⟩, ⟨some 115, .mv (.tmp 13), (some (some 114, false))⟩, ⟨some 116, .len (.tmp 115), (some (some 114, false))⟩, ⟨some 117, .bin .gtr (.tmp 116) (.const (.int .i64 12)), (some (some 114, false))⟩, ⟨some 118, .pick (.tmp 114) (.const (.bool true)) (.tmp 117), none⟩]) (.cond (.tmp 118) (.seq (.reg [⟨some 119, .mv (.tmp 9), none⟩, ⟨some 120, .mv (.tmp 7), none⟩, ⟨some 121, .bin .eql (.tmp 120) (.const (.int .i64 1)), none⟩, ⟨some 122, .mv (.tmp 121), none⟩, ⟨some 123, .fad 0 (.tmp 8), (some (some 122, true))⟩, ⟨some 124, .load 1 false (.tmp 123), (some (some 122, true))⟩, ⟨some 125, .len (.tmp 124), (some (some 122, true))⟩, ⟨some 126, .bin .gtr (.tmp 125) (.const (.int .i64 0)), (some (some 122, true))⟩, ⟨some 127, .pick (.tmp 122) (.tmp 126) (.const (.bool false)), none⟩, ⟨some 128, .binb false (.tmp 119) (.tmp 127), none⟩, ⟨some 2, .mv (.tmp 128), none⟩]) .ret) .skip)) (.seq (.reg [⟨some 129, .fad 0 (.tmp 3), none⟩, ⟨some 130, .load 1 true (.tmp 129), none⟩, ⟨some 131, .mv (.tmp 13), none⟩, ⟨some 132, .load 2 true (.tmp 8), none⟩, ⟨some 133, .callf 32 [.tmp 130, .tmp 131, .tmp 132], none⟩, ⟨some 134, .mv (.tmp 133), none⟩, ⟨some 135, .fad 0 (.tmp 8), (some (some 134, true))⟩, ⟨some 136, .load 1 false (.tmp 135), (some (some 134, true))⟩,
 ⟨some 137, .mv (.tmp 4), (some (some 134, true))⟩, ⟨some 138, .callf 33 [(.tmp 136), (.tmp 137)], (some (some 134, true))⟩, ⟨some 139, .pick (.tmp 134) (.tmp 138) (.const (.bool false)), none⟩, ⟨some 140, .mv (.tmp 139), none⟩, ⟨some 141, .fad 0 (.tmp 3), (some (some 140, true))⟩, ⟨some 142, .load 1 true (.tmp 141), (some (some 140, true))⟩, ⟨some 143, .mv (.tmp 13), (some (some 140, true))⟩, ⟨some 144, .load 2 true (.tmp 8), (some (some 140, true))⟩, ⟨some 145, .callf 58 [(.tmp 142), (.tmp 143), (.tmp 144)], (some (some 140, true))⟩, ⟨some 146, .mv (.tmp 5), (some (some 140, true))⟩, ⟨some 147, .callf 33 [(.tmp 145), (.tmp 146)], (some (some 140, true))⟩, ⟨some 148, .pick (.tmp 140) (.tmp 147) (.const (.bool false)), none⟩, ⟨some 2, .mv (.tmp 148), none⟩]) .ret)))))))))))
theorem fn7 : MFn Tryz.prog 7 mc7 149 [.tmp 2] :=
  ⟨Tryz.f7, Tryz.func7, by kernel_rfl, Tryz.ntmps7, by kernel_rfl⟩
noncomputable def F_laws_FnWordShown (code : Ls) : Option Bool :=
 (F_laws_big code).bind fun r =>
 if r = true then
  some true
 else
  (F_spec_DrawShownBy code).bind fun r_1 =>
  (F_impl_EqualBy r_1.1 r_1.2.1 r_1.2.2.1 r_1.2.2.2).bind fun r_2 =>
  (F_impl_ShownBy r_1.1 r_1.2.1 r_1.2.2.1 r_1.2.2.2).bind fun r_3 =>
  (F_impl_RefutedBy r_1.1 r_1.2.1 r_1.2.2.1 r_1.2.2.2).bind fun r_4 =>
  (F_spec_EqualBy r_1.1 r_1.2.1 r_1.2.2.1 r_1.2.2.2).bind fun r_5 =>
  if (r_2 != r_5) = true then
   some false
  else
   if (r_4.2.2 != (r_2 == 0)) = true then
    some false
   else
    if r_3.2 = true then
     if (r_2 != 1) = true then
      some false
     else
      if r_4.2.2 = true then
       (F_spec_WalkOk r_1.1 r_4.1).bind fun r_6 =>
       if r_6 = true then
        (F_spec_WalkOk r_1.1 r_4.2.1).bind fun r_7 =>
        if r_7 = true then
         (F_spec_EndTerm r_1.1 r_4.1).bind fun r_8 =>
         (F_spec_NormalIn r_1.1 r_8).bind fun r_9 =>
         if r_9 = true then
          (F_spec_EndTerm r_1.1 r_4.2.1).bind fun r_10 =>
          (F_spec_NormalIn r_1.1 r_10).bind fun r_11 =>
          if r_11 = true then
           (F_spec_EndTerm r_1.1 r_4.1).bind fun r_12 =>
           (F_spec_EndTerm r_1.1 r_4.2.1).bind fun r_13 =>
           (F_spec_SameTerm r_12 r_13).bind fun r_14 =>
           if r_14 = true then
            some false
           else
            (F_spec_SameTerm r_4.1.1 r_1.2.1).bind fun r_15 =>
            if r_15 = true then
             (F_spec_SameTerm r_4.2.1.1 r_1.2.2.1).bind fun r_16 =>
             some r_16
            else
             some false
          else
           some false
         else
          some false
        else
         some false
       else
        some false
      else
       (F_spec_EqsOf r_1.1).bind fun r_17 =>
       if (decide (12 < (r_17.length : Int))) = true then
        if (r_2 == 1) = true then
         some (true == (decide (0 < (r_3.1.1.length : Int))))
        else
         some false
       else
        (F_spec_ChainOk r_1.1.1 r_17 r_3.1).bind fun r_18 =>
        if r_18 = true then
         (F_spec_SameTerm r_3.1.1 r_1.2.1).bind fun r_19 =>
         if r_19 = true then
          (F_spec_ChainEnd r_1.1.1 r_17 r_3.1).bind fun r_20 =>
          (F_spec_SameTerm r_20 r_1.2.2.1).bind fun r_21 =>
          some r_21
         else
          some false
        else
         some false
    else
     if r_4.2.2 = true then
      (F_spec_WalkOk r_1.1 r_4.1).bind fun r_22 =>
      if r_22 = true then
       (F_spec_WalkOk r_1.1 r_4.2.1).bind fun r_23 =>
       if r_23 = true then
        (F_spec_EndTerm r_1.1 r_4.1).bind fun r_24 =>
        (F_spec_NormalIn r_1.1 r_24).bind fun r_25 =>
        if r_25 = true then
         (F_spec_EndTerm r_1.1 r_4.2.1).bind fun r_26 =>
         (F_spec_NormalIn r_1.1 r_26).bind fun r_27 =>
         if r_27 = true then
          (F_spec_EndTerm r_1.1 r_4.1).bind fun r_28 =>
          (F_spec_EndTerm r_1.1 r_4.2.1).bind fun r_29 =>
          (F_spec_SameTerm r_28 r_29).bind fun r_30 =>
          if r_30 = true then
           some false
          else
           (F_spec_SameTerm r_4.1.1 r_1.2.1).bind fun r_31 =>
           if r_31 = true then
            (F_spec_SameTerm r_4.2.1.1 r_1.2.2.1).bind fun r_32 =>
            some r_32
           else
            some false
         else
          some false
        else
         some false
       else
        some false
      else
       some false
     else
      (F_spec_EqsOf r_1.1).bind fun r_33 =>
      if (r_2 == 1) = true then
       some (false == (decide (0 < (r_3.1.1.length : Int))))
      else
       some true
theorem c_laws_FnWordShown {code : Ls} {rr : Bool} (h : F_laws_FnWordShown code = some rr) : PFun Tryz.prog 7 [(slD 1 (kD .u8)) code] (bD rr) := by
  delta F_laws_FnWordShown at h
  refine fn7.pureL (vcm_sound ?_)
  delta mc7
  refine stp ?_
  obtain ⟨r, hr, h⟩ := bind_some h
  refine cR (c_laws_big hr) (stp ?_)
  rcases ite_some h with ⟨hc, h⟩ | ⟨hc, h⟩
  · refine stpc hc ?_
    cases h
    exact don
  refine stpc hc ?_
  obtain ⟨r_1, hr_1, h⟩ := bind_some h
  refine cRN (c_spec_DrawShownBy hr_1) (stp ?_)
  obtain ⟨r_2, hr_2, h⟩ := bind_some h
  refine cR (c_impl_EqualBy hr_2) (stp ?_)
  obtain ⟨r_3, hr_3, h⟩ := bind_some h
  refine cRN (c_impl_ShownBy hr_3) (stp ?_)
  obtain ⟨r_4, hr_4, h⟩ := bind_some h
  refine cRN (c_impl_RefutedBy hr_4) (stp ?_)
  obtain ⟨r_5, hr_5, h⟩ := bind_some h
  refine cR (c_spec_EqualBy hr_5) (stp ?_)
  rcases ite_some h with ⟨hc, h⟩ | ⟨hc, h⟩
  · refine stpc hc ?_
    cases h
    exact don
  refine stpc hc ?_
  rcases ite_some h with ⟨hc, h⟩ | ⟨hc, h⟩
  · refine stpc hc ?_
    cases h
    exact don
  refine stpc hc ?_
  rcases ite_some h with ⟨hc, h⟩ | ⟨hc, h⟩
  · refine stpc hc ?_
    rcases ite_some h with ⟨hc, h⟩ | ⟨hc, h⟩
    · refine stpc hc ?_
      cases h
      exact don
    refine stpc hc ?_
    rcases ite_some h with ⟨hc, h⟩ | ⟨hc, h⟩
    · refine stpc hc ?_
      obtain ⟨r_6, hr_6, h⟩ := bind_some h
      refine cD' (c_spec_WalkOk hr_6) (stp ?_)
      rcases ite_some h with ⟨hc, h⟩ | ⟨hc, h⟩
      · refine stpc hc ?_
        obtain ⟨r_7, hr_7, h⟩ := bind_some h
        refine cD' (c_spec_WalkOk hr_7) (stp ?_)
        rcases ite_some h with ⟨hc, h⟩ | ⟨hc, h⟩
        · refine stpc hc ?_
          obtain ⟨r_8, hr_8, h⟩ := bind_some h
          refine cD' (c_spec_EndTerm hr_8) (stp ?_)
          obtain ⟨r_9, hr_9, h⟩ := bind_some h
          refine cD' (c_spec_NormalIn hr_9) (stp ?_)
          rcases ite_some h with ⟨hc, h⟩ | ⟨hc, h⟩
          · refine stpc hc ?_
            obtain ⟨r_10, hr_10, h⟩ := bind_some h
            refine cD' (c_spec_EndTerm hr_10) (stp ?_)
            obtain ⟨r_11, hr_11, h⟩ := bind_some h
            refine cD' (c_spec_NormalIn hr_11) (stp ?_)
            rcases ite_some h with ⟨hc, h⟩ | ⟨hc, h⟩
            · refine stpc hc ?_
              obtain ⟨r_12, hr_12, h⟩ := bind_some h
              refine cD' (c_spec_EndTerm hr_12) (stp ?_)
              obtain ⟨r_13, hr_13, h⟩ := bind_some h
              refine cD' (c_spec_EndTerm hr_13) (stp ?_)
              obtain ⟨r_14, hr_14, h⟩ := bind_some h
              refine cD' (c_spec_SameTerm hr_14) (stp ?_)
              rcases ite_some h with ⟨hc, h⟩ | ⟨hc, h⟩
              · refine stpc hc ?_
                refine drQ_of (by kernel_rfl) ?_
                refine stp ?_
                cases h
                exact don
              refine stpc hc ?_
              obtain ⟨r_15, hr_15, h⟩ := bind_some h
              refine cD' (c_spec_SameTerm hr_15) (stp ?_)
              rcases ite_some h with ⟨hc, h⟩ | ⟨hc, h⟩
              · refine stpc hc ?_
                obtain ⟨r_16, hr_16, h⟩ := bind_some h
                refine cD' (c_spec_SameTerm hr_16) (stp ?_)
                refine drQ_of (by kernel_rfl) ?_
                refine stp ?_
                cases h
                exact don
              refine stpc hc ?_
              refine drQ_of (by kernel_rfl) ?_
              refine stp ?_
              cases h
              exact don
            refine stpc hc ?_
            refine drQ_of (by kernel_rfl) ?_
            refine stp ?_
            cases h
            exact don
          refine stpc hc ?_
          refine drQ_of (by kernel_rfl) ?_
          refine stp ?_
          cases h
          exact don
        refine stpc hc ?_
        refine drQ_of (by kernel_rfl) ?_
        refine stp ?_
        cases h
        exact don
      refine stpc hc ?_
      refine drQ_of (by kernel_rfl) ?_
      refine stp ?_
      cases h
      exact don
    refine stpc hc ?_
    obtain ⟨r_17, hr_17, h⟩ := bind_some h
    refine cR (c_spec_EqsOf hr_17) (stp ?_)
    rcases ite_some h with ⟨hc, h⟩ | ⟨hc, h⟩
    · refine stpc hc ?_
      rcases ite_some h with ⟨hc, h⟩ | ⟨hc, h⟩
      · refine stpc hc ?_
        cases h
        exact don
      refine stpc hc ?_
      cases h
      exact don
    refine stpc hc ?_
    obtain ⟨r_18, hr_18, h⟩ := bind_some h
    refine cR (c_spec_ChainOk hr_18) (stp ?_)
    rcases ite_some h with ⟨hc, h⟩ | ⟨hc, h⟩
    · refine stpc hc ?_
      obtain ⟨r_19, hr_19, h⟩ := bind_some h
      refine cR (c_spec_SameTerm hr_19) (stp ?_)
      rcases ite_some h with ⟨hc, h⟩ | ⟨hc, h⟩
      · refine stpc hc ?_
        obtain ⟨r_20, hr_20, h⟩ := bind_some h
        refine cR (c_spec_ChainEnd hr_20) (stp ?_)
        obtain ⟨r_21, hr_21, h⟩ := bind_some h
        refine cR (c_spec_SameTerm hr_21) (stp ?_)
        cases h
        exact don
      refine stpc hc ?_
      cases h
      exact don
    refine stpc hc ?_
    cases h
    exact don
  refine stpc hc ?_
  rcases ite_some h with ⟨hc, h⟩ | ⟨hc, h⟩
  · refine stpc hc ?_
    obtain ⟨r_22, hr_22, h⟩ := bind_some h
    refine cD' (c_spec_WalkOk hr_22) (stp ?_)
    rcases ite_some h with ⟨hc, h⟩ | ⟨hc, h⟩
    · refine stpc hc ?_
      obtain ⟨r_23, hr_23, h⟩ := bind_some h
      refine cD' (c_spec_WalkOk hr_23) (stp ?_)
      rcases ite_some h with ⟨hc, h⟩ | ⟨hc, h⟩
      · refine stpc hc ?_
        obtain ⟨r_24, hr_24, h⟩ := bind_some h
        refine cD' (c_spec_EndTerm hr_24) (stp ?_)
        obtain ⟨r_25, hr_25, h⟩ := bind_some h
        refine cD' (c_spec_NormalIn hr_25) (stp ?_)
        rcases ite_some h with ⟨hc, h⟩ | ⟨hc, h⟩
        · refine stpc hc ?_
          obtain ⟨r_26, hr_26, h⟩ := bind_some h
          refine cD' (c_spec_EndTerm hr_26) (stp ?_)
          obtain ⟨r_27, hr_27, h⟩ := bind_some h
          refine cD' (c_spec_NormalIn hr_27) (stp ?_)
          rcases ite_some h with ⟨hc, h⟩ | ⟨hc, h⟩
          · refine stpc hc ?_
            obtain ⟨r_28, hr_28, h⟩ := bind_some h
            refine cD' (c_spec_EndTerm hr_28) (stp ?_)
            obtain ⟨r_29, hr_29, h⟩ := bind_some h
            refine cD' (c_spec_EndTerm hr_29) (stp ?_)
            obtain ⟨r_30, hr_30, h⟩ := bind_some h
            refine cD' (c_spec_SameTerm hr_30) (stp ?_)
            rcases ite_some h with ⟨hc, h⟩ | ⟨hc, h⟩
            · refine stpc hc ?_
              refine drQ_of (by kernel_rfl) ?_
              refine stp ?_
              cases h
              exact don
            refine stpc hc ?_
            obtain ⟨r_31, hr_31, h⟩ := bind_some h
            refine cD' (c_spec_SameTerm hr_31) (stp ?_)
            rcases ite_some h with ⟨hc, h⟩ | ⟨hc, h⟩
            · refine stpc hc ?_
              obtain ⟨r_32, hr_32, h⟩ := bind_some h
              refine cD' (c_spec_SameTerm hr_32) (stp ?_)
              refine drQ_of (by kernel_rfl) ?_
              refine stp ?_
              cases h
              exact don
            refine stpc hc ?_
            refine drQ_of (by kernel_rfl) ?_
            refine stp ?_
            cases h
            exact don
          refine stpc hc ?_
          refine drQ_of (by kernel_rfl) ?_
          refine stp ?_
          cases h
          exact don
        refine stpc hc ?_
        refine drQ_of (by kernel_rfl) ?_
        refine stp ?_
        cases h
        exact don
      refine stpc hc ?_
      refine drQ_of (by kernel_rfl) ?_
      refine stp ?_
      cases h
      exact don
    refine stpc hc ?_
    refine drQ_of (by kernel_rfl) ?_
    refine stp ?_
    cases h
    exact don
  refine stpc hc ?_
  obtain ⟨r_33, hr_33, h⟩ := bind_some h
  refine cR (c_spec_EqsOf hr_33) (stp ?_)
  rcases ite_some h with ⟨hc, h⟩ | ⟨hc, h⟩
  · refine stpc hc ?_
    cases h
    exact don
  refine stpc hc ?_
  cases h
  exact don
end Go.Proofs.YtcaljngigbfadaaGreat
