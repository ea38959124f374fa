/- Functions of the program that draw inputs, and the equations that they compute; nothing is assumed. -/
import Derived.Test.YtcaljngigbfadaaGreatGh
set_option linter.unusedSimpArgs false
set_option linter.unusedVariables false
set_option linter.unusedSectionVars false
namespace Go.Proofs.YtcaljngigbfadaaGreat
open Go Abx
attribute [local irreducible] vcm vgo vdr vrun vdrun MWp GhostQ BrC BrO BrG BrD BrH AmbO callR callD drQ EnvLe StoLe
set_option maxHeartbeats 4000000
def mc207 : MCode :=
 (.seq (.reg [⟨some 3, .box 3 46 (.tmp 1), none⟩, ⟨some 4, .mv (.const (.slice none 0 0)), none⟩]) (.seq (.seq (.reg [⟨some 10, .load 2 true (.tmp 3), none⟩, ⟨some 11, .callf 113 [(.tmp 10)], none⟩, ⟨some 12, .un .not (.tmp 11), none⟩]) (.cond (.tmp 12) (.seq (.reg [⟨some 13, .mv (.tmp 0), none⟩, ⟨some 14, .fad 0 (.tmp 3), none⟩, ⟨some 15, .load 1 true (.tmp 14), none⟩, ⟨some 16, .callf 205 [(.tmp 13), (.tmp 15)], none⟩, ⟨some 4, .mv (.tmp 16), none⟩]) .ret) .skip)) (.seq (.seq (.reg [⟨some 17, .fad 1 (.tmp 3), none⟩, ⟨some 18, .load 1 false (.tmp 17), none⟩, ⟨some 19, .len (.tmp 18), none⟩, ⟨some 20, .bin .gtr (.tmp 19) (.const (.int .i64 0)), none⟩, ⟨some 21, .mv (.tmp 20), none⟩, ⟨some 22, .mv (.tmp 0), (some (some 21, true))⟩, ⟨some 23, .callf 103 [(.tmp 22), (.const (.int .i64 2))], (some (some 21, true))⟩, ⟨some 24, .pick (.tmp 21) (.tmp 23) (.const (.bool false)), none⟩]) (.cond (.tmp 24) (.seq (.draw [⟨some 26, .mv (.tmp 0), none⟩, ⟨some 27, .fad 0 (.tmp 3), none⟩, ⟨some 28, .load 1 true (.tmp 27), none⟩, ⟨some 29, .callf 300 [(.tmp 26), (.tmp 28)], none⟩, ⟨some 30, .fad 1 (.tmp 3), none⟩, ⟨some 31, .load 1 false (.tmp 30), none⟩, ⟨some 32, .mv (.tmp 0), none⟩, ⟨some 33, .fad 1 (.tmp 3), none⟩, ⟨some 34, .load 1 false (.tmp 33), none⟩, ⟨some 35, .len (.tmp 34), none⟩, ⟨some 36, .callf 105 [(.tmp 32), (.tmp 35)], none⟩, ⟨some 37, .ixa 2 (.tmp 31) (.tmp 36), none⟩, ⟨some 38, .fad 0 (.tmp 37), none⟩, ⟨some 39, .load 1 false (.tmp 38), none⟩, ⟨some 40, .callf 186 [(.tmp 29), (.tmp 39)], none⟩, ⟨some 25, .mv (.tmp 40), none⟩, ⟨some 41, .ext (.tmp 25) 0, none⟩, ⟨some 42, .ext (.tmp 25) 1, none⟩, ⟨some 5, .mv (.tmp 41), none⟩, ⟨some 6, .mv (.tmp 42), none⟩] [[], [], [1], [0, 2], [], [4], [], [], [7], [8], [6, 9, 3], [5, 10], [11], [12], [3, 13, 10], [14], [15], [15], [16, 14, 0, 1, 2, 3, 4, 5, 6, 7, 8, 9, 10, 11, 12, 13, 14, 15, 16], [17, 18, 0, 1, 2, 3, 4, 5, 6, 7, 8, 9, 10, 11, 12, 13, 14, 15, 16, 17, 18]]) (.seq (.reg [⟨some 43, .mv (.tmp 6), none⟩]) (.cond (.tmp 43) (.seq (.seq (.reg [⟨some 44, .mv (.tmp 0), none⟩, ⟨some 45, .callf 103 [(.tmp 44), (.const (.int .i64 2))], none⟩]) (.cond (.tmp 45) (.seq (.reg [⟨some 46, .mv (.tmp 5), none⟩, ⟨some 4, .mv (.tmp 46), none⟩]) .ret) .skip)) (.seq (.reg [⟨some 47, .mv (.tmp 0), none⟩, ⟨some 48, .fad 0 (.tmp 3), none⟩, ⟨some 49, .load 1 true (.tmp 48), none⟩, ⟨some 50, .callf 298 [(.tmp 47), (.tmp 49), (.const (.int .i64 3)), (.const (.int .i64 2))], none⟩, ⟨some 7, .mv (.tmp 50), none⟩]) (.seq (.draw [⟨some 52, .fad 0 (.tmp 3), none⟩, ⟨some 53, .load 1 true (.tmp 52), none⟩, ⟨some 54, .mv (.tmp 7), none⟩, ⟨some 55, .mv (.tmp 0), none⟩, ⟨some 56, .mv (.tmp 7), none⟩, ⟨some 57, .len (.tmp 56), none⟩, ⟨some 58, .callf 105 [(.tmp 55), (.tmp 57)], none⟩, ⟨some 59, .mv (.tmp 5), none⟩, ⟨some 60, .callf 189 [(.tmp 53), (.tmp 54), (.tmp 58), (.tmp 59)], none⟩, ⟨some 51, .mv (.tmp 60), none⟩, ⟨some 61, .ext (.tmp 51) 0, none⟩, ⟨some 62, .ext (.tmp 51) 1, none⟩, ⟨some 8, .mv (.tmp 61), none⟩, ⟨some 9, .mv (.tmp 62), none⟩] [[], [0], [], [], [], [4], [3, 5], [], [1, 2, 6, 7, 6], [8], [9], [9], [10, 8, 0, 1, 2, 3, 4, 5, 6, 7, 8, 9, 10], [11, 12, 0, 1, 2, 3, 4, 5, 6, 7, 8, 9, 10, 11, 12]]) (.seq (.reg [⟨some 63, .mv (.tmp 9), none⟩]) (.cond (.tmp 63) (.seq (.reg [⟨some 64, .mv (.tmp 8), none⟩, ⟨some 4, .mv (.tmp 64), none⟩]) .ret) .skip))))) .skip))) .skip)) (.seq (.reg [⟨some 65, .mv (.tmp 0), none⟩, ⟨some 66, .fad 0 (.tmp 3), none⟩, ⟨some 67, .load 1 true (.tmp 66), none⟩, ⟨some 68, .callf 205 [(.tmp 65), (.tmp 67)], none⟩, ⟨some 4, .mv (.tmp 68), none⟩]) .ret))))
theorem fn207 : MFn Tryz.prog 207 mc207 69 [.tmp 4] :=
  ⟨Tryz.f207, Tryz.func207, by kernel_rfl, Tryz.ntmps207, by kernel_rfl⟩
noncomputable def F_spec_l7DrawTerm (sys : ((List Int) × (List ((List Int) × (List Int))))) (c0 : (List Int)) (c1 : Int) (c2 : Int) : Option ((List Int) × Int × Int) :=
  (F_spec_SystemOk sys).bind fun r =>
  if r = true then
    if (decide (0 < (sys.2.length : Int))) = true then
      (F_spec_l1Once 2 c0 c1 c2).bind fun r_1 =>
      if r_1.1 = true then
        (F_spec_l2Draw sys.1 c0 r_1.2.1 r_1.2.2).bind fun r_2 =>
        (F_spec_l1Below (sys.2.length : Int) c0 r_2.2.1 r_2.2.2).bind fun r_3 =>
        if 0 ≤ r_3.1 ∧ r_3.1 < (sys.2.length : Int) then
          (F_spec_l2Filled r_2.1 ((sys.2.getD r_3.1.toNat default).1)).bind fun r_4 =>
          if r_4.2 = true then
            (F_spec_l1Once 2 c0 r_3.2.1 r_3.2.2).bind fun r_5 =>
            if r_5.1 = true then
              some (r_4.1, r_5.2.1, r_5.2.2)
            else
              (F_spec_l1DrawTerm_all sys.1 3 2 c0 r_5.2.1 r_5.2.2).bind fun r_6 =>
              (F_spec_l1Below (r_6.1.length : Int) c0 r_6.2.1 r_6.2.2).bind fun r_7 =>
              (F_spec_l3Put sys.1 r_6.1 r_7.1 r_4.1).bind fun r_8 =>
              if r_8.2 = true then
                some (r_8.1, r_7.2.1, r_7.2.2)
              else
                (F_spec_l1DrawAny sys.1 c0 r_7.2.1 r_7.2.2).bind fun r_9 =>
                some r_9
          else
            (F_spec_l1DrawAny sys.1 c0 r_3.2.1 r_3.2.2).bind fun r_10 =>
            some r_10
        else none
      else
        (F_spec_l1DrawAny sys.1 c0 r_1.2.1 r_1.2.2).bind fun r_11 =>
        some r_11
    else
      (F_spec_l1DrawAny sys.1 c0 c1 c2).bind fun r_12 =>
      some r_12
  else
    (F_spec_l1DrawAny sys.1 c0 c1 c2).bind fun r_13 =>
    some r_13
theorem c_spec_l7DrawTerm {sys : ((List Int) × (List ((List Int) × (List Int))))} {c0 : (List Int)} {c1 : Int} {c2 : Int} {rr : ((List Int) × Int × Int)} (h : F_spec_l7DrawTerm sys c0 c1 c2 = some rr) : ACalls Tryz.prog 207 [.ptr 0 0, .d (.agg [slD 1 iD sys.1, slD 2 D_impl_Rule sys.2])] [(0, .obj 216 [.d (slD 1 (kD .u8) c0), .d (iD c1), .d (iD c2)])] 1 fun xx ss => xx = .d (slD 1 iD rr.1) ∧ ss = [(0, .obj 216 [.d (slD 1 (kD .u8) c0), .d (iD rr.2.1), .d (iD rr.2.2)])] := by
  delta F_spec_l7DrawTerm at h
  refine fn207.callsO (vcm_sound ?_)
  delta mc207
  refine stp ?_
  obtain ⟨r, hr, h⟩ := bind_some h
  refine cR (c_spec_SystemOk hr) (stp ?_)
  rcases ite_some h with ⟨hc, h⟩ | ⟨hc, h⟩
  · refine stpc hc ?_
    rcases ite_some h with ⟨hc, h⟩ | ⟨hc, h⟩
    · refine stpc hc ?_
      obtain ⟨r_1, hr_1, h⟩ := bind_some h
      refine cRo [(0, 0)] [] (c_spec_l1Once hr_1) (stp ?_)
      rcases ite_some h with ⟨hc, h⟩ | ⟨hc, h⟩
      · refine stpc hc ?_
        obtain ⟨r_2, hr_2, h⟩ := bind_some h
        refine cDo [(0, 0)] [] (c_spec_l2Draw hr_2) (stp ?_)
        obtain ⟨r_3, hr_3, h⟩ := bind_some h
        refine cDo [(0, 0)] [] (c_spec_l1Below hr_3) (stp ?_)
        obtain ⟨hp, h⟩ := need_some h
        repeat (refine need_i (by omega) ?_; refine stp ?_)
        obtain ⟨r_4, hr_4, h⟩ := bind_some h
        refine cDN (c_spec_l2Filled hr_4) (stp ?_)
        refine drQ_of (by kernel_rfl) ?_
        refine stp ?_
        rcases ite_some h with ⟨hc, h⟩ | ⟨hc, h⟩
        · refine stpc hc ?_
          obtain ⟨r_5, hr_5, h⟩ := bind_some h
          refine cRo [(0, 0)] [] (c_spec_l1Once hr_5) (stp ?_)
          rcases ite_some h with ⟨hc, h⟩ | ⟨hc, h⟩
          · refine stpc hc ?_
            cases h
            exact ⟨[3], by simp, don, don⟩
          · refine stpc hc ?_
            obtain ⟨r_6, hr_6, h⟩ := bind_some h
            refine cRo [(0, 0)] [] (c_spec_l1DrawTerm_all hr_6) (stp ?_)
            obtain ⟨r_7, hr_7, h⟩ := bind_some h
            refine cDo [(0, 0)] [] (c_spec_l1Below hr_7) (stp ?_)
            obtain ⟨r_8, hr_8, h⟩ := bind_some h
            refine cDN (c_spec_l3Put hr_8) (stp ?_)
            refine drQ_of (by kernel_rfl) ?_
            refine stp ?_
            rcases ite_some h with ⟨hc, h⟩ | ⟨hc, h⟩
            · refine stpc hc ?_
              cases h
              exact ⟨[3], by simp, don, don⟩
            · refine stpc hc ?_
              obtain ⟨r_9, hr_9, h⟩ := bind_some h
              refine cRo [(0, 0)] [] (c_spec_l1DrawAny hr_9) (stp ?_)
              cases h
              exact ⟨[3], by simp, don, don⟩
        · refine stpc hc ?_
          obtain ⟨r_10, hr_10, h⟩ := bind_some h
          refine cRo [(0, 0)] [] (c_spec_l1DrawAny hr_10) (stp ?_)
          cases h
          exact ⟨[3], by simp, don, don⟩
      · refine stpc hc ?_
        obtain ⟨r_11, hr_11, h⟩ := bind_some h
        refine cRo [(0, 0)] [] (c_spec_l1DrawAny hr_11) (stp ?_)
        cases h
        exact ⟨[3], by simp, don, don⟩
    · refine stpc hc ?_
      obtain ⟨r_12, hr_12, h⟩ := bind_some h
      refine cRo [(0, 0)] [] (c_spec_l1DrawAny hr_12) (stp ?_)
      cases h
      exact ⟨[3], by simp, don, don⟩
  · refine stpc hc ?_
    obtain ⟨r_13, hr_13, h⟩ := bind_some h
    refine cRo [(0, 0)] [] (c_spec_l1DrawAny hr_13) (stp ?_)
    cases h
    exact ⟨[3], by simp, don, don⟩

def mc124_spec_l7DrawWalk : MCode :=
  (.seq (.reg [⟨(some 3), .box 3 46 (.tmp 1), none⟩,
    ⟨(some 4), .alloc 4 40 [.sl 0 (some true) [], .sl 0 (some true) []], none⟩])
  (.seq (.reg [⟨(some 11), .mv (.tmp 0), none⟩,
    ⟨(some 12), .load 2 true (.tmp 3), none⟩,
    ⟨(some 13), .callf 207 [(.tmp 11), (.tmp 12)], none⟩,
    ⟨(some 14), .build [.sl 0 (some true) [], .sl 0 (some true) []] [(0, 1, (.tmp 13))], none⟩,
    ⟨(some 5), .alloc 5 40 [.sl 0 (some true) [], .sl 0 (some true) []], none⟩,
    ⟨none, .store 2 (.tmp 5) (.tmp 14), none⟩])
  (.seq (.reg [⟨(some 15), .fad 0 (.tmp 5), none⟩,
    ⟨(some 16), .load 1 false (.tmp 15), none⟩,
    ⟨(some 6), .mv (.tmp 16), none⟩])
  (.seq (.seq (.reg [⟨(some 17), .mv (.tmp 0), none⟩,
    ⟨(some 18), .callf 105 [(.tmp 17), (.const (.int .i64 5))], none⟩,
    ⟨(some 7), .mv (.tmp 18), none⟩])
  (.block 0
    (.loop
      (.seq (.seq (.reg [⟨(some 19), .mv (.tmp 7), none⟩,
        ⟨(some 20), .bin .gtr (.tmp 19) (.const (.int .i64 0)), none⟩])
      (.cond (.tmp 20)
        .skip
        (.exit 0)))
      (.seq (.block 1
        (.seq (.reg [⟨(some 23), .load 2 true (.tmp 3), none⟩,
          ⟨(some 24), .mv (.tmp 6), none⟩,
          ⟨(some 25), .callf 234 [(.tmp 23), (.tmp 24)], none⟩,
          ⟨(some 8), .mv (.tmp 25), none⟩])
        (.seq (.seq (.reg [⟨(some 26), .mv (.tmp 8), none⟩,
          ⟨(some 27), .len (.tmp 26), none⟩,
          ⟨(some 28), .bin .eql (.tmp 27) (.const (.int .i64 0)), none⟩])
        (.cond (.tmp 28)
          (.exit 0)
          .skip))
        (.seq (.reg [⟨(some 29), .mv (.tmp 8), none⟩,
          ⟨(some 30), .mv (.tmp 0), none⟩,
          ⟨(some 31), .mv (.tmp 8), none⟩,
          ⟨(some 32), .len (.tmp 31), none⟩,
          ⟨(some 33), .callf 105 [(.tmp 30), (.tmp 32)], none⟩,
          ⟨(some 34), .ixa 3 (.tmp 29) (.tmp 33), none⟩,
          ⟨(some 35), .load 3 true (.tmp 34), none⟩,
          ⟨(some 9), .alloc 9 84 [.lit (.int .i64 0), .lit (.int .i64 0), .sl 0 (some true) []], none⟩,
          ⟨none, .store 3 (.tmp 9) (.tmp 35), none⟩])
        (.seq (.reg [⟨(some 36), .fad 1 (.tmp 5), none⟩,
          ⟨(some 37), .load 1 false (.tmp 36), none⟩,
          ⟨(some 38), .load 3 true (.tmp 9), none⟩,
          ⟨(some 39), .bsl 39 84 3 [(.tmp 38)], none⟩,
          ⟨(some 40), .appg 40 84 3 40 (.tmp 37) (.tmp 39), none⟩,
          ⟨(some 41), .fad 1 (.tmp 5), none⟩,
          ⟨none, .store 1 (.tmp 41) (.tmp 40), none⟩])
        (.reg [⟨(some 42), .fad 2 (.tmp 9), none⟩,
          ⟨(some 43), .load 1 false (.tmp 42), none⟩,
          ⟨(some 6), .mv (.tmp 43), none⟩]))))))
      (.reg [⟨(some 21), .mv (.tmp 7), none⟩,
        ⟨(some 22), .bin .sub (.tmp 21) (.const (.int .i64 1)), none⟩,
        ⟨(some 7), .mv (.tmp 22), none⟩]))))))
  (.seq (.seq (.reg [⟨(some 44), .mv (.tmp 0), none⟩,
    ⟨(some 45), .callf 103 [(.tmp 44), (.const (.int .i64 12))], none⟩,
    ⟨(some 46), .mv (.tmp 45), none⟩,
    ⟨(some 47), .fad 1 (.tmp 5), (some (some 46, true))⟩,
    ⟨(some 48), .load 1 false (.tmp 47), (some (some 46, true))⟩,
    ⟨(some 49), .len (.tmp 48), (some (some 46, true))⟩,
    ⟨(some 50), .bin .gtr (.tmp 49) (.const (.int .i64 0)), (some (some 46, true))⟩,
    ⟨(some 51), .pick (.tmp 46) (.tmp 50) (.const (.bool false)), none⟩])
  (.cond (.tmp 51)
    (.seq (.reg [⟨(some 52), .mv (.tmp 0), none⟩,
      ⟨(some 53), .fad 1 (.tmp 5), none⟩,
      ⟨(some 54), .load 1 false (.tmp 53), none⟩,
      ⟨(some 55), .len (.tmp 54), none⟩,
      ⟨(some 56), .callf 105 [(.tmp 52), (.tmp 55)], none⟩,
      ⟨(some 10), .mv (.tmp 56), none⟩])
    (.seq (.reg [⟨(some 57), .mv (.tmp 0), none⟩,
      ⟨(some 58), .callf 105 [(.tmp 57), (.const (.int .i64 3))], none⟩])
    (.block 2
      (.seq (.reg [⟨(some 60), .bin .eql (.tmp 58) (.const (.int .i64 0)), none⟩,
        ⟨(some 59), .mv (.tmp 60), none⟩])
      (.cond (.tmp 59)
        (.draw [⟨(some 61), .fad 1 (.tmp 5), none⟩,
          ⟨(some 62), .load 1 false (.tmp 61), none⟩,
          ⟨(some 63), .mv (.tmp 10), none⟩,
          ⟨(some 64), .mv (.tmp 0), none⟩,
          ⟨(some 65), .callf 235 [(.tmp 64), (.const (.int .i64 (-1))), (.const (.int .i64 5))], none⟩,
          ⟨(some 66), .ixa 3 (.tmp 62) (.tmp 63), none⟩,
          ⟨(some 67), .fad 0 (.tmp 66), none⟩,
          ⟨none, .store 1 (.tmp 67) (.tmp 65), none⟩] [[], [0], [], [], [3], [1, 2, 0, 1, 2, 3, 4], [5, 0, 1, 2, 3, 4], [6, 4, 4, 0, 1, 2, 3, 4]])
        (.seq (.reg [⟨(some 69), .bin .eql (.tmp 58) (.const (.int .i64 1)), none⟩,
          ⟨(some 68), .mv (.tmp 69), none⟩])
        (.cond (.tmp 68)
          (.draw [⟨(some 70), .fad 1 (.tmp 5), none⟩,
            ⟨(some 71), .load 1 false (.tmp 70), none⟩,
            ⟨(some 72), .mv (.tmp 10), none⟩,
            ⟨(some 73), .mv (.tmp 0), none⟩,
            ⟨(some 74), .callf 235 [(.tmp 73), (.const (.int .i64 (-1))), (.const (.int .i64 3))], none⟩,
            ⟨(some 75), .ixa 3 (.tmp 71) (.tmp 72), none⟩,
            ⟨(some 76), .fad 1 (.tmp 75), none⟩,
            ⟨none, .store 1 (.tmp 76) (.tmp 74), none⟩] [[], [0], [], [], [3], [1, 2, 0, 1, 2, 3, 4], [5, 0, 1, 2, 3, 4], [6, 4, 4, 0, 1, 2, 3, 4]])
          (.seq (.reg [⟨(some 78), .bin .eql (.tmp 58) (.const (.int .i64 2)), none⟩,
            ⟨(some 77), .mv (.tmp 78), none⟩])
          (.cond (.tmp 77)
            (.draw [⟨(some 79), .fad 1 (.tmp 5), none⟩,
              ⟨(some 80), .load 1 false (.tmp 79), none⟩,
              ⟨(some 81), .mv (.tmp 10), none⟩,
              ⟨(some 82), .mv (.tmp 0), none⟩,
              ⟨(some 83), .fad 0 (.tmp 3), none⟩,
              ⟨(some 84), .load 1 true (.tmp 83), none⟩,
              ⟨(some 85), .callf 205 [(.tmp 82), (.tmp 84)], none⟩,
              ⟨(some 86), .ixa 3 (.tmp 80) (.tmp 81), none⟩,
              ⟨(some 87), .fad 2 (.tmp 86), none⟩,
              ⟨none, .store 1 (.tmp 87) (.tmp 85), none⟩] [[], [0], [], [], [], [4], [3, 5], [1, 2, 0, 1, 2, 3, 4, 5, 6], [7, 0, 1, 2, 3, 4, 5, 6], [8, 6, 6, 0, 1, 2, 3, 4, 5, 6]])
            .skip)))))))))
    .skip))
  (.seq (.reg [⟨(some 88), .load 2 true (.tmp 5), none⟩,
    ⟨none, .store 2 (.tmp 4) (.tmp 88), none⟩])
  .ret))))))
theorem fn124_spec_l7DrawWalk : MFn Tryz.prog 124 mc124_spec_l7DrawWalk 89 [.cell 4 2 true] :=
  ⟨Tryz.f124, Tryz.func124, by kernel_rfl, Tryz.ntmps124, by kernel_rfl⟩
noncomputable def F_spec_l7DrawWalk_l1 (sys : ((List Int) × (List ((List Int) × (List Int))))) (c0 : (List Int)) (r : ((List Int) × Int × Int)) : ((List Int) × Int × Int × Int × (List (Int × Int × (List Int)))) → Option (((List Int) × Int × Int × Int × (List (Int × Int × (List Int)))) ⊕ (((List Int) × (List (Int × Int × (List Int)))) × Int × Int))
  | (now, n, c, c_1, g40) =>
    if (decide (0 < n)) = true then
      (F_spec_StepsFrom sys now).bind fun r_2 =>
      if ((r_2.length : Int) == 0) = true then
        Option.map Sum.inr (
          (F_spec_l1Once 12 c0 c c_1).bind fun r_3 =>
          if r_3.1 = true then
            if (decide (0 < (g40.length : Int))) = true then
              (F_spec_l1Below (g40.length : Int) c0 r_3.2.1 r_3.2.2).bind fun r_4 =>
              (F_spec_l1Below 3 c0 r_4.2.1 r_4.2.2).bind fun r_5 =>
              if (r_5.1 == 0) = true then
                (F_spec_l1From (-1) 5 c0 r_5.2.1 r_5.2.2).bind fun r_6 =>
                if 0 ≤ r_4.1 ∧ r_4.1 < (g40.length : Int) then
                  some ((r.1, (g40.set r_4.1.toNat (r_6.1, (g40.getD r_4.1.toNat default).2.1, (g40.getD r_4.1.toNat default).2.2))), r_6.2.1, r_6.2.2)
                else none
              else
                if (r_5.1 == 1) = true then
                  (F_spec_l1From (-1) 3 c0 r_5.2.1 r_5.2.2).bind fun r_7 =>
                  if 0 ≤ r_4.1 ∧ r_4.1 < (g40.length : Int) then
                    some ((r.1, (g40.set r_4.1.toNat ((g40.getD r_4.1.toNat default).1, r_7.1, (g40.getD r_4.1.toNat default).2.2))), r_7.2.1, r_7.2.2)
                  else none
                else
                  if (r_5.1 == 2) = true then
                    (F_spec_l1DrawAny sys.1 c0 r_5.2.1 r_5.2.2).bind fun r_8 =>
                    if 0 ≤ r_4.1 ∧ r_4.1 < (g40.length : Int) then
                      some ((r.1, (g40.set r_4.1.toNat ((g40.getD r_4.1.toNat default).1, (g40.getD r_4.1.toNat default).2.1, r_8.1))), r_8.2.1, r_8.2.2)
                    else none
                  else
                    some ((r.1, g40), r_5.2.1, r_5.2.2)
            else
              some ((r.1, g40), r_3.2.1, r_3.2.2)
          else
            some ((r.1, g40), r_3.2.1, r_3.2.2))
      else
        (F_spec_l1Below (r_2.length : Int) c0 c c_1).bind fun r_9 =>
        if 0 ≤ r_9.1 ∧ r_9.1 < (r_2.length : Int) then
          if (g40.length + 1) * 40 ≤ 140737488355328 then
            some (.inl ((r_2.getD r_9.1.toNat default).2.2, (IntKind.i64.wrap (n - 1)), r_9.2.1, r_9.2.2, (g40 ++ [((r_2.getD r_9.1.toNat default).1, (r_2.getD r_9.1.toNat default).2.1, (r_2.getD r_9.1.toNat default).2.2)])))
          else none
        else none
    else
      Option.map Sum.inr (
        (F_spec_l1Once 12 c0 c c_1).bind fun r_10 =>
        if r_10.1 = true then
          if (decide (0 < (g40.length : Int))) = true then
            (F_spec_l1Below (g40.length : Int) c0 r_10.2.1 r_10.2.2).bind fun r_11 =>
            (F_spec_l1Below 3 c0 r_11.2.1 r_11.2.2).bind fun r_12 =>
            if (r_12.1 == 0) = true then
              (F_spec_l1From (-1) 5 c0 r_12.2.1 r_12.2.2).bind fun r_13 =>
              if 0 ≤ r_11.1 ∧ r_11.1 < (g40.length : Int) then
                some ((r.1, (g40.set r_11.1.toNat (r_13.1, (g40.getD r_11.1.toNat default).2.1, (g40.getD r_11.1.toNat default).2.2))), r_13.2.1, r_13.2.2)
              else none
            else
              if (r_12.1 == 1) = true then
                (F_spec_l1From (-1) 3 c0 r_12.2.1 r_12.2.2).bind fun r_14 =>
                if 0 ≤ r_11.1 ∧ r_11.1 < (g40.length : Int) then
                  some ((r.1, (g40.set r_11.1.toNat ((g40.getD r_11.1.toNat default).1, r_14.1, (g40.getD r_11.1.toNat default).2.2))), r_14.2.1, r_14.2.2)
                else none
              else
                if (r_12.1 == 2) = true then
                  (F_spec_l1DrawAny sys.1 c0 r_12.2.1 r_12.2.2).bind fun r_15 =>
                  if 0 ≤ r_11.1 ∧ r_11.1 < (g40.length : Int) then
                    some ((r.1, (g40.set r_11.1.toNat ((g40.getD r_11.1.toNat default).1, (g40.getD r_11.1.toNat default).2.1, r_15.1))), r_15.2.1, r_15.2.2)
                  else none
                else
                  some ((r.1, g40), r_12.2.1, r_12.2.2)
          else
            some ((r.1, g40), r_10.2.1, r_10.2.2)
        else
          some ((r.1, g40), r_10.2.1, r_10.2.2))
noncomputable def F_spec_l7DrawWalk (sys : ((List Int) × (List ((List Int) × (List Int))))) (c0 : (List Int)) (c1 : Int) (c2 : Int) : Option (((List Int) × (List (Int × Int × (List Int)))) × Int × Int) :=
  (F_spec_l7DrawTerm sys c0 c1 c2).bind fun r =>
  (F_spec_l1Below 5 c0 r.2.1 r.2.2).bind fun r_1 =>
  loopC (F_spec_l7DrawWalk_l1 sys c0 r) (r.1, r_1.1, r_1.2.1, r_1.2.2, [])
theorem c_spec_l7DrawWalk {sys : ((List Int) × (List ((List Int) × (List Int))))} {c0 : (List Int)} {c1 : Int} {c2 : Int} {rr : (((List Int) × (List (Int × Int × (List Int)))) × Int × Int)} (h : F_spec_l7DrawWalk sys c0 c1 c2 = some rr) : ACalls Tryz.prog 124 [.ptr 0 0, .d (.agg [slD 1 iD sys.1, slD 2 D_impl_Rule sys.2])] [(0, .obj 216 [.d (slD 1 (kD .u8) c0), .d (iD c1), .d (iD c2)])] 1 fun xx ss => xx = .d (.agg [slD 1 iD rr.1.1, slD 3 D_impl_Step rr.1.2]) ∧ ss = [(0, .obj 216 [.d (slD 1 (kD .u8) c0), .d (iD rr.2.1), .d (iD rr.2.2)])] := by
  delta F_spec_l7DrawWalk at h
  refine fn124_spec_l7DrawWalk.callsD (vcm_sound ?_)
  delta mc124_spec_l7DrawWalk
  refine stp ?_
  obtain ⟨r, hr, h⟩ := bind_some h
  refine cRo [(0, 0)] [] (c_spec_l7DrawTerm hr) (stp ?_)
  obtain ⟨r_1, hr_1, h⟩ := bind_some h
  refine cRo [(0, 0)] [] (c_spec_l1Below hr_1) (stp ?_)
  refine m_loopF h [6, 7, 8, 9, 19, 20, 21, 22, 23, 24, 25, 26, 27, 28, 29, 30, 31, 32, 33, 34, 35, 36, 37, 38, 39, 40, 41, 42, 43] (fun pp => [(6, .d (slD 1 iD pp.1)), (7, .d (iD pp.2.1))]) (fun pp => [(0, .obj 216 [.d (slD 1 (kD .u8) c0), .d (iD pp.2.2.1), .d (iD pp.2.2.2.1)]), (3, .obj 46 [.d (slD 1 iD sys.1), .d (slD 2 D_impl_Rule sys.2)]), (4, .obj 40 [.d (.sl 0 (some true) []), .d (.sl 0 (some true) [])]), (5, .obj 40 [.d (slD 1 iD r.1), .gow 3 40 pp.2.2.2.2.length]), (40, .gro 84 3 pp.2.2.2.2.length (groL D_impl_Step pp.2.2.2.2))]) ?_ ?_
  · try dsimp only
    refine (Weak.thawCellG 5 1 40 84 3 rfl rfl rfl).trans ?_
    exact wk
  · rintro ⟨now, n, c, c_1, g40⟩ t1 h hb1
    unfold F_spec_l7DrawWalk_l1 at h
    try dsimp only at h
    refine vcm_sound (stp ?_)
    rcases ite_some h with ⟨hc, h⟩ | ⟨hc, h⟩
    · refine stpc hc ?_
      obtain ⟨r_2, hr_2, h⟩ := bind_some h
      refine cR (c_spec_StepsFrom hr_2) (stp ?_)
      rcases ite_some h with ⟨hc, h⟩ | ⟨hc, h⟩
      · refine stpc hc ?_
        replace h := inr_some h hb1
        obtain ⟨r_3, hr_3, h⟩ := bind_some h
        refine cRo [(0, 0)] [] (c_spec_l1Once hr_3) (stp ?_)
        rcases ite_some h with ⟨hc, h⟩ | ⟨hc, h⟩
        · refine stpc hc ?_
          rcases ite_some h with ⟨hc, h⟩ | ⟨hc, h⟩
          · refine stpc hc ?_
            obtain ⟨r_4, hr_4, h⟩ := bind_some h
            refine cRo [(0, 0)] [] (c_spec_l1Below hr_4) (stp ?_)
            obtain ⟨r_5, hr_5, h⟩ := bind_some h
            refine cRo [(0, 0)] [] (c_spec_l1Below hr_5) (stp ?_)
            rcases ite_some h with ⟨hc, h⟩ | ⟨hc, h⟩
            · refine stpc hc ?_
              obtain ⟨r_6, hr_6, h⟩ := bind_some h
              refine cDo [(0, 0)] [] (c_spec_l1From hr_6) (stp ?_)
              obtain ⟨hp, h⟩ := need_some h
              repeat (refine need_i (by omega) ?_; refine stp ?_)
              repeat (refine need_i (by omega) ?_; refine stp ?_)
              refine drQ_of (by kernel_rfl) ?_
              refine stp ?_
              cases h
              exact Done.trans ((Done.trans (Done.told (t := [(0, .obj 216 [.d (slD 1 (kD .u8) c0), .d (iD r_6.2.1), .d (iD r_6.2.2)]), (3, .obj 46 [.d (slD 1 iD sys.1), .d (slD 2 D_impl_Rule sys.2)]), (4, .obj 40 [.d (slD 1 iD r.1), .gow 3 40 ((g40.set r_4.1.toNat (r_6.1, (g40.getD r_4.1.toNat default).2.1, (g40.getD r_4.1.toNat default).2.2)).length)]), (5, .obj 40 [.d (slD 1 iD r.1), .gow 3 40 ((g40.set r_4.1.toNat (r_6.1, (g40.getD r_4.1.toNat default).2.1, (g40.getD r_4.1.toNat default).2.2)).length)]), (40, .gro 84 3 ((g40.set r_4.1.toNat (r_6.1, (g40.getD r_4.1.toNat default).2.1, (g40.getD r_4.1.toNat default).2.2)).length) (groL D_impl_Step (g40.set r_4.1.toNat (r_6.1, (g40.getD r_4.1.toNat default).2.1, (g40.getD r_4.1.toNat default).2.2))))]) (AV.le_refl _) (by exact (stoC (ObLe.refl _) (stoC (ObLe.refl _) (stoC ⟨rfl, don⟩ (stoC ⟨rfl, don⟩ (stoC ⟨rfl, rfl, by simp, (by show EnvLe (List.map AV.d (List.take (r_4.1.toNat * 3 + 0) _ ++ _ ++ _)) _; exact gro_setE (k := 0) (by omega) (by simp) (by simp) don)⟩ stoN))))))) (Done.trans (Done.fz 40 D_impl_Step rfl (g40.set r_4.1.toNat (r_6.1, (g40.getD r_4.1.toNat default).2.1, (g40.getD r_4.1.toNat default).2.2))) (Done.drops [3, 4, 5] (by simp))))) (Done.told frd don)
            · refine stpc hc ?_
              rcases ite_some h with ⟨hc, h⟩ | ⟨hc, h⟩
              · refine stpc hc ?_
                obtain ⟨r_7, hr_7, h⟩ := bind_some h
                refine cDo [(0, 0)] [] (c_spec_l1From hr_7) (stp ?_)
                obtain ⟨hp, h⟩ := need_some h
                repeat (refine need_i (by omega) ?_; refine stp ?_)
                repeat (refine need_i (by omega) ?_; refine stp ?_)
                refine drQ_of (by kernel_rfl) ?_
                refine stp ?_
                cases h
                exact Done.trans ((Done.trans (Done.told (t := [(0, .obj 216 [.d (slD 1 (kD .u8) c0), .d (iD r_7.2.1), .d (iD r_7.2.2)]), (3, .obj 46 [.d (slD 1 iD sys.1), .d (slD 2 D_impl_Rule sys.2)]), (4, .obj 40 [.d (slD 1 iD r.1), .gow 3 40 ((g40.set r_4.1.toNat ((g40.getD r_4.1.toNat default).1, r_7.1, (g40.getD r_4.1.toNat default).2.2)).length)]), (5, .obj 40 [.d (slD 1 iD r.1), .gow 3 40 ((g40.set r_4.1.toNat ((g40.getD r_4.1.toNat default).1, r_7.1, (g40.getD r_4.1.toNat default).2.2)).length)]), (40, .gro 84 3 ((g40.set r_4.1.toNat ((g40.getD r_4.1.toNat default).1, r_7.1, (g40.getD r_4.1.toNat default).2.2)).length) (groL D_impl_Step (g40.set r_4.1.toNat ((g40.getD r_4.1.toNat default).1, r_7.1, (g40.getD r_4.1.toNat default).2.2))))]) (AV.le_refl _) (by exact (stoC (ObLe.refl _) (stoC (ObLe.refl _) (stoC ⟨rfl, don⟩ (stoC ⟨rfl, don⟩ (stoC ⟨rfl, rfl, by simp, gro_setE (k := 1) (by omega) (by simp) (by simp) don⟩ stoN))))))) (Done.trans (Done.fz 40 D_impl_Step rfl (g40.set r_4.1.toNat ((g40.getD r_4.1.toNat default).1, r_7.1, (g40.getD r_4.1.toNat default).2.2))) (Done.drops [3, 4, 5] (by simp))))) (Done.told frd don)
              · refine stpc hc ?_
                rcases ite_some h with ⟨hc, h⟩ | ⟨hc, h⟩
                · refine stpc hc ?_
                  obtain ⟨r_8, hr_8, h⟩ := bind_some h
                  refine cDo [(0, 0)] [] (c_spec_l1DrawAny hr_8) (stp ?_)
                  obtain ⟨hp, h⟩ := need_some h
                  repeat (refine need_i (by omega) ?_; refine stp ?_)
                  repeat (refine need_i (by omega) ?_; refine stp ?_)
                  refine drQ_of (by kernel_rfl) ?_
                  refine stp ?_
                  cases h
                  exact Done.trans ((Done.trans (Done.told (t := [(0, .obj 216 [.d (slD 1 (kD .u8) c0), .d (iD r_8.2.1), .d (iD r_8.2.2)]), (3, .obj 46 [.d (slD 1 iD sys.1), .d (slD 2 D_impl_Rule sys.2)]), (4, .obj 40 [.d (slD 1 iD r.1), .gow 3 40 ((g40.set r_4.1.toNat ((g40.getD r_4.1.toNat default).1, (g40.getD r_4.1.toNat default).2.1, r_8.1)).length)]), (5, .obj 40 [.d (slD 1 iD r.1), .gow 3 40 ((g40.set r_4.1.toNat ((g40.getD r_4.1.toNat default).1, (g40.getD r_4.1.toNat default).2.1, r_8.1)).length)]), (40, .gro 84 3 ((g40.set r_4.1.toNat ((g40.getD r_4.1.toNat default).1, (g40.getD r_4.1.toNat default).2.1, r_8.1)).length) (groL D_impl_Step (g40.set r_4.1.toNat ((g40.getD r_4.1.toNat default).1, (g40.getD r_4.1.toNat default).2.1, r_8.1))))]) (AV.le_refl _) (by exact (stoC (ObLe.refl _) (stoC (ObLe.refl _) (stoC ⟨rfl, don⟩ (stoC ⟨rfl, don⟩ (stoC ⟨rfl, rfl, by simp, gro_setE (k := 2) (by omega) (by simp) (by simp) don⟩ stoN))))))) (Done.trans (Done.fz 40 D_impl_Step rfl (g40.set r_4.1.toNat ((g40.getD r_4.1.toNat default).1, (g40.getD r_4.1.toNat default).2.1, r_8.1))) (Done.drops [3, 4, 5] (by simp))))) (Done.told frd don)
                · refine stpc hc ?_
                  cases h
                  exact Done.trans ((Done.trans (Done.fz 40 D_impl_Step rfl g40) (Done.drops [3, 4, 5] (by simp)))) (Done.told frd don)
          · refine stpc hc ?_
            cases h
            exact Done.trans ((Done.trans (Done.fz 40 D_impl_Step rfl g40) (Done.drops [3, 4, 5] (by simp)))) (Done.told frd don)
        · refine stpc hc ?_
          cases h
          exact Done.trans ((Done.trans (Done.fz 40 D_impl_Step rfl g40) (Done.drops [3, 4, 5] (by simp)))) (Done.told frd don)
      · refine stpc hc ?_
        obtain ⟨r_9, hr_9, h⟩ := bind_some h
        refine cRo [(0, 0)] [] (c_spec_l1Below hr_9) (stp ?_)
        obtain ⟨hp, h⟩ := need_some h
        repeat (refine need_i (by omega) ?_; refine stp ?_)
        obtain ⟨hp, h⟩ := need_some h
        repeat (refine need_i (by omega) ?_; refine stp ?_)
        cases h
        refine ⟨_, rfl, ?_⟩
        refine (Weak.leS (s' := [(0, .obj 216 [.d (slD 1 (kD .u8) c0), .d (iD r_9.2.1), .d (iD r_9.2.2)]), (3, .obj 46 [.d (slD 1 iD sys.1), .d (slD 2 D_impl_Rule sys.2)]), (4, .obj 40 [.d (.sl 0 (some true) []), .d (.sl 0 (some true) [])]), (5, .obj 40 [.d (slD 1 iD r.1), .gow 3 40 ((g40 ++ [((r_2.getD r_9.1.toNat default).1, (r_2.getD r_9.1.toNat default).2.1, (r_2.getD r_9.1.toNat default).2.2)]).length)]), (9, .obj 84 [.d (iD ((r_2.getD r_9.1.toNat default).1)), .d (iD ((r_2.getD r_9.1.toNat default).2.1)), .d (slD 1 iD ((r_2.getD r_9.1.toNat default).2.2))]), (39, .tok 84 3 1), (40, .gro 84 3 ((g40 ++ [((r_2.getD r_9.1.toNat default).1, (r_2.getD r_9.1.toNat default).2.1, (r_2.getD r_9.1.toNat default).2.2)]).length) (groL D_impl_Step (g40 ++ [((r_2.getD r_9.1.toNat default).1, (r_2.getD r_9.1.toNat default).2.1, (r_2.getD r_9.1.toNat default).2.2)])))]) (EnvLe.refl _) (by exact (stoC (ObLe.refl _) (stoC (ObLe.refl _) (stoC (ObLe.refl _) (stoC ⟨rfl, don⟩ (stoC (ObLe.refl _) (stoC (ObLe.refl _) (stoC ⟨rfl, rfl, by simp, gro_snoc don⟩ stoN))))))))).trans ?_
        refine (Weak.drop 9 (by omega)).trans ?_
        refine (Weak.drop 39 (by omega)).trans ?_
        exact wk
    · refine stpc hc ?_
      replace h := inr_some h hb1
      obtain ⟨r_10, hr_10, h⟩ := bind_some h
      refine cRo [(0, 0)] [] (c_spec_l1Once hr_10) (stp ?_)
      rcases ite_some h with ⟨hc, h⟩ | ⟨hc, h⟩
      · refine stpc hc ?_
        rcases ite_some h with ⟨hc, h⟩ | ⟨hc, h⟩
        · refine stpc hc ?_
          obtain ⟨r_11, hr_11, h⟩ := bind_some h
          refine cRo [(0, 0)] [] (c_spec_l1Below hr_11) (stp ?_)
          obtain ⟨r_12, hr_12, h⟩ := bind_some h
          refine cRo [(0, 0)] [] (c_spec_l1Below hr_12) (stp ?_)
          rcases ite_some h with ⟨hc, h⟩ | ⟨hc, h⟩
          · refine stpc hc ?_
            obtain ⟨r_13, hr_13, h⟩ := bind_some h
            refine cDo [(0, 0)] [] (c_spec_l1From hr_13) (stp ?_)
            obtain ⟨hp, h⟩ := need_some h
            repeat (refine need_i (by omega) ?_; refine stp ?_)
            repeat (refine need_i (by omega) ?_; refine stp ?_)
            refine drQ_of (by kernel_rfl) ?_
            refine stp ?_
            cases h
            exact Done.trans ((Done.trans (Done.told (t := [(0, .obj 216 [.d (slD 1 (kD .u8) c0), .d (iD r_13.2.1), .d (iD r_13.2.2)]), (3, .obj 46 [.d (slD 1 iD sys.1), .d (slD 2 D_impl_Rule sys.2)]), (4, .obj 40 [.d (slD 1 iD r.1), .gow 3 40 ((g40.set r_11.1.toNat (r_13.1, (g40.getD r_11.1.toNat default).2.1, (g40.getD r_11.1.toNat default).2.2)).length)]), (5, .obj 40 [.d (slD 1 iD r.1), .gow 3 40 ((g40.set r_11.1.toNat (r_13.1, (g40.getD r_11.1.toNat default).2.1, (g40.getD r_11.1.toNat default).2.2)).length)]), (40, .gro 84 3 ((g40.set r_11.1.toNat (r_13.1, (g40.getD r_11.1.toNat default).2.1, (g40.getD r_11.1.toNat default).2.2)).length) (groL D_impl_Step (g40.set r_11.1.toNat (r_13.1, (g40.getD r_11.1.toNat default).2.1, (g40.getD r_11.1.toNat default).2.2))))]) (AV.le_refl _) (by exact (stoC (ObLe.refl _) (stoC (ObLe.refl _) (stoC ⟨rfl, don⟩ (stoC ⟨rfl, don⟩ (stoC ⟨rfl, rfl, by simp, (by show EnvLe (List.map AV.d (List.take (r_11.1.toNat * 3 + 0) _ ++ _ ++ _)) _; exact gro_setE (k := 0) (by omega) (by simp) (by simp) don)⟩ stoN))))))) (Done.trans (Done.fz 40 D_impl_Step rfl (g40.set r_11.1.toNat (r_13.1, (g40.getD r_11.1.toNat default).2.1, (g40.getD r_11.1.toNat default).2.2))) (Done.drops [3, 4, 5] (by simp))))) (Done.told frd don)
          · refine stpc hc ?_
            rcases ite_some h with ⟨hc, h⟩ | ⟨hc, h⟩
            · refine stpc hc ?_
              obtain ⟨r_14, hr_14, h⟩ := bind_some h
              refine cDo [(0, 0)] [] (c_spec_l1From hr_14) (stp ?_)
              obtain ⟨hp, h⟩ := need_some h
              repeat (refine need_i (by omega) ?_; refine stp ?_)
              repeat (refine need_i (by omega) ?_; refine stp ?_)
              refine drQ_of (by kernel_rfl) ?_
              refine stp ?_
              cases h
              exact Done.trans ((Done.trans (Done.told (t := [(0, .obj 216 [.d (slD 1 (kD .u8) c0), .d (iD r_14.2.1), .d (iD r_14.2.2)]), (3, .obj 46 [.d (slD 1 iD sys.1), .d (slD 2 D_impl_Rule sys.2)]), (4, .obj 40 [.d (slD 1 iD r.1), .gow 3 40 ((g40.set r_11.1.toNat ((g40.getD r_11.1.toNat default).1, r_14.1, (g40.getD r_11.1.toNat default).2.2)).length)]), (5, .obj 40 [.d (slD 1 iD r.1), .gow 3 40 ((g40.set r_11.1.toNat ((g40.getD r_11.1.toNat default).1, r_14.1, (g40.getD r_11.1.toNat default).2.2)).length)]), (40, .gro 84 3 ((g40.set r_11.1.toNat ((g40.getD r_11.1.toNat default).1, r_14.1, (g40.getD r_11.1.toNat default).2.2)).length) (groL D_impl_Step (g40.set r_11.1.toNat ((g40.getD r_11.1.toNat default).1, r_14.1, (g40.getD r_11.1.toNat default).2.2))))]) (AV.le_refl _) (by exact (stoC (ObLe.refl _) (stoC (ObLe.refl _) (stoC ⟨rfl, don⟩ (stoC ⟨rfl, don⟩ (stoC ⟨rfl, rfl, by simp, gro_setE (k := 1) (by omega) (by simp) (by simp) don⟩ stoN))))))) (Done.trans (Done.fz 40 D_impl_Step rfl (g40.set r_11.1.toNat ((g40.getD r_11.1.toNat default).1, r_14.1, (g40.getD r_11.1.toNat default).2.2))) (Done.drops [3, 4, 5] (by simp))))) (Done.told frd don)
            · refine stpc hc ?_
              rcases ite_some h with ⟨hc, h⟩ | ⟨hc, h⟩
              · refine stpc hc ?_
                obtain ⟨r_15, hr_15, h⟩ := bind_some h
                refine cDo [(0, 0)] [] (c_spec_l1DrawAny hr_15) (stp ?_)
                obtain ⟨hp, h⟩ := need_some h
                repeat (refine need_i (by omega) ?_; refine stp ?_)
                repeat (refine need_i (by omega) ?_; refine stp ?_)
                refine drQ_of (by kernel_rfl) ?_
                refine stp ?_
                cases h
                exact Done.trans ((Done.trans (Done.told (t := [(0, .obj 216 [.d (slD 1 (kD .u8) c0), .d (iD r_15.2.1), .d (iD r_15.2.2)]), (3, .obj 46 [.d (slD 1 iD sys.1), .d (slD 2 D_impl_Rule sys.2)]), (4, .obj 40 [.d (slD 1 iD r.1), .gow 3 40 ((g40.set r_11.1.toNat ((g40.getD r_11.1.toNat default).1, (g40.getD r_11.1.toNat default).2.1, r_15.1)).length)]), (5, .obj 40 [.d (slD 1 iD r.1), .gow 3 40 ((g40.set r_11.1.toNat ((g40.getD r_11.1.toNat default).1, (g40.getD r_11.1.toNat default).2.1, r_15.1)).length)]), (40, .gro 84 3 ((g40.set r_11.1.toNat ((g40.getD r_11.1.toNat default).1, (g40.getD r_11.1.toNat default).2.1, r_15.1)).length) (groL D_impl_Step (g40.set r_11.1.toNat ((g40.getD r_11.1.toNat default).1, (g40.getD r_11.1.toNat default).2.1, r_15.1))))]) (AV.le_refl _) (by exact (stoC (ObLe.refl _) (stoC (ObLe.refl _) (stoC ⟨rfl, don⟩ (stoC ⟨rfl, don⟩ (stoC ⟨rfl, rfl, by simp, gro_setE (k := 2) (by omega) (by simp) (by simp) don⟩ stoN))))))) (Done.trans (Done.fz 40 D_impl_Step rfl (g40.set r_11.1.toNat ((g40.getD r_11.1.toNat default).1, (g40.getD r_11.1.toNat default).2.1, r_15.1))) (Done.drops [3, 4, 5] (by simp))))) (Done.told frd don)
              · refine stpc hc ?_
                cases h
                exact Done.trans ((Done.trans (Done.fz 40 D_impl_Step rfl g40) (Done.drops [3, 4, 5] (by simp)))) (Done.told frd don)
        · refine stpc hc ?_
          cases h
          exact Done.trans ((Done.trans (Done.fz 40 D_impl_Step rfl g40) (Done.drops [3, 4, 5] (by simp)))) (Done.told frd don)
      · refine stpc hc ?_
        cases h
        exact Done.trans ((Done.trans (Done.fz 40 D_impl_Step rfl g40) (Done.drops [3, 4, 5] (by simp)))) (Done.told frd don)

end Go.Proofs.YtcaljngigbfadaaGreat
namespace Go.Proofs.YtcaljngigbfadaaGreat
open Go Abx
attribute [local irreducible] vcm vgo vdr vrun vdrun MWp GhostQ BrC BrO BrG BrD BrH AmbO callR callD drQ EnvLe StoLe
set_option maxHeartbeats 4000000
def mc37 : MCode :=
 (.seq (.reg [⟨some 2, .alloc 2 46 [.sl 0 (some true) [], .sl 0 (some true) []], none⟩, ⟨some 3, .mv (.const (.slice none 0 0)), none⟩, ⟨some 4, .alloc 4 40 [.sl 0 (some true) [], .sl 0 (some true) []], none⟩]) (.seq (.reg [⟨some 8, .mv (.tmp 0), none⟩, ⟨some 9, .callf 100 [(.tmp 8)], none⟩, ⟨some 5, .mv (.tmp 9), none⟩]) (.seq (.reg [⟨some 11, .mv (.tmp 5), none⟩, ⟨some 12, .callf 123 [(.tmp 11)], none⟩, ⟨some 10, .mv (.tmp 12), none⟩, ⟨some 13, .ext (.tmp 10) 0, none⟩, ⟨some 14, .ext (.tmp 10) 1, none⟩, ⟨some 6, .alloc 6 46 [.sl 0 (some true) [], .sl 0 (some true) []], none⟩, ⟨none, .store 2 (.tmp 6) (.tmp 13), none⟩, ⟨some 7, .mv (.tmp 14), none⟩]) (.seq (.draw [⟨some 15, .load 2 true (.tmp 6), none⟩, ⟨some 16, .mv (.tmp 7), none⟩, ⟨some 17, .mv (.tmp 5), none⟩, ⟨some 18, .load 2 true (.tmp 6), none⟩, ⟨some 19, .callf 124 [(.tmp 17), (.tmp 18)], none⟩, ⟨none, .store 2 (.tmp 2) (.tmp 15), none⟩, ⟨some 3, .mv (.tmp 16), none⟩, ⟨none, .store 2 (.tmp 4) (.tmp 19), none⟩] [[], [], [], [], [2, 3], [0, 4, 0], [1, 5, 0, 1, 5], [4, 6, 0, 1, 2, 3, 4, 5, 6]]) .ret))))
theorem fn37 : MFn Tryz.prog 37 mc37 20 [.cell 2 2 true, .tmp 3, .cell 4 2 true] :=
  ⟨Tryz.f37, Tryz.func37, by kernel_rfl, Tryz.ntmps37, by kernel_rfl⟩
noncomputable def F_spec_DrawBoundedWalk (code : (List Int)) : Option (((List Int) × (List ((List Int) × (List Int)))) × (List (Int × (List Int))) × ((List Int) × (List (Int × Int × (List Int))))) :=
  (F_spec_l1New code).bind fun r =>
  (F_spec_l25Draw r.1 r.2.1 r.2.2).bind fun r_1 =>
  (F_spec_l7DrawWalk r_1.1 r.1 r_1.2.2.1 r_1.2.2.2).bind fun r_2 =>
  some (r_1.1, r_1.2.1, r_2.1)
theorem c_spec_DrawBoundedWalk {code : (List Int)} {rr : (((List Int) × (List ((List Int) × (List Int)))) × (List (Int × (List Int))) × ((List Int) × (List (Int × Int × (List Int)))))} (h : F_spec_DrawBoundedWalk code = some rr) : PFunN Tryz.prog 37 [(slD 1 (kD .u8)) code] [D_impl_System rr.1, (slD 2 D_impl_Poly) rr.2.1, D_impl_Walk rr.2.2] := by
  delta F_spec_DrawBoundedWalk at h
  refine fn37.pureLN (vcm_sound ?_)
  delta mc37
  refine stp ?_
  obtain ⟨r, hr, h⟩ := bind_some h
  refine cRo [] [(27, 9)] (c_spec_l1New hr) (stp ?_)
  obtain ⟨r_1, hr_1, h⟩ := bind_some h
  refine cRo [(0, 9)] [] (c_spec_l25Draw hr_1) (stp ?_)
  obtain ⟨r_2, hr_2, h⟩ := bind_some h
  refine cDo [(0, 9)] [] (c_spec_l7DrawWalk hr_2) (stp ?_)
  refine drQ_of (by kernel_rfl) ?_
  refine stp ?_
  cases h
  exact don

end Go.Proofs.YtcaljngigbfadaaGreat
