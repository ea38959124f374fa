/- Functions of the program and the equations that they compute, draws, second part; nothing is assumed. -/
import Derived.Test.YtcaljngigbfadaaGreatWf
set_option linter.unusedSimpArgs false
set_option linter.unusedVariables false
set_option linter.unusedSectionVars false
namespace Go.Proofs.YtcaljngigbfadaaGreat
noncomputable section
open Go Abx
attribute [local irreducible] vcm vgo vdr vrun vdrun MWp GhostQ BrC BrO BrG BrD BrH AmbO callR callD drQ EnvLe StoLe
set_option maxHeartbeats 4000000
def mc297 : MCode :=
 (.seq (.reg [⟨some 3, .box 3 43 (.tmp 1), none⟩, ⟨some 4, .alloc 4 146 [.sl 0 (some true) [], .sl 0 (some true) []], none⟩]) (.seq (.draw [⟨some 11, .mv (.tmp 0), none⟩, ⟨some 12, .load 1 true (.tmp 3), none⟩, ⟨some 13, .mv (.tmp 0), none⟩, ⟨some 14, .callf 105 [.tmp 13, (.const (.int .i64 2))], none⟩, ⟨some 15, .bin .add (.const (.int .i64 2)) (.tmp 14), none⟩, ⟨some 16, .callf 298 [.tmp 11, .tmp 12, .tmp 15, (.const (.int .i64 2))], none⟩, ⟨some 5, .mv (.tmp 16), none⟩] [[], [], [], [2], [3], [0, 1, 4, 3], [5, 5, 0, 1, 2, 3, 4, 5]]) (.seq (.seq (.reg [⟨some 17, .mv (.tmp 5), none⟩, ⟨some 18, .ixa 1 (.tmp 17) (.const (.int .i64 0)), none⟩, ⟨some 19, .load 1 false (.tmp 18), none⟩, ⟨some 20, .bin .lss (.tmp 19) (.const (.int .i64 0)), none⟩]) (.cond (.tmp 20) (.seq (.reg [⟨some 21, .mv (.tmp 0), none⟩, ⟨some 22, .fad 0 (.tmp 3), none⟩, ⟨some 23, .load 1 false (.tmp 22), none⟩, ⟨some 24, .len (.tmp 23), none⟩, ⟨some 25, .callf 105 [.tmp 21, .tmp 24], none⟩, ⟨some 6, .mv (.tmp 25), none⟩]) (.seq (.reg [⟨some 26, .mv (.tmp 6), none⟩, ⟨some 27, .bsl 27 2 1 [.tmp 26], none⟩, ⟨some 5, .mv (.tmp 27), none⟩]) (.seq (.reg [⟨some 28, .fad 0 (.tmp 3), none⟩, ⟨some 29, .load 1 false (.tmp 28), none⟩, ⟨some 30, .mv (.tmp 6), none⟩, ⟨some 31, .ixa 1 (.tmp 29) (.tmp 30), none⟩, ⟨some 32, .load 1 false (.tmp 31), none⟩, ⟨some 7, .mv (.tmp 32), none⟩]) (.block 0 (.loop (.seq (.seq (.reg [⟨some 33, .mv (.tmp 7), none⟩, ⟨some 34, .bin .gtr (.tmp 33) (.const (.int .i64 0)), none⟩]) (.cond (.tmp 34) .skip (.exit 0))) (.seq (.block 1 (.reg [⟨some 37, .mv (.tmp 5), none⟩, ⟨some 38, .mv (.tmp 0), none⟩, ⟨some 39, .load 1 true (.tmp 3), none⟩, ⟨some 40, .callf 298 [.tmp 38, .tmp 39, (.const (.int .i64 1)), (.const (.int .i64 2))], none⟩, ⟨some 41, .app 41 2 1 8 (.tmp 37) (.tmp 40), none⟩, ⟨some 5, .mv (.tmp 41), none⟩])) (.reg [⟨some 35, .mv (.tmp 7), none⟩, ⟨some 36, .bin .sub (.tmp 35) (.const (.int .i64 1)), none⟩, ⟨some 7, .mv (.tmp 36), none⟩])))))))) .skip)) (.seq (.draw [⟨some 42, .mv (.tmp 0), none⟩, ⟨some 43, .load 1 true (.tmp 3), none⟩, ⟨some 44, .mv (.tmp 0), none⟩, ⟨some 45, .callf 105 [.tmp 44, (.const (.int .i64 3))], none⟩, ⟨some 46, .bin .add (.const (.int .i64 1)) (.tmp 45), none⟩, ⟨some 47, .callf 298 [.tmp 42, .tmp 43, .tmp 46, (.const (.int .i64 2))], none⟩, ⟨some 8, .mv (.tmp 47), none⟩] [[], [], [], [2], [3], [0, 1, 4, 3], [5, 5, 0, 1, 2, 3, 4, 5]]) (.seq (.seq (.reg [⟨some 9, .mv (.const (.int .i64 0)), none⟩]) (.block 2 (.loop (.seq (.seq (.reg [⟨some 48, .mv (.tmp 9), none⟩, ⟨some 49, .mv (.tmp 8), none⟩, ⟨some 50, .len (.tmp 49), none⟩, ⟨some 51, .bin .lss (.tmp 48) (.tmp 50), none⟩]) (.cond (.tmp 51) .skip (.exit 2))) (.seq (.block 3 (.seq (.reg [⟨some 54, .mv (.tmp 8), none⟩, ⟨some 55, .mv (.tmp 9), none⟩, ⟨some 56, .ixa 1 (.tmp 54) (.tmp 55), none⟩, ⟨some 57, .load 1 false (.tmp 56), none⟩, ⟨some 58, .bin .lss (.tmp 57) (.const (.int .i64 0)), none⟩, ⟨some 59, .mv (.tmp 58), none⟩, ⟨some 60, .mv (.tmp 5), (some (some 59, true))⟩, ⟨some 61, .mv (.tmp 8), (some (some 59, true))⟩, ⟨some 62, .mv (.tmp 9), (some (some 59, true))⟩, ⟨some 63, .ixa 1 (.tmp 61) (.tmp 62), (some (some 59, true))⟩, ⟨some 64, .load 1 false (.tmp 63), (some (some 59, true))⟩, ⟨some 65, .callf 286 [.tmp 60, .tmp 64], (some (some 59, true))⟩, ⟨some 66, .un .not (.tmp 65), (some (some 59, true))⟩, ⟨some 67, .pick (.tmp 59) (.tmp 66) (.const (.bool false)), none⟩]) (.cond (.tmp 67) (.seq (.reg [⟨some 68, .mv (.tmp 5), none⟩, ⟨some 69, .callf 325 [.tmp 68], none⟩, ⟨some 10, .mv (.tmp 69), none⟩]) (.seq (.seq (.reg [⟨some 70, .mv (.tmp 10), none⟩, ⟨some 71, .len (.tmp 70), none⟩, ⟨some 72, .bin .eql (.tmp 71) (.const (.int .i64 0)), none⟩]) (.cond (.tmp 72) (.seq (.reg [⟨some 73, .mv (.tmp 5), none⟩, ⟨some 74, .load 1 true (.tmp 3), none⟩, ⟨some 75, .mv (.tmp 5), none⟩, ⟨some 76, .mv (.tmp 5), none⟩, ⟨some 77, .len (.tmp 76), none⟩, ⟨some 78, .bin .sub (.tmp 77) (.const (.int .i64 1)), none⟩,
 ⟨some 79, .callf 246 [.tmp 74, .tmp 75, .tmp 78], none⟩, ⟨some 80, .build [.sl 0 (some true) [], .sl 0 (some true) []] [(0, 1, .tmp 73), (1, 1, .tmp 79)], none⟩, ⟨none, .store 2 (.tmp 4) (.tmp 80), none⟩]) .ret) .skip)) (.reg [⟨some 81, .mv (.tmp 8), none⟩, ⟨some 82, .mv (.tmp 9), none⟩, ⟨some 83, .mv (.tmp 10), none⟩, ⟨some 84, .ixa 1 (.tmp 83) (.const (.int .i64 0)), none⟩, ⟨some 85, .load 1 false (.tmp 84), none⟩, ⟨some 86, .ixa 1 (.tmp 81) (.tmp 82), none⟩, ⟨none, .store 1 (.tmp 86) (.tmp 85), none⟩]))) .skip))) (.reg [⟨some 52, .mv (.tmp 9), none⟩, ⟨some 53, .bin .add (.tmp 52) (.const (.int .i64 1)), none⟩, ⟨some 9, .mv (.tmp 53), none⟩])))))) (.seq (.reg [⟨some 87, .mv (.tmp 5), none⟩, ⟨some 88, .mv (.tmp 8), none⟩, ⟨some 89, .build [.sl 0 (some true) [], .sl 0 (some true) []] [(0, 1, .tmp 87), (1, 1, .tmp 88)], none⟩, ⟨none, .store 2 (.tmp 4) (.tmp 89), none⟩]) .ret))))))
theorem fn297 : MFn Tryz.prog 297 mc297 90 [.cell 4 2 true] :=
  ⟨Tryz.f297, Tryz.func297, by kernel_rfl, Tryz.ntmps297, by kernel_rfl⟩
def F_spec_l6DrawRule_l2 (sig : Ls) (l : Ls) (r_5 : (Ls × Int × Int)) : (Int × Ls) → Option ((Int × Ls) ⊕ ((Ls × Ls) × Int × Int))
 | (i, g47) =>
  if (decide (i < (g47.length : Int))) = true then
   if 0 ≤ i ∧ i < (g47.length : Int) then
    if (decide ((g47.getD i.toNat default) < 0)) = true then
     if 0 ≤ i ∧ i < (g47.length : Int) then
      (F_spec_l1Has l (g47.getD i.toNat default)).bind fun r_6 =>
      if r_6 = true then
       some (.inl ((IntKind.i64.wrap (i + 1)), g47))
      else
       (F_spec_l2Order l).bind fun r_7 =>
       if ((r_7.length : Int) == 0) = true then
        (F_spec_l1Sub sig l (IntKind.i64.wrap ((l.length : Int) - 1))).bind fun r_8 =>
        Option.map Sum.inr (
         some ((l, r_8), r_5.2.1, r_5.2.2))
       else
        if 0 ≤ 0 ∧ 0 < (r_7.length : Int) then
         if 0 ≤ i ∧ i < (g47.length : Int) then
          some (.inl ((IntKind.i64.wrap (i + 1)), (g47.set i.toNat (r_7.getD 0 default))))
         else none
        else none
     else none
    else
     some (.inl ((IntKind.i64.wrap (i + 1)), g47))
   else none
  else
   Option.map Sum.inr (
    some ((l, g47), r_5.2.1, r_5.2.2))
def F_spec_l6DrawRule_l1 (sig : Ls) (c0 : Ls) : (Ls × Int × Int × Int) → Option ((Ls × Int × Int × Int) ⊕ ((Ls × Ls) × Int × Int))
 | (l, k, c, c_1) =>
  if (decide (0 < k)) = true then
   (F_spec_l1DrawTerm_all sig 1 2 c0 c c_1).bind fun r_3 =>
   if (l.length + r_3.1.length) * 8 ≤ 140737488355328 then
    some (.inl ((l ++ r_3.1), (IntKind.i64.wrap (k - 1)), r_3.2.1, r_3.2.2))
   else none
  else
   Option.map Sum.inr (
    (F_spec_l1Below 3 c0 c c_1).bind fun r_4 =>
    (F_spec_l1DrawTerm_s1_all sig (IntKind.i64.wrap (1 + r_4.1)) 2 c0 r_4.2.1 r_4.2.2).bind fun r_5 =>
    loopC (F_spec_l6DrawRule_l2 sig l r_5) (0, r_5.1))
def F_spec_l6DrawRule_l3 (sig : Ls) (r_1 : (Ls × Int × Int)) (r_10 : (Ls × Int × Int)) : (Int × Ls) → Option ((Int × Ls) ⊕ ((Ls × Ls) × Int × Int))
 | (i_1, g47_1) =>
  if (decide (i_1 < (g47_1.length : Int))) = true then
   if 0 ≤ i_1 ∧ i_1 < (g47_1.length : Int) then
    if (decide ((g47_1.getD i_1.toNat default) < 0)) = true then
     if 0 ≤ i_1 ∧ i_1 < (g47_1.length : Int) then
      (F_spec_l1Has r_1.1 (g47_1.getD i_1.toNat default)).bind fun r_11 =>
      if r_11 = true then
       some (.inl ((IntKind.i64.wrap (i_1 + 1)), g47_1))
      else
       (F_spec_l2Order r_1.1).bind fun r_12 =>
       if ((r_12.length : Int) == 0) = true then
        (F_spec_l1Sub sig r_1.1 (IntKind.i64.wrap ((r_1.1.length : Int) - 1))).bind fun r_13 =>
        Option.map Sum.inr (
         some ((r_1.1, r_13), r_10.2.1, r_10.2.2))
       else
        if 0 ≤ 0 ∧ 0 < (r_12.length : Int) then
         if 0 ≤ i_1 ∧ i_1 < (g47_1.length : Int) then
          some (.inl ((IntKind.i64.wrap (i_1 + 1)), (g47_1.set i_1.toNat (r_12.getD 0 default))))
         else none
        else none
     else none
    else
     some (.inl ((IntKind.i64.wrap (i_1 + 1)), g47_1))
   else none
  else
   Option.map Sum.inr (
    some ((r_1.1, g47_1), r_10.2.1, r_10.2.2))
def F_spec_l6DrawRule (sig : Ls) (c0 : Ls) (c1 : Int) (c2 : Int) : Option ((Ls × Ls) × Int × Int) :=
 (F_spec_l1Below 2 c0 c1 c2).bind fun r =>
 (F_spec_l1DrawTerm_all sig (IntKind.i64.wrap (2 + r.1)) 2 c0 r.2.1 r.2.2).bind fun r_1 =>
 if 0 ≤ 0 ∧ 0 < (r_1.1.length : Int) then
  if (decide ((r_1.1.getD 0 default) < 0)) = true then
   (F_spec_l1Below (sig.length : Int) c0 r_1.2.1 r_1.2.2).bind fun r_2 =>
   if 0 ≤ r_2.1 ∧ r_2.1 < (sig.length : Int) then
    loopC (F_spec_l6DrawRule_l1 sig c0) ([r_2.1], (sig.getD r_2.1.toNat default), r_2.2.1, r_2.2.2)
   else none
  else
   (F_spec_l1Below 3 c0 r_1.2.1 r_1.2.2).bind fun r_9 =>
   (F_spec_l1DrawTerm_s1_all sig (IntKind.i64.wrap (1 + r_9.1)) 2 c0 r_9.2.1 r_9.2.2).bind fun r_10 =>
   loopC (F_spec_l6DrawRule_l3 sig r_1 r_10) (0, r_10.1)
 else none
theorem c_spec_l6DrawRule {sig : Ls} {c0 : Ls} {c1 : Int} {c2 : Int} {rr : ((Ls × Ls) × Int × Int)} (h : F_spec_l6DrawRule sig c0 c1 c2 = some rr) : ACalls Tryz.prog 297 [.ptr 0 0, .d (.agg [slD 1 iD sig])] [(0, .obj 216 [.d (slD 1 (kD .u8) c0), .d (iD c1), .d (iD c2)])] 1 fun xx ss => xx = .d (.agg [slD 1 iD rr.1.1, slD 1 iD rr.1.2]) ∧ ss = [(0, .obj 216 [.d (slD 1 (kD .u8) c0), .d (iD rr.2.1), .d (iD rr.2.2)])] := by
  delta F_spec_l6DrawRule at h
  refine fn297.callsD (vcm_sound ?_)
  delta mc297
  refine stp ?_
  obtain ⟨r, hr, h⟩ := bind_some h
  refine cDo [(0, 0)] [] (c_spec_l1Below hr) (stp ?_)
  obtain ⟨r_1, hr_1, h⟩ := bind_some h
  refine cDo [(0, 0)] [] (c_spec_l1DrawTerm_all hr_1) (stp ?_)
  refine drQ_of (by kernel_rfl) ?_
  refine stp ?_
  obtain ⟨hp, h⟩ := need_some h
  repeat (refine need_i (by omega) ?_; refine stp ?_)
  rcases ite_some h with ⟨hc, h⟩ | ⟨hc, h⟩
  · refine stpc hc ?_
    obtain ⟨r_2, hr_2, h⟩ := bind_some h
    refine cRo [(0, 0)] [] (c_spec_l1Below hr_2) (stp ?_)
    obtain ⟨hp, h⟩ := need_some h
    repeat (refine need_i (by omega) ?_; refine stp ?_)
    refine m_loopF h [5, 7, 33, 34, 35, 36, 37, 38, 39, 40, 41] (fun pp => [(5, .own 1 27 (List.map iD pp.1)), (7, .d (iD pp.2.1))]) (fun pp => [(0, .obj 216 [.d (slD 1 (kD .u8) c0), .d (iD pp.2.2.1), .d (iD pp.2.2.2)]), (3, .obj 43 [.d (slD 1 iD sig)]), (4, .obj 146 [.d (.sl 0 (some true) []), .d (.sl 0 (some true) [])]), (27, .tok 2 1 pp.1.length)]) ?_ ?_
    · try dsimp only
      exact wk
    rintro ⟨l, k, c, c_1⟩ t1 h hb1
    unfold F_spec_l6DrawRule_l1 at h
    try dsimp only at h
    refine vcm_sound (stp ?_)
    rcases ite_some h with ⟨hc, h⟩ | ⟨hc, h⟩
    · refine stpc hc ?_
      obtain ⟨r_3, hr_3, h⟩ := bind_some h
      refine cRo [(0, 0)] [] (c_spec_l1DrawTerm_all hr_3) (stp ?_)
      obtain ⟨hp, h⟩ := need_some h
      repeat (refine need_i (by omega) ?_; refine stp ?_)
      cases h
      refine ⟨_, rfl, ?_⟩
      exact wk
    refine stpc hc ?_
    replace h := inr_some h hb1
    obtain ⟨r_4, hr_4, h⟩ := bind_some h
    refine cDo [(0, 0)] [] (c_spec_l1Below hr_4) (stp ?_)
    obtain ⟨r_5, hr_5, h⟩ := bind_some h
    refine cDo [(0, 0)] [(900000, 47)] (c_spec_l1DrawTerm_s1_all hr_5) (stp ?_)
    refine drQ_of (by kernel_rfl) ?_
    refine stp ?_
    refine m_loopF h [8, 9, 10, 48, 49, 50, 51, 52, 53, 54, 55, 56, 57, 58, 59, 60, 61, 62, 63, 64, 65, 66, 67, 68, 69, 70, 71, 72, 73, 74, 75, 76, 77, 78, 79, 80, 81, 82, 83, 84, 85, 86] (fun pp => [(9, .d (iD pp.1)), (8, .gow 1 47 pp.2.length)]) (fun pp => [(0, .obj 216 [.d (slD 1 (kD .u8) c0), .d (iD r_5.2.1), .d (iD r_5.2.2)]), (3, .obj 43 [.d (slD 1 iD sig)]), (4, .obj 146 [.d (.sl 0 (some true) []), .d (.sl 0 (some true) [])]), (27, .tok 2 1 l.length), (47, .gro 2 1 pp.2.length (groL iD pp.2))]) ?_ ?_
    · try dsimp only
      exact wk
    rintro ⟨i, g47⟩ t1 h hb1
    unfold F_spec_l6DrawRule_l2 at h
    try dsimp only at h
    refine vcm_sound (stp ?_)
    rcases ite_some h with ⟨hc, h⟩ | ⟨hc, h⟩
    · refine stpc hc ?_
      obtain ⟨hp, h⟩ := need_some h
      repeat (refine need_i (by omega) ?_; refine stp ?_)
      repeat (refine need_i (by omega) ?_; refine stp ?_)
      rcases ite_some h with ⟨hc, h⟩ | ⟨hc, h⟩
      · refine stpc hc ?_
        obtain ⟨hp, h⟩ := need_some h
        repeat (refine need_i (by omega) ?_; refine stp ?_)
        repeat (refine need_i (by omega) ?_; refine stp ?_)
        obtain ⟨r_6, hr_6, h⟩ := bind_some h
        refine cR (c_spec_l1Has hr_6) (stp ?_)
        rcases ite_some h with ⟨hc, h⟩ | ⟨hc, h⟩
        · refine stpc hc ?_
          cases h
          refine ⟨_, rfl, ?_⟩
          exact wk
        refine stpc hc ?_
        obtain ⟨r_7, hr_7, h⟩ := bind_some h
        refine cR (c_spec_l2Order hr_7) (stp ?_)
        rcases ite_some h with ⟨hc, h⟩ | ⟨hc, h⟩
        · refine stpc hc ?_
          obtain ⟨r_8, hr_8, h⟩ := bind_some h
          refine cR (c_spec_l1Sub hr_8) (stp ?_)
          replace h := inr_some h hb1
          cases h
          exact Done.trans ((Done.drops [3, 4, 27, 47] (by simp))) (Done.told frd don)
        refine stpc hc ?_
        obtain ⟨hp, h⟩ := need_some h
        repeat (refine need_i (by omega) ?_; refine stp ?_)
        obtain ⟨hp, h⟩ := need_some h
        repeat (refine need_i (by omega) ?_; refine stp ?_)
        repeat (refine need_i (by omega) ?_; refine stp ?_)
        cases h
        refine ⟨_, rfl, ?_⟩
        exact wk
      refine stpc hc ?_
      cases h
      refine ⟨_, rfl, ?_⟩
      exact wk
    refine stpc hc ?_
    replace h := inr_some h hb1
    cases h
    exact Done.trans ((Done.trans (Done.fz 47 iD rfl g47) (Done.drops [3, 4, 27] (by simp)))) (Done.told frd don)
  refine stpc hc ?_
  obtain ⟨r_9, hr_9, h⟩ := bind_some h
  refine cDo [(0, 0)] [] (c_spec_l1Below hr_9) (stp ?_)
  obtain ⟨r_10, hr_10, h⟩ := bind_some h
  refine cDo [(0, 0)] [(900000, 47)] (c_spec_l1DrawTerm_s1_all hr_10) (stp ?_)
  refine drQ_of (by kernel_rfl) ?_
  refine stp ?_
  refine m_loopF h [8, 9, 10, 48, 49, 50, 51, 52, 53, 54, 55, 56, 57, 58, 59, 60, 61, 62, 63, 64, 65, 66, 67, 68, 69, 70, 71, 72, 73, 74, 75, 76, 77, 78, 79, 80, 81, 82, 83, 84, 85, 86] (fun pp => [(9, .d (iD pp.1)), (8, .gow 1 47 pp.2.length)]) (fun pp => [(0, .obj 216 [.d (slD 1 (kD .u8) c0), .d (iD r_10.2.1), .d (iD r_10.2.2)]), (3, .obj 43 [.d (slD 1 iD sig)]), (4, .obj 146 [.d (.sl 0 (some true) []), .d (.sl 0 (some true) [])]), (47, .gro 2 1 pp.2.length (groL iD pp.2))]) ?_ ?_
  · try dsimp only
    exact wk
  rintro ⟨i_1, g47_1⟩ t1 h hb1
  unfold F_spec_l6DrawRule_l3 at h
  try dsimp only at h
  refine vcm_sound (stp ?_)
  rcases ite_some h with ⟨hc, h⟩ | ⟨hc, h⟩
  · refine stpc hc ?_
    obtain ⟨hp, h⟩ := need_some h
    repeat (refine need_i (by omega) ?_; refine stp ?_)
    repeat (refine need_i (by omega) ?_; refine stp ?_)
    rcases ite_some h with ⟨hc, h⟩ | ⟨hc, h⟩
    · refine stpc hc ?_
      obtain ⟨hp, h⟩ := need_some h
      repeat (refine need_i (by omega) ?_; refine stp ?_)
      repeat (refine need_i (by omega) ?_; refine stp ?_)
      obtain ⟨r_11, hr_11, h⟩ := bind_some h
      refine cR (c_spec_l1Has hr_11) (stp ?_)
      rcases ite_some h with ⟨hc, h⟩ | ⟨hc, h⟩
      · refine stpc hc ?_
        cases h
        refine ⟨_, rfl, ?_⟩
        exact wk
      refine stpc hc ?_
      obtain ⟨r_12, hr_12, h⟩ := bind_some h
      refine cR (c_spec_l2Order hr_12) (stp ?_)
      rcases ite_some h with ⟨hc, h⟩ | ⟨hc, h⟩
      · refine stpc hc ?_
        obtain ⟨r_13, hr_13, h⟩ := bind_some h
        refine cR (c_spec_l1Sub hr_13) (stp ?_)
        replace h := inr_some h hb1
        cases h
        exact Done.trans ((Done.drops [3, 4, 47] (by simp))) (Done.told frd don)
      refine stpc hc ?_
      obtain ⟨hp, h⟩ := need_some h
      repeat (refine need_i (by omega) ?_; refine stp ?_)
      obtain ⟨hp, h⟩ := need_some h
      repeat (refine need_i (by omega) ?_; refine stp ?_)
      repeat (refine need_i (by omega) ?_; refine stp ?_)
      cases h
      refine ⟨_, rfl, ?_⟩
      exact wk
    refine stpc hc ?_
    cases h
    refine ⟨_, rfl, ?_⟩
    exact wk
  refine stpc hc ?_
  replace h := inr_some h hb1
  cases h
  exact Done.trans ((Done.trans (Done.fz 47 iD rfl g47_1) (Done.drops [3, 4] (by simp)))) (Done.told frd don)
end
end Go.Proofs.YtcaljngigbfadaaGreat
namespace Go.Proofs.YtcaljngigbfadaaGreat
noncomputable section
open Go Abx
attribute [local irreducible] vcm vgo vdr vrun vdrun MWp GhostQ BrC BrO BrG BrD BrH AmbO callR callD drQ EnvLe StoLe
set_option maxHeartbeats 4000000
def mc235 : MCode :=
 (.seq (.reg [⟨some 6, .mv (.const (.int .i64 0)), none⟩]) (.seq (.reg [⟨some 7, .mv (.tmp 1), none⟩, ⟨some 8, .mv (.tmp 0), none⟩, ⟨some 9, .mv (.tmp 2), none⟩, ⟨some 10, .mv (.tmp 1), none⟩, ⟨some 11, .bin .sub (.tmp 9) (.tmp 10), none⟩, ⟨some 12, .bin .add (.tmp 11) (.const (.int .i64 1)), none⟩, ⟨some 13, .callf 105 [.tmp 8, .tmp 12], none⟩, ⟨some 14, .bin .add (.tmp 7) (.tmp 13), none⟩, ⟨some 6, .mv (.tmp 14), none⟩]) .ret))
theorem fn235 : MFn Tryz.prog 235 mc235 15 [.tmp 6] :=
  ⟨Tryz.f235, Tryz.func235, by kernel_rfl, Tryz.ntmps235, by kernel_rfl⟩
def F_spec_l1From (lo : Int) (hi : Int) (c0 : Ls) (c1 : Int) (c2 : Int) : Option (Int × Int × Int) :=
 (F_spec_l1Below (IntKind.i64.wrap ((IntKind.i64.wrap (hi - lo)) + 1)) c0 c1 c2).bind fun r =>
 some ((IntKind.i64.wrap (lo + r.1)), r.2.1, r.2.2)
theorem c_spec_l1From {lo : Int} {hi : Int} {c0 : Ls} {c1 : Int} {c2 : Int} {rr : (Int × Int × Int)} (h : F_spec_l1From lo hi c0 c1 c2 = some rr) : ACalls Tryz.prog 235 [.ptr 0 0, .d (iD lo), .d (iD hi)] [(0, .obj 216 [.d (slD 1 (kD .u8) c0), .d (iD c1), .d (iD c2)])] 1 fun xx ss => xx = .d (iD rr.1) ∧ ss = [(0, .obj 216 [.d (slD 1 (kD .u8) c0), .d (iD rr.2.1), .d (iD rr.2.2)])] := by
  delta F_spec_l1From at h
  refine fn235.callsO (vcm_sound ?_)
  delta mc235
  refine stp ?_
  obtain ⟨r, hr, h⟩ := bind_some h
  refine cRo [(0, 0)] [] (c_spec_l1Below hr) (stp ?_)
  cases h
  exact ⟨[], by simp, don, don⟩
end
end Go.Proofs.YtcaljngigbfadaaGreat
namespace Go.Proofs.YtcaljngigbfadaaGreat
noncomputable section
open Go Abx
attribute [local irreducible] vcm vgo vdr vrun vdrun MWp GhostQ BrC BrO BrG BrD BrH AmbO callR callD drQ EnvLe StoLe
set_option maxHeartbeats 4000000
def mc299 : MCode :=
 (.seq (.reg [⟨some 2, .mv (.const (.int .i64 0)), none⟩]) (.seq (.reg [⟨some 3, .bsl 3 2 1 [(.const (.int .i64 (-1))), (.const (.int .i64 0)), (.const (.int .i64 1)), (.const (.int .i64 2147483648)), (.const (.int .i64 (-2147483648))), (.const (.int .i64 1099511627776)), (.const (.int .i64 4611686018427387904)), (.const (.int .i64 (-4611686018427387904))), (.const (.int .i64 9223372036854775807)), (.const (.int .i64 (-9223372036854775808)))], none⟩, ⟨some 4, .mv (.tmp 0), none⟩, ⟨some 5, .callf 105 [.tmp 4, (.const (.int .i64 10))], none⟩, ⟨some 6, .ixa 1 (.tmp 3) (.tmp 5), none⟩, ⟨some 7, .load 1 false (.tmp 6), none⟩, ⟨some 2, .mv (.tmp 7), none⟩]) .ret))
theorem fn299 : MFn Tryz.prog 299 mc299 8 [.tmp 2] :=
  ⟨Tryz.f299, Tryz.func299, by kernel_rfl, Tryz.ntmps299, by kernel_rfl⟩
def F_spec_l1Odd (c0 : Ls) (c1 : Int) (c2 : Int) : Option (Int × Int × Int) :=
 (F_spec_l1Below 10 c0 c1 c2).bind fun r =>
 if 0 ≤ r.1 ∧ r.1 < 10 then
  some (([(-1), 0, 1, 2147483648, (-2147483648), 1099511627776, 4611686018427387904, (-4611686018427387904), 9223372036854775807, (-9223372036854775808)].getD r.1.toNat default), r.2.1, r.2.2)
 else none
theorem c_spec_l1Odd {c0 : Ls} {c1 : Int} {c2 : Int} {rr : (Int × Int × Int)} (h : F_spec_l1Odd c0 c1 c2 = some rr) : ACalls Tryz.prog 299 [.ptr 0 0] [(0, .obj 216 [.d (slD 1 (kD .u8) c0), .d (iD c1), .d (iD c2)])] 1 fun xx ss => xx = .d (iD rr.1) ∧ ss = [(0, .obj 216 [.d (slD 1 (kD .u8) c0), .d (iD rr.2.1), .d (iD rr.2.2)])] := by
  delta F_spec_l1Odd at h
  refine fn299.callsO (vcm_sound ?_)
  delta mc299
  refine stp ?_
  obtain ⟨r, hr, h⟩ := bind_some h
  refine cRo [(0, 0)] [] (c_spec_l1Below hr) (stp ?_)
  obtain ⟨hp, h⟩ := need_some h
  repeat (refine need_i (by omega) ?_; try simp (config := { maxSteps := 1000000 }) (disch := omega) only [go_sem, ← List.map_take, ← List.map_drop, mixedT, Nat.reduceAdd, Nat.reduceSub, Nat.reduceLeDiff, Nat.reduceEqDiff, Nat.reduceLT, Int.reduceToNat, reduceIte, reduceCtorEq, getD_lit (l := [iD (-1), iD 0, iD 1, iD 2147483648, iD (-2147483648), iD 1099511627776, iD 4611686018427387904, iD (-4611686018427387904), iD 9223372036854775807, iD (-9223372036854775808)]) (f := iD) (xs := [(-1), 0, 1, 2147483648, (-2147483648), 1099511627776, 4611686018427387904, (-4611686018427387904), 9223372036854775807, (-9223372036854775808)]) rfl (n := 10) rfl])
  cases h
  exact ⟨[3], by simp, don, don⟩
def mc205_spec_l1DrawAny : MCode :=
  (.seq (.reg [⟨(some 3), .box 3 43 (.tmp 1), none⟩,
    ⟨(some 4), .mv (.const (.slice none 0 0)), none⟩])
  (.seq (.seq (.reg [⟨(some 6), .fad 0 (.tmp 3), none⟩,
    ⟨(some 7), .load 1 false (.tmp 6), none⟩,
    ⟨(some 8), .len (.tmp 7), none⟩,
    ⟨(some 9), .bin .eql (.tmp 8) (.const (.int .i64 0)), none⟩,
    ⟨(some 10), .mv (.tmp 9), none⟩,
    ⟨(some 11), .load 1 true (.tmp 3), (some (some 10, false))⟩,
    ⟨(some 12), .callf 217 [(.tmp 11)], (some (some 10, false))⟩,
    ⟨(some 13), .un .not (.tmp 12), (some (some 10, false))⟩,
    ⟨(some 14), .pick (.tmp 10) (.const (.bool true)) (.tmp 13), none⟩])
  (.cond (.tmp 14)
    (.seq (.reg [⟨(some 15), .mv (.tmp 0), none⟩,
      ⟨(some 16), .callf 235 [(.tmp 15), (.const (.int .i64 (-2))), (.const (.int .i64 2))], none⟩,
      ⟨(some 17), .bsl 17 2 1 [(.tmp 16)], none⟩,
      ⟨(some 4), .mv (.tmp 17), none⟩])
    .ret)
    .skip))
  (.seq (.draw [⟨(some 18), .mv (.tmp 0), none⟩,
    ⟨(some 19), .load 1 true (.tmp 3), none⟩,
    ⟨(some 20), .mv (.tmp 0), none⟩,
    ⟨(some 21), .callf 105 [(.tmp 20), (.const (.int .i64 4))], none⟩,
    ⟨(some 22), .bin .add (.const (.int .i64 1)) (.tmp 21), none⟩,
    ⟨(some 23), .callf 298 [(.tmp 18), (.tmp 19), (.tmp 22), (.const (.int .i64 3))], none⟩,
    ⟨(some 5), .mv (.tmp 23), none⟩] [[], [], [], [2], [3], [0, 1, 4, 3], [5, 5, 0, 1, 2, 3, 4, 5]])
  (.seq (.seq (.reg [⟨(some 24), .mv (.tmp 0), none⟩,
    ⟨(some 25), .callf 103 [(.tmp 24), (.const (.int .i64 12))], none⟩])
  (.cond (.tmp 25)
    (.seq (.reg [⟨(some 26), .mv (.tmp 0), none⟩,
      ⟨(some 27), .callf 105 [(.tmp 26), (.const (.int .i64 4))], none⟩])
    (.block 0
      (.seq (.reg [⟨(some 29), .bin .eql (.tmp 27) (.const (.int .i64 0)), none⟩,
        ⟨(some 28), .mv (.tmp 29), none⟩])
      (.cond (.tmp 28)
        (.reg [⟨(some 30), .mv (.tmp 5), none⟩,
          ⟨(some 31), .mv (.tmp 0), none⟩,
          ⟨(some 32), .callf 235 [(.tmp 31), (.const (.int .i64 (-2))), (.const (.int .i64 3))], none⟩,
          ⟨(some 33), .bsl 33 2 1 [(.tmp 32)], none⟩,
          ⟨(some 34), .app 34 2 1 8 (.tmp 30) (.tmp 33), none⟩,
          ⟨(some 5), .mv (.tmp 34), none⟩])
        (.seq (.reg [⟨(some 36), .bin .eql (.tmp 27) (.const (.int .i64 1)), none⟩,
          ⟨(some 35), .mv (.tmp 36), none⟩])
        (.cond (.tmp 35)
          (.reg [⟨(some 37), .mv (.tmp 5), none⟩,
            ⟨(some 38), .mv (.tmp 0), none⟩,
            ⟨(some 39), .mv (.tmp 5), none⟩,
            ⟨(some 40), .len (.tmp 39), none⟩,
            ⟨(some 41), .callf 105 [(.tmp 38), (.tmp 40)], none⟩,
            ⟨(some 42), .mv (.tmp 0), none⟩,
            ⟨(some 43), .callf 235 [(.tmp 42), (.const (.int .i64 (-3))), (.const (.int .i64 4))], none⟩,
            ⟨(some 44), .ixa 1 (.tmp 37) (.tmp 41), none⟩,
            ⟨none, .store 1 (.tmp 44) (.tmp 43), none⟩])
          (.seq (.reg [⟨(some 46), .bin .eql (.tmp 27) (.const (.int .i64 2)), none⟩,
            ⟨(some 45), .mv (.tmp 46), none⟩])
          (.cond (.tmp 45)
            (.ghost (.reg [⟨(some 47), .mv (.tmp 5), none⟩,
              ⟨(some 48), .slc (.tmp 47) 1 (some (.const (.int .i64 1))) none none, none⟩,
              ⟨(some 5), .mv (.tmp 48), none⟩]))
            (.seq (.reg [⟨(some 50), .bin .eql (.tmp 27) (.const (.int .i64 3)), none⟩,
              ⟨(some 49), .mv (.tmp 50), none⟩])
            (.cond (.tmp 49)
              (.reg [⟨(some 51), .mv (.tmp 5), none⟩,
                ⟨(some 52), .mv (.tmp 0), none⟩,
                ⟨(some 53), .callf 299 [(.tmp 52)], none⟩,
                ⟨(some 54), .bsl 54 2 1 [(.tmp 53)], none⟩,
                ⟨(some 55), .app 55 2 1 8 (.tmp 51) (.tmp 54), none⟩,
                ⟨(some 5), .mv (.tmp 55), none⟩])
              .skip))))))))))
    .skip))
  (.seq (.reg [⟨(some 56), .mv (.tmp 5), none⟩,
    ⟨(some 4), .mv (.tmp 56), none⟩])
  .ret)))))
theorem fn205_spec_l1DrawAny : MFn Tryz.prog 205 mc205_spec_l1DrawAny 57 [.tmp 4] :=
  ⟨Tryz.f205, Tryz.func205, by kernel_rfl, Tryz.ntmps205, by kernel_rfl⟩
def F_spec_l1DrawAny (sig : Ls) (c0 : Ls) (c1 : Int) (c2 : Int) : Option (Ls × Int × Int) :=
 if ((sig.length : Int) == 0) = true then
  (F_spec_l1From (-2) 2 c0 c1 c2).bind fun r =>
  some ([r.1], r.2.1, r.2.2)
 else
  (F_spec_SigOk sig).bind fun r_1 =>
  if r_1 = true then
   (F_spec_l1Below 4 c0 c1 c2).bind fun r_2 =>
   (F_spec_l1DrawTerm_s1_all sig (IntKind.i64.wrap (1 + r_2.1)) 3 c0 r_2.2.1 r_2.2.2).bind fun r_3 =>
   (F_spec_l1Once 12 c0 r_3.2.1 r_3.2.2).bind fun r_4 =>
   if r_4.1 = true then
    (F_spec_l1Below 4 c0 r_4.2.1 r_4.2.2).bind fun r_5 =>
    if (r_5.1 == 0) = true then
     (F_spec_l1From (-2) 3 c0 r_5.2.1 r_5.2.2).bind fun r_6 =>
     if (r_3.1.length + 1) * 8 ≤ 140737488355328 then
      some ((r_3.1 ++ [r_6.1]), r_6.2.1, r_6.2.2)
     else none
    else
     if (r_5.1 == 1) = true then
      (F_spec_l1Below (r_3.1.length : Int) c0 r_5.2.1 r_5.2.2).bind fun r_7 =>
      (F_spec_l1From (-3) 4 c0 r_7.2.1 r_7.2.2).bind fun r_8 =>
      if 0 ≤ r_7.1 ∧ r_7.1 < (r_3.1.length : Int) then
       some ((r_3.1.set r_7.1.toNat r_8.1), r_8.2.1, r_8.2.2)
      else none
     else
      if (r_5.1 == 2) = true then
       if 0 ≤ 1 ∧ 1 ≤ (r_3.1.length : Int) then
        some ((r_3.1.drop 1), r_5.2.1, r_5.2.2)
       else none
      else
       if (r_5.1 == 3) = true then
        (F_spec_l1Odd c0 r_5.2.1 r_5.2.2).bind fun r_9 =>
        if (r_3.1.length + 1) * 8 ≤ 140737488355328 then
         some ((r_3.1 ++ [r_9.1]), r_9.2.1, r_9.2.2)
        else none
       else
        some (r_3.1, r_5.2.1, r_5.2.2)
   else
    some (r_3.1, r_4.2.1, r_4.2.2)
  else
   (F_spec_l1From (-2) 2 c0 c1 c2).bind fun r_10 =>
   some ([r_10.1], r_10.2.1, r_10.2.2)
theorem c_spec_l1DrawAny {sig : Ls} {c0 : Ls} {c1 : Int} {c2 : Int} {rr : (Ls × Int × Int)} (h : F_spec_l1DrawAny sig c0 c1 c2 = some rr) : ACalls Tryz.prog 205 [.ptr 0 0, .d (.agg [slD 1 iD sig])] [(0, .obj 216 [.d (slD 1 (kD .u8) c0), .d (iD c1), .d (iD c2)])] 1 fun xx ss => xx = .d (slD 1 iD rr.1) ∧ ss = [(0, .obj 216 [.d (slD 1 (kD .u8) c0), .d (iD rr.2.1), .d (iD rr.2.2)])] := by
  delta F_spec_l1DrawAny at h
  refine fn205_spec_l1DrawAny.callsD (vcm_sound ?_)
  delta mc205_spec_l1DrawAny
  refine stp ?_
  rcases ite_some h with ⟨hc, h⟩ | ⟨hc, h⟩
  · refine stpc hc ?_
    obtain ⟨r, hr, h⟩ := bind_some h
    refine cRo [(0, 0)] [] (c_spec_l1From hr) (stp ?_)
    cases h
    exact Done.trans ((Done.drops [3, 17] (by simp))) (Done.told frd don)
  refine stpc hc ?_
  obtain ⟨r_1, hr_1, h⟩ := bind_some h
  refine cR (c_spec_SigOk hr_1) (stp ?_)
  rcases ite_some h with ⟨hc, h⟩ | ⟨hc, h⟩
  · refine stpc hc ?_
    obtain ⟨r_2, hr_2, h⟩ := bind_some h
    refine cDo [(0, 0)] [] (c_spec_l1Below hr_2) (stp ?_)
    obtain ⟨r_3, hr_3, h⟩ := bind_some h
    refine cDo [(0, 0)] [(900000, 23)] (c_spec_l1DrawTerm_s1_all hr_3) (stp ?_)
    refine drQ_of (by kernel_rfl) ?_
    refine stp ?_
    obtain ⟨r_4, hr_4, h⟩ := bind_some h
    refine cRo [(0, 0)] [] (c_spec_l1Once hr_4) (stp ?_)
    rcases ite_some h with ⟨hc, h⟩ | ⟨hc, h⟩
    · refine stpc hc ?_
      obtain ⟨r_5, hr_5, h⟩ := bind_some h
      refine cRo [(0, 0)] [] (c_spec_l1Below hr_5) (stp ?_)
      rcases ite_some h with ⟨hc, h⟩ | ⟨hc, h⟩
      · refine stpc hc ?_
        obtain ⟨r_6, hr_6, h⟩ := bind_some h
        refine cRo [(0, 0)] [] (c_spec_l1From hr_6) (stp ?_)
        obtain ⟨hp, h⟩ := need_some h
        repeat (refine need_i (by omega) ?_; refine stp ?_)
        cases h
        exact Done.trans ((Done.trans (Done.fz 23 iD rfl (r_3.1 ++ [r_6.1])) (Done.drops [3, 33] (by simp)))) (Done.told frd don)
      refine stpc hc ?_
      rcases ite_some h with ⟨hc, h⟩ | ⟨hc, h⟩
      · refine stpc hc ?_
        obtain ⟨r_7, hr_7, h⟩ := bind_some h
        refine cRo [(0, 0)] [] (c_spec_l1Below hr_7) (stp ?_)
        obtain ⟨r_8, hr_8, h⟩ := bind_some h
        refine cRo [(0, 0)] [] (c_spec_l1From hr_8) (stp ?_)
        obtain ⟨hp, h⟩ := need_some h
        repeat (refine need_i (by omega) ?_; refine stp ?_)
        repeat (refine need_i (by omega) ?_; refine stp ?_)
        cases h
        exact Done.trans ((Done.trans (Done.fz 23 iD rfl (r_3.1.set r_7.1.toNat r_8.1)) (Done.drops [3] (by simp)))) (Done.told frd don)
      refine stpc hc ?_
      rcases ite_some h with ⟨hc, h⟩ | ⟨hc, h⟩
      · refine stpc hc ?_
        refine GhostQ.of ((Weak.fz 23 iD rfl r_3.1)) ?_
        refine stpf ?_
        refine stp ?_
        obtain ⟨hp, h⟩ := need_some h
        repeat (refine need_i (by omega) ?_; refine stp ?_)
        cases h
        exact Done.trans ((Done.drops [3] (by simp))) (Done.told frd don)
      refine stpc hc ?_
      rcases ite_some h with ⟨hc, h⟩ | ⟨hc, h⟩
      · refine stpc hc ?_
        obtain ⟨r_9, hr_9, h⟩ := bind_some h
        refine cRo [(0, 0)] [] (c_spec_l1Odd hr_9) (stp ?_)
        obtain ⟨hp, h⟩ := need_some h
        repeat (refine need_i (by omega) ?_; refine stp ?_)
        cases h
        exact Done.trans ((Done.trans (Done.fz 23 iD rfl (r_3.1 ++ [r_9.1])) (Done.drops [3, 54] (by simp)))) (Done.told frd don)
      refine stpc hc ?_
      cases h
      exact Done.trans ((Done.trans (Done.fz 23 iD rfl r_3.1) (Done.drops [3] (by simp)))) (Done.told frd don)
    refine stpc hc ?_
    cases h
    exact Done.trans ((Done.trans (Done.fz 23 iD rfl r_3.1) (Done.drops [3] (by simp)))) (Done.told frd don)
  refine stpc hc ?_
  obtain ⟨r_10, hr_10, h⟩ := bind_some h
  refine cRo [(0, 0)] [] (c_spec_l1From hr_10) (stp ?_)
  cases h
  exact Done.trans ((Done.drops [3, 17] (by simp))) (Done.told frd don)
def mc233_spec_l6Known_s1 : MCode :=
  (.seq (.reg [⟨(some 2), .alloc 2 46 [.sl 0 (some true) [], .sl 0 (some true) []], none⟩])
  (.seq (.reg [⟨(some 4), .bsl 4 2 1 [(.const (.int .i64 2)), (.const (.int .i64 1)), (.const (.int .i64 0))], none⟩,
    ⟨(some 5), .build [.sl 0 (some true) []] [(0, 1, (.tmp 4))], none⟩,
    ⟨(some 3), .alloc 3 43 [.sl 0 (some true) []], none⟩,
    ⟨none, .store 1 (.tmp 3) (.tmp 5), none⟩])
  (.seq (.seq (.reg [⟨(some 6), .mv (.tmp 0), none⟩])
  (.block 0
    (.seq (.reg [⟨(some 8), .bin .eql (.tmp 6) (.const (.int .i64 0)), none⟩,
      ⟨(some 7), .mv (.tmp 8), none⟩])
    (.cond (.tmp 7)
      (.seq (.reg [⟨(some 9), .load 1 true (.tmp 3), none⟩,
        ⟨(some 10), .bsl 10 2 1 [(.const (.int .i64 0)), (.const (.int .i64 2)), (.const (.int .i64 (-1)))], none⟩,
        ⟨(some 11), .bsl 11 2 1 [(.const (.int .i64 (-1)))], none⟩,
        ⟨(some 12), .build [.sl 0 (some true) [], .sl 0 (some true) []] [(0, 1, (.tmp 10)), (1, 1, (.tmp 11))], none⟩,
        ⟨(some 13), .bsl 13 2 1 [(.const (.int .i64 0)), (.const (.int .i64 1)), (.const (.int .i64 (-1))), (.const (.int .i64 (-2)))], none⟩,
        ⟨(some 14), .bsl 14 2 1 [(.const (.int .i64 1)), (.const (.int .i64 0)), (.const (.int .i64 (-1))), (.const (.int .i64 (-2)))], none⟩,
        ⟨(some 15), .build [.sl 0 (some true) [], .sl 0 (some true) []] [(0, 1, (.tmp 13)), (1, 1, (.tmp 14))], none⟩,
        ⟨(some 16), .bslg 16 146 2 [(.tmp 12), (.tmp 15)], none⟩,
        ⟨(some 17), .build [.sl 0 (some true) [], .sl 0 (some true) []] [(0, 1, (.tmp 9)), (1, 1, (.tmp 16))], none⟩,
        ⟨none, .store 2 (.tmp 2) (.tmp 17), none⟩])
      .ret)
      (.seq (.reg [⟨(some 19), .bin .eql (.tmp 6) (.const (.int .i64 1)), none⟩,
        ⟨(some 18), .mv (.tmp 19), none⟩])
      (.cond (.tmp 18)
        (.seq (.reg [⟨(some 20), .load 1 true (.tmp 3), none⟩,
          ⟨(some 21), .bsl 21 2 1 [(.const (.int .i64 0)), (.const (.int .i64 0)), (.const (.int .i64 (-1))), (.const (.int .i64 (-2))), (.const (.int .i64 (-3)))], none⟩,
          ⟨(some 22), .bsl 22 2 1 [(.const (.int .i64 0)), (.const (.int .i64 (-1))), (.const (.int .i64 0)), (.const (.int .i64 (-2))), (.const (.int .i64 (-3)))], none⟩,
          ⟨(some 23), .build [.sl 0 (some true) [], .sl 0 (some true) []] [(0, 1, (.tmp 21)), (1, 1, (.tmp 22))], none⟩,
          ⟨(some 24), .bslg 24 146 2 [(.tmp 23)], none⟩,
          ⟨(some 25), .build [.sl 0 (some true) [], .sl 0 (some true) []] [(0, 1, (.tmp 20)), (1, 1, (.tmp 24))], none⟩,
          ⟨none, .store 2 (.tmp 2) (.tmp 25), none⟩])
        .ret)
        (.seq (.reg [⟨(some 27), .bin .eql (.tmp 6) (.const (.int .i64 2)), none⟩,
          ⟨(some 26), .mv (.tmp 27), none⟩])
        (.cond (.tmp 26)
          (.seq (.reg [⟨(some 28), .load 1 true (.tmp 3), none⟩,
            ⟨(some 29), .bsl 29 2 1 [(.const (.int .i64 1)), (.const (.int .i64 1)), (.const (.int .i64 (-1)))], none⟩,
            ⟨(some 30), .bsl 30 2 1 [(.const (.int .i64 (-1)))], none⟩,
            ⟨(some 31), .build [.sl 0 (some true) [], .sl 0 (some true) []] [(0, 1, (.tmp 29)), (1, 1, (.tmp 30))], none⟩,
            ⟨(some 32), .bslg 32 146 2 [(.tmp 31)], none⟩,
            ⟨(some 33), .build [.sl 0 (some true) [], .sl 0 (some true) []] [(0, 1, (.tmp 28)), (1, 1, (.tmp 32))], none⟩,
            ⟨none, .store 2 (.tmp 2) (.tmp 33), none⟩])
          .ret)
          (.seq (.reg [⟨(some 35), .bin .eql (.tmp 6) (.const (.int .i64 3)), none⟩,
            ⟨(some 34), .mv (.tmp 35), none⟩])
          (.cond (.tmp 34)
            (.seq (.reg [⟨(some 36), .load 1 true (.tmp 3), none⟩,
              ⟨(some 37), .bsl 37 2 1 [(.const (.int .i64 1)), (.const (.int .i64 (-1)))], none⟩,
              ⟨(some 38), .bsl 38 2 1 [(.const (.int .i64 1)), (.const (.int .i64 1)), (.const (.int .i64 (-1)))], none⟩,
              ⟨(some 39), .build [.sl 0 (some true) [], .sl 0 (some true) []] [(0, 1, (.tmp 37)), (1, 1, (.tmp 38))], none⟩,
              ⟨(some 40), .bslg 40 146 2 [(.tmp 39)], none⟩,
              ⟨(some 41), .build [.sl 0 (some true) [], .sl 0 (some true) []] [(0, 1, (.tmp 36)), (1, 1, (.tmp 40))], none⟩,
              ⟨none, .store 2 (.tmp 2) (.tmp 41), none⟩])
            .ret)
            (.seq (.reg [⟨(some 43), .bin .eql (.tmp 6) (.const (.int .i64 4)), none⟩,
              ⟨(some 42), .mv (.tmp 43), none⟩])
            (.cond (.tmp 42)
              (.seq (.reg [⟨(some 44), .load 1 true (.tmp 3), none⟩,
                ⟨(some 45), .bsl 45 2 1 [(.const (.int .i64 0)), (.const (.int .i64 (-1))), (.const (.int .i64 (-2)))], none⟩,
                ⟨(some 46), .bsl 46 2 1 [(.const (.int .i64 (-1)))], none⟩,
                ⟨(some 47), .build [.sl 0 (some true) [], .sl 0 (some true) []] [(0, 1, (.tmp 45)), (1, 1, (.tmp 46))], none⟩,
                ⟨(some 48), .bsl 48 2 1 [(.const (.int .i64 0)), (.const (.int .i64 (-1))), (.const (.int .i64 (-2)))], none⟩,
                ⟨(some 49), .bsl 49 2 1 [(.const (.int .i64 (-2)))], none⟩,
                ⟨(some 50), .build [.sl 0 (some true) [], .sl 0 (some true) []] [(0, 1, (.tmp 48)), (1, 1, (.tmp 49))], none⟩,
                ⟨(some 51), .bslg 51 146 2 [(.tmp 47), (.tmp 50)], none⟩,
                ⟨(some 52), .build [.sl 0 (some true) [], .sl 0 (some true) []] [(0, 1, (.tmp 44)), (1, 1, (.tmp 51))], none⟩,
                ⟨none, .store 2 (.tmp 2) (.tmp 52), none⟩])
              .ret)
              (.seq (.reg [⟨(some 54), .bin .eql (.tmp 6) (.const (.int .i64 5)), none⟩,
                ⟨(some 53), .mv (.tmp 54), none⟩])
              (.cond (.tmp 53)
                (.seq (.reg [⟨(some 55), .load 1 true (.tmp 3), none⟩,
                  ⟨(some 56), .bsl 56 2 1 [(.const (.int .i64 0)), (.const (.int .i64 (-1))), (.const (.int .i64 (-2)))], none⟩,
                  ⟨(some 57), .bsl 57 2 1 [(.const (.int .i64 0)), (.const (.int .i64 (-2))), (.const (.int .i64 (-1)))], none⟩,
                  ⟨(some 58), .build [.sl 0 (some true) [], .sl 0 (some true) []] [(0, 1, (.tmp 56)), (1, 1, (.tmp 57))], none⟩,
                  ⟨(some 59), .bslg 59 146 2 [(.tmp 58)], none⟩,
                  ⟨(some 60), .build [.sl 0 (some true) [], .sl 0 (some true) []] [(0, 1, (.tmp 55)), (1, 1, (.tmp 59))], none⟩,
                  ⟨none, .store 2 (.tmp 2) (.tmp 60), none⟩])
                .ret)
                .skip))))))))))))))
  (.seq (.reg [⟨(some 61), .load 1 true (.tmp 3), none⟩,
    ⟨(some 62), .bsl 62 2 1 [(.const (.int .i64 0)), (.const (.int .i64 2)), (.const (.int .i64 (-1)))], none⟩,
    ⟨(some 63), .bsl 63 2 1 [(.const (.int .i64 (-1)))], none⟩,
    ⟨(some 64), .build [.sl 0 (some true) [], .sl 0 (some true) []] [(0, 1, (.tmp 62)), (1, 1, (.tmp 63))], none⟩,
    ⟨(some 65), .bsl 65 2 1 [(.const (.int .i64 0)), (.const (.int .i64 1)), (.const (.int .i64 (-1))), (.const (.int .i64 (-1)))], none⟩,
    ⟨(some 66), .bsl 66 2 1 [(.const (.int .i64 2))], none⟩,
    ⟨(some 67), .build [.sl 0 (some true) [], .sl 0 (some true) []] [(0, 1, (.tmp 65)), (1, 1, (.tmp 66))], none⟩,
    ⟨(some 68), .bsl 68 2 1 [(.const (.int .i64 0)), (.const (.int .i64 0)), (.const (.int .i64 (-1))), (.const (.int .i64 (-2))), (.const (.int .i64 (-3)))], none⟩,
    ⟨(some 69), .bsl 69 2 1 [(.const (.int .i64 0)), (.const (.int .i64 (-1))), (.const (.int .i64 0)), (.const (.int .i64 (-2))), (.const (.int .i64 (-3)))], none⟩,
    ⟨(some 70), .build [.sl 0 (some true) [], .sl 0 (some true) []] [(0, 1, (.tmp 68)), (1, 1, (.tmp 69))], none⟩,
    ⟨(some 71), .bslg 71 146 2 [(.tmp 64), (.tmp 67), (.tmp 70)], none⟩,
    ⟨(some 72), .build [.sl 0 (some true) [], .sl 0 (some true) []] [(0, 1, (.tmp 61)), (1, 1, (.tmp 71))], none⟩,
    ⟨none, .store 2 (.tmp 2) (.tmp 72), none⟩])
  .ret))))
theorem fn233_spec_l6Known_s1 : MFn Tryz.prog 233 mc233_spec_l6Known_s1 73 [.cell 2 2 true] :=
  ⟨Tryz.f233, Tryz.func233, by kernel_rfl, Tryz.ntmps233, by kernel_rfl⟩
def F_spec_l6Known_s1 (k : Int) : Option (Ls × (List (Ls × Ls))) :=
 if (k == 0) = true then
  some ([2, 1, 0], [([0, 2, (-1)], [(-1)]), ([0, 1, (-1), (-2)], [1, 0, (-1), (-2)])])
 else
  if (k == 1) = true then
   some ([2, 1, 0], [([0, 0, (-1), (-2), (-3)], [0, (-1), 0, (-2), (-3)])])
  else
   if (k == 2) = true then
    some ([2, 1, 0], [([1, 1, (-1)], [(-1)])])
   else
    if (k == 3) = true then
     some ([2, 1, 0], [([1, (-1)], [1, 1, (-1)])])
    else
     if (k == 4) = true then
      some ([2, 1, 0], [([0, (-1), (-2)], [(-1)]), ([0, (-1), (-2)], [(-2)])])
     else
      if (k == 5) = true then
       some ([2, 1, 0], [([0, (-1), (-2)], [0, (-2), (-1)])])
      else
       some ([2, 1, 0], [([0, 2, (-1)], [(-1)]), ([0, 1, (-1), (-1)], [2]), ([0, 0, (-1), (-2), (-3)], [0, (-1), 0, (-2), (-3)])])
theorem c_spec_l6Known_s1 {k : Int} {rr : (Ls × (List (Ls × Ls)))} (h : F_spec_l6Known_s1 k = some rr) : ACalls Tryz.prog 233 [.d (iD k)] [] 0 fun xx ss => xx = .agg [.d (slD 1 iD rr.1), .gow 2 900000 rr.2.length] ∧ ss = [(900000, .gro 146 2 rr.2.length (groL D_impl_Rule rr.2))] := by
  delta F_spec_l6Known_s1 at h
  refine fn233_spec_l6Known_s1.callsD (vcm_sound ?_)
  delta mc233_spec_l6Known_s1
  refine stp ?_
  rcases ite_some h with ⟨hc, h⟩ | ⟨hc, h⟩
  · refine stpc hc ?_
    cases h
    exact Done.trans ((Done.trans (Done.move 16 900000 (ob := .gro 146 2 2 (groL D_impl_Rule [([0, 2, (-1)], [(-1)]), ([0, 1, (-1), (-2)], [1, 0, (-1), (-2)])])) (by omega) (by omega) (by omega) rfl (by first | rfl | (simp; done))) (Done.drops [2, 3, 4, 10, 11, 13, 14] (by simp)))) (Done.told frd don)
  refine stpc hc ?_
  rcases ite_some h with ⟨hc, h⟩ | ⟨hc, h⟩
  · refine stpc hc ?_
    cases h
    exact Done.trans ((Done.trans (Done.move 24 900000 (ob := .gro 146 2 1 (groL D_impl_Rule [([0, 0, (-1), (-2), (-3)], [0, (-1), 0, (-2), (-3)])])) (by omega) (by omega) (by omega) rfl (by first | rfl | (simp; done))) (Done.drops [2, 3, 4, 21, 22] (by simp)))) (Done.told frd don)
  refine stpc hc ?_
  rcases ite_some h with ⟨hc, h⟩ | ⟨hc, h⟩
  · refine stpc hc ?_
    cases h
    exact Done.trans ((Done.trans (Done.move 32 900000 (ob := .gro 146 2 1 (groL D_impl_Rule [([1, 1, (-1)], [(-1)])])) (by omega) (by omega) (by omega) rfl (by first | rfl | (simp; done))) (Done.drops [2, 3, 4, 29, 30] (by simp)))) (Done.told frd don)
  refine stpc hc ?_
  rcases ite_some h with ⟨hc, h⟩ | ⟨hc, h⟩
  · refine stpc hc ?_
    cases h
    exact Done.trans ((Done.trans (Done.move 40 900000 (ob := .gro 146 2 1 (groL D_impl_Rule [([1, (-1)], [1, 1, (-1)])])) (by omega) (by omega) (by omega) rfl (by first | rfl | (simp; done))) (Done.drops [2, 3, 4, 37, 38] (by simp)))) (Done.told frd don)
  refine stpc hc ?_
  rcases ite_some h with ⟨hc, h⟩ | ⟨hc, h⟩
  · refine stpc hc ?_
    cases h
    exact Done.trans ((Done.trans (Done.move 51 900000 (ob := .gro 146 2 2 (groL D_impl_Rule [([0, (-1), (-2)], [(-1)]), ([0, (-1), (-2)], [(-2)])])) (by omega) (by omega) (by omega) rfl (by first | rfl | (simp; done))) (Done.drops [2, 3, 4, 45, 46, 48, 49] (by simp)))) (Done.told frd don)
  refine stpc hc ?_
  rcases ite_some h with ⟨hc, h⟩ | ⟨hc, h⟩
  · refine stpc hc ?_
    cases h
    exact Done.trans ((Done.trans (Done.move 59 900000 (ob := .gro 146 2 1 (groL D_impl_Rule [([0, (-1), (-2)], [0, (-2), (-1)])])) (by omega) (by omega) (by omega) rfl (by first | rfl | (simp; done))) (Done.drops [2, 3, 4, 56, 57] (by simp)))) (Done.told frd don)
  refine stpc hc ?_
  cases h
  exact Done.trans ((Done.trans (Done.move 71 900000 (ob := .gro 146 2 3 (groL D_impl_Rule [([0, 2, (-1)], [(-1)]), ([0, 1, (-1), (-1)], [2]), ([0, 0, (-1), (-2), (-3)], [0, (-1), 0, (-2), (-3)])])) (by omega) (by omega) (by omega) rfl (by first | rfl | (simp; done))) (Done.drops [2, 3, 4, 62, 63, 65, 66, 68, 69] (by simp)))) (Done.told frd don)
def mc204_spec_l6Draw_s1 : MCode :=
  (.seq (.reg [⟨(some 2), .alloc 2 46 [.sl 0 (some true) [], .sl 0 (some true) []], none⟩])
  (.seq (.seq (.reg [⟨(some 5), .mv (.tmp 0), none⟩,
    ⟨(some 6), .callf 103 [(.tmp 5), (.const (.int .i64 2))], none⟩])
  (.cond (.tmp 6)
    (.seq (.reg [⟨(some 7), .mv (.tmp 0), none⟩,
      ⟨(some 8), .callf 105 [(.tmp 7), (.const (.int .i64 7))], none⟩,
      ⟨(some 9), .callf 233 [(.tmp 8)], none⟩,
      ⟨none, .store 2 (.tmp 2) (.tmp 9), none⟩])
    .ret)
    .skip))
  (.seq (.reg [⟨(some 10), .mv (.tmp 0), none⟩,
    ⟨(some 11), .callf 296 [(.tmp 10)], none⟩,
    ⟨(some 12), .build [.sl 0 (some true) [], .sl 0 (some true) []] [(0, 1, (.tmp 11))], none⟩,
    ⟨(some 3), .alloc 3 46 [.sl 0 (some true) [], .sl 0 (some true) []], none⟩,
    ⟨none, .store 2 (.tmp 3) (.tmp 12), none⟩])
  (.seq (.seq (.reg [⟨(some 13), .mv (.tmp 0), none⟩,
    ⟨(some 14), .callf 105 [(.tmp 13), (.const (.int .i64 4))], none⟩,
    ⟨(some 4), .mv (.tmp 14), none⟩])
  (.block 0
    (.loop
      (.seq (.seq (.reg [⟨(some 15), .mv (.tmp 4), none⟩,
        ⟨(some 16), .bin .gtr (.tmp 15) (.const (.int .i64 0)), none⟩])
      (.cond (.tmp 16)
        .skip
        (.exit 0)))
      (.seq (.block 1
        (.draw [⟨(some 19), .fad 1 (.tmp 3), none⟩,
          ⟨(some 20), .load 1 false (.tmp 19), none⟩,
          ⟨(some 21), .mv (.tmp 0), none⟩,
          ⟨(some 22), .fad 0 (.tmp 3), none⟩,
          ⟨(some 23), .load 1 true (.tmp 22), none⟩,
          ⟨(some 24), .callf 297 [(.tmp 21), (.tmp 23)], none⟩,
          ⟨(some 25), .bsl 25 146 2 [(.tmp 24)], none⟩,
          ⟨(some 26), .appg 26 146 2 48 (.tmp 20) (.tmp 25), none⟩,
          ⟨(some 27), .fad 1 (.tmp 3), none⟩,
          ⟨none, .store 1 (.tmp 27) (.tmp 26), none⟩] [[], [0], [], [], [3], [2, 4], [5], [1, 6, 5], [0, 1, 2, 3, 4, 5, 6, 7], [8, 7, 7, 0, 1, 2, 3, 4, 5, 6, 7]]))
      (.reg [⟨(some 17), .mv (.tmp 4), none⟩,
        ⟨(some 18), .bin .sub (.tmp 17) (.const (.int .i64 1)), none⟩,
        ⟨(some 4), .mv (.tmp 18), none⟩]))))))
  (.seq (.reg [⟨(some 28), .load 2 true (.tmp 3), none⟩,
    ⟨none, .store 2 (.tmp 2) (.tmp 28), none⟩])
  .ret)))))
theorem fn204_spec_l6Draw_s1 : MFn Tryz.prog 204 mc204_spec_l6Draw_s1 29 [.cell 2 2 true] :=
  ⟨Tryz.f204, Tryz.func204, by kernel_rfl, Tryz.ntmps204, by kernel_rfl⟩
def F_spec_l6Draw_s1_l1 (c0 : Ls) (r_3 : (Ls × Int × Int)) : (Int × Int × Int × (List (Ls × Ls))) → Option ((Int × Int × Int × (List (Ls × Ls))) ⊕ (Ls × (List (Ls × Ls)) × Int × Int))
 | (n, c, c_1, g26) =>
  if (decide (0 < n)) = true then
   (F_spec_l6DrawRule r_3.1 c0 c c_1).bind fun r_5 =>
   if (g26.length + 1) * 48 ≤ 140737488355328 then
    some (.inl ((IntKind.i64.wrap (n - 1)), r_5.2.1, r_5.2.2, (g26 ++ [r_5.1])))
   else none
  else
   Option.map Sum.inr (
    some (r_3.1, g26, c, c_1))
def F_spec_l6Draw_s1 (c0 : Ls) (c1 : Int) (c2 : Int) : Option (Ls × (List (Ls × Ls)) × Int × Int) :=
 (F_spec_l1Once 2 c0 c1 c2).bind fun r =>
 if r.1 = true then
  (F_spec_l1Below 7 c0 r.2.1 r.2.2).bind fun r_1 =>
  (F_spec_l6Known_s1 r_1.1).bind fun r_2 =>
  some (r_2.1, r_2.2, r_1.2.1, r_1.2.2)
 else
  (F_spec_l1DrawSig c0 r.2.1 r.2.2).bind fun r_3 =>
  (F_spec_l1Below 4 c0 r_3.2.1 r_3.2.2).bind fun r_4 =>
  loopC (F_spec_l6Draw_s1_l1 c0 r_3) (r_4.1, r_4.2.1, r_4.2.2, [])
theorem c_spec_l6Draw_s1 {c0 : Ls} {c1 : Int} {c2 : Int} {rr : (Ls × (List (Ls × Ls)) × Int × Int)} (h : F_spec_l6Draw_s1 c0 c1 c2 = some rr) : ACalls Tryz.prog 204 [.ptr 0 0] [(0, .obj 216 [.d (slD 1 (kD .u8) c0), .d (iD c1), .d (iD c2)])] 1 fun xx ss => xx = .agg [.d (slD 1 iD rr.1), .gow 2 900000 rr.2.1.length] ∧ ss = [(0, .obj 216 [.d (slD 1 (kD .u8) c0), .d (iD rr.2.2.1), .d (iD rr.2.2.2)]), (900000, .gro 146 2 rr.2.1.length (groL D_impl_Rule rr.2.1))] := by
  delta F_spec_l6Draw_s1 at h
  refine fn204_spec_l6Draw_s1.callsD (vcm_sound ?_)
  delta mc204_spec_l6Draw_s1
  refine stp ?_
  obtain ⟨r, hr, h⟩ := bind_some h
  refine cRo [(0, 0)] [] (c_spec_l1Once hr) (stp ?_)
  rcases ite_some h with ⟨hc, h⟩ | ⟨hc, h⟩
  · refine stpc hc ?_
    obtain ⟨r_1, hr_1, h⟩ := bind_some h
    refine cRo [(0, 0)] [] (c_spec_l1Below hr_1) (stp ?_)
    obtain ⟨r_2, hr_2, h⟩ := bind_some h
    refine cRo [] [(900000, 9)] (c_spec_l6Known_s1 hr_2) (stp ?_)
    cases h
    exact Done.trans ((Done.trans (Done.move 9 900000 (ob := .gro 146 2 r_2.2.length (groL D_impl_Rule r_2.2)) (by omega) (by omega) (by omega) rfl (by first | rfl | (simp; done))) (Done.drops [2] (by simp)))) (Done.told frd don)
  refine stpc hc ?_
  obtain ⟨r_3, hr_3, h⟩ := bind_some h
  refine cRo [(0, 0)] [] (c_spec_l1DrawSig hr_3) (stp ?_)
  obtain ⟨r_4, hr_4, h⟩ := bind_some h
  refine cRo [(0, 0)] [] (c_spec_l1Below hr_4) (stp ?_)
  refine m_loopF h [4, 15, 16, 17, 18, 19, 20, 21, 22, 23, 24, 25, 26, 27] (fun pp => [(4, .d (iD pp.1))]) (fun pp => [(0, .obj 216 [.d (slD 1 (kD .u8) c0), .d (iD pp.2.1), .d (iD pp.2.2.1)]), (2, .obj 46 [.d (.sl 0 (some true) []), .d (.sl 0 (some true) [])]), (3, .obj 46 [.d (slD 1 iD r_3.1), .gow 2 26 pp.2.2.2.length]), (26, .gro 146 2 pp.2.2.2.length (groL D_impl_Rule pp.2.2.2))]) ?_ ?_
  · try dsimp only
    refine (Weak.thawCellG 3 1 26 146 2 rfl rfl rfl).trans ?_
    exact wk
  rintro ⟨n, c, c_1, g26⟩ t1 h hb1
  unfold F_spec_l6Draw_s1_l1 at h
  try dsimp only at h
  refine vcm_sound (stp ?_)
  rcases ite_some h with ⟨hc, h⟩ | ⟨hc, h⟩
  · refine stpc hc ?_
    obtain ⟨r_5, hr_5, h⟩ := bind_some h
    refine cDo [(0, 0)] [] (c_spec_l6DrawRule hr_5) (stp ?_)
    obtain ⟨hp, h⟩ := need_some h
    repeat (refine need_i (by omega) ?_; refine stp ?_)
    refine drQ_of (by kernel_rfl) ?_
    refine stp ?_
    cases h
    refine ⟨_, rfl, ?_⟩
    refine (Weak.leS (s' := [(0, .obj 216 [.d (slD 1 (kD .u8) c0), .d (iD r_5.2.1), .d (iD r_5.2.2)]), (2, .obj 46 [.d (.sl 0 (some true) []), .d (.sl 0 (some true) [])]), (3, .obj 46 [.d (slD 1 iD r_3.1), .gow 2 26 ((g26 ++ [r_5.1]).length)]), (25, .tok 146 2 1), (26, .gro 146 2 ((g26 ++ [r_5.1]).length) (groL D_impl_Rule (g26 ++ [r_5.1])))]) (EnvLe.refl _) (by exact (stoC (ObLe.refl _) (stoC (ObLe.refl _) (stoC ⟨rfl, don⟩ (stoC (ObLe.refl _) (stoC ⟨rfl, rfl, by simp, gro_snoc don⟩ stoN))))))).trans ?_
    refine (Weak.drop 25 (by omega)).trans ?_
    exact wk
  refine stpc hc ?_
  replace h := inr_some h hb1
  cases h
  exact Done.trans ((Done.trans (Done.move 26 900000 (ob := .gro 146 2 g26.length (groL D_impl_Rule g26)) (by omega) (by omega) (by omega) rfl (by first | rfl | (simp; done))) (Done.drops [2, 3] (by simp)))) (Done.told frd don)
def mc296_spec_l1DrawSig_s1 : MCode :=
  (.seq (.reg [⟨(some 2), .alloc 2 43 [.sl 0 (some true) []], none⟩])
  (.seq (.reg [⟨(some 5), .bslg 5 2 1 [(.const (.int .i64 2)), (.const (.int .i64 1)), (.const (.int .i64 0))], none⟩,
    ⟨(some 6), .build [.sl 0 (some true) []] [(0, 1, (.tmp 5))], none⟩,
    ⟨(some 3), .alloc 3 43 [.sl 0 (some true) []], none⟩,
    ⟨none, .store 1 (.tmp 3) (.tmp 6), none⟩])
  (.seq (.seq (.reg [⟨(some 7), .mv (.tmp 0), none⟩,
    ⟨(some 8), .callf 103 [(.tmp 7), (.const (.int .i64 4))], none⟩])
  (.cond (.tmp 8)
    (.seq (.reg [⟨(some 9), .bslg 9 2 1 [(.const (.int .i64 0))], none⟩,
      ⟨(some 10), .build [.sl 0 (some true) []] [(0, 1, (.tmp 9))], none⟩,
      ⟨none, .store 1 (.tmp 3) (.tmp 10), none⟩])
    (.seq (.reg [⟨(some 11), .mv (.tmp 0), none⟩,
      ⟨(some 12), .callf 105 [(.tmp 11), (.const (.int .i64 4))], none⟩,
      ⟨(some 4), .mv (.tmp 12), none⟩])
    (.block 0
      (.loop
        (.seq (.seq (.reg [⟨(some 13), .mv (.tmp 4), none⟩,
          ⟨(some 14), .bin .gtr (.tmp 13) (.const (.int .i64 0)), none⟩])
        (.cond (.tmp 14)
          .skip
          (.exit 0)))
        (.seq (.block 1
          (.draw [⟨(some 17), .fad 0 (.tmp 3), none⟩,
            ⟨(some 18), .load 1 false (.tmp 17), none⟩,
            ⟨(some 19), .mv (.tmp 0), none⟩,
            ⟨(some 20), .callf 105 [(.tmp 19), (.const (.int .i64 3))], none⟩,
            ⟨(some 21), .bsl 21 2 1 [(.tmp 20)], none⟩,
            ⟨(some 22), .app 22 2 1 8 (.tmp 18) (.tmp 21), none⟩,
            ⟨(some 23), .fad 0 (.tmp 3), none⟩,
            ⟨none, .store 1 (.tmp 23) (.tmp 22), none⟩] [[], [0], [], [2], [3], [1, 4, 3], [0, 1, 2, 3, 4, 5], [6, 5, 5, 0, 1, 2, 3, 4, 5]]))
        (.reg [⟨(some 15), .mv (.tmp 4), none⟩,
          ⟨(some 16), .bin .sub (.tmp 15) (.const (.int .i64 1)), none⟩,
          ⟨(some 4), .mv (.tmp 16), none⟩])))))))
    .skip))
  (.seq (.reg [⟨(some 24), .load 1 true (.tmp 3), none⟩,
    ⟨none, .store 1 (.tmp 2) (.tmp 24), none⟩])
  .ret))))
theorem fn296_spec_l1DrawSig_s1 : MFn Tryz.prog 296 mc296_spec_l1DrawSig_s1 25 [.cell 2 1 true] :=
  ⟨Tryz.f296, Tryz.func296, by kernel_rfl, Tryz.ntmps296, by kernel_rfl⟩
def F_spec_l1DrawSig_s1_l1 (c0 : Ls) : (Int × Int × Int × Ls) → Option ((Int × Int × Int × Ls) ⊕ (Ls × Int × Int))
 | (n, c, c_1, g9) =>
  if (decide (0 < n)) = true then
   (F_spec_l1Below 3 c0 c c_1).bind fun r_2 =>
   if (g9.length + 1) * 8 ≤ 140737488355328 then
    some (.inl ((IntKind.i64.wrap (n - 1)), r_2.2.1, r_2.2.2, (g9 ++ [r_2.1])))
   else none
  else
   Option.map Sum.inr (
    some (g9, c, c_1))
def F_spec_l1DrawSig_s1 (c0 : Ls) (c1 : Int) (c2 : Int) : Option (Ls × Int × Int) :=
 (F_spec_l1Once 4 c0 c1 c2).bind fun r =>
 if r.1 = true then
  (F_spec_l1Below 4 c0 r.2.1 r.2.2).bind fun r_1 =>
  loopC (F_spec_l1DrawSig_s1_l1 c0) (r_1.1, r_1.2.1, r_1.2.2, [0])
 else
  some ([2, 1, 0], r.2.1, r.2.2)
theorem c_spec_l1DrawSig_s1 {c0 : Ls} {c1 : Int} {c2 : Int} {rr : (Ls × Int × Int)} (h : F_spec_l1DrawSig_s1 c0 c1 c2 = some rr) : ACalls Tryz.prog 296 [.ptr 0 0] [(0, .obj 216 [.d (slD 1 (kD .u8) c0), .d (iD c1), .d (iD c2)])] 1 fun xx ss => xx = .agg [.gow 1 900000 rr.1.length] ∧ ss = [(0, .obj 216 [.d (slD 1 (kD .u8) c0), .d (iD rr.2.1), .d (iD rr.2.2)]), (900000, .gro 2 1 rr.1.length (groL iD rr.1))] := by
  delta F_spec_l1DrawSig_s1 at h
  refine fn296_spec_l1DrawSig_s1.callsD (vcm_sound ?_)
  delta mc296_spec_l1DrawSig_s1
  refine stp ?_
  obtain ⟨r, hr, h⟩ := bind_some h
  refine cRo [(0, 0)] [] (c_spec_l1Once hr) (stp ?_)
  rcases ite_some h with ⟨hc, h⟩ | ⟨hc, h⟩
  · refine stpc hc ?_
    obtain ⟨r_1, hr_1, h⟩ := bind_some h
    refine cRo [(0, 0)] [] (c_spec_l1Below hr_1) (stp ?_)
    refine m_loopF h [4, 13, 14, 15, 16, 17, 18, 19, 20, 21, 22, 23] (fun pp => [(4, .d (iD pp.1))]) (fun pp => [(0, .obj 216 [.d (slD 1 (kD .u8) c0), .d (iD pp.2.1), .d (iD pp.2.2.1)]), (2, .obj 43 [.d (.sl 0 (some true) [])]), (3, .obj 43 [.gow 1 9 pp.2.2.2.length]), (5, .gro 2 1 3 (groL iD [2, 1, 0])), (9, .gro 2 1 pp.2.2.2.length (groL iD pp.2.2.2))]) ?_ ?_
    · try dsimp only
      exact wk
    rintro ⟨n, c, c_1, g9⟩ t1 h hb1
    unfold F_spec_l1DrawSig_s1_l1 at h
    try dsimp only at h
    refine vcm_sound (stp ?_)
    rcases ite_some h with ⟨hc, h⟩ | ⟨hc, h⟩
    · refine stpc hc ?_
      obtain ⟨r_2, hr_2, h⟩ := bind_some h
      refine cDo [(0, 0)] [] (c_spec_l1Below hr_2) (stp ?_)
      obtain ⟨hp, h⟩ := need_some h
      repeat (refine need_i (by omega) ?_; refine stp ?_)
      refine drQ_of (by kernel_rfl) ?_
      refine stp ?_
      cases h
      refine ⟨_, rfl, ?_⟩
      refine (Weak.drop 21 (by omega)).trans ?_
      exact wk
    refine stpc hc ?_
    replace h := inr_some h hb1
    cases h
    exact Done.trans ((Done.trans (Done.move 9 900000 (ob := .gro 2 1 g9.length (groL iD g9)) (by omega) (by omega) (by omega) rfl (by first | rfl | (simp; done))) (Done.drops [2, 3, 5] (by simp)))) (Done.told frd don)
  refine stpc hc ?_
  cases h
  exact Done.trans ((Done.trans (Done.move 5 900000 (ob := .gro 2 1 3 (groL iD [2, 1, 0])) (by omega) (by omega) (by omega) rfl (by first | rfl | (simp; done))) (Done.drops [2, 3] (by simp)))) (Done.told frd don)
end
end Go.Proofs.YtcaljngigbfadaaGreat
namespace Go.Proofs.YtcaljngigbfadaaGreat
noncomputable section
open Go Abx
attribute [local irreducible] vcm vgo vdr vrun vdrun MWp GhostQ BrC BrO BrG BrD BrH AmbO callR callD drQ EnvLe StoLe
set_option maxHeartbeats 4000000
def mc206 : MCode :=
 (.seq (.reg [⟨some 2, .alloc 2 43 [.sl 0 (some true) []], none⟩]) (.seq (.reg [⟨some 4, .mv (.tmp 0), none⟩, ⟨some 5, .callf 296 [.tmp 4], none⟩, ⟨some 3, .alloc 3 43 [.sl 0 (some true) []], none⟩, ⟨none, .store 1 (.tmp 3) (.tmp 5), none⟩]) (.seq (.seq (.reg [⟨some 6, .mv (.tmp 0), none⟩, ⟨some 7, .callf 103 [.tmp 6, (.const (.int .i64 15))], none⟩]) (.cond (.tmp 7) (.seq (.reg [⟨some 8, .mv (.tmp 0), none⟩, ⟨some 9, .callf 105 [.tmp 8, (.const (.int .i64 3))], none⟩]) (.block 0 (.seq (.reg [⟨some 11, .bin .eql (.tmp 9) (.const (.int .i64 0)), none⟩, ⟨some 10, .mv (.tmp 11), none⟩]) (.cond (.tmp 10) (.draw [⟨some 12, .fad 0 (.tmp 3), none⟩, ⟨some 13, .load 1 false (.tmp 12), none⟩, ⟨some 14, .mv (.tmp 0), none⟩, ⟨some 15, .callf 235 [.tmp 14, (.const (.int .i64 (-1))), (.const (.int .i64 4))], none⟩, ⟨some 16, .bsl 16 2 1 [.tmp 15], none⟩, ⟨some 17, .app 17 2 1 8 (.tmp 13) (.tmp 16), none⟩, ⟨some 18, .fad 0 (.tmp 3), none⟩, ⟨none, .store 1 (.tmp 18) (.tmp 17), none⟩] [[], [0], [], [2], [3], [1, 4, 3], [0, 1, 2, 3, 4, 5], [6, 5, 5, 0, 1, 2, 3, 4, 5]]) (.seq (.reg [⟨some 20, .bin .eql (.tmp 9) (.const (.int .i64 1)), none⟩, ⟨some 19, .mv (.tmp 20), none⟩]) (.cond (.tmp 19) (.reg [⟨some 21, .bsl 21 2 1 [], none⟩, ⟨some 22, .fad 0 (.tmp 3), none⟩, ⟨none, .store 1 (.tmp 22) (.tmp 21), none⟩]) (.seq (.reg [⟨some 24, .bin .eql (.tmp 9) (.const (.int .i64 2)), none⟩, ⟨some 23, .mv (.tmp 24), none⟩]) (.cond (.tmp 23) (.reg [⟨some 25, .mv (.tmp 0), none⟩, ⟨some 26, .callf 105 [.tmp 25, (.const (.int .i64 2))], none⟩, ⟨some 27, .bin .add (.const (.int .i64 8)) (.tmp 26), none⟩, ⟨some 28, .mksl 28 2 1 8 [.lit (.int .i64 0)] false (.tmp 27) (.tmp 27), none⟩, ⟨some 29, .fad 0 (.tmp 3), none⟩, ⟨none, .store 1 (.tmp 29) (.tmp 28), none⟩]) .skip)))))))) .skip)) (.seq (.reg [⟨some 30, .load 1 true (.tmp 3), none⟩, ⟨none, .store 1 (.tmp 2) (.tmp 30), none⟩]) .ret))))
theorem fn206 : MFn Tryz.prog 206 mc206 31 [.cell 2 1 true] :=
  ⟨Tryz.f206, Tryz.func206, by kernel_rfl, Tryz.ntmps206, by kernel_rfl⟩
def F_spec_l1DrawSigAny (c0 : Ls) (c1 : Int) (c2 : Int) : Option (Ls × Int × Int) :=
 (F_spec_l1DrawSig_s1 c0 c1 c2).bind fun r =>
 (F_spec_l1Once 15 c0 r.2.1 r.2.2).bind fun r_1 =>
 if r_1.1 = true then
  (F_spec_l1Below 3 c0 r_1.2.1 r_1.2.2).bind fun r_2 =>
  if (r_2.1 == 0) = true then
   (F_spec_l1From (-1) 4 c0 r_2.2.1 r_2.2.2).bind fun r_3 =>
   if (r.1.length + 1) * 8 ≤ 140737488355328 then
    some ((r.1 ++ [r_3.1]), r_3.2.1, r_3.2.2)
   else none
  else
   if (r_2.1 == 1) = true then
    some ([], r_2.2.1, r_2.2.2)
   else
    if (r_2.1 == 2) = true then
     (F_spec_l1Below 2 c0 r_2.2.1 r_2.2.2).bind fun r_4 =>
     if 0 ≤ (IntKind.i64.wrap (8 + r_4.1)) ∧ 8 * (IntKind.i64.wrap (8 + r_4.1)) ≤ 281474976710656 ∧ (IntKind.i64.wrap (8 + r_4.1)) < 4611686018427387904 then
      if (List.replicate (IntKind.i64.wrap (8 + r_4.1)).toNat (0 : Int)).length = (IntKind.i64.wrap (8 + r_4.1)).toNat then
       some ((List.replicate (IntKind.i64.wrap (8 + r_4.1)).toNat (0 : Int)), r_4.2.1, r_4.2.2)
      else none
     else none
    else
     some (r.1, r_2.2.1, r_2.2.2)
 else
  some (r.1, r_1.2.1, r_1.2.2)
theorem c_spec_l1DrawSigAny {c0 : Ls} {c1 : Int} {c2 : Int} {rr : (Ls × Int × Int)} (h : F_spec_l1DrawSigAny c0 c1 c2 = some rr) : ACalls Tryz.prog 206 [.ptr 0 0] [(0, .obj 216 [.d (slD 1 (kD .u8) c0), .d (iD c1), .d (iD c2)])] 1 fun xx ss => xx = .d (.agg [slD 1 iD rr.1]) ∧ ss = [(0, .obj 216 [.d (slD 1 (kD .u8) c0), .d (iD rr.2.1), .d (iD rr.2.2)])] := by
  delta F_spec_l1DrawSigAny at h
  refine fn206.callsD (vcm_sound ?_)
  delta mc206
  refine stp ?_
  obtain ⟨r, hr, h⟩ := bind_some h
  refine cRo [(0, 0)] [(900000, 5)] (c_spec_l1DrawSig_s1 hr) (stp ?_)
  obtain ⟨r_1, hr_1, h⟩ := bind_some h
  refine cRo [(0, 0)] [] (c_spec_l1Once hr_1) (stp ?_)
  rcases ite_some h with ⟨hc, h⟩ | ⟨hc, h⟩
  · refine stpc hc ?_
    obtain ⟨r_2, hr_2, h⟩ := bind_some h
    refine cRo [(0, 0)] [] (c_spec_l1Below hr_2) (stp ?_)
    rcases ite_some h with ⟨hc, h⟩ | ⟨hc, h⟩
    · refine stpc hc ?_
      obtain ⟨r_3, hr_3, h⟩ := bind_some h
      refine cDo [(0, 0)] [] (c_spec_l1From hr_3) (stp ?_)
      obtain ⟨hp, h⟩ := need_some h
      repeat (refine need_i (by omega) ?_; refine stp ?_)
      refine drQ_of (by kernel_rfl) ?_
      refine stp ?_
      cases h
      exact Done.trans ((Done.trans (Done.fz 5 iD rfl (r.1 ++ [r_3.1])) (Done.drops [2, 3, 16] (by simp)))) (Done.told frd don)
    refine stpc hc ?_
    rcases ite_some h with ⟨hc, h⟩ | ⟨hc, h⟩
    · refine stpc hc ?_
      cases h
      exact Done.trans ((Done.drops [2, 3, 5, 21] (by simp))) (Done.told frd don)
    refine stpc hc ?_
    rcases ite_some h with ⟨hc, h⟩ | ⟨hc, h⟩
    · refine stpc hc ?_
      obtain ⟨r_4, hr_4, h⟩ := bind_some h
      refine cRo [(0, 0)] [] (c_spec_l1Below hr_4) (stp ?_)
      obtain ⟨hp, h⟩ := need_some h
      repeat (refine need_i (by omega) ?_; refine stp ?_)
      obtain ⟨hp, h⟩ := need_some h
      repeat (refine need_i (by omega) ?_; refine stp ?_)
      cases h
      exact Done.trans ((Done.trans (Done.frzL 28 iD (List.replicate (IntKind.i64.wrap (8 + r_4.1)).toNat (0 : Int)) (by omega) rfl) (Done.drops [2, 3, 5] (by simp)))) (Done.told frd don)
    refine stpc hc ?_
    cases h
    exact Done.trans ((Done.trans (Done.fz 5 iD rfl r.1) (Done.drops [2, 3] (by simp)))) (Done.told frd don)
  refine stpc hc ?_
  cases h
  exact Done.trans ((Done.trans (Done.fz 5 iD rfl r.1) (Done.drops [2, 3] (by simp)))) (Done.told frd don)
end
end Go.Proofs.YtcaljngigbfadaaGreat
