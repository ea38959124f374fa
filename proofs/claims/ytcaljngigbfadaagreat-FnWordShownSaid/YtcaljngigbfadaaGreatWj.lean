/- Functions of the program and the equations that they compute, word problems of the reference; nothing is assumed. -/
import Derived.Test.YtcaljngigbfadaaGreatWi
set_option linter.unusedSimpArgs false
set_option linter.unusedVariables false
set_option linter.unusedSectionVars false
namespace Go.Proofs.YtcaljngigbfadaaGreat
noncomputable section
open Go Abx
attribute [local irreducible] vcm vgo vdr vrun vdrun MWp GhostQ BrC BrO BrG BrD BrH AmbO callR callD drQ EnvLe StoLe
set_option maxHeartbeats 4000000
def mc149 : MCode :=
 (.seq (.reg [⟨some 3, .box 3 46 (.tmp 0), none⟩, ⟨some 6, .mv (.const (.bool false)), none⟩]) (.seq (.reg [⟨some 7, .load 2 true (.tmp 3), none⟩, ⟨some 8, .mv (.tmp 1), none⟩, ⟨some 9, .callf 131 [.tmp 7, .tmp 8], none⟩, ⟨some 10, .mv (.tmp 9), none⟩, ⟨some 11, .mv (.tmp 2), (some (some 10, true))⟩, ⟨some 12, .callf 79 [.tmp 11, (.const (.int .i64 0)), (.const (.int .i64 60))], (some (some 10, true))⟩, ⟨some 13, .pick (.tmp 10) (.tmp 12) (.const (.bool false)), none⟩, ⟨some 6, .mv (.tmp 13), none⟩]) .ret))
theorem fn149 : MFn Tryz.prog 149 mc149 14 [.tmp 6] :=
  ⟨Tryz.f149, Tryz.func149, by kernel_rfl, Tryz.ntmps149, by kernel_rfl⟩
def F_spec_l22Right (sys : (Ls × (List (Ls × Ls)))) (t : Ls) (fuel : Int) : Option Bool :=
 (F_spec_l7Right sys t).bind fun r =>
 if r = true then
  (F_spec_l1In fuel 0 60).bind fun r_1 =>
  some r_1
 else
  some false
theorem c_spec_l22Right {sys : (Ls × (List (Ls × Ls)))} {t : Ls} {fuel : Int} {rr : Bool} (h : F_spec_l22Right sys t fuel = some rr) : PFun Tryz.prog 149 [D_impl_System sys, (slD 1 iD) t, iD fuel] (bD rr) := by
  delta F_spec_l22Right at h
  refine fn149.pureL (vcm_sound ?_)
  delta mc149
  refine stp ?_
  obtain ⟨r, hr, h⟩ := bind_some h
  refine cR (c_spec_l7Right hr) (stp ?_)
  rcases ite_some h with ⟨hc, h⟩ | ⟨hc, h⟩
  · refine stpc hc ?_
    obtain ⟨r_1, hr_1, h⟩ := bind_some h
    refine cR (c_spec_l1In hr_1) (stp ?_)
    cases h
    exact don
  refine stpc hc ?_
  cases h
  exact don
def mc150 : MCode :=
 (.seq (.reg [⟨some 4, .box 4 46 (.tmp 0), none⟩, ⟨some 8, .mv (.const (.slice none 0 0)), none⟩, ⟨some 9, .mv (.const (.bool false)), none⟩]) (.seq (.reg [⟨some 13, .load 2 true (.tmp 4), none⟩, ⟨some 14, .mv (.tmp 1), none⟩, ⟨some 15, .mv (.tmp 2), none⟩, ⟨some 16, .mv (.tmp 3), none⟩, ⟨some 17, .callf 104 [.tmp 13, .tmp 14, .tmp 15, .tmp 16], none⟩, ⟨some 12, .mv (.tmp 17), none⟩, ⟨some 18, .ext (.tmp 12) 0, none⟩, ⟨some 19, .ext (.tmp 12) 1, none⟩, ⟨some 10, .alloc 10 40 [.sl 0 (some true) [], .sl 0 (some true) []], none⟩, ⟨none, .store 2 (.tmp 10) (.tmp 18), none⟩, ⟨some 11, .mv (.tmp 19), none⟩]) (.seq (.seq (.reg [⟨some 20, .mv (.tmp 11), none⟩, ⟨some 21, .un .not (.tmp 20), none⟩]) (.cond (.tmp 21) (.seq (.reg [⟨some 22, .bsl 22 2 1 [], none⟩, ⟨some 8, .mv (.tmp 22), none⟩, ⟨some 9, .mv (.const (.bool false)), none⟩]) .ret) .skip)) (.seq (.reg [⟨some 23, .load 2 true (.tmp 10), none⟩, ⟨some 24, .callf 153 [.tmp 23], none⟩, ⟨some 8, .mv (.tmp 24), none⟩, ⟨some 9, .mv (.const (.bool true)), none⟩]) .ret))))
theorem fn150 : MFn Tryz.prog 150 mc150 25 [.tmp 8, .tmp 9] :=
  ⟨Tryz.f150, Tryz.func150, by kernel_rfl, Tryz.ntmps150, by kernel_rfl⟩
def F_spec_NormalBy (sys : (Ls × (List (Ls × Ls)))) (t : Ls) (strategy : Int) (fuel : Int) : Option (Ls × Bool) :=
 (F_spec_WalkBy sys t strategy fuel).bind fun r =>
 if r.2 = true then
  (F_spec_l7End r.1).bind fun r_1 =>
  some (r_1, true)
 else
  some ([], false)
theorem c_spec_NormalBy {sys : (Ls × (List (Ls × Ls)))} {t : Ls} {strategy : Int} {fuel : Int} {rr : (Ls × Bool)} (h : F_spec_NormalBy sys t strategy fuel = some rr) : PFunN Tryz.prog 150 [D_impl_System sys, (slD 1 iD) t, iD strategy, iD fuel] [(slD 1 iD) rr.1, bD rr.2] := by
  delta F_spec_NormalBy at h
  refine fn150.pureLN (vcm_sound ?_)
  delta mc150
  refine stp ?_
  obtain ⟨r, hr, h⟩ := bind_some h
  refine cRN (c_spec_WalkBy hr) (stp ?_)
  rcases ite_some h with ⟨hc, h⟩ | ⟨hc, h⟩
  · refine stpc hc ?_
    obtain ⟨r_1, hr_1, h⟩ := bind_some h
    refine cR (c_spec_l7End hr_1) (stp ?_)
    cases h
    exact don
  refine stpc hc ?_
  cases h
  exact don
def mc151 : MCode :=
 (.seq (.reg [⟨some 2, .mv (.const (.int .i64 0)), none⟩]) (.seq (.seq (.reg [⟨some 3, .mv (.tmp 0), none⟩]) (.cond (.tmp 3) (.seq (.reg [⟨some 2, .mv (.const (.int .i64 1)), none⟩]) .ret) .skip)) (.seq (.reg [⟨some 2, .mv (.const (.int .i64 0)), none⟩]) .ret)))
theorem fn151 : MFn Tryz.prog 151 mc151 4 [.tmp 2] :=
  ⟨Tryz.f151, Tryz.func151, by kernel_rfl, Tryz.ntmps151, by kernel_rfl⟩
def F_spec_l1Flag (is : Bool) : Option Int :=
 if is = true then
  some 1
 else
  some 0
theorem c_spec_l1Flag {is : Bool} {rr : Int} (h : F_spec_l1Flag is = some rr) : PFun Tryz.prog 151 [bD is] (iD rr) := by
  delta F_spec_l1Flag at h
  refine fn151.pureL (vcm_sound ?_)
  delta mc151
  refine stp ?_
  rcases ite_some h with ⟨hc, h⟩ | ⟨hc, h⟩
  · refine stpc hc ?_
    cases h
    exact don
  refine stpc hc ?_
  cases h
  exact don
def mc55 : MCode :=
 (.seq (.reg [⟨some 4, .box 4 46 (.tmp 0), none⟩, ⟨some 8, .mv (.const (.int .i64 0)), none⟩]) (.seq (.seq (.reg [⟨some 13, .load 2 true (.tmp 4), none⟩, ⟨some 14, .mv (.tmp 1), none⟩, ⟨some 15, .mv (.tmp 3), none⟩, ⟨some 16, .callf 149 [.tmp 13, .tmp 14, .tmp 15], none⟩, ⟨some 17, .un .not (.tmp 16), none⟩, ⟨some 18, .mv (.tmp 17), none⟩, ⟨some 19, .load 2 true (.tmp 4), (some (some 18, false))⟩, ⟨some 20, .mv (.tmp 2), (some (some 18, false))⟩, ⟨some 21, .mv (.tmp 3), (some (some 18, false))⟩, ⟨some 22, .callf 149 [.tmp 19, .tmp 20, .tmp 21], (some (some 18, false))⟩, ⟨some 23, .un .not (.tmp 22), (some (some 18, false))⟩, ⟨some 24, .pick (.tmp 18) (.const (.bool true)) (.tmp 23), none⟩]) (.cond (.tmp 24) (.seq (.reg [⟨some 8, .mv (.const (.int .i64 (-1))), none⟩]) .ret) .skip)) (.seq (.reg [⟨some 26, .load 2 true (.tmp 4), none⟩, ⟨some 27, .mv (.tmp 1), none⟩, ⟨some 28, .mv (.tmp 3), none⟩, ⟨some 29, .callf 150 [.tmp 26, .tmp 27, (.const (.int .i64 1)), .tmp 28], none⟩, ⟨some 25, .mv (.tmp 29), none⟩, ⟨some 30, .ext (.tmp 25) 0, none⟩, ⟨some 31, .ext (.tmp 25) 1, none⟩, ⟨some 9, .mv (.tmp 30), none⟩, ⟨some 10, .mv (.tmp 31), none⟩]) (.seq (.reg [⟨some 33, .load 2 true (.tmp 4), none⟩, ⟨some 34, .mv (.tmp 2), none⟩, ⟨some 35, .mv (.tmp 3), none⟩, ⟨some 36, .callf 150 [.tmp 33, .tmp 34, (.const (.int .i64 1)), .tmp 35], none⟩, ⟨some 32, .mv (.tmp 36), none⟩, ⟨some 37, .ext (.tmp 32) 0, none⟩, ⟨some 38, .ext (.tmp 32) 1, none⟩, ⟨some 11, .mv (.tmp 37), none⟩, ⟨some 12, .mv (.tmp 38), none⟩]) (.seq (.seq (.reg [⟨some 39, .mv (.tmp 10), none⟩, ⟨some 40, .un .not (.tmp 39), none⟩, ⟨some 41, .mv (.tmp 40), none⟩, ⟨some 42, .mv (.tmp 12), (some (some 41, false))⟩, ⟨some 43, .un .not (.tmp 42), (some (some 41, false))⟩, ⟨some 44, .pick (.tmp 41) (.const (.bool true)) (.tmp 43), none⟩]) (.cond (.tmp 44) (.seq (.reg [⟨some 8, .mv (.const (.int .i64 (-1))), none⟩]) .ret) .skip)) (.seq (.reg [⟨some 45, .mv (.tmp 9), none⟩, ⟨some 46, .mv (.tmp 11), none⟩, ⟨some 47, .callf 33 [.tmp 45, .tmp 46], none⟩, ⟨some 48, .callf 151 [.tmp 47], none⟩, ⟨some 8, .mv (.tmp 48), none⟩]) .ret))))))
theorem fn55 : MFn Tryz.prog 55 mc55 49 [.tmp 8] :=
  ⟨Tryz.f55, Tryz.func55, by kernel_rfl, Tryz.ntmps55, by kernel_rfl⟩
def F_spec_EqualBy (sys : (Ls × (List (Ls × Ls)))) (a : Ls) (b : Ls) (fuel : Int) : Option Int :=
 (F_spec_l22Right sys a fuel).bind fun r =>
 if r = true then
  (F_spec_l22Right sys b fuel).bind fun r_1 =>
  if r_1 = true then
   (F_spec_NormalBy sys a 1 fuel).bind fun r_2 =>
   (F_spec_NormalBy sys b 1 fuel).bind fun r_3 =>
   if r_2.2 = true then
    if r_3.2 = true then
     (F_spec_SameTerm r_2.1 r_3.1).bind fun r_4 =>
     (F_spec_l1Flag r_4).bind fun r_5 =>
     some r_5
    else
     some (-1)
   else
    some (-1)
  else
   some (-1)
 else
  some (-1)
theorem c_spec_EqualBy {sys : (Ls × (List (Ls × Ls)))} {a : Ls} {b : Ls} {fuel : Int} {rr : Int} (h : F_spec_EqualBy sys a b fuel = some rr) : PFun Tryz.prog 55 [D_impl_System sys, (slD 1 iD) a, (slD 1 iD) b, iD fuel] (iD rr) := by
  delta F_spec_EqualBy at h
  refine fn55.pureL (vcm_sound ?_)
  delta mc55
  refine stp ?_
  obtain ⟨r, hr, h⟩ := bind_some h
  refine cR (c_spec_l22Right hr) (stp ?_)
  rcases ite_some h with ⟨hc, h⟩ | ⟨hc, h⟩
  · refine stpc hc ?_
    obtain ⟨r_1, hr_1, h⟩ := bind_some h
    refine cR (c_spec_l22Right hr_1) (stp ?_)
    rcases ite_some h with ⟨hc, h⟩ | ⟨hc, h⟩
    · refine stpc hc ?_
      obtain ⟨r_2, hr_2, h⟩ := bind_some h
      refine cRN (c_spec_NormalBy hr_2) (stp ?_)
      obtain ⟨r_3, hr_3, h⟩ := bind_some h
      refine cRN (c_spec_NormalBy hr_3) (stp ?_)
      rcases ite_some h with ⟨hc, h⟩ | ⟨hc, h⟩
      · refine stpc hc ?_
        rcases ite_some h with ⟨hc, h⟩ | ⟨hc, h⟩
        · refine stpc hc ?_
          obtain ⟨r_4, hr_4, h⟩ := bind_some h
          refine cR (c_spec_SameTerm hr_4) (stp ?_)
          obtain ⟨r_5, hr_5, h⟩ := bind_some h
          refine cR (c_spec_l1Flag hr_5) (stp ?_)
          cases h
          exact don
        refine stpc hc ?_
        cases h
        exact don
      refine stpc hc ?_
      cases h
      exact don
    refine stpc hc ?_
    cases h
    exact don
  refine stpc hc ?_
  cases h
  exact don
def mc311 : MCode :=
 (.seq (.reg [⟨some 2, .box 2 46 (.tmp 0), none⟩, ⟨some 4, .mv (.const (.slice none 0 0)), none⟩]) (.seq (.reg [⟨some 10, .bsl 10 84 3 [], none⟩, ⟨some 5, .mv (.tmp 10), none⟩]) (.seq (.seq (.reg [⟨some 6, .mv (.const (.int .i64 0)), none⟩]) (.block 0 (.loop (.seq (.seq (.reg [⟨some 11, .mv (.tmp 6), none⟩, ⟨some 12, .mv (.tmp 1), none⟩, ⟨some 13, .len (.tmp 12), none⟩, ⟨some 14, .bin .lss (.tmp 11) (.tmp 13), none⟩]) (.cond (.tmp 14) .skip (.exit 0))) (.seq (.block 1 (.seq (.reg [⟨some 7, .mv (.const (.int .i64 0)), none⟩]) (.block 2 (.loop (.seq (.seq (.reg [⟨some 17, .mv (.tmp 7), none⟩, ⟨some 18, .fad 1 (.tmp 2), none⟩, ⟨some 19, .load 1 false (.tmp 18), none⟩, ⟨some 20, .len (.tmp 19), none⟩, ⟨some 21, .bin .lss (.tmp 17) (.tmp 20), none⟩]) (.cond (.tmp 21) .skip (.exit 2))) (.seq (.block 3 (.seq (.reg [⟨some 25, .load 2 true (.tmp 2), none⟩, ⟨some 26, .mv (.tmp 1), none⟩, ⟨some 27, .mv (.tmp 6), none⟩, ⟨some 28, .mv (.tmp 7), none⟩, ⟨some 29, .callf 211 [.tmp 25, .tmp 26, .tmp 27, .tmp 28], none⟩, ⟨some 24, .mv (.tmp 29), none⟩, ⟨some 30, .ext (.tmp 24) 0, none⟩, ⟨some 31, .ext (.tmp 24) 1, none⟩, ⟨some 8, .mv (.tmp 30), none⟩, ⟨some 9, .mv (.tmp 31), none⟩]) (.seq (.reg [⟨some 32, .mv (.tmp 9), none⟩]) (.cond (.tmp 32) (.reg [⟨some 33, .mv (.tmp 5), none⟩, ⟨some 34, .mv (.tmp 6), none⟩, ⟨some 35, .mv (.tmp 7), none⟩, ⟨some 36, .mv (.tmp 8), none⟩, ⟨some 37, .build [.lit (.int .i64 0), .lit (.int .i64 0), .sl 0 (some true) []] [(0, 1, .tmp 34), (1, 1, .tmp 35), (2, 1, .tmp 36)], none⟩, ⟨some 38, .bsl 38 84 3 [.tmp 37], none⟩, ⟨some 39, .app 39 84 3 40 (.tmp 33) (.tmp 38), none⟩, ⟨some 5, .mv (.tmp 39), none⟩]) .skip)))) (.reg [⟨some 22, .mv (.tmp 7), none⟩, ⟨some 23, .bin .add (.tmp 22) (.const (.int .i64 1)), none⟩, ⟨some 7, .mv (.tmp 23), none⟩]))))))) (.reg [⟨some 15, .mv (.tmp 6), none⟩, ⟨some 16, .bin .add (.tmp 15) (.const (.int .i64 1)), none⟩, ⟨some 6, .mv (.tmp 16), none⟩])))))) (.seq (.reg [⟨some 40, .mv (.tmp 5), none⟩, ⟨some 4, .mv (.tmp 40), none⟩]) .ret))))
theorem fn311 : MFn Tryz.prog 311 mc311 41 [.tmp 4] :=
  ⟨Tryz.f311, Tryz.func311, by kernel_rfl, Tryz.ntmps311, by kernel_rfl⟩
def F_spec_l7Steps_l2 (sys : (Ls × (List (Ls × Ls)))) (t : Ls) (at' : Int) : ((List (Int × Int × Ls)) × Int) → Option (((List (Int × Int × Ls)) × Int) ⊕ (((List (Int × Int × Ls)) × Int) ⊕ (List (Int × Int × Ls))))
 | (out_1, rule) =>
  if (decide (rule < (sys.2.length : Int))) = true then
   (F_spec_l7Step sys t at' rule).bind fun r =>
   if r.2 = true then
    if (out_1.length + 1) * 40 ≤ 140737488355328 then
     some (.inl ((out_1 ++ [(at', rule, r.1)]), (IntKind.i64.wrap (rule + 1))))
    else none
   else
    some (.inl (out_1, (IntKind.i64.wrap (rule + 1))))
  else
   Option.map Sum.inr (
    some (.inl (out_1, (IntKind.i64.wrap (at' + 1)))))
def F_spec_l7Steps_l1 (sys : (Ls × (List (Ls × Ls)))) (t : Ls) : ((List (Int × Int × Ls)) × Int) → Option (((List (Int × Int × Ls)) × Int) ⊕ (List (Int × Int × Ls)))
 | (out, at') =>
  if (decide (at' < (t.length : Int))) = true then
   loopC (F_spec_l7Steps_l2 sys t at') (out, 0)
  else
   Option.map Sum.inr (
    some out)
def F_spec_l7Steps (sys : (Ls × (List (Ls × Ls)))) (t : Ls) : Option (List (Int × Int × Ls)) :=
 loopC (F_spec_l7Steps_l1 sys t) ([], 0)
theorem c_spec_l7Steps {sys : (Ls × (List (Ls × Ls)))} {t : Ls} {rr : (List (Int × Int × Ls))} (h : F_spec_l7Steps sys t = some rr) : PFun Tryz.prog 311 [D_impl_System sys, (slD 1 iD) t] ((slD 3 D_impl_Step) rr) := by
  delta F_spec_l7Steps at h
  refine fn311.pureL (vcm_sound ?_)
  delta mc311
  refine stp ?_
  refine m_loopF h [5, 6, 7, 8, 9, 11, 12, 13, 14, 15, 16, 17, 18, 19, 20, 21, 22, 23, 24, 25, 26, 27, 28, 29, 30, 31, 32, 33, 34, 35, 36, 37, 38, 39] (fun pp => [(5, .own 3 10 (List.map D_impl_Step pp.1)), (6, .d (iD pp.2))]) (fun pp => [(2, .obj 46 [.d (slD 1 iD sys.1), .d (slD 2 D_impl_Rule sys.2)]), (10, .tok 84 3 pp.1.length)]) ?_ ?_
  · try dsimp only
    exact wk
  rintro ⟨out, at'⟩ t1 h hb1
  unfold F_spec_l7Steps_l1 at h
  try dsimp only at h
  refine vcm_sound (stp ?_)
  rcases ite_some h with ⟨hc, h⟩ | ⟨hc, h⟩
  · refine stpc hc ?_
    refine m_loopF h [5, 7, 8, 9, 17, 18, 19, 20, 21, 22, 23, 24, 25, 26, 27, 28, 29, 30, 31, 32, 33, 34, 35, 36, 37, 38, 39] (fun pp => [(5, .own 3 10 (List.map D_impl_Step pp.1)), (7, .d (iD pp.2))]) (fun pp => [(2, .obj 46 [.d (slD 1 iD sys.1), .d (slD 2 D_impl_Rule sys.2)]), (10, .tok 84 3 pp.1.length)]) ?_ ?_
    · try dsimp only
      exact wk
    rintro ⟨out_1, rule⟩ t2 h hb2
    unfold F_spec_l7Steps_l2 at h
    try dsimp only at h
    refine vcm_sound (stp ?_)
    rcases ite_some h with ⟨hc, h⟩ | ⟨hc, h⟩
    · refine stpc hc ?_
      obtain ⟨r, hr, h⟩ := bind_some h
      refine cRN (c_spec_l7Step hr) (stp ?_)
      rcases ite_some h with ⟨hc, h⟩ | ⟨hc, h⟩
      · refine stpc hc ?_
        obtain ⟨hp, h⟩ := need_some h
        repeat (refine need_i (by omega) ?_; refine stp ?_)
        cases h
        refine ⟨_, rfl, ?_⟩
        refine (Weak.drop 38 (by omega)).trans ?_
        exact wk
      refine stpc hc ?_
      cases h
      refine ⟨_, rfl, ?_⟩
      exact wk
    refine stpc hc ?_
    replace h := inr_some h hb2
    cases h
    refine ⟨_, rfl, ?_⟩
    exact wk
  refine stpc hc ?_
  replace h := inr_some h hb1
  cases h
  exact don
def mc234 : MCode :=
 (.seq (.reg [⟨some 2, .box 2 46 (.tmp 0), none⟩, ⟨some 4, .mv (.const (.slice none 0 0)), none⟩]) (.seq (.seq (.reg [⟨some 5, .load 2 true (.tmp 2), none⟩, ⟨some 6, .mv (.tmp 1), none⟩, ⟨some 7, .callf 131 [.tmp 5, .tmp 6], none⟩, ⟨some 8, .un .not (.tmp 7), none⟩]) (.cond (.tmp 8) (.seq (.reg [⟨some 9, .bsl 9 84 3 [], none⟩, ⟨some 4, .mv (.tmp 9), none⟩]) .ret) .skip)) (.seq (.reg [⟨some 10, .load 2 true (.tmp 2), none⟩, ⟨some 11, .mv (.tmp 1), none⟩, ⟨some 12, .callf 311 [.tmp 10, .tmp 11], none⟩, ⟨some 4, .mv (.tmp 12), none⟩]) .ret)))
theorem fn234 : MFn Tryz.prog 234 mc234 13 [.tmp 4] :=
  ⟨Tryz.f234, Tryz.func234, by kernel_rfl, Tryz.ntmps234, by kernel_rfl⟩
def F_spec_StepsFrom (sys : (Ls × (List (Ls × Ls)))) (t : Ls) : Option (List (Int × Int × Ls)) :=
 (F_spec_l7Right sys t).bind fun r =>
 if r = true then
  (F_spec_l7Steps sys t).bind fun r_1 =>
  some r_1
 else
  some []
theorem c_spec_StepsFrom {sys : (Ls × (List (Ls × Ls)))} {t : Ls} {rr : (List (Int × Int × Ls))} (h : F_spec_StepsFrom sys t = some rr) : PFun Tryz.prog 234 [D_impl_System sys, (slD 1 iD) t] ((slD 3 D_impl_Step) rr) := by
  delta F_spec_StepsFrom at h
  refine fn234.pureL (vcm_sound ?_)
  delta mc234
  refine stp ?_
  obtain ⟨r, hr, h⟩ := bind_some h
  refine cR (c_spec_l7Right hr) (stp ?_)
  rcases ite_some h with ⟨hc, h⟩ | ⟨hc, h⟩
  · refine stpc hc ?_
    obtain ⟨r_1, hr_1, h⟩ := bind_some h
    refine cR (c_spec_l7Steps hr_1) (stp ?_)
    cases h
    exact don
  refine stpc hc ?_
  cases h
  exact don
def mc255 : MCode :=
 (.seq (.reg [⟨some 4, .box 4 46 (.tmp 1), none⟩, ⟨some 6, .mv (.const (.slice none 0 0)), none⟩]) (.seq (.reg [⟨some 10, .load 2 true (.tmp 4), none⟩, ⟨some 11, .mv (.tmp 2), none⟩, ⟨some 12, .callf 234 [.tmp 10, .tmp 11], none⟩, ⟨some 7, .mv (.tmp 12), none⟩]) (.seq (.seq (.reg [⟨some 13, .mv (.tmp 7), none⟩, ⟨some 14, .len (.tmp 13), none⟩, ⟨some 15, .bin .gtr (.tmp 14) (.const (.int .i64 0)), none⟩, ⟨some 16, .mv (.tmp 15), none⟩, ⟨some 17, .mv (.tmp 0), (some (some 16, true))⟩, ⟨some 18, .callf 103 [.tmp 17, (.const (.int .i64 4))], (some (some 16, true))⟩, ⟨some 19, .un .not (.tmp 18), (some (some 16, true))⟩, ⟨some 20, .pick (.tmp 16) (.tmp 19) (.const (.bool false)), none⟩]) (.cond (.tmp 20) (.seq (.reg [⟨some 21, .mv (.tmp 7), none⟩, ⟨some 22, .mv (.tmp 0), none⟩, ⟨some 23, .mv (.tmp 7), none⟩, ⟨some 24, .len (.tmp 23), none⟩, ⟨some 25, .callf 105 [.tmp 22, .tmp 24], none⟩, ⟨some 26, .ixa 3 (.tmp 21) (.tmp 25), none⟩, ⟨some 27, .fad 2 (.tmp 26), none⟩, ⟨some 28, .load 1 false (.tmp 27), none⟩, ⟨some 8, .mv (.tmp 28), none⟩]) (.seq (.reg [⟨some 29, .load 2 true (.tmp 4), none⟩, ⟨some 30, .mv (.tmp 8), none⟩, ⟨some 31, .callf 234 [.tmp 29, .tmp 30], none⟩, ⟨some 9, .mv (.tmp 31), none⟩]) (.seq (.seq (.reg [⟨some 32, .mv (.tmp 9), none⟩, ⟨some 33, .len (.tmp 32), none⟩, ⟨some 34, .bin .gtr (.tmp 33) (.const (.int .i64 0)), none⟩, ⟨some 35, .mv (.tmp 34), none⟩, ⟨some 36, .mv (.tmp 0), (some (some 35, true))⟩, ⟨some 37, .callf 103 [.tmp 36, (.const (.int .i64 2))], (some (some 35, true))⟩, ⟨some 38, .pick (.tmp 35) (.tmp 37) (.const (.bool false)), none⟩]) (.cond (.tmp 38) (.seq (.reg [⟨some 39, .mv (.tmp 9), none⟩, ⟨some 40, .mv (.tmp 0), none⟩, ⟨some 41, .mv (.tmp 9), none⟩, ⟨some 42, .len (.tmp 41), none⟩, ⟨some 43, .callf 105 [.tmp 40, .tmp 42], none⟩, ⟨some 44, .ixa 3 (.tmp 39) (.tmp 43), none⟩, ⟨some 45, .fad 2 (.tmp 44), none⟩, ⟨some 46, .load 1 false (.tmp 45), none⟩, ⟨some 6, .mv (.tmp 46), none⟩]) .ret) .skip)) (.seq (.reg [⟨some 47, .mv (.tmp 8), none⟩, ⟨some 6, .mv (.tmp 47), none⟩]) .ret)))) .skip)) (.seq (.reg [⟨some 48, .mv (.tmp 0), none⟩, ⟨some 49, .load 2 true (.tmp 4), none⟩, ⟨some 50, .callf 207 [.tmp 48, .tmp 49], none⟩, ⟨some 6, .mv (.tmp 50), none⟩]) .ret))))
theorem fn255 : MFn Tryz.prog 255 mc255 51 [.tmp 6] :=
  ⟨Tryz.f255, Tryz.func255, by kernel_rfl, Tryz.ntmps255, by kernel_rfl⟩
def F_spec_l22DrawNear (sys : (Ls × (List (Ls × Ls)))) (t : Ls) (c0 : Ls) (c1 : Int) (c2 : Int) : Option (Ls × Int × Int) :=
 (F_spec_StepsFrom sys t).bind fun r =>
 if (decide (0 < (r.length : Int))) = true then
  (F_spec_l1Once 4 c0 c1 c2).bind fun r_1 =>
  if r_1.1 = true then
   (F_spec_l7DrawTerm sys c0 r_1.2.1 r_1.2.2).bind fun r_2 =>
   some r_2
  else
   (F_spec_l1Below (r.length : Int) c0 r_1.2.1 r_1.2.2).bind fun r_3 =>
   if 0 ≤ r_3.1 ∧ r_3.1 < (r.length : Int) then
    (F_spec_StepsFrom sys ((r.getD r_3.1.toNat default).2.2)).bind fun r_4 =>
    if (decide (0 < (r_4.length : Int))) = true then
     (F_spec_l1Once 2 c0 r_3.2.1 r_3.2.2).bind fun r_5 =>
     if r_5.1 = true then
      (F_spec_l1Below (r_4.length : Int) c0 r_5.2.1 r_5.2.2).bind fun r_6 =>
      if 0 ≤ r_6.1 ∧ r_6.1 < (r_4.length : Int) then
       some ((r_4.getD r_6.1.toNat default).2.2, r_6.2.1, r_6.2.2)
      else none
     else
      some ((r.getD r_3.1.toNat default).2.2, r_5.2.1, r_5.2.2)
    else
     some ((r.getD r_3.1.toNat default).2.2, r_3.2.1, r_3.2.2)
   else none
 else
  (F_spec_l7DrawTerm sys c0 c1 c2).bind fun r_7 =>
  some r_7
theorem c_spec_l22DrawNear {sys : (Ls × (List (Ls × Ls)))} {t : Ls} {c0 : Ls} {c1 : Int} {c2 : Int} {rr : (Ls × Int × Int)} (h : F_spec_l22DrawNear sys t c0 c1 c2 = some rr) : ACalls Tryz.prog 255 [.ptr 0 0, .d (.agg [slD 1 iD sys.1, slD 2 D_impl_Rule sys.2]), .d (slD 1 iD t)] [(0, .obj 216 [.d (slD 1 (kD .u8) c0), .d (iD c1), .d (iD c2)])] 1 fun xx ss => xx = .d (slD 1 iD rr.1) ∧ ss = [(0, .obj 216 [.d (slD 1 (kD .u8) c0), .d (iD rr.2.1), .d (iD rr.2.2)])] := by
  delta F_spec_l22DrawNear at h
  refine fn255.callsO (vcm_sound ?_)
  delta mc255
  refine stp ?_
  obtain ⟨r, hr, h⟩ := bind_some h
  refine cR (c_spec_StepsFrom hr) (stp ?_)
  rcases ite_some h with ⟨hc, h⟩ | ⟨hc, h⟩
  · refine stpc hc ?_
    obtain ⟨r_1, hr_1, h⟩ := bind_some h
    refine cRo [(0, 0)] [] (c_spec_l1Once hr_1) (stp ?_)
    rcases ite_some h with ⟨hc, h⟩ | ⟨hc, h⟩
    · refine stpc hc ?_
      obtain ⟨r_2, hr_2, h⟩ := bind_some h
      refine cRo [(0, 0)] [] (c_spec_l7DrawTerm hr_2) (stp ?_)
      cases h
      exact ⟨[4], by simp, don, don⟩
    refine stpc hc ?_
    obtain ⟨r_3, hr_3, h⟩ := bind_some h
    refine cRo [(0, 0)] [] (c_spec_l1Below hr_3) (stp ?_)
    obtain ⟨hp, h⟩ := need_some h
    repeat (refine need_i (by omega) ?_; refine stp ?_)
    obtain ⟨r_4, hr_4, h⟩ := bind_some h
    refine cR (c_spec_StepsFrom hr_4) (stp ?_)
    rcases ite_some h with ⟨hc, h⟩ | ⟨hc, h⟩
    · refine stpc hc ?_
      obtain ⟨r_5, hr_5, h⟩ := bind_some h
      refine cRo [(0, 0)] [] (c_spec_l1Once hr_5) (stp ?_)
      rcases ite_some h with ⟨hc, h⟩ | ⟨hc, h⟩
      · refine stpc hc ?_
        obtain ⟨r_6, hr_6, h⟩ := bind_some h
        refine cRo [(0, 0)] [] (c_spec_l1Below hr_6) (stp ?_)
        obtain ⟨hp, h⟩ := need_some h
        repeat (refine need_i (by omega) ?_; refine stp ?_)
        cases h
        exact ⟨[4], by simp, don, don⟩
      refine stpc hc ?_
      cases h
      exact ⟨[4], by simp, don, don⟩
    refine stpc hc ?_
    cases h
    exact ⟨[4], by simp, don, don⟩
  refine stpc hc ?_
  obtain ⟨r_7, hr_7, h⟩ := bind_some h
  refine cRo [(0, 0)] [] (c_spec_l7DrawTerm hr_7) (stp ?_)
  cases h
  exact ⟨[4], by simp, don, don⟩
def mc256 : MCode :=
 (.seq (.reg [⟨some 2, .mv (.const (.int .i64 0)), none⟩]) (.seq (.seq (.reg [⟨some 3, .mv (.tmp 0), none⟩, ⟨some 4, .callf 103 [.tmp 3, (.const (.int .i64 10))], none⟩]) (.cond (.tmp 4) (.seq (.reg [⟨some 5, .mv (.tmp 0), none⟩, ⟨some 6, .callf 208 [.tmp 5, (.const (.int .i64 60))], none⟩, ⟨some 2, .mv (.tmp 6), none⟩]) .ret) .skip)) (.seq (.reg [⟨some 7, .mv (.tmp 0), none⟩, ⟨some 8, .callf 105 [.tmp 7, (.const (.int .i64 25))], none⟩, ⟨some 2, .mv (.tmp 8), none⟩]) .ret)))
theorem fn256 : MFn Tryz.prog 256 mc256 9 [.tmp 2] :=
  ⟨Tryz.f256, Tryz.func256, by kernel_rfl, Tryz.ntmps256, by kernel_rfl⟩
def F_spec_l22DrawFuel (c0 : Ls) (c1 : Int) (c2 : Int) : Option (Int × Int × Int) :=
 (F_spec_l1Once 10 c0 c1 c2).bind fun r =>
 if r.1 = true then
  (F_spec_l1Num 60 c0 r.2.1 r.2.2).bind fun r_1 =>
  some r_1
 else
  (F_spec_l1Below 25 c0 r.2.1 r.2.2).bind fun r_2 =>
  some r_2
theorem c_spec_l22DrawFuel {c0 : Ls} {c1 : Int} {c2 : Int} {rr : (Int × Int × Int)} (h : F_spec_l22DrawFuel c0 c1 c2 = some rr) : ACalls Tryz.prog 256 [.ptr 0 0] [(0, .obj 216 [.d (slD 1 (kD .u8) c0), .d (iD c1), .d (iD c2)])] 1 fun xx ss => xx = .d (iD rr.1) ∧ ss = [(0, .obj 216 [.d (slD 1 (kD .u8) c0), .d (iD rr.2.1), .d (iD rr.2.2)])] := by
  delta F_spec_l22DrawFuel at h
  refine fn256.callsO (vcm_sound ?_)
  delta mc256
  refine stp ?_
  obtain ⟨r, hr, h⟩ := bind_some h
  refine cRo [(0, 0)] [] (c_spec_l1Once hr) (stp ?_)
  rcases ite_some h with ⟨hc, h⟩ | ⟨hc, h⟩
  · refine stpc hc ?_
    obtain ⟨r_1, hr_1, h⟩ := bind_some h
    refine cRo [(0, 0)] [] (c_spec_l1Num hr_1) (stp ?_)
    cases h
    exact ⟨[], by simp, don, don⟩
  refine stpc hc ?_
  obtain ⟨r_2, hr_2, h⟩ := bind_some h
  refine cRo [(0, 0)] [] (c_spec_l1Below hr_2) (stp ?_)
  cases h
  exact ⟨[], by simp, don, don⟩
def mc142 : MCode :=
 (.seq (.reg [⟨some 2, .alloc 2 46 [.sl 0 (some true) [], .sl 0 (some true) []], none⟩, ⟨some 3, .mv (.const (.slice none 0 0)), none⟩, ⟨some 4, .mv (.const (.slice none 0 0)), none⟩, ⟨some 5, .mv (.const (.int .i64 0)), none⟩]) (.seq (.reg [⟨some 9, .mv (.tmp 0), none⟩, ⟨some 10, .callf 101 [.tmp 9], none⟩, ⟨some 6, .alloc 6 46 [.sl 0 (some true) [], .sl 0 (some true) []], none⟩, ⟨none, .store 2 (.tmp 6) (.tmp 10), none⟩]) (.seq (.reg [⟨some 11, .mv (.tmp 0), none⟩, ⟨some 12, .load 2 true (.tmp 6), none⟩, ⟨some 13, .callf 207 [.tmp 11, .tmp 12], none⟩, ⟨some 7, .mv (.tmp 13), none⟩]) (.seq (.reg [⟨some 14, .mv (.tmp 0), none⟩, ⟨some 15, .load 2 true (.tmp 6), none⟩, ⟨some 16, .mv (.tmp 7), none⟩, ⟨some 17, .callf 255 [.tmp 14, .tmp 15, .tmp 16], none⟩, ⟨some 8, .mv (.tmp 17), none⟩]) (.seq (.draw [⟨some 18, .load 2 true (.tmp 6), none⟩, ⟨some 19, .mv (.tmp 7), none⟩, ⟨some 20, .mv (.tmp 8), none⟩, ⟨some 21, .mv (.tmp 0), none⟩, ⟨some 22, .callf 256 [.tmp 21], none⟩, ⟨none, .store 2 (.tmp 2) (.tmp 18), none⟩, ⟨some 3, .mv (.tmp 19), none⟩, ⟨some 4, .mv (.tmp 20), none⟩, ⟨some 5, .mv (.tmp 22), none⟩] [[], [], [], [], [3], [0, 4, 0], [1, 5, 0, 1, 5], [2, 6, 0, 1, 2, 5, 6], [4, 7, 0, 1, 2, 3, 4, 5, 6, 7]]) .ret)))))
theorem fn142 : MFn Tryz.prog 142 mc142 23 [.cell 2 2 true, .tmp 3, .tmp 4, .tmp 5] :=
  ⟨Tryz.f142, Tryz.func142, by kernel_rfl, Tryz.ntmps142, by kernel_rfl⟩
def F_spec_l22Draw (c0 : Ls) (c1 : Int) (c2 : Int) : Option ((Ls × (List (Ls × Ls))) × Ls × Ls × Int × Int × Int) :=
 (F_spec_l6DrawAny c0 c1 c2).bind fun r =>
 (F_spec_l7DrawTerm r.1 c0 r.2.1 r.2.2).bind fun r_1 =>
 (F_spec_l22DrawNear r.1 r_1.1 c0 r_1.2.1 r_1.2.2).bind fun r_2 =>
 (F_spec_l22DrawFuel c0 r_2.2.1 r_2.2.2).bind fun r_3 =>
 some (r.1, r_1.1, r_2.1, r_3.1, r_3.2.1, r_3.2.2)
theorem c_spec_l22Draw {c0 : Ls} {c1 : Int} {c2 : Int} {rr : ((Ls × (List (Ls × Ls))) × Ls × Ls × Int × Int × Int)} (h : F_spec_l22Draw c0 c1 c2 = some rr) : ACalls Tryz.prog 142 [.ptr 0 0] [(0, .obj 216 [.d (slD 1 (kD .u8) c0), .d (iD c1), .d (iD c2)])] 1 fun xx ss => xx = .tup [.d (.agg [slD 1 iD rr.1.1, slD 2 D_impl_Rule rr.1.2]), .d (slD 1 iD rr.2.1), .d (slD 1 iD rr.2.2.1), .d (iD rr.2.2.2.1)] ∧ ss = [(0, .obj 216 [.d (slD 1 (kD .u8) c0), .d (iD rr.2.2.2.2.1), .d (iD rr.2.2.2.2.2)])] := by
  delta F_spec_l22Draw at h
  refine fn142.callsO (vcm_sound ?_)
  delta mc142
  refine stp ?_
  obtain ⟨r, hr, h⟩ := bind_some h
  refine cRo [(0, 0)] [] (c_spec_l6DrawAny hr) (stp ?_)
  obtain ⟨r_1, hr_1, h⟩ := bind_some h
  refine cRo [(0, 0)] [] (c_spec_l7DrawTerm hr_1) (stp ?_)
  obtain ⟨r_2, hr_2, h⟩ := bind_some h
  refine cRo [(0, 0)] [] (c_spec_l22DrawNear hr_2) (stp ?_)
  obtain ⟨r_3, hr_3, h⟩ := bind_some h
  refine cDo [(0, 0)] [] (c_spec_l22DrawFuel hr_3) (stp ?_)
  refine drQ_of (by kernel_rfl) ?_
  refine stp ?_
  cases h
  exact ⟨[2, 6], by simp, don, don⟩
def mc51 : MCode :=
 (.seq (.reg [⟨some 2, .alloc 2 46 [.sl 0 (some true) [], .sl 0 (some true) []], none⟩, ⟨some 3, .mv (.const (.slice none 0 0)), none⟩, ⟨some 4, .mv (.const (.slice none 0 0)), none⟩, ⟨some 5, .mv (.const (.int .i64 0)), none⟩]) (.seq (.reg [⟨some 7, .mv (.tmp 0), none⟩, ⟨some 8, .callf 100 [.tmp 7], none⟩, ⟨some 6, .mv (.tmp 8), none⟩]) (.seq (.reg [⟨some 9, .mv (.tmp 6), none⟩, ⟨some 10, .callf 142 [.tmp 9], none⟩, ⟨some 11, .ext (.tmp 10) 0, none⟩, ⟨some 12, .ext (.tmp 10) 1, none⟩, ⟨some 13, .ext (.tmp 10) 2, none⟩, ⟨some 14, .ext (.tmp 10) 3, none⟩, ⟨none, .store 2 (.tmp 2) (.tmp 11), none⟩, ⟨some 3, .mv (.tmp 12), none⟩, ⟨some 4, .mv (.tmp 13), none⟩, ⟨some 5, .mv (.tmp 14), none⟩]) .ret)))
theorem fn51 : MFn Tryz.prog 51 mc51 15 [.cell 2 2 true, .tmp 3, .tmp 4, .tmp 5] :=
  ⟨Tryz.f51, Tryz.func51, by kernel_rfl, Tryz.ntmps51, by kernel_rfl⟩
def F_spec_DrawShownBy (code : Ls) : Option ((Ls × (List (Ls × Ls))) × Ls × Ls × Int) :=
 (F_spec_l1New code).bind fun r =>
 (F_spec_l22Draw r.1 r.2.1 r.2.2).bind fun r_1 =>
 some (r_1.1, r_1.2.1, r_1.2.2.1, r_1.2.2.2.1)
theorem c_spec_DrawShownBy {code : Ls} {rr : ((Ls × (List (Ls × Ls))) × Ls × Ls × Int)} (h : F_spec_DrawShownBy code = some rr) : PFunN Tryz.prog 51 [(slD 1 (kD .u8)) code] [D_impl_System rr.1, (slD 1 iD) rr.2.1, (slD 1 iD) rr.2.2.1, iD rr.2.2.2] := by
  delta F_spec_DrawShownBy at h
  refine fn51.pureLN (vcm_sound ?_)
  delta mc51
  refine stp ?_
  obtain ⟨r, hr, h⟩ := bind_some h
  refine cRo [] [(27, 8)] (c_spec_l1New hr) (stp ?_)
  obtain ⟨r_1, hr_1, h⟩ := bind_some h
  refine cRo [(0, 8)] [] (c_spec_l22Draw hr_1) (stp ?_)
  cases h
  exact don
end
end Go.Proofs.YtcaljngigbfadaaGreat
