/- Functions of the program and the equations that they compute, walks by a strategy; nothing is assumed. -/
import Derived.Test.YtcaljngigbfadaaGreatWh
set_option linter.unusedSimpArgs false
set_option linter.unusedVariables false
set_option linter.unusedSectionVars false
namespace Go.Proofs.YtcaljngigbfadaaGreat
noncomputable section
open Go Abx
attribute [local irreducible] vcm vgo vdr vrun vdrun MWp GhostQ BrC BrO BrG BrD BrH AmbO callR callD drQ EnvLe StoLe
set_option maxHeartbeats 4000000
def D_impl_choice (x : (Ls × (List (Ls × Ls)) × Ls × Ls)) : D := .agg [(slD 1 iD) x.1, (slD 2 D_impl_Rule) x.2.1, (slD 1 iD) x.2.2.1, (slD 1 iD) x.2.2.2]
instance : Cel D_impl_choice 4 := ⟨fun _ => rfl⟩
attribute [go_sem] D_impl_choice
def mc258 : MCode :=
 (.seq (.reg [⟨some 3, .mv (.const (.bool false)), none⟩]) (.seq (.reg [⟨some 4, .fad 0 (.tmp 1), none⟩, ⟨some 5, .load 1 true (.tmp 4), none⟩, ⟨some 6, .mv (.tmp 0), none⟩, ⟨some 7, .callf 121 [.tmp 5, .tmp 6], none⟩, ⟨some 8, .un .not (.tmp 7), none⟩, ⟨some 3, .mv (.tmp 8), none⟩]) .ret))
theorem fn258 : MFn Tryz.prog 258 mc258 9 [.tmp 3] :=
  ⟨Tryz.f258, Tryz.func258, by kernel_rfl, Tryz.ntmps258, by kernel_rfl⟩
def F_impl_wordOk_1 (t : Ls) (o00 : Ls) (o01 : (List (Ls × Ls))) : Option Bool :=
 (F_impl_TermOk o00 t).bind fun r =>
 some (!r)
theorem c_impl_wordOk_1 {t : Ls} {o00 : Ls} {o01 : (List (Ls × Ls))} {rr : Bool} (h : F_impl_wordOk_1 t o00 o01 = some rr) : ACalls Tryz.prog 258 [.d (slD 1 iD t), .ptr 0 0] [(0, .obj 46 [.d (slD 1 iD o00), .d (slD 2 D_impl_Rule o01)])] 1 fun xx ss => xx = .d (bD rr) ∧ ss = [(0, .obj 46 [.d (slD 1 iD o00), .d (slD 2 D_impl_Rule o01)])] := by
  delta F_impl_wordOk_1 at h
  refine fn258.callsO (vcm_sound ?_)
  delta mc258
  refine stp ?_
  obtain ⟨r, hr, h⟩ := bind_some h
  refine cR (c_impl_TermOk hr) (stp ?_)
  cases h
  exact ⟨[], by simp, don, don⟩
def mc332 : MCode :=
 (.seq (.reg [⟨some 4, .mv (.const (.int .i64 0)), none⟩]) (.seq (.seq (.reg [⟨some 6, .mv (.tmp 0), none⟩, ⟨some 7, .len (.tmp 6), none⟩, ⟨some 8, .mv (.const (.int .i64 0)), none⟩]) (.block 0 (.loop (.seq (.reg [⟨some 9, .bin .lss (.tmp 8) (.tmp 7), none⟩]) (.seq (.cond (.tmp 9) .skip (.exit 0)) (.seq (.block 1 (.seq (.reg [⟨some 10, .mv (.tmp 8), none⟩, ⟨some 5, .mv (.tmp 10), none⟩]) (.seq (.reg [⟨some 11, .mv (.tmp 1), none⟩, ⟨some 12, .mv (.tmp 0), none⟩, ⟨some 13, .mv (.tmp 5), none⟩, ⟨some 14, .ixa 1 (.tmp 12) (.tmp 13), none⟩, ⟨some 15, .load 1 false (.tmp 14), none⟩, ⟨some 16, .callv (.tmp 11) [.tmp 15], none⟩]) (.cond (.tmp 16) (.seq (.reg [⟨some 17, .mv (.tmp 5), none⟩, ⟨some 4, .mv (.tmp 17), none⟩]) .ret) .skip)))) (.reg [⟨some 18, .bin .add (.tmp 8) (.const (.int .i64 1)), none⟩, ⟨some 8, .mv (.tmp 18), none⟩]))))))) (.seq (.reg [⟨some 4, .mv (.const (.int .i64 (-1))), none⟩]) .ret)))
theorem fn332 : MFn Tryz.prog 332 mc332 19 [.tmp 4] :=
  ⟨Tryz.f332, Tryz.func332, by kernel_rfl, Tryz.ntmps332, by kernel_rfl⟩
def F_slices_IndexFunc_int64_int64_l1 (s : (List Ls)) (o00 : Ls) (o01 : (List (Ls × Ls))) : Int → Option (Int ⊕ Int)
 | v8 =>
  if (decide (v8 < (s.length : Int))) = true then
   if 0 ≤ v8 ∧ v8 < (s.length : Int) then
    (F_impl_wordOk_1 (s.getD v8.toNat default) o00 o01).bind fun r =>
    if r = true then
     Option.map Sum.inr (
      some v8)
    else
     some (.inl (IntKind.i64.wrap (v8 + 1)))
   else none
  else
   Option.map Sum.inr (
    some (-1))
def F_slices_IndexFunc_int64_int64 (s : (List Ls)) (o00 : Ls) (o01 : (List (Ls × Ls))) : Option Int :=
 loopC (F_slices_IndexFunc_int64_int64_l1 s o00 o01) 0
theorem c_slices_IndexFunc_int64_int64 {s : (List Ls)} {o00 : Ls} {o01 : (List (Ls × Ls))} {rr : Int} (h : F_slices_IndexFunc_int64_int64 s o00 o01 = some rr) : ACalls Tryz.prog 332 [.d (slD 1 (slD 1 iD) s), .fn 258 [] [.ptr 0 0]] [(0, .obj 46 [.d (slD 1 iD o00), .d (slD 2 D_impl_Rule o01)])] 1 fun xx ss => xx = .d (iD rr) ∧ ss = [(0, .obj 46 [.d (slD 1 iD o00), .d (slD 2 D_impl_Rule o01)])] := by
  delta F_slices_IndexFunc_int64_int64 at h
  refine fn332.callsO (vcm_sound ?_)
  delta mc332
  refine stp ?_
  refine m_loopF h [4, 5, 8, 9, 10, 11, 12, 13, 14, 15, 16, 17, 18] (fun pp => [(8, .d (iD pp))]) (fun pp => [(0, .obj 46 [.d (slD 1 iD o00), .d (slD 2 D_impl_Rule o01)])]) ?_ ?_
  · try dsimp only
    exact wk
  rintro v8 t1 h hb1
  unfold F_slices_IndexFunc_int64_int64_l1 at h
  try dsimp only at h
  refine vcm_sound (stp ?_)
  rcases ite_some h with ⟨hc, h⟩ | ⟨hc, h⟩
  · refine stpc hc ?_
    obtain ⟨hp, h⟩ := need_some h
    repeat (refine need_i (by omega) ?_; refine stp ?_)
    refine need_i (by kernel_rfl) ?_
    obtain ⟨r, hr, h⟩ := bind_some h
    refine cRo [(0, 0)] [] (c_impl_wordOk_1 hr) (stp ?_)
    rcases ite_some h with ⟨hc, h⟩ | ⟨hc, h⟩
    · refine stpc hc ?_
      replace h := inr_some h hb1
      cases h
      exact ⟨[], by simp, don, don⟩
    refine stpc hc ?_
    cases h
    refine ⟨_, rfl, ?_⟩
    exact wk
  refine stpc hc ?_
  replace h := inr_some h hb1
  cases h
  exact ⟨[], by simp, don, don⟩
def mc257 : MCode :=
 (.seq (.reg [⟨some 4, .mv (.const (.bool false)), none⟩]) (.seq (.reg [⟨some 5, .mv (.tmp 0), none⟩, ⟨some 6, .mv (.tmp 1), none⟩, ⟨some 7, .callf 332 [.tmp 5, .tmp 6], none⟩, ⟨some 8, .bin .geq (.tmp 7) (.const (.int .i64 0)), none⟩, ⟨some 4, .mv (.tmp 8), none⟩]) .ret))
theorem fn257 : MFn Tryz.prog 257 mc257 9 [.tmp 4] :=
  ⟨Tryz.f257, Tryz.func257, by kernel_rfl, Tryz.ntmps257, by kernel_rfl⟩
def F_slices_ContainsFunc_int64_int64 (s : (List Ls)) (o00 : Ls) (o01 : (List (Ls × Ls))) : Option Bool :=
 (F_slices_IndexFunc_int64_int64 s o00 o01).bind fun r =>
 some (decide (0 ≤ r))
theorem c_slices_ContainsFunc_int64_int64 {s : (List Ls)} {o00 : Ls} {o01 : (List (Ls × Ls))} {rr : Bool} (h : F_slices_ContainsFunc_int64_int64 s o00 o01 = some rr) : ACalls Tryz.prog 257 [.d (slD 1 (slD 1 iD) s), .fn 258 [] [.ptr 0 0]] [(0, .obj 46 [.d (slD 1 iD o00), .d (slD 2 D_impl_Rule o01)])] 1 fun xx ss => xx = .d (bD rr) ∧ ss = [(0, .obj 46 [.d (slD 1 iD o00), .d (slD 2 D_impl_Rule o01)])] := by
  delta F_slices_ContainsFunc_int64_int64 at h
  refine fn257.callsO (vcm_sound ?_)
  delta mc257
  refine stp ?_
  obtain ⟨r, hr, h⟩ := bind_some h
  refine cRo [(0, 0)] [] (c_slices_IndexFunc_int64_int64 hr) (stp ?_)
  cases h
  exact ⟨[], by simp, don, don⟩
def mc143 : MCode :=
 (.seq (.reg [⟨some 3, .box 3 46 (.tmp 0), none⟩, ⟨some 6, .mv (.const (.bool false)), none⟩]) (.seq (.seq (.reg [⟨some 7, .load 2 true (.tmp 3), none⟩, ⟨some 8, .callf 167 [.tmp 7], none⟩, ⟨some 9, .un .not (.tmp 8), none⟩, ⟨some 10, .mv (.tmp 9), none⟩, ⟨some 11, .mv (.tmp 1), (some (some 10, false))⟩, ⟨some 12, .bin .lss (.tmp 11) (.const (.int .i64 0)), (some (some 10, false))⟩, ⟨some 13, .pick (.tmp 10) (.const (.bool true)) (.tmp 12), none⟩, ⟨some 14, .mv (.tmp 13), none⟩, ⟨some 15, .mv (.tmp 1), (some (some 14, false))⟩, ⟨some 16, .bin .gtr (.tmp 15) (.const (.int .i64 60)), (some (some 14, false))⟩, ⟨some 17, .pick (.tmp 14) (.const (.bool true)) (.tmp 16), none⟩]) (.cond (.tmp 17) (.seq (.reg [⟨some 6, .mv (.const (.bool false)), none⟩]) .ret) .skip)) (.seq (.reg [⟨some 18, .mv (.tmp 2), none⟩, ⟨some 19, .mkfn 258 [] [.tmp 3], none⟩, ⟨some 20, .callf 257 [.tmp 18, .tmp 19], none⟩, ⟨some 21, .un .not (.tmp 20), none⟩, ⟨some 6, .mv (.tmp 21), none⟩]) .ret)))
theorem fn143 : MFn Tryz.prog 143 mc143 22 [.tmp 6] :=
  ⟨Tryz.f143, Tryz.func143, by kernel_rfl, Tryz.ntmps143, by kernel_rfl⟩
def F_impl_wordOk (sys : (Ls × (List (Ls × Ls)))) (fuel : Int) (ts : (List Ls)) : Option Bool :=
 (F_impl_SystemOk sys).bind fun r =>
 if r = true then
  if (decide (fuel < 0)) = true then
   some false
  else
   if (decide (60 < fuel)) = true then
    some false
   else
    (F_slices_ContainsFunc_int64_int64 ts sys.1 sys.2).bind fun r_1 =>
    some (!r_1)
 else
  some false
theorem c_impl_wordOk {sys : (Ls × (List (Ls × Ls)))} {fuel : Int} {ts : (List Ls)} {rr : Bool} (h : F_impl_wordOk sys fuel ts = some rr) : PFun Tryz.prog 143 [D_impl_System sys, iD fuel, (slD 1 (slD 1 iD)) ts] (bD rr) := by
  delta F_impl_wordOk at h
  refine fn143.pureL (vcm_sound ?_)
  delta mc143
  refine stp ?_
  obtain ⟨r, hr, h⟩ := bind_some h
  refine cR (c_impl_SystemOk hr) (stp ?_)
  rcases ite_some h with ⟨hc, h⟩ | ⟨hc, h⟩
  · refine stpc hc ?_
    rcases ite_some h with ⟨hc, h⟩ | ⟨hc, h⟩
    · refine stpc hc ?_
      cases h
      exact don
    refine stpc hc ?_
    rcases ite_some h with ⟨hc, h⟩ | ⟨hc, h⟩
    · refine stpc hc ?_
      cases h
      exact don
    refine stpc hc ?_
    obtain ⟨r_1, hr_1, h⟩ := bind_some h
    refine cRo [(0, 3)] [] (c_slices_ContainsFunc_int64_int64 hr_1) (stp ?_)
    cases h
    exact don
  refine stpc hc ?_
  cases h
  exact don
def mc141 : MCode :=
 (.seq (.reg [⟨some 3, .box 3 43 (.tmp 0), none⟩, ⟨some 6, .mv (.const (.bool false)), none⟩]) (.seq (.reg [⟨some 10, .load 1 true (.tmp 3), none⟩, ⟨some 11, .mv (.tmp 1), none⟩, ⟨some 12, .mv (.tmp 2), none⟩, ⟨some 13, .callf 254 [.tmp 10, .tmp 11, .tmp 12], none⟩, ⟨some 9, .mv (.tmp 13), none⟩, ⟨some 14, .ext (.tmp 9) 0, none⟩, ⟨some 15, .ext (.tmp 9) 1, none⟩, ⟨some 7, .alloc 7 48 [.sl 0 (some true) []], none⟩, ⟨none, .store 1 (.tmp 7) (.tmp 14), none⟩, ⟨some 8, .mv (.tmp 15), none⟩]) (.seq (.reg [⟨some 16, .mv (.tmp 8), none⟩, ⟨some 6, .mv (.tmp 16), none⟩]) .ret)))
theorem fn141 : MFn Tryz.prog 141 mc141 17 [.tmp 6] :=
  ⟨Tryz.f141, Tryz.func141, by kernel_rfl, Tryz.ntmps141, by kernel_rfl⟩
def F_impl_instance (sig : Ls) (p : Ls) (t : Ls) : Option Bool :=
 (F_impl_match sig p t).bind fun r =>
 some r.2
theorem c_impl_instance {sig : Ls} {p : Ls} {t : Ls} {rr : Bool} (h : F_impl_instance sig p t = some rr) : PFun Tryz.prog 141 [D_impl_Sig sig, (slD 1 iD) p, (slD 1 iD) t] (bD rr) := by
  delta F_impl_instance at h
  refine fn141.pureL (vcm_sound ?_)
  delta mc141
  refine stp ?_
  obtain ⟨r, hr, h⟩ := bind_some h
  refine cRN (c_impl_match hr) (stp ?_)
  cases h
  exact don
def mc337 : MCode :=
 (.seq (.reg [⟨some 4, .box 4 46 (.tmp 0), none⟩, ⟨some 8, .mv (.const (.bool false)), none⟩]) (.seq (.draw [⟨some 9, .fad 0 (.tmp 4), none⟩, ⟨some 10, .load 1 true (.tmp 9), none⟩, ⟨some 11, .fad 1 (.tmp 4), none⟩, ⟨some 12, .load 1 false (.tmp 11), none⟩, ⟨some 13, .mv (.tmp 3), none⟩, ⟨some 14, .ixa 2 (.tmp 12) (.tmp 13), none⟩, ⟨some 15, .fad 0 (.tmp 14), none⟩, ⟨some 16, .load 1 false (.tmp 15), none⟩, ⟨some 17, .fad 0 (.tmp 4), none⟩, ⟨some 18, .load 1 true (.tmp 17), none⟩, ⟨some 19, .mv (.tmp 1), none⟩, ⟨some 20, .mv (.tmp 2), none⟩, ⟨some 21, .callf 230 [.tmp 18, .tmp 19, .tmp 20], none⟩, ⟨some 22, .callf 141 [.tmp 10, .tmp 16, .tmp 21], none⟩, ⟨some 8, .mv (.tmp 22), none⟩] [[], [0], [], [2], [], [3, 4], [5], [6], [], [8], [], [], [9, 10, 11], [1, 7, 12, 12], [13, 13, 0, 1, 2, 3, 4, 5, 6, 7, 8, 9, 10, 11, 12, 13]]) .ret))
theorem fn337 : MFn Tryz.prog 337 mc337 23 [.tmp 8] :=
  ⟨Tryz.f337, Tryz.func337, by kernel_rfl, Tryz.ntmps337, by kernel_rfl⟩
def F_impl_redex (sys : (Ls × (List (Ls × Ls)))) (t : Ls) (at' : Int) (rule : Int) : Option Bool :=
 if 0 ≤ rule ∧ rule < (sys.2.length : Int) then
  (F_impl_subAt sys.1 t at').bind fun r =>
  (F_impl_instance sys.1 ((sys.2.getD rule.toNat default).1) r).bind fun r_1 =>
  some r_1
 else none
theorem c_impl_redex {sys : (Ls × (List (Ls × Ls)))} {t : Ls} {at' : Int} {rule : Int} {rr : Bool} (h : F_impl_redex sys t at' rule = some rr) : PFun Tryz.prog 337 [D_impl_System sys, (slD 1 iD) t, iD at', iD rule] (bD rr) := by
  delta F_impl_redex at h
  refine fn337.pureL (vcm_sound ?_)
  delta mc337
  refine stp ?_
  obtain ⟨hp, h⟩ := need_some h
  repeat (refine need_i (by omega) ?_; refine stp ?_)
  obtain ⟨r, hr, h⟩ := bind_some h
  refine cD' (c_impl_subAt hr) (stp ?_)
  obtain ⟨r_1, hr_1, h⟩ := bind_some h
  refine cD' (c_impl_instance hr_1) (stp ?_)
  refine drQ_of (by kernel_rfl) ?_
  refine stp ?_
  cases h
  exact don
def mc263 : MCode :=
 (.seq (.reg [⟨some 3, .box 3 46 (.tmp 0), none⟩, ⟨some 6, .mv (.const (.int .i64 0)), none⟩]) (.seq (.seq (.reg [⟨some 8, .fad 1 (.tmp 3), none⟩, ⟨some 9, .load 1 false (.tmp 8), none⟩, ⟨some 10, .len (.tmp 9), none⟩, ⟨some 11, .mv (.const (.int .i64 0)), none⟩]) (.block 0 (.loop (.seq (.reg [⟨some 12, .bin .lss (.tmp 11) (.tmp 10), none⟩]) (.seq (.cond (.tmp 12) .skip (.exit 0)) (.seq (.block 1 (.seq (.reg [⟨some 13, .mv (.tmp 11), none⟩, ⟨some 7, .mv (.tmp 13), none⟩]) (.seq (.reg [⟨some 14, .load 2 true (.tmp 3), none⟩, ⟨some 15, .mv (.tmp 1), none⟩, ⟨some 16, .mv (.tmp 2), none⟩, ⟨some 17, .mv (.tmp 7), none⟩, ⟨some 18, .callf 337 [.tmp 14, .tmp 15, .tmp 16, .tmp 17], none⟩]) (.cond (.tmp 18) (.seq (.reg [⟨some 19, .mv (.tmp 7), none⟩, ⟨some 6, .mv (.tmp 19), none⟩]) .ret) .skip)))) (.reg [⟨some 20, .bin .add (.tmp 11) (.const (.int .i64 1)), none⟩, ⟨some 11, .mv (.tmp 20), none⟩]))))))) (.seq (.reg [⟨some 6, .mv (.const (.int .i64 (-1))), none⟩]) .ret)))
theorem fn263 : MFn Tryz.prog 263 mc263 21 [.tmp 6] :=
  ⟨Tryz.f263, Tryz.func263, by kernel_rfl, Tryz.ntmps263, by kernel_rfl⟩
def F_impl_ruleAt_l1 (sys : (Ls × (List (Ls × Ls)))) (t : Ls) (at' : Int) : Int → Option (Int ⊕ Int)
 | v11 =>
  if (decide (v11 < (sys.2.length : Int))) = true then
   (F_impl_redex sys t at' v11).bind fun r =>
   if r = true then
    Option.map Sum.inr (
     some v11)
   else
    some (.inl (IntKind.i64.wrap (v11 + 1)))
  else
   Option.map Sum.inr (
    some (-1))
def F_impl_ruleAt (sys : (Ls × (List (Ls × Ls)))) (t : Ls) (at' : Int) : Option Int :=
 loopC (F_impl_ruleAt_l1 sys t at') 0
theorem c_impl_ruleAt {sys : (Ls × (List (Ls × Ls)))} {t : Ls} {at' : Int} {rr : Int} (h : F_impl_ruleAt sys t at' = some rr) : PFun Tryz.prog 263 [D_impl_System sys, (slD 1 iD) t, iD at'] (iD rr) := by
  delta F_impl_ruleAt at h
  refine fn263.pureL (vcm_sound ?_)
  delta mc263
  refine stp ?_
  refine m_loopF h [6, 7, 11, 12, 13, 14, 15, 16, 17, 18, 19, 20] (fun pp => [(11, .d (iD pp))]) (fun pp => [(3, .obj 46 [.d (slD 1 iD sys.1), .d (slD 2 D_impl_Rule sys.2)])]) ?_ ?_
  · try dsimp only
    exact wk
  rintro v11 t1 h hb1
  unfold F_impl_ruleAt_l1 at h
  try dsimp only at h
  refine vcm_sound (stp ?_)
  rcases ite_some h with ⟨hc, h⟩ | ⟨hc, h⟩
  · refine stpc hc ?_
    obtain ⟨r, hr, h⟩ := bind_some h
    refine cR (c_impl_redex hr) (stp ?_)
    rcases ite_some h with ⟨hc, h⟩ | ⟨hc, h⟩
    · refine stpc hc ?_
      replace h := inr_some h hb1
      cases h
      exact don
    refine stpc hc ?_
    cases h
    refine ⟨_, rfl, ?_⟩
    exact wk
  refine stpc hc ?_
  replace h := inr_some h hb1
  cases h
  exact don
end
end Go.Proofs.YtcaljngigbfadaaGreat
namespace Go.Proofs.YtcaljngigbfadaaGreat
noncomputable section
open Go Abx
attribute [local irreducible] vcm vgo vdr vrun vdrun MWp GhostQ BrC BrO BrG BrD BrH AmbO callR callD drQ EnvLe StoLe
set_option maxHeartbeats 4000000
def mc333 : MCode :=
 (.seq (.reg [⟨some 2, .box 2 46 (.tmp 0), none⟩, ⟨some 4, .mv (.const (.slice none 0 0)), none⟩]) (.seq (.reg [⟨some 5, .mv (.const (.slice none 0 0)), none⟩]) (.seq (.seq (.reg [⟨some 8, .mv (.tmp 1), none⟩, ⟨some 9, .len (.tmp 8), none⟩, ⟨some 10, .mv (.const (.int .i64 0)), none⟩]) (.block 0 (.loop (.seq (.reg [⟨some 11, .bin .lss (.tmp 10) (.tmp 9), none⟩]) (.seq (.cond (.tmp 11) .skip (.exit 0)) (.seq (.block 1 (.seq (.reg [⟨some 12, .mv (.tmp 10), none⟩, ⟨some 13, .ixa 1 (.tmp 8) (.tmp 10), none⟩, ⟨some 14, .load 1 false (.tmp 13), none⟩, ⟨some 6, .mv (.tmp 12), none⟩, ⟨some 7, .mv (.tmp 14), none⟩]) (.seq (.reg [⟨some 15, .mv (.tmp 7), none⟩, ⟨some 16, .bin .geq (.tmp 15) (.const (.int .i64 0)), none⟩, ⟨some 17, .mv (.tmp 16), none⟩, ⟨some 18, .load 2 true (.tmp 2), (some (some 17, true))⟩, ⟨some 19, .mv (.tmp 1), (some (some 17, true))⟩, ⟨some 20, .mv (.tmp 6), (some (some 17, true))⟩, ⟨some 21, .callf 263 [.tmp 18, .tmp 19, .tmp 20], (some (some 17, true))⟩, ⟨some 22, .bin .geq (.tmp 21) (.const (.int .i64 0)), (some (some 17, true))⟩, ⟨some 23, .pick (.tmp 17) (.tmp 22) (.const (.bool false)), none⟩]) (.cond (.tmp 23) (.reg [⟨some 24, .mv (.tmp 5), none⟩, ⟨some 25, .mv (.tmp 6), none⟩, ⟨some 26, .bsl 26 3 1 [.tmp 25], none⟩, ⟨some 27, .app 27 3 1 8 (.tmp 24) (.tmp 26), none⟩, ⟨some 5, .mv (.tmp 27), none⟩]) .skip)))) (.reg [⟨some 28, .bin .add (.tmp 10) (.const (.int .i64 1)), none⟩, ⟨some 10, .mv (.tmp 28), none⟩]))))))) (.seq (.reg [⟨some 29, .mv (.tmp 5), none⟩, ⟨some 4, .mv (.tmp 29), none⟩]) .ret))))
theorem fn333 : MFn Tryz.prog 333 mc333 30 [.tmp 4] :=
  ⟨Tryz.f333, Tryz.func333, by kernel_rfl, Tryz.ntmps333, by kernel_rfl⟩
def F_impl_redexes_l1 (sys : (Ls × (List (Ls × Ls)))) (t : Ls) : (Ls × Int) → Option ((Ls × Int) ⊕ Ls)
 | (out, v10) =>
  if (decide (v10 < (t.length : Int))) = true then
   if 0 ≤ v10 ∧ v10 < (t.length : Int) then
    if (decide (0 ≤ (t.getD v10.toNat default))) = true then
     (F_impl_ruleAt sys t v10).bind fun r =>
     if (decide (0 ≤ r)) = true then
      if (out.length + 1) * 8 ≤ 140737488355328 then
       some (.inl ((out ++ [v10]), (IntKind.i64.wrap (v10 + 1))))
      else none
     else
      some (.inl (out, (IntKind.i64.wrap (v10 + 1))))
    else
     some (.inl (out, (IntKind.i64.wrap (v10 + 1))))
   else none
  else
   Option.map Sum.inr (
    some out)
def F_impl_redexes (sys : (Ls × (List (Ls × Ls)))) (t : Ls) : Option Ls :=
 loopC (F_impl_redexes_l1 sys t) ([], 0)
theorem c_impl_redexes {sys : (Ls × (List (Ls × Ls)))} {t : Ls} {rr : Ls} (h : F_impl_redexes sys t = some rr) : PFun Tryz.prog 333 [D_impl_System sys, (slD 1 iD) t] ((slD 1 iD) rr) := by
  delta F_impl_redexes at h
  refine fn333.pureL (vcm_sound ?_)
  delta mc333
  refine stp ?_
  refine m_loopF h [5, 6, 7, 10, 11, 12, 13, 14, 15, 16, 17, 18, 19, 20, 21, 22, 23, 24, 25, 26, 27, 28] (fun pp => [(5, .own 1 27 (List.map iD pp.1)), (10, .d (iD pp.2))]) (fun pp => [(2, .obj 46 [.d (slD 1 iD sys.1), .d (slD 2 D_impl_Rule sys.2)]), (27, .tok 3 1 pp.1.length)]) ?_ ?_
  · try dsimp only
    refine (Weak.thaw 5 27 3 1 rfl rfl).trans ?_
    exact wk
  rintro ⟨out, v10⟩ t1 h hb1
  unfold F_impl_redexes_l1 at h
  try dsimp only at h
  refine vcm_sound (stp ?_)
  rcases ite_some h with ⟨hc, h⟩ | ⟨hc, h⟩
  · refine stpc hc ?_
    obtain ⟨hp, h⟩ := need_some h
    repeat (refine need_i (by omega) ?_; refine stp ?_)
    rcases ite_some h with ⟨hc, h⟩ | ⟨hc, h⟩
    · refine stpc hc ?_
      obtain ⟨r, hr, h⟩ := bind_some h
      refine cR (c_impl_ruleAt hr) (stp ?_)
      rcases ite_some h with ⟨hc, h⟩ | ⟨hc, h⟩
      · refine stpc hc ?_
        obtain ⟨hp, h⟩ := need_some h
        repeat (refine need_i (by omega) ?_; refine stp ?_)
        cases h
        refine ⟨_, rfl, ?_⟩
        refine (Weak.drop 26 (by omega)).trans ?_
        exact wk
      refine stpc hc ?_
      cases h
      refine ⟨_, rfl, ?_⟩
      exact wk
    refine stpc hc ?_
    cases h
    refine ⟨_, rfl, ?_⟩
    exact wk
  refine stpc hc ?_
  replace h := inr_some h hb1
  cases h
  exact don
def mc432 : MCode :=
 (.seq (.reg [⟨some 4, .box 4 43 (.tmp 0), none⟩, ⟨some 8, .mv (.const (.bool false)), none⟩]) (.seq (.reg [⟨some 9, .mv (.tmp 3), none⟩, ⟨some 10, .mv (.tmp 2), none⟩, ⟨some 11, .bin .geq (.tmp 9) (.tmp 10), none⟩, ⟨some 12, .mv (.tmp 11), none⟩, ⟨some 13, .mv (.tmp 3), (some (some 12, true))⟩, ⟨some 14, .load 1 true (.tmp 4), (some (some 12, true))⟩, ⟨some 15, .mv (.tmp 1), (some (some 12, true))⟩, ⟨some 16, .mv (.tmp 2), (some (some 12, true))⟩, ⟨some 17, .callf 228 [.tmp 14, .tmp 15, .tmp 16], (some (some 12, true))⟩, ⟨some 18, .bin .lss (.tmp 13) (.tmp 17), (some (some 12, true))⟩, ⟨some 19, .pick (.tmp 12) (.tmp 18) (.const (.bool false)), none⟩, ⟨some 8, .mv (.tmp 19), none⟩]) .ret))
theorem fn432 : MFn Tryz.prog 432 mc432 20 [.tmp 8] :=
  ⟨Tryz.f432, Tryz.func432, by kernel_rfl, Tryz.ntmps432, by kernel_rfl⟩
def F_impl_inside (sig : Ls) (t : Ls) (at' : Int) (p : Int) : Option Bool :=
 if (decide (at' ≤ p)) = true then
  (F_impl_endAt sig t at').bind fun r =>
  some (decide (p < r))
 else
  some false
theorem c_impl_inside {sig : Ls} {t : Ls} {at' : Int} {p : Int} {rr : Bool} (h : F_impl_inside sig t at' p = some rr) : PFun Tryz.prog 432 [D_impl_Sig sig, (slD 1 iD) t, iD at', iD p] (bD rr) := by
  delta F_impl_inside at h
  refine fn432.pureL (vcm_sound ?_)
  delta mc432
  refine stp ?_
  rcases ite_some h with ⟨hc, h⟩ | ⟨hc, h⟩
  · refine stpc hc ?_
    obtain ⟨r, hr, h⟩ := bind_some h
    refine cR (c_impl_endAt hr) (stp ?_)
    cases h
    exact don
  refine stpc hc ?_
  cases h
  exact don
def mc388 : MCode :=
 (.seq (.reg [⟨some 2, .box 2 46 (.tmp 0), none⟩, ⟨some 4, .mv (.const (.slice none 0 0)), none⟩]) (.seq (.reg [⟨some 9, .load 2 true (.tmp 2), none⟩, ⟨some 10, .mv (.tmp 1), none⟩, ⟨some 11, .callf 333 [.tmp 9, .tmp 10], none⟩, ⟨some 5, .mv (.tmp 11), none⟩]) (.seq (.reg [⟨some 6, .mv (.const (.slice none 0 0)), none⟩]) (.seq (.seq (.reg [⟨some 12, .mv (.tmp 5), none⟩, ⟨some 13, .len (.tmp 12), none⟩, ⟨some 14, .mv (.const (.int .i64 0)), none⟩]) (.block 0 (.loop (.seq (.reg [⟨some 15, .bin .lss (.tmp 14) (.tmp 13), none⟩]) (.seq (.cond (.tmp 15) .skip (.exit 0)) (.seq (.block 1 (.seq (.reg [⟨some 16, .mv (.tmp 14), none⟩, ⟨some 17, .ixa 1 (.tmp 12) (.tmp 14), none⟩, ⟨some 18, .load 1 false (.tmp 17), none⟩, ⟨some 7, .mv (.tmp 16), none⟩, ⟨some 8, .mv (.tmp 18), none⟩]) (.seq (.draw [⟨some 19, .mv (.tmp 7), none⟩, ⟨some 20, .bin .add (.tmp 19) (.const (.int .i64 1)), none⟩, ⟨some 21, .mv (.tmp 5), none⟩, ⟨some 22, .len (.tmp 21), none⟩, ⟨some 23, .bin .eql (.tmp 20) (.tmp 22), none⟩, ⟨some 24, .mv (.tmp 23), none⟩, ⟨some 25, .fad 0 (.tmp 2), (some (some 24, false))⟩, ⟨some 26, .load 1 true (.tmp 25), (some (some 24, false))⟩, ⟨some 27, .mv (.tmp 1), (some (some 24, false))⟩, ⟨some 28, .mv (.tmp 8), (some (some 24, false))⟩, ⟨some 29, .mv (.tmp 5), (some (some 24, false))⟩, ⟨some 30, .mv (.tmp 7), (some (some 24, false))⟩, ⟨some 31, .bin .add (.tmp 30) (.const (.int .i64 1)), (some (some 24, false))⟩, ⟨some 32, .ixa 1 (.tmp 29) (.tmp 31), (some (some 24, false))⟩, ⟨some 33, .load 1 false (.tmp 32), (some (some 24, false))⟩, ⟨some 34, .callf 432 [.tmp 26, .tmp 27, .tmp 28, .tmp 33], (some (some 24, false))⟩, ⟨some 35, .un .not (.tmp 34), (some (some 24, false))⟩, ⟨some 36, .pick (.tmp 24) (.const (.bool true)) (.tmp 35), none⟩] [[], [0], [], [2], [1, 3], [4], [5], [6, 5], [5], [5], [5], [5], [11, 5], [10, 12, 5], [13, 5], [7, 8, 9, 14, 5, 5], [15, 5], [5, 16]]) (.cond (.tmp 36) (.reg [⟨some 37, .mv (.tmp 6), none⟩, ⟨some 38, .mv (.tmp 8), none⟩, ⟨some 39, .bsl 39 3 1 [.tmp 38], none⟩, ⟨some 40, .app 40 3 1 8 (.tmp 37) (.tmp 39), none⟩, ⟨some 6, .mv (.tmp 40), none⟩]) .skip)))) (.reg [⟨some 41, .bin .add (.tmp 14) (.const (.int .i64 1)), none⟩, ⟨some 14, .mv (.tmp 41), none⟩]))))))) (.seq (.reg [⟨some 42, .mv (.tmp 6), none⟩, ⟨some 4, .mv (.tmp 42), none⟩]) .ret)))))
theorem fn388 : MFn Tryz.prog 388 mc388 43 [.tmp 4] :=
  ⟨Tryz.f388, Tryz.func388, by kernel_rfl, Tryz.ntmps388, by kernel_rfl⟩
def F_impl_inmost_l1 (sys : (Ls × (List (Ls × Ls)))) (t : Ls) (r : Ls) : (Ls × Int) → Option ((Ls × Int) ⊕ Ls)
 | (out, v14) =>
  if (decide (v14 < (r.length : Int))) = true then
   if 0 ≤ v14 ∧ v14 < (r.length : Int) then
    if ((IntKind.i64.wrap (v14 + 1)) == (r.length : Int)) = true then
     if (out.length + 1) * 8 ≤ 140737488355328 then
      some (.inl ((out ++ [(r.getD v14.toNat default)]), (IntKind.i64.wrap (v14 + 1))))
     else none
    else
     if 0 ≤ (IntKind.i64.wrap (v14 + 1)) ∧ (IntKind.i64.wrap (v14 + 1)) < (r.length : Int) then
      (F_impl_inside sys.1 t (r.getD v14.toNat default) (r.getD (IntKind.i64.wrap (v14 + 1)).toNat default)).bind fun r_1 =>
      if r_1 = true then
       some (.inl (out, (IntKind.i64.wrap (v14 + 1))))
      else
       if (out.length + 1) * 8 ≤ 140737488355328 then
        some (.inl ((out ++ [(r.getD v14.toNat default)]), (IntKind.i64.wrap (v14 + 1))))
       else none
     else none
   else none
  else
   Option.map Sum.inr (
    some out)
def F_impl_inmost (sys : (Ls × (List (Ls × Ls)))) (t : Ls) : Option Ls :=
 (F_impl_redexes sys t).bind fun r =>
 loopC (F_impl_inmost_l1 sys t r) ([], 0)
theorem c_impl_inmost {sys : (Ls × (List (Ls × Ls)))} {t : Ls} {rr : Ls} (h : F_impl_inmost sys t = some rr) : PFun Tryz.prog 388 [D_impl_System sys, (slD 1 iD) t] ((slD 1 iD) rr) := by
  delta F_impl_inmost at h
  refine fn388.pureL (vcm_sound ?_)
  delta mc388
  refine stp ?_
  obtain ⟨r, hr, h⟩ := bind_some h
  refine cR (c_impl_redexes hr) (stp ?_)
  refine m_loopF h [6, 7, 8, 14, 15, 16, 17, 18, 19, 20, 21, 22, 23, 24, 25, 26, 27, 28, 29, 30, 31, 32, 33, 34, 35, 36, 37, 38, 39, 40, 41] (fun pp => [(6, .own 1 40 (List.map iD pp.1)), (14, .d (iD pp.2))]) (fun pp => [(2, .obj 46 [.d (slD 1 iD sys.1), .d (slD 2 D_impl_Rule sys.2)]), (40, .tok 3 1 pp.1.length)]) ?_ ?_
  · try dsimp only
    refine (Weak.thaw 6 40 3 1 rfl rfl).trans ?_
    exact wk
  rintro ⟨out, v14⟩ t1 h hb1
  unfold F_impl_inmost_l1 at h
  try dsimp only at h
  refine vcm_sound (stp ?_)
  rcases ite_some h with ⟨hc, h⟩ | ⟨hc, h⟩
  · refine stpc hc ?_
    obtain ⟨hp, h⟩ := need_some h
    repeat (refine need_i (by omega) ?_; refine stp ?_)
    rcases ite_some h with ⟨hc, h⟩ | ⟨hc, h⟩
    · refine stpc hc ?_
      refine drQ_of (by kernel_rfl) ?_
      refine stp ?_
      obtain ⟨hp, h⟩ := need_some h
      repeat (refine need_i (by omega) ?_; refine stp ?_)
      cases h
      refine ⟨_, rfl, ?_⟩
      refine (Weak.drop 39 (by omega)).trans ?_
      exact wk
    refine stpc hc ?_
    obtain ⟨hp, h⟩ := need_some h
    repeat (refine need_i (by omega) ?_; refine stp ?_)
    obtain ⟨r_1, hr_1, h⟩ := bind_some h
    refine cD' (c_impl_inside hr_1) (stp ?_)
    refine drQ_of (by kernel_rfl) ?_
    refine stp ?_
    rcases ite_some h with ⟨hc, h⟩ | ⟨hc, h⟩
    · refine stpc hc ?_
      cases h
      refine ⟨_, rfl, ?_⟩
      exact wk
    refine stpc hc ?_
    obtain ⟨hp, h⟩ := need_some h
    repeat (refine need_i (by omega) ?_; refine stp ?_)
    cases h
    refine ⟨_, rfl, ?_⟩
    refine (Weak.drop 39 (by omega)).trans ?_
    exact wk
  refine stpc hc ?_
  replace h := inr_some h hb1
  cases h
  exact don
def mc334 : MCode :=
 (.seq (.reg [⟨some 1, .box 1 326 (.tmp 0), none⟩, ⟨some 2, .mv (.const (.int .i64 0)), none⟩]) (.seq (.reg [⟨some 3, .fad 0 (.tmp 1), none⟩, ⟨some 4, .load 2 true (.tmp 3), none⟩, ⟨some 5, .fad 2 (.tmp 1), none⟩, ⟨some 6, .load 1 false (.tmp 5), none⟩, ⟨some 7, .callf 388 [.tmp 4, .tmp 6], none⟩, ⟨some 8, .ixa 1 (.tmp 7) (.const (.int .i64 0)), none⟩, ⟨some 9, .load 1 false (.tmp 8), none⟩, ⟨some 2, .mv (.tmp 9), none⟩]) .ret))
theorem fn334 : MFn Tryz.prog 334 mc334 10 [.tmp 2] :=
  ⟨Tryz.f334, Tryz.func334, by kernel_rfl, Tryz.ntmps334, by kernel_rfl⟩
def F_impl_choice_inmost (c : (Ls × (List (Ls × Ls)) × Ls × Ls)) : Option Int :=
 (F_impl_inmost (c.1, c.2.1) c.2.2.1).bind fun r =>
 if 0 ≤ 0 ∧ 0 < (r.length : Int) then
  some (r.getD 0 default)
 else none
theorem c_impl_choice_inmost {c : (Ls × (List (Ls × Ls)) × Ls × Ls)} {rr : Int} (h : F_impl_choice_inmost c = some rr) : PFun Tryz.prog 334 [D_impl_choice c] (iD rr) := by
  delta F_impl_choice_inmost at h
  refine fn334.pureL (vcm_sound ?_)
  delta mc334
  refine stp ?_
  obtain ⟨r, hr, h⟩ := bind_some h
  refine cR (c_impl_inmost hr) (stp ?_)
  obtain ⟨hp, h⟩ := need_some h
  repeat (refine need_i (by omega) ?_; refine stp ?_)
  cases h
  exact don
def mc335 : MCode :=
 (.seq (.reg [⟨some 1, .box 1 326 (.tmp 0), none⟩, ⟨some 2, .mv (.const (.int .i64 0)), none⟩]) (.seq (.reg [⟨some 3, .fad 3 (.tmp 1), none⟩, ⟨some 4, .load 1 false (.tmp 3), none⟩, ⟨some 5, .ixa 1 (.tmp 4) (.const (.int .i64 0)), none⟩, ⟨some 6, .load 1 false (.tmp 5), none⟩, ⟨some 2, .mv (.tmp 6), none⟩]) .ret))
theorem fn335 : MFn Tryz.prog 335 mc335 7 [.tmp 2] :=
  ⟨Tryz.f335, Tryz.func335, by kernel_rfl, Tryz.ntmps335, by kernel_rfl⟩
def F_impl_choice_outmost (c : (Ls × (List (Ls × Ls)) × Ls × Ls)) : Option Int :=
 if 0 ≤ 0 ∧ 0 < (c.2.2.2.length : Int) then
  some (c.2.2.2.getD 0 default)
 else none
theorem c_impl_choice_outmost {c : (Ls × (List (Ls × Ls)) × Ls × Ls)} {rr : Int} (h : F_impl_choice_outmost c = some rr) : PFun Tryz.prog 335 [D_impl_choice c] (iD rr) := by
  delta F_impl_choice_outmost at h
  refine fn335.pureL (vcm_sound ?_)
  delta mc335
  refine stp ?_
  obtain ⟨hp, h⟩ := need_some h
  repeat (refine need_i (by omega) ?_; refine stp ?_)
  cases h
  exact don
end
end Go.Proofs.YtcaljngigbfadaaGreat
namespace Go.Proofs.YtcaljngigbfadaaGreat
noncomputable section
open Go Abx
attribute [local irreducible] vcm vgo vdr vrun vdrun MWp GhostQ BrC BrO BrG BrD BrH AmbO callR callD drQ EnvLe StoLe
set_option maxHeartbeats 4000000
attribute [local go_sem] Nat.zero_mul
def mc336 : MCode :=
 (.seq (.reg [⟨some 1, .box 1 326 (.tmp 0), none⟩, ⟨some 2, .mv (.const (.int .i64 0)), none⟩]) (.seq (.reg [⟨some 3, .fad 3 (.tmp 1), none⟩, ⟨some 4, .load 1 false (.tmp 3), none⟩, ⟨some 5, .fad 3 (.tmp 1), none⟩, ⟨some 6, .load 1 false (.tmp 5), none⟩, ⟨some 7, .len (.tmp 6), none⟩, ⟨some 8, .bin .sub (.tmp 7) (.const (.int .i64 1)), none⟩, ⟨some 9, .ixa 1 (.tmp 4) (.tmp 8), none⟩, ⟨some 10, .load 1 false (.tmp 9), none⟩, ⟨some 2, .mv (.tmp 10), none⟩]) .ret))
theorem fn336 : MFn Tryz.prog 336 mc336 11 [.tmp 2] :=
  ⟨Tryz.f336, Tryz.func336, by kernel_rfl, Tryz.ntmps336, by kernel_rfl⟩
def F_impl_choice_last (c : (Ls × (List (Ls × Ls)) × Ls × Ls)) : Option Int :=
 if 0 ≤ (IntKind.i64.wrap ((c.2.2.2.length : Int) - 1)) ∧ (IntKind.i64.wrap ((c.2.2.2.length : Int) - 1)) < (c.2.2.2.length : Int) then
  some (c.2.2.2.getD (IntKind.i64.wrap ((c.2.2.2.length : Int) - 1)).toNat default)
 else none
theorem c_impl_choice_last {c : (Ls × (List (Ls × Ls)) × Ls × Ls)} {rr : Int} (h : F_impl_choice_last c = some rr) : PFun Tryz.prog 336 [D_impl_choice c] (iD rr) := by
  delta F_impl_choice_last at h
  refine fn336.pureL (vcm_sound ?_)
  delta mc336
  refine stp ?_
  obtain ⟨hp, h⟩ := need_some h
  repeat (refine need_i (by omega) ?_; refine stp ?_)
  cases h
  exact don
def mc262_impl_pick : MCode :=
  (.seq (.reg [⟨(some 3), .box 3 46 (.tmp 0), none⟩,
    ⟨(some 6), .mv (.const (.int .i64 0)), none⟩])
  (.seq (.draw [⟨(some 9), .load 2 true (.tmp 3), none⟩,
    ⟨(some 10), .mv (.tmp 1), none⟩,
    ⟨(some 11), .load 2 true (.tmp 3), none⟩,
    ⟨(some 12), .mv (.tmp 1), none⟩,
    ⟨(some 13), .callf 333 [(.tmp 11), (.tmp 12)], none⟩,
    ⟨(some 14), .build [.sl 0 (some true) [], .sl 0 (some true) [], .sl 0 (some true) [], .sl 0 (some true) []] [(0, 2, (.tmp 9)), (2, 1, (.tmp 10)), (3, 1, (.tmp 13))], none⟩,
    ⟨(some 7), .alloc 7 326 [.sl 0 (some true) [], .sl 0 (some true) [], .sl 0 (some true) [], .sl 0 (some true) []], none⟩,
    ⟨none, .store 4 (.tmp 7) (.tmp 14), none⟩] [[], [], [], [], [2, 3], [0, 1, 4], [], [6, 5, 4, 0, 1, 2, 3, 4, 5, 6]])
  (.seq (.seq (.reg [⟨(some 15), .fad 3 (.tmp 7), none⟩,
    ⟨(some 16), .load 1 false (.tmp 15), none⟩,
    ⟨(some 17), .len (.tmp 16), none⟩,
    ⟨(some 18), .bin .eql (.tmp 17) (.const (.int .i64 0)), none⟩])
  (.cond (.tmp 18)
    (.seq (.reg [⟨(some 6), .mv (.const (.int .i64 (-1))), none⟩])
    .ret)
    .skip))
  (.seq (.reg [⟨(some 19), .load 4 true (.tmp 7), none⟩,
    ⟨(some 20), .mkfn 334 [(.tmp 19)] [], none⟩,
    ⟨(some 21), .load 4 true (.tmp 7), none⟩,
    ⟨(some 22), .mkfn 335 [(.tmp 21)] [], none⟩,
    ⟨(some 23), .load 4 true (.tmp 7), none⟩,
    ⟨(some 24), .mkfn 336 [(.tmp 23)] [], none⟩,
    ⟨(some 25), .bslo 25 327 1 [(.tmp 20), (.tmp 22), (.tmp 24)], none⟩,
    ⟨(some 8), .mv (.tmp 25), none⟩])
  (.seq (.reg [⟨(some 26), .mv (.tmp 8), none⟩,
    ⟨(some 27), .mv (.tmp 2), none⟩,
    ⟨(some 28), .bin .sub (.tmp 27) (.const (.int .i64 1)), none⟩,
    ⟨(some 29), .ixa 1 (.tmp 26) (.tmp 28), none⟩,
    ⟨(some 30), .load 1 false (.tmp 29), none⟩,
    ⟨(some 31), .callv (.tmp 30) [], none⟩,
    ⟨(some 6), .mv (.tmp 31), none⟩])
  .ret)))))
theorem fn262_impl_pick : MFn Tryz.prog 262 mc262_impl_pick 32 [.tmp 6] :=
  ⟨Tryz.f262, Tryz.func262, by kernel_rfl, Tryz.ntmps262, by kernel_rfl⟩
def F_impl_pick (sys : (Ls × (List (Ls × Ls)))) (t : Ls) (strategy : Int) : Option Int :=
 (F_impl_redexes sys t).bind fun r =>
 if ((r.length : Int) == 0) = true then
  some (-1)
 else
  if ((IntKind.i64.wrap (strategy - 1)) == 0) = true then
   (F_impl_choice_inmost (sys.1, sys.2, t, r)).bind fun r_1 =>
   some r_1
  else
   if ((IntKind.i64.wrap (strategy - 1)) == 1) = true then
    (F_impl_choice_outmost (sys.1, sys.2, t, r)).bind fun r_2 =>
    some r_2
   else
    if ((IntKind.i64.wrap (strategy - 1)) == 2) = true then
     (F_impl_choice_last (sys.1, sys.2, t, r)).bind fun r_3 =>
     some r_3
    else
     none
theorem c_impl_pick {sys : (Ls × (List (Ls × Ls)))} {t : Ls} {strategy : Int} {rr : Int} (h : F_impl_pick sys t strategy = some rr) : PFun Tryz.prog 262 [D_impl_System sys, (slD 1 iD) t, iD strategy] (iD rr) := by
  delta F_impl_pick at h
  refine fn262_impl_pick.pureL (vcm_sound ?_)
  delta mc262_impl_pick
  refine stp ?_
  obtain ⟨r, hr, h⟩ := bind_some h
  refine cD' (c_impl_redexes hr) (stp ?_)
  refine drQ_of (by kernel_rfl) ?_
  refine stp ?_
  rcases ite_some h with ⟨hc, h⟩ | ⟨hc, h⟩
  · refine stpc hc ?_
    cases h
    exact don
  refine stpc hc ?_
  repeat (refine need_i (by omega) ?_; refine stp ?_)
  rcases ite_some h with ⟨hc, h⟩ | ⟨hc, h⟩
  · have hq := eq_of_beq hc
    simp only [hq]
    refine stp ?_
    repeat (refine need_i (by omega) ?_; refine stp ?_)
    refine need_i (by kernel_rfl) ?_
    obtain ⟨r_1, hr_1, h⟩ := bind_some h
    refine cR (c_impl_choice_inmost hr_1) (stp ?_)
    cases h
    exact don
  rcases ite_some h with ⟨hc, h⟩ | ⟨hc, h⟩
  · have hq := eq_of_beq hc
    simp only [hq]
    refine stp ?_
    repeat (refine need_i (by omega) ?_; refine stp ?_)
    refine need_i (by kernel_rfl) ?_
    obtain ⟨r_2, hr_2, h⟩ := bind_some h
    refine cR (c_impl_choice_outmost hr_2) (stp ?_)
    cases h
    exact don
  rcases ite_some h with ⟨hc, h⟩ | ⟨hc, h⟩
  · have hq := eq_of_beq hc
    simp only [hq]
    refine stp ?_
    repeat (refine need_i (by omega) ?_; refine stp ?_)
    refine need_i (by kernel_rfl) ?_
    obtain ⟨r_3, hr_3, h⟩ := bind_some h
    refine cR (c_impl_choice_last hr_3) (stp ?_)
    cases h
    exact don
  cases h
def mc147 : MCode :=
 (.seq (.reg [⟨some 4, .box 4 46 (.tmp 0), none⟩, ⟨some 8, .alloc 8 40 [.sl 0 (some true) [], .sl 0 (some true) []], none⟩, ⟨some 9, .mv (.const (.bool false)), none⟩]) (.seq (.reg [⟨some 15, .mv (.tmp 1), none⟩, ⟨some 16, .callf 118 [.tmp 15], none⟩, ⟨some 17, .build [.sl 0 (some true) [], .sl 0 (some true) []] [(0, 1, .tmp 16)], none⟩, ⟨some 10, .alloc 10 40 [.sl 0 (some true) [], .sl 0 (some true) []], none⟩, ⟨none, .store 2 (.tmp 10) (.tmp 17), none⟩]) (.block 0 (.loop (.block 1 (.seq (.reg [⟨some 18, .load 2 true (.tmp 4), none⟩, ⟨some 19, .mv (.tmp 1), none⟩, ⟨some 20, .mv (.tmp 2), none⟩, ⟨some 21, .callf 262 [.tmp 18, .tmp 19, .tmp 20], none⟩, ⟨some 11, .mv (.tmp 21), none⟩]) (.seq (.seq (.reg [⟨some 22, .mv (.tmp 11), none⟩, ⟨some 23, .bin .lss (.tmp 22) (.const (.int .i64 0)), none⟩]) (.cond (.tmp 23) (.seq (.reg [⟨some 24, .load 2 true (.tmp 10), none⟩, ⟨none, .store 2 (.tmp 8) (.tmp 24), none⟩, ⟨some 9, .mv (.const (.bool true)), none⟩]) .ret) .skip)) (.seq (.seq (.reg [⟨some 25, .fad 1 (.tmp 10), none⟩, ⟨some 26, .load 1 false (.tmp 25), none⟩, ⟨some 27, .len (.tmp 26), none⟩, ⟨some 28, .mv (.tmp 3), none⟩, ⟨some 29, .bin .eql (.tmp 27) (.tmp 28), none⟩]) (.cond (.tmp 29) (.seq (.reg [⟨some 30, .load 2 true (.tmp 10), none⟩, ⟨none, .store 2 (.tmp 8) (.tmp 30), none⟩, ⟨some 9, .mv (.const (.bool false)), none⟩]) .ret) .skip)) (.seq (.reg [⟨some 31, .load 2 true (.tmp 4), none⟩, ⟨some 32, .mv (.tmp 1), none⟩, ⟨some 33, .mv (.tmp 11), none⟩, ⟨some 34, .callf 263 [.tmp 31, .tmp 32, .tmp 33], none⟩, ⟨some 12, .mv (.tmp 34), none⟩]) (.seq (.reg [⟨some 36, .load 2 true (.tmp 4), none⟩, ⟨some 37, .mv (.tmp 1), none⟩, ⟨some 38, .mv (.tmp 11), none⟩, ⟨some 39, .mv (.tmp 12), none⟩, ⟨some 40, .callf 264 [.tmp 36, .tmp 37, .tmp 38, .tmp 39], none⟩, ⟨some 35, .mv (.tmp 40), none⟩, ⟨some 41, .ext (.tmp 35) 0, none⟩, ⟨some 42, .ext (.tmp 35) 1, none⟩, ⟨some 13, .mv (.tmp 41), none⟩, ⟨some 14, .mv (.tmp 42), none⟩]) (.seq (.seq (.reg [⟨some 43, .mv (.tmp 14), none⟩, ⟨some 44, .un .not (.tmp 43), none⟩]) (.cond (.tmp 44) (.seq (.reg [⟨some 45, .load 2 true (.tmp 10), none⟩, ⟨none, .store 2 (.tmp 8) (.tmp 45), none⟩, ⟨some 9, .mv (.const (.bool false)), none⟩]) .ret) .skip)) (.seq (.reg [⟨some 46, .fad 1 (.tmp 10), none⟩, ⟨some 47, .load 1 false (.tmp 46), none⟩, ⟨some 48, .mv (.tmp 11), none⟩, ⟨some 49, .mv (.tmp 12), none⟩, ⟨some 50, .mv (.tmp 13), none⟩, ⟨some 51, .build [.lit (.int .i64 0), .lit (.int .i64 0), .sl 0 (some true) []] [(0, 1, .tmp 48), (1, 1, .tmp 49), (2, 1, .tmp 50)], none⟩, ⟨some 52, .bsl 52 84 3 [.tmp 51], none⟩, ⟨some 53, .app 53 84 3 40 (.tmp 47) (.tmp 52), none⟩, ⟨some 54, .fad 1 (.tmp 10), none⟩, ⟨none, .store 1 (.tmp 54) (.tmp 53), none⟩]) (.reg [⟨some 55, .mv (.tmp 13), none⟩, ⟨some 1, .mv (.tmp 55), none⟩])))))))))))))
theorem fn147 : MFn Tryz.prog 147 mc147 56 [.cell 8 2 true, .tmp 9] :=
  ⟨Tryz.f147, Tryz.func147, by kernel_rfl, Tryz.ntmps147, by kernel_rfl⟩
def F_impl_walkBy_l1 (sys : (Ls × (List (Ls × Ls)))) (strategy : Int) (fuel : Int) (r : Ls) : (Ls × (List (Int × Int × Ls))) → Option ((Ls × (List (Int × Int × Ls))) ⊕ ((Ls × (List (Int × Int × Ls))) × Bool))
 | (t_1, w) =>
  (F_impl_pick sys t_1 strategy).bind fun r_1 =>
  if (decide (r_1 < 0)) = true then
   Option.map Sum.inr (
    some ((r, w), true))
  else
   if ((w.length : Int) == fuel) = true then
    Option.map Sum.inr (
     some ((r, w), false))
   else
    (F_impl_ruleAt sys t_1 r_1).bind fun r_2 =>
    (F_impl_step sys t_1 r_1 r_2).bind fun r_3 =>
    if r_3.2 = true then
     if (w.length + 1) * 40 ≤ 140737488355328 then
      some (.inl (r_3.1, (w ++ [(r_1, r_2, r_3.1)])))
     else none
    else
     Option.map Sum.inr (
      some ((r, w), false))
def F_impl_walkBy (sys : (Ls × (List (Ls × Ls)))) (t : Ls) (strategy : Int) (fuel : Int) : Option ((Ls × (List (Int × Int × Ls))) × Bool) :=
 (F_slices_Clone_int64_int64 t).bind fun r =>
 loopC (F_impl_walkBy_l1 sys strategy fuel r) (t, [])
theorem c_impl_walkBy {sys : (Ls × (List (Ls × Ls)))} {t : Ls} {strategy : Int} {fuel : Int} {rr : ((Ls × (List (Int × Int × Ls))) × Bool)} (h : F_impl_walkBy sys t strategy fuel = some rr) : PFunN Tryz.prog 147 [D_impl_System sys, (slD 1 iD) t, iD strategy, iD fuel] [D_impl_Walk rr.1, bD rr.2] := by
  delta F_impl_walkBy at h
  refine fn147.pureLN (vcm_sound ?_)
  delta mc147
  refine stp ?_
  obtain ⟨r, hr, h⟩ := bind_some h
  refine cR (c_slices_Clone_int64_int64 hr) (stp ?_)
  refine m_loopF h [1, 9, 11, 12, 13, 14, 18, 19, 20, 21, 22, 23, 24, 25, 26, 27, 28, 29, 30, 31, 32, 33, 34, 35, 36, 37, 38, 39, 40, 41, 42, 43, 44, 45, 46, 47, 48, 49, 50, 51, 52, 53, 54, 55] (fun pp => [(1, .d (slD 1 iD pp.1))]) (fun pp => [(4, .obj 46 [.d (slD 1 iD sys.1), .d (slD 2 D_impl_Rule sys.2)]), (8, .obj 40 [.d (.sl 0 (some true) []), .d (.sl 0 (some true) [])]), (10, .obj 40 [.d (slD 1 iD r), .own 3 53 (List.map D_impl_Step pp.2)]), (53, .tok 84 3 pp.2.length)]) ?_ ?_
  · try dsimp only
    refine (Weak.thawCell 10 1 53 84 3 rfl rfl rfl).trans ?_
    exact wk
  rintro ⟨t_1, w⟩ t1 h hb1
  unfold F_impl_walkBy_l1 at h
  try dsimp only at h
  refine vcm_sound (stp ?_)
  obtain ⟨r_1, hr_1, h⟩ := bind_some h
  refine cR (c_impl_pick hr_1) (stp ?_)
  rcases ite_some h with ⟨hc, h⟩ | ⟨hc, h⟩
  · refine stpc hc ?_
    replace h := inr_some h hb1
    cases h
    exact don
  refine stpc hc ?_
  rcases ite_some h with ⟨hc, h⟩ | ⟨hc, h⟩
  · refine stpc hc ?_
    replace h := inr_some h hb1
    cases h
    exact don
  refine stpc hc ?_
  obtain ⟨r_2, hr_2, h⟩ := bind_some h
  refine cR (c_impl_ruleAt hr_2) (stp ?_)
  obtain ⟨r_3, hr_3, h⟩ := bind_some h
  refine cRN (c_impl_step hr_3) (stp ?_)
  rcases ite_some h with ⟨hc, h⟩ | ⟨hc, h⟩
  · refine stpc hc ?_
    obtain ⟨hp, h⟩ := need_some h
    repeat (refine need_i (by omega) ?_; refine stp ?_)
    cases h
    refine ⟨_, rfl, ?_⟩
    refine (Weak.drop 52 (by omega)).trans ?_
    exact wk
  refine stpc hc ?_
  replace h := inr_some h hb1
  cases h
  exact don
def mc90 : MCode :=
 (.seq (.reg [⟨some 1, .box 1 40 (.tmp 0), none⟩, ⟨some 2, .mv (.const (.slice none 0 0)), none⟩]) (.seq (.seq (.reg [⟨some 4, .fad 1 (.tmp 1), none⟩, ⟨some 5, .load 1 false (.tmp 4), none⟩, ⟨some 6, .len (.tmp 5), none⟩, ⟨some 3, .mv (.tmp 6), none⟩]) (.seq (.reg [⟨some 7, .mv (.tmp 3), none⟩, ⟨some 8, .bin .gtr (.tmp 7) (.const (.int .i64 0)), none⟩]) (.cond (.tmp 8) (.seq (.reg [⟨some 9, .fad 1 (.tmp 1), none⟩, ⟨some 10, .load 1 false (.tmp 9), none⟩, ⟨some 11, .mv (.tmp 3), none⟩, ⟨some 12, .bin .sub (.tmp 11) (.const (.int .i64 1)), none⟩, ⟨some 13, .ixa 3 (.tmp 10) (.tmp 12), none⟩, ⟨some 14, .fad 2 (.tmp 13), none⟩, ⟨some 15, .load 1 false (.tmp 14), none⟩, ⟨some 2, .mv (.tmp 15), none⟩]) .ret) .skip))) (.seq (.reg [⟨some 16, .fad 0 (.tmp 1), none⟩, ⟨some 17, .load 1 false (.tmp 16), none⟩, ⟨some 2, .mv (.tmp 17), none⟩]) .ret)))
theorem fn90 : MFn Tryz.prog 90 mc90 18 [.tmp 2] :=
  ⟨Tryz.f90, Tryz.func90, by kernel_rfl, Tryz.ntmps90, by kernel_rfl⟩
def F_impl_Walk_end (w : (Ls × (List (Int × Int × Ls)))) : Option Ls :=
 if (decide (0 < (w.2.length : Int))) = true then
  if 0 ≤ (IntKind.i64.wrap ((w.2.length : Int) - 1)) ∧ (IntKind.i64.wrap ((w.2.length : Int) - 1)) < (w.2.length : Int) then
   some ((w.2.getD (IntKind.i64.wrap ((w.2.length : Int) - 1)).toNat default).2.2)
  else none
 else
  some w.1
theorem c_impl_Walk_end {w : (Ls × (List (Int × Int × Ls)))} {rr : Ls} (h : F_impl_Walk_end w = some rr) : PFun Tryz.prog 90 [D_impl_Walk w] ((slD 1 iD) rr) := by
  delta F_impl_Walk_end at h
  refine fn90.pureL (vcm_sound ?_)
  delta mc90
  refine stp ?_
  rcases ite_some h with ⟨hc, h⟩ | ⟨hc, h⟩
  · refine stpc hc ?_
    obtain ⟨hp, h⟩ := need_some h
    repeat (refine need_i (by omega) ?_; refine stp ?_)
    cases h
    exact don
  refine stpc hc ?_
  cases h
  exact don
def mc261 : MCode :=
 (.seq (.reg [⟨some 3, .box 3 46 (.tmp 0), none⟩, ⟨some 6, .mv (.const (.slice none 0 0)), none⟩, ⟨some 7, .mv (.const (.bool false)), none⟩]) (.seq (.reg [⟨some 11, .load 2 true (.tmp 3), none⟩, ⟨some 12, .mv (.tmp 1), none⟩, ⟨some 13, .mv (.tmp 2), none⟩, ⟨some 14, .callf 147 [.tmp 11, .tmp 12, (.const (.int .i64 1)), .tmp 13], none⟩, ⟨some 10, .mv (.tmp 14), none⟩, ⟨some 15, .ext (.tmp 10) 0, none⟩, ⟨some 16, .ext (.tmp 10) 1, none⟩, ⟨some 8, .alloc 8 40 [.sl 0 (some true) [], .sl 0 (some true) []], none⟩, ⟨none, .store 2 (.tmp 8) (.tmp 15), none⟩, ⟨some 9, .mv (.tmp 16), none⟩]) (.seq (.reg [⟨some 17, .load 2 true (.tmp 8), none⟩, ⟨some 18, .callf 90 [.tmp 17], none⟩, ⟨some 19, .mv (.tmp 9), none⟩, ⟨some 6, .mv (.tmp 18), none⟩, ⟨some 7, .mv (.tmp 19), none⟩]) .ret)))
theorem fn261 : MFn Tryz.prog 261 mc261 20 [.tmp 6, .tmp 7] :=
  ⟨Tryz.f261, Tryz.func261, by kernel_rfl, Tryz.ntmps261, by kernel_rfl⟩
def F_impl_normalOf (sys : (Ls × (List (Ls × Ls)))) (t : Ls) (fuel : Int) : Option (Ls × Bool) :=
 (F_impl_walkBy sys t 1 fuel).bind fun r =>
 (F_impl_Walk_end r.1).bind fun r_1 =>
 some (r_1, r.2)
theorem c_impl_normalOf {sys : (Ls × (List (Ls × Ls)))} {t : Ls} {fuel : Int} {rr : (Ls × Bool)} (h : F_impl_normalOf sys t fuel = some rr) : PFunN Tryz.prog 261 [D_impl_System sys, (slD 1 iD) t, iD fuel] [(slD 1 iD) rr.1, bD rr.2] := by
  delta F_impl_normalOf at h
  refine fn261.pureLN (vcm_sound ?_)
  delta mc261
  refine stp ?_
  obtain ⟨r, hr, h⟩ := bind_some h
  refine cRN (c_impl_walkBy hr) (stp ?_)
  obtain ⟨r_1, hr_1, h⟩ := bind_some h
  refine cR (c_impl_Walk_end hr_1) (stp ?_)
  cases h
  exact don
def mc260 : MCode :=
 (.seq (.reg [⟨some 4, .mv (.const (.slice none 0 0)), none⟩, ⟨some 5, .mv (.const (.bool false)), none⟩]) (.seq (.reg [⟨some 6, .load 2 true (.tmp 1), none⟩, ⟨some 7, .mv (.tmp 0), none⟩, ⟨some 8, .load 1 false (.tmp 2), none⟩, ⟨some 9, .callf 261 [.tmp 6, .tmp 7, .tmp 8], none⟩, ⟨some 10, .ext (.tmp 9) 0, none⟩, ⟨some 11, .ext (.tmp 9) 1, none⟩, ⟨some 4, .mv (.tmp 10), none⟩, ⟨some 5, .mv (.tmp 11), none⟩]) .ret))
theorem fn260 : MFn Tryz.prog 260 mc260 12 [.tmp 4, .tmp 5] :=
  ⟨Tryz.f260, Tryz.func260, by kernel_rfl, Tryz.ntmps260, by kernel_rfl⟩
def F_impl_equalBy_1 (t : Ls) (o00 : Ls) (o01 : (List (Ls × Ls))) (o1 : Int) : Option (Ls × Bool) :=
 (F_impl_normalOf (o00, o01) t o1).bind fun r =>
 some r
theorem c_impl_equalBy_1 {t : Ls} {o00 : Ls} {o01 : (List (Ls × Ls))} {o1 : Int} {rr : (Ls × Bool)} (h : F_impl_equalBy_1 t o00 o01 o1 = some rr) : ACalls Tryz.prog 260 [.d (slD 1 iD t), .ptr 0 0, .ptr 1 0] [(0, .obj 46 [.d (slD 1 iD o00), .d (slD 2 D_impl_Rule o01)]), (1, .obj 3 [.d (iD o1)])] 2 fun xx ss => xx = .tup [.d (slD 1 iD rr.1), .d (bD rr.2)] ∧ ss = [(0, .obj 46 [.d (slD 1 iD o00), .d (slD 2 D_impl_Rule o01)]), (1, .obj 3 [.d (iD o1)])] := by
  delta F_impl_equalBy_1 at h
  refine fn260.callsO (vcm_sound ?_)
  delta mc260
  refine stp ?_
  obtain ⟨r, hr, h⟩ := bind_some h
  refine cRN (c_impl_normalOf hr) (stp ?_)
  cases h
  exact ⟨[], by simp, don, don⟩
end
end Go.Proofs.YtcaljngigbfadaaGreat
namespace Go.Proofs.YtcaljngigbfadaaGreat
noncomputable section
open Go Abx
attribute [local irreducible] vcm vgo vdr vrun vdrun MWp GhostQ BrC BrO BrG BrD BrH AmbO callR callD drQ EnvLe StoLe
set_option maxHeartbeats 4000000
def mc259 : MCode :=
 (.seq (.reg [⟨some 6, .mv (.const (.slice none 0 0)), none⟩, ⟨some 7, .mv (.const (.slice none 0 0)), none⟩, ⟨some 8, .mv (.const (.bool false)), none⟩]) (.seq (.reg [⟨some 14, .mv (.tmp 2), none⟩, ⟨some 15, .mv (.tmp 0), none⟩, ⟨some 16, .callv (.tmp 14) [.tmp 15], none⟩, ⟨some 13, .mv (.tmp 16), none⟩, ⟨some 17, .ext (.tmp 13) 0, none⟩, ⟨some 18, .ext (.tmp 13) 1, none⟩, ⟨some 9, .mv (.tmp 17), none⟩, ⟨some 10, .mv (.tmp 18), none⟩]) (.seq (.reg [⟨some 20, .mv (.tmp 2), none⟩, ⟨some 21, .mv (.tmp 1), none⟩, ⟨some 22, .callv (.tmp 20) [.tmp 21], none⟩, ⟨some 19, .mv (.tmp 22), none⟩, ⟨some 23, .ext (.tmp 19) 0, none⟩, ⟨some 24, .ext (.tmp 19) 1, none⟩, ⟨some 11, .mv (.tmp 23), none⟩, ⟨some 12, .mv (.tmp 24), none⟩]) (.seq (.reg [⟨some 25, .mv (.tmp 9), none⟩, ⟨some 26, .mv (.tmp 11), none⟩, ⟨some 27, .mv (.tmp 10), none⟩, ⟨some 28, .mv (.tmp 27), none⟩, ⟨some 29, .mv (.tmp 12), (some (some 28, true))⟩, ⟨some 30, .pick (.tmp 28) (.tmp 29) (.const (.bool false)), none⟩, ⟨some 6, .mv (.tmp 25), none⟩, ⟨some 7, .mv (.tmp 26), none⟩, ⟨some 8, .mv (.tmp 30), none⟩]) .ret))))
theorem fn259 : MFn Tryz.prog 259 mc259 31 [.tmp 6, .tmp 7, .tmp 8] :=
  ⟨Tryz.f259, Tryz.func259, by kernel_rfl, Tryz.ntmps259, by kernel_rfl⟩
def F_impl_both_int64 (a : Ls) (b : Ls) (o00 : Ls) (o01 : (List (Ls × Ls))) (o1 : Int) : Option (Ls × Ls × Bool) :=
 (F_impl_equalBy_1 a o00 o01 o1).bind fun r =>
 (F_impl_equalBy_1 b o00 o01 o1).bind fun r_1 =>
 if r.2 = true then
  some (r.1, r_1.1, r_1.2)
 else
  some (r.1, r_1.1, false)
theorem c_impl_both_int64 {a : Ls} {b : Ls} {o00 : Ls} {o01 : (List (Ls × Ls))} {o1 : Int} {rr : (Ls × Ls × Bool)} (h : F_impl_both_int64 a b o00 o01 o1 = some rr) : ACalls Tryz.prog 259 [.d (slD 1 iD a), .d (slD 1 iD b), .fn 260 [] [.ptr 0 0, .ptr 1 0]] [(0, .obj 46 [.d (slD 1 iD o00), .d (slD 2 D_impl_Rule o01)]), (1, .obj 3 [.d (iD o1)])] 2 fun xx ss => xx = .tup [.d (slD 1 iD rr.1), .d (slD 1 iD rr.2.1), .d (bD rr.2.2)] ∧ ss = [(0, .obj 46 [.d (slD 1 iD o00), .d (slD 2 D_impl_Rule o01)]), (1, .obj 3 [.d (iD o1)])] := by
  delta F_impl_both_int64 at h
  refine fn259.callsO (vcm_sound ?_)
  delta mc259
  refine stp ?_
  refine need_i (by kernel_rfl) ?_
  obtain ⟨r, hr, h⟩ := bind_some h
  refine cRo [(0, 0), (1, 1)] [] (c_impl_equalBy_1 hr) (stp ?_)
  refine need_i (by kernel_rfl) ?_
  obtain ⟨r_1, hr_1, h⟩ := bind_some h
  refine cRo [(0, 0), (1, 1)] [] (c_impl_equalBy_1 hr_1) (stp ?_)
  rcases ite_some h with ⟨hc, h⟩ | ⟨hc, h⟩
  · refine stpc hc ?_
    cases h
    exact ⟨[], by simp, don, don⟩
  refine stpc hc ?_
  cases h
  exact ⟨[], by simp, don, don⟩
def mc144 : MCode :=
 (.seq (.reg [⟨some 4, .box 4 46 (.tmp 0), none⟩, ⟨some 7, .box 7 3 (.tmp 3), none⟩, ⟨some 8, .mv (.const (.int .i64 0)), none⟩]) (.seq (.reg [⟨some 13, .mv (.tmp 1), none⟩, ⟨some 14, .mv (.tmp 2), none⟩, ⟨some 15, .mkfn 260 [] [.tmp 4, .tmp 7], none⟩, ⟨some 16, .callf 259 [.tmp 13, .tmp 14, .tmp 15], none⟩, ⟨some 12, .mv (.tmp 16), none⟩, ⟨some 17, .ext (.tmp 12) 0, none⟩, ⟨some 18, .ext (.tmp 12) 1, none⟩, ⟨some 19, .ext (.tmp 12) 2, none⟩, ⟨some 9, .mv (.tmp 17), none⟩, ⟨some 10, .mv (.tmp 18), none⟩, ⟨some 11, .mv (.tmp 19), none⟩]) (.seq (.block 0 (.seq (.reg [⟨some 21, .mv (.tmp 11), none⟩, ⟨some 22, .un .not (.tmp 21), none⟩, ⟨some 20, .mv (.tmp 22), none⟩]) (.cond (.tmp 20) (.seq (.reg [⟨some 8, .mv (.const (.int .i64 (-1))), none⟩]) .ret) (.seq (.reg [⟨some 24, .mv (.tmp 9), none⟩, ⟨some 25, .mv (.tmp 10), none⟩, ⟨some 26, .callf 199 [.tmp 24, .tmp 25], none⟩, ⟨some 23, .mv (.tmp 26), none⟩]) (.cond (.tmp 23) (.seq (.reg [⟨some 8, .mv (.const (.int .i64 1)), none⟩]) .ret) .skip))))) (.seq (.reg [⟨some 8, .mv (.const (.int .i64 0)), none⟩]) .ret))))
theorem fn144 : MFn Tryz.prog 144 mc144 27 [.tmp 8] :=
  ⟨Tryz.f144, Tryz.func144, by kernel_rfl, Tryz.ntmps144, by kernel_rfl⟩
def F_impl_equalBy (sys : (Ls × (List (Ls × Ls)))) (a : Ls) (b : Ls) (fuel : Int) : Option Int :=
 (F_impl_both_int64 a b sys.1 sys.2 fuel).bind fun r =>
 if r.2.2 = true then
  (F_slices_Equal_int64_int64 r.1 r.2.1).bind fun r_1 =>
  if r_1 = true then
   some 1
  else
   some 0
 else
  some (-1)
theorem c_impl_equalBy {sys : (Ls × (List (Ls × Ls)))} {a : Ls} {b : Ls} {fuel : Int} {rr : Int} (h : F_impl_equalBy sys a b fuel = some rr) : PFun Tryz.prog 144 [D_impl_System sys, (slD 1 iD) a, (slD 1 iD) b, iD fuel] (iD rr) := by
  delta F_impl_equalBy at h
  refine fn144.pureL (vcm_sound ?_)
  delta mc144
  refine stp ?_
  obtain ⟨r, hr, h⟩ := bind_some h
  refine cRo [(0, 4), (1, 7)] [] (c_impl_both_int64 hr) (stp ?_)
  rcases ite_some h with ⟨hc, h⟩ | ⟨hc, h⟩
  · refine stpc hc ?_
    obtain ⟨r_1, hr_1, h⟩ := bind_some h
    refine cR (c_slices_Equal_int64_int64 hr_1) (stp ?_)
    rcases ite_some h with ⟨hc, h⟩ | ⟨hc, h⟩
    · refine stpc hc ?_
      cases h
      exact don
    refine stpc hc ?_
    cases h
    exact don
  refine stpc hc ?_
  cases h
  exact don
def mc52 : MCode :=
 (.seq (.reg [⟨some 4, .box 4 46 (.tmp 0), none⟩, ⟨some 8, .mv (.const (.int .i64 0)), none⟩]) (.seq (.seq (.reg [⟨some 9, .load 2 true (.tmp 4), none⟩, ⟨some 10, .mv (.tmp 3), none⟩, ⟨some 11, .mv (.tmp 1), none⟩, ⟨some 12, .mv (.tmp 2), none⟩, ⟨some 13, .bsl 13 22 1 [.tmp 11, .tmp 12], none⟩, ⟨some 14, .callf 143 [.tmp 9, .tmp 10, .tmp 13], none⟩, ⟨some 15, .un .not (.tmp 14), none⟩]) (.cond (.tmp 15) (.seq (.reg [⟨some 8, .mv (.const (.int .i64 (-1))), none⟩]) .ret) .skip)) (.seq (.reg [⟨some 16, .load 2 true (.tmp 4), none⟩, ⟨some 17, .mv (.tmp 1), none⟩, ⟨some 18, .mv (.tmp 2), none⟩, ⟨some 19, .mv (.tmp 3), none⟩, ⟨some 20, .callf 144 [.tmp 16, .tmp 17, .tmp 18, .tmp 19], none⟩, ⟨some 8, .mv (.tmp 20), none⟩]) .ret)))
theorem fn52 : MFn Tryz.prog 52 mc52 21 [.tmp 8] :=
  ⟨Tryz.f52, Tryz.func52, by kernel_rfl, Tryz.ntmps52, by kernel_rfl⟩
def F_impl_EqualBy (sys : (Ls × (List (Ls × Ls)))) (a : Ls) (b : Ls) (fuel : Int) : Option Int :=
 (F_impl_wordOk sys fuel [a, b]).bind fun r =>
 if r = true then
  (F_impl_equalBy sys a b fuel).bind fun r_1 =>
  some r_1
 else
  some (-1)
theorem c_impl_EqualBy {sys : (Ls × (List (Ls × Ls)))} {a : Ls} {b : Ls} {fuel : Int} {rr : Int} (h : F_impl_EqualBy sys a b fuel = some rr) : PFun Tryz.prog 52 [D_impl_System sys, (slD 1 iD) a, (slD 1 iD) b, iD fuel] (iD rr) := by
  delta F_impl_EqualBy at h
  refine fn52.pureL (vcm_sound ?_)
  delta mc52
  refine stp ?_
  obtain ⟨r, hr, h⟩ := bind_some h
  refine cR (c_impl_wordOk hr) (stp ?_)
  rcases ite_some h with ⟨hc, h⟩ | ⟨hc, h⟩
  · refine stpc hc ?_
    obtain ⟨r_1, hr_1, h⟩ := bind_some h
    refine cR (c_impl_equalBy hr_1) (stp ?_)
    cases h
    exact don
  refine stpc hc ?_
  cases h
  exact don
def mc146 : MCode :=
 (.seq (.reg [⟨some 4, .alloc 4 40 [.sl 0 (some true) [], .sl 0 (some true) []], none⟩, ⟨some 5, .mv (.const (.bool false)), none⟩]) (.seq (.reg [⟨some 6, .load 2 true (.tmp 1), none⟩, ⟨some 7, .mv (.tmp 0), none⟩, ⟨some 8, .load 1 false (.tmp 2), none⟩, ⟨some 9, .callf 147 [.tmp 6, .tmp 7, (.const (.int .i64 1)), .tmp 8], none⟩, ⟨some 10, .ext (.tmp 9) 0, none⟩, ⟨some 11, .ext (.tmp 9) 1, none⟩, ⟨none, .store 2 (.tmp 4) (.tmp 10), none⟩, ⟨some 5, .mv (.tmp 11), none⟩]) .ret))
theorem fn146 : MFn Tryz.prog 146 mc146 12 [.cell 4 2 true, .tmp 5] :=
  ⟨Tryz.f146, Tryz.func146, by kernel_rfl, Tryz.ntmps146, by kernel_rfl⟩
def F_impl_ShownBy_1 (t : Ls) (o00 : Ls) (o01 : (List (Ls × Ls))) (o1 : Int) : Option ((Ls × (List (Int × Int × Ls))) × Bool) :=
 (F_impl_walkBy (o00, o01) t 1 o1).bind fun r =>
 some r
theorem c_impl_ShownBy_1 {t : Ls} {o00 : Ls} {o01 : (List (Ls × Ls))} {o1 : Int} {rr : ((Ls × (List (Int × Int × Ls))) × Bool)} (h : F_impl_ShownBy_1 t o00 o01 o1 = some rr) : ACalls Tryz.prog 146 [.d (slD 1 iD t), .ptr 0 0, .ptr 1 0] [(0, .obj 46 [.d (slD 1 iD o00), .d (slD 2 D_impl_Rule o01)]), (1, .obj 2 [.d (iD o1)])] 2 fun xx ss => xx = .tup [.d (.agg [slD 1 iD rr.1.1, slD 3 D_impl_Step rr.1.2]), .d (bD rr.2)] ∧ ss = [(0, .obj 46 [.d (slD 1 iD o00), .d (slD 2 D_impl_Rule o01)]), (1, .obj 2 [.d (iD o1)])] := by
  delta F_impl_ShownBy_1 at h
  refine fn146.callsO (vcm_sound ?_)
  delta mc146
  refine stp ?_
  obtain ⟨r, hr, h⟩ := bind_some h
  refine cRN (c_impl_walkBy hr) (stp ?_)
  cases h
  exact ⟨[4], by simp, don, don⟩
def mc145 : MCode :=
 (.seq (.reg [⟨some 6, .alloc 6 40 [.sl 0 (some true) [], .sl 0 (some true) []], none⟩, ⟨some 7, .alloc 7 40 [.sl 0 (some true) [], .sl 0 (some true) []], none⟩, ⟨some 8, .mv (.const (.bool false)), none⟩]) (.seq (.reg [⟨some 14, .mv (.tmp 2), none⟩, ⟨some 15, .mv (.tmp 0), none⟩, ⟨some 16, .callv (.tmp 14) [.tmp 15], none⟩, ⟨some 13, .mv (.tmp 16), none⟩, ⟨some 17, .ext (.tmp 13) 0, none⟩, ⟨some 18, .ext (.tmp 13) 1, none⟩, ⟨some 9, .alloc 9 40 [.sl 0 (some true) [], .sl 0 (some true) []], none⟩, ⟨none, .store 2 (.tmp 9) (.tmp 17), none⟩, ⟨some 10, .mv (.tmp 18), none⟩]) (.seq (.reg [⟨some 20, .mv (.tmp 2), none⟩, ⟨some 21, .mv (.tmp 1), none⟩, ⟨some 22, .callv (.tmp 20) [.tmp 21], none⟩, ⟨some 19, .mv (.tmp 22), none⟩, ⟨some 23, .ext (.tmp 19) 0, none⟩, ⟨some 24, .ext (.tmp 19) 1, none⟩, ⟨some 11, .alloc 11 40 [.sl 0 (some true) [], .sl 0 (some true) []], none⟩, ⟨none, .store 2 (.tmp 11) (.tmp 23), none⟩, ⟨some 12, .mv (.tmp 24), none⟩]) (.seq (.draw [⟨some 25, .load 2 true (.tmp 9), none⟩, ⟨some 26, .load 2 true (.tmp 11), none⟩, ⟨some 27, .mv (.tmp 10), none⟩, ⟨some 28, .mv (.tmp 27), none⟩, ⟨some 29, .mv (.tmp 12), (some (some 28, true))⟩, ⟨some 30, .pick (.tmp 28) (.tmp 29) (.const (.bool false)), none⟩, ⟨none, .store 2 (.tmp 6) (.tmp 25), none⟩, ⟨none, .store 2 (.tmp 7) (.tmp 26), none⟩, ⟨some 8, .mv (.tmp 30), none⟩] [[], [], [], [2], [3], [3, 4], [0, 3, 0], [1, 6, 0, 1, 6], [5, 7, 0, 1, 2, 3, 4, 5, 6, 7]]) .ret))))
theorem fn145 : MFn Tryz.prog 145 mc145 31 [.cell 6 2 true, .cell 7 2 true, .tmp 8] :=
  ⟨Tryz.f145, Tryz.func145, by kernel_rfl, Tryz.ntmps145, by kernel_rfl⟩
def F_impl_both_impl_Walk (a : Ls) (b : Ls) (o00 : Ls) (o01 : (List (Ls × Ls))) (o1 : Int) : Option ((Ls × (List (Int × Int × Ls))) × (Ls × (List (Int × Int × Ls))) × Bool) :=
 (F_impl_ShownBy_1 a o00 o01 o1).bind fun r =>
 (F_impl_ShownBy_1 b o00 o01 o1).bind fun r_1 =>
 if r.2 = true then
  some (r.1, r_1.1, r_1.2)
 else
  some (r.1, r_1.1, false)
theorem c_impl_both_impl_Walk {a : Ls} {b : Ls} {o00 : Ls} {o01 : (List (Ls × Ls))} {o1 : Int} {rr : ((Ls × (List (Int × Int × Ls))) × (Ls × (List (Int × Int × Ls))) × Bool)} (h : F_impl_both_impl_Walk a b o00 o01 o1 = some rr) : ACalls Tryz.prog 145 [.d (slD 1 iD a), .d (slD 1 iD b), .fn 146 [] [.ptr 0 0, .ptr 1 0]] [(0, .obj 46 [.d (slD 1 iD o00), .d (slD 2 D_impl_Rule o01)]), (1, .obj 2 [.d (iD o1)])] 2 fun xx ss => xx = .tup [.d (.agg [slD 1 iD rr.1.1, slD 3 D_impl_Step rr.1.2]), .d (.agg [slD 1 iD rr.2.1.1, slD 3 D_impl_Step rr.2.1.2]), .d (bD rr.2.2)] ∧ ss = [(0, .obj 46 [.d (slD 1 iD o00), .d (slD 2 D_impl_Rule o01)]), (1, .obj 2 [.d (iD o1)])] := by
  delta F_impl_both_impl_Walk at h
  refine fn145.callsO (vcm_sound ?_)
  delta mc145
  refine stp ?_
  refine need_i (by kernel_rfl) ?_
  obtain ⟨r, hr, h⟩ := bind_some h
  refine cRo [(0, 0), (1, 1)] [] (c_impl_ShownBy_1 hr) (stp ?_)
  refine need_i (by kernel_rfl) ?_
  obtain ⟨r_1, hr_1, h⟩ := bind_some h
  refine cRo [(0, 0), (1, 1)] [] (c_impl_ShownBy_1 hr_1) (stp ?_)
  rcases ite_some h with ⟨hc, h⟩ | ⟨hc, h⟩
  · refine stpc hc ?_
    refine drQ_of (by kernel_rfl) ?_
    refine stp ?_
    cases h
    exact ⟨[6, 7, 9, 11], by simp, don, don⟩
  refine stpc hc ?_
  refine drQ_of (by kernel_rfl) ?_
  refine stp ?_
  cases h
  exact ⟨[6, 7, 9, 11], by simp, don, don⟩
def mc53 : MCode :=
 (.seq (.reg [⟨some 4, .box 4 46 (.tmp 0), none⟩, ⟨some 7, .box 7 2 (.tmp 3), none⟩, ⟨some 8, .alloc 8 65 [.sl 0 (some true) [], .sl 0 (some true) []], none⟩, ⟨some 9, .mv (.const (.bool false)), none⟩]) (.seq (.seq (.reg [⟨some 13, .load 2 true (.tmp 4), none⟩, ⟨some 14, .mv (.tmp 1), none⟩, ⟨some 15, .mv (.tmp 2), none⟩, ⟨some 16, .load 1 false (.tmp 7), none⟩, ⟨some 17, .callf 52 [.tmp 13, .tmp 14, .tmp 15, .tmp 16], none⟩, ⟨some 18, .bin .neq (.tmp 17) (.const (.int .i64 1)), none⟩]) (.cond (.tmp 18) (.seq (.reg [⟨some 19, .build [.sl 0 (some true) [], .sl 0 (some true) []] [], none⟩, ⟨none, .store 2 (.tmp 8) (.tmp 19), none⟩, ⟨some 9, .mv (.const (.bool false)), none⟩]) .ret) .skip)) (.seq (.reg [⟨some 21, .mv (.tmp 1), none⟩, ⟨some 22, .mv (.tmp 2), none⟩, ⟨some 23, .mkfn 146 [] [.tmp 4, .tmp 7], none⟩, ⟨some 24, .callf 145 [.tmp 21, .tmp 22, .tmp 23], none⟩, ⟨some 20, .mv (.tmp 24), none⟩, ⟨some 25, .ext (.tmp 20) 0, none⟩, ⟨some 26, .ext (.tmp 20) 1, none⟩, ⟨some 27, .ext (.tmp 20) 2, none⟩, ⟨some 10, .alloc 10 40 [.sl 0 (some true) [], .sl 0 (some true) []], none⟩, ⟨some 11, .alloc 11 40 [.sl 0 (some true) [], .sl 0 (some true) []], none⟩, ⟨none, .store 2 (.tmp 10) (.tmp 25), none⟩, ⟨none, .store 2 (.tmp 11) (.tmp 26), none⟩, ⟨some 12, .mv (.tmp 27), none⟩]) (.seq (.draw [⟨some 28, .load 2 true (.tmp 10), none⟩, ⟨some 29, .callf 108 [.tmp 28], none⟩, ⟨some 30, .load 2 true (.tmp 11), none⟩, ⟨some 31, .callf 108 [.tmp 30], none⟩, ⟨some 32, .callf 109 [.tmp 31], none⟩, ⟨some 33, .callf 107 [.tmp 29, .tmp 32], none⟩, ⟨some 34, .ext (.tmp 33) 0, none⟩, ⟨some 35, .ext (.tmp 33) 1, none⟩, ⟨none, .store 2 (.tmp 8) (.tmp 34), none⟩, ⟨some 9, .mv (.tmp 35), none⟩] [[], [0], [], [2, 1], [3, 3], [1, 4, 4], [5], [5], [6, 5, 0, 1, 2, 3, 4, 5, 6, 7], [7, 8, 0, 1, 2, 3, 4, 5, 6, 7, 8]]) .ret))))
theorem fn53 : MFn Tryz.prog 53 mc53 36 [.cell 8 2 true, .tmp 9] :=
  ⟨Tryz.f53, Tryz.func53, by kernel_rfl, Tryz.ntmps53, by kernel_rfl⟩
def F_impl_ShownBy (sys : (Ls × (List (Ls × Ls)))) (a : Ls) (b : Ls) (fuel : Int) : Option ((Ls × (List (Int × Int × Bool × Ls))) × Bool) :=
 (F_impl_EqualBy sys a b fuel).bind fun r =>
 if (r != 1) = true then
  some (([], []), false)
 else
  (F_impl_both_impl_Walk a b sys.1 sys.2 fuel).bind fun r_1 =>
  (F_impl_chainOfWalk r_1.1).bind fun r_2 =>
  (F_impl_chainOfWalk r_1.2.1).bind fun r_3 =>
  (F_impl_turned r_3).bind fun r_4 =>
  (F_impl_joinChains r_2 r_4).bind fun r_5 =>
  some r_5
theorem c_impl_ShownBy {sys : (Ls × (List (Ls × Ls)))} {a : Ls} {b : Ls} {fuel : Int} {rr : ((Ls × (List (Int × Int × Bool × Ls))) × Bool)} (h : F_impl_ShownBy sys a b fuel = some rr) : PFunN Tryz.prog 53 [D_impl_System sys, (slD 1 iD) a, (slD 1 iD) b, iD fuel] [D_impl_Chain rr.1, bD rr.2] := by
  delta F_impl_ShownBy at h
  refine fn53.pureLN (vcm_sound ?_)
  delta mc53
  refine stp ?_
  obtain ⟨r, hr, h⟩ := bind_some h
  refine cR (c_impl_EqualBy hr) (stp ?_)
  rcases ite_some h with ⟨hc, h⟩ | ⟨hc, h⟩
  · refine stpc hc ?_
    cases h
    exact don
  refine stpc hc ?_
  obtain ⟨r_1, hr_1, h⟩ := bind_some h
  refine cRo [(0, 4), (1, 7)] [] (c_impl_both_impl_Walk hr_1) (stp ?_)
  obtain ⟨r_2, hr_2, h⟩ := bind_some h
  refine cD' (c_impl_chainOfWalk hr_2) (stp ?_)
  obtain ⟨r_3, hr_3, h⟩ := bind_some h
  refine cD' (c_impl_chainOfWalk hr_3) (stp ?_)
  obtain ⟨r_4, hr_4, h⟩ := bind_some h
  refine cD' (c_impl_turned hr_4) (stp ?_)
  obtain ⟨r_5, hr_5, h⟩ := bind_some h
  refine cDN (c_impl_joinChains hr_5) (stp ?_)
  refine drQ_of (by kernel_rfl) ?_
  refine stp ?_
  cases h
  exact don
end
end Go.Proofs.YtcaljngigbfadaaGreat
namespace Go.Proofs.YtcaljngigbfadaaGreat
noncomputable section
open Go Abx
attribute [local irreducible] vcm vgo vdr vrun vdrun MWp GhostQ BrC BrO BrG BrD BrH AmbO callR callD drQ EnvLe StoLe
set_option maxHeartbeats 4000000
def mc148 : MCode :=
 (.seq (.reg [⟨some 4, .alloc 4 40 [.sl 0 (some true) [], .sl 0 (some true) []], none⟩, ⟨some 5, .mv (.const (.bool false)), none⟩]) (.seq (.reg [⟨some 6, .load 2 true (.tmp 1), none⟩, ⟨some 7, .mv (.tmp 0), none⟩, ⟨some 8, .load 1 false (.tmp 2), none⟩, ⟨some 9, .callf 147 [.tmp 6, .tmp 7, (.const (.int .i64 1)), .tmp 8], none⟩, ⟨some 10, .ext (.tmp 9) 0, none⟩, ⟨some 11, .ext (.tmp 9) 1, none⟩, ⟨none, .store 2 (.tmp 4) (.tmp 10), none⟩, ⟨some 5, .mv (.tmp 11), none⟩]) .ret))
theorem fn148 : MFn Tryz.prog 148 mc148 12 [.cell 4 2 true, .tmp 5] :=
  ⟨Tryz.f148, Tryz.func148, by kernel_rfl, Tryz.ntmps148, by kernel_rfl⟩
def F_impl_RefutedBy_1 (t : Ls) (o00 : Ls) (o01 : (List (Ls × Ls))) (o1 : Int) : Option ((Ls × (List (Int × Int × Ls))) × Bool) :=
 (F_impl_walkBy (o00, o01) t 1 o1).bind fun r =>
 some r
theorem c_impl_RefutedBy_1 {t : Ls} {o00 : Ls} {o01 : (List (Ls × Ls))} {o1 : Int} {rr : ((Ls × (List (Int × Int × Ls))) × Bool)} (h : F_impl_RefutedBy_1 t o00 o01 o1 = some rr) : ACalls Tryz.prog 148 [.d (slD 1 iD t), .ptr 0 0, .ptr 1 0] [(0, .obj 46 [.d (slD 1 iD o00), .d (slD 2 D_impl_Rule o01)]), (1, .obj 2 [.d (iD o1)])] 2 fun xx ss => xx = .tup [.d (.agg [slD 1 iD rr.1.1, slD 3 D_impl_Step rr.1.2]), .d (bD rr.2)] ∧ ss = [(0, .obj 46 [.d (slD 1 iD o00), .d (slD 2 D_impl_Rule o01)]), (1, .obj 2 [.d (iD o1)])] := by
  delta F_impl_RefutedBy_1 at h
  refine fn148.callsO (vcm_sound ?_)
  delta mc148
  refine stp ?_
  obtain ⟨r, hr, h⟩ := bind_some h
  refine cRN (c_impl_walkBy hr) (stp ?_)
  cases h
  exact ⟨[4], by simp, don, don⟩
def F_impl_both_impl_Walk_s1 (a : Ls) (b : Ls) (o00 : Ls) (o01 : (List (Ls × Ls))) (o1 : Int) : Option ((Ls × (List (Int × Int × Ls))) × (Ls × (List (Int × Int × Ls))) × Bool) :=
 (F_impl_RefutedBy_1 a o00 o01 o1).bind fun r =>
 (F_impl_RefutedBy_1 b o00 o01 o1).bind fun r_1 =>
 if r.2 = true then
  some (r.1, r_1.1, r_1.2)
 else
  some (r.1, r_1.1, false)
theorem c_impl_both_impl_Walk_s1 {a : Ls} {b : Ls} {o00 : Ls} {o01 : (List (Ls × Ls))} {o1 : Int} {rr : ((Ls × (List (Int × Int × Ls))) × (Ls × (List (Int × Int × Ls))) × Bool)} (h : F_impl_both_impl_Walk_s1 a b o00 o01 o1 = some rr) : ACalls Tryz.prog 145 [.d (slD 1 iD a), .d (slD 1 iD b), .fn 148 [] [.ptr 0 0, .ptr 1 0]] [(0, .obj 46 [.d (slD 1 iD o00), .d (slD 2 D_impl_Rule o01)]), (1, .obj 2 [.d (iD o1)])] 2 fun xx ss => xx = .tup [.d (.agg [slD 1 iD rr.1.1, slD 3 D_impl_Step rr.1.2]), .d (.agg [slD 1 iD rr.2.1.1, slD 3 D_impl_Step rr.2.1.2]), .d (bD rr.2.2)] ∧ ss = [(0, .obj 46 [.d (slD 1 iD o00), .d (slD 2 D_impl_Rule o01)]), (1, .obj 2 [.d (iD o1)])] := by
  delta F_impl_both_impl_Walk_s1 at h
  refine fn145.callsO (vcm_sound ?_)
  delta mc145
  refine stp ?_
  refine need_i (by kernel_rfl) ?_
  obtain ⟨r, hr, h⟩ := bind_some h
  refine cRo [(0, 0), (1, 1)] [] (c_impl_RefutedBy_1 hr) (stp ?_)
  refine need_i (by kernel_rfl) ?_
  obtain ⟨r_1, hr_1, h⟩ := bind_some h
  refine cRo [(0, 0), (1, 1)] [] (c_impl_RefutedBy_1 hr_1) (stp ?_)
  rcases ite_some h with ⟨hc, h⟩ | ⟨hc, h⟩
  · refine stpc hc ?_
    refine drQ_of (by kernel_rfl) ?_
    refine stp ?_
    cases h
    exact ⟨[6, 7, 9, 11], by simp, don, don⟩
  refine stpc hc ?_
  refine drQ_of (by kernel_rfl) ?_
  refine stp ?_
  cases h
  exact ⟨[6, 7, 9, 11], by simp, don, don⟩
def mc54 : MCode :=
 (.seq (.reg [⟨some 4, .box 4 46 (.tmp 0), none⟩, ⟨some 7, .box 7 2 (.tmp 3), none⟩, ⟨some 8, .alloc 8 40 [.sl 0 (some true) [], .sl 0 (some true) []], none⟩, ⟨some 9, .alloc 9 40 [.sl 0 (some true) [], .sl 0 (some true) []], none⟩, ⟨some 10, .mv (.const (.bool false)), none⟩]) (.seq (.seq (.reg [⟨some 11, .load 2 true (.tmp 4), none⟩, ⟨some 12, .mv (.tmp 1), none⟩, ⟨some 13, .mv (.tmp 2), none⟩, ⟨some 14, .load 1 false (.tmp 7), none⟩, ⟨some 15, .callf 52 [.tmp 11, .tmp 12, .tmp 13, .tmp 14], none⟩, ⟨some 16, .bin .neq (.tmp 15) (.const (.int .i64 0)), none⟩]) (.cond (.tmp 16) (.seq (.reg [⟨some 17, .build [.sl 0 (some true) [], .sl 0 (some true) []] [], none⟩, ⟨some 18, .build [.sl 0 (some true) [], .sl 0 (some true) []] [], none⟩, ⟨none, .store 2 (.tmp 8) (.tmp 17), none⟩, ⟨none, .store 2 (.tmp 9) (.tmp 18), none⟩, ⟨some 10, .mv (.const (.bool false)), none⟩]) .ret) .skip)) (.seq (.reg [⟨some 19, .mv (.tmp 1), none⟩, ⟨some 20, .mv (.tmp 2), none⟩, ⟨some 21, .mkfn 148 [] [.tmp 4, .tmp 7], none⟩, ⟨some 22, .callf 145 [.tmp 19, .tmp 20, .tmp 21], none⟩, ⟨some 23, .ext (.tmp 22) 0, none⟩, ⟨some 24, .ext (.tmp 22) 1, none⟩, ⟨some 25, .ext (.tmp 22) 2, none⟩, ⟨none, .store 2 (.tmp 8) (.tmp 23), none⟩, ⟨none, .store 2 (.tmp 9) (.tmp 24), none⟩, ⟨some 10, .mv (.tmp 25), none⟩]) .ret)))
theorem fn54 : MFn Tryz.prog 54 mc54 26 [.cell 8 2 true, .cell 9 2 true, .tmp 10] :=
  ⟨Tryz.f54, Tryz.func54, by kernel_rfl, Tryz.ntmps54, by kernel_rfl⟩
def F_impl_RefutedBy (sys : (Ls × (List (Ls × Ls)))) (a : Ls) (b : Ls) (fuel : Int) : Option ((Ls × (List (Int × Int × Ls))) × (Ls × (List (Int × Int × Ls))) × Bool) :=
 (F_impl_EqualBy sys a b fuel).bind fun r =>
 if (r != 0) = true then
  some (([], []), ([], []), false)
 else
  (F_impl_both_impl_Walk_s1 a b sys.1 sys.2 fuel).bind fun r_1 =>
  some r_1
theorem c_impl_RefutedBy {sys : (Ls × (List (Ls × Ls)))} {a : Ls} {b : Ls} {fuel : Int} {rr : ((Ls × (List (Int × Int × Ls))) × (Ls × (List (Int × Int × Ls))) × Bool)} (h : F_impl_RefutedBy sys a b fuel = some rr) : PFunN Tryz.prog 54 [D_impl_System sys, (slD 1 iD) a, (slD 1 iD) b, iD fuel] [D_impl_Walk rr.1, D_impl_Walk rr.2.1, bD rr.2.2] := by
  delta F_impl_RefutedBy at h
  refine fn54.pureLN (vcm_sound ?_)
  delta mc54
  refine stp ?_
  obtain ⟨r, hr, h⟩ := bind_some h
  refine cR (c_impl_EqualBy hr) (stp ?_)
  rcases ite_some h with ⟨hc, h⟩ | ⟨hc, h⟩
  · refine stpc hc ?_
    cases h
    exact don
  refine stpc hc ?_
  obtain ⟨r_1, hr_1, h⟩ := bind_some h
  refine cRo [(0, 4), (1, 7)] [] (c_impl_both_impl_Walk_s1 hr_1) (stp ?_)
  cases h
  exact don
end
end Go.Proofs.YtcaljngigbfadaaGreat
