/- Functions of the program and the equations that they compute, first part; nothing is assumed. -/
import Derived.Test.YtcaljngigbfadaaGreatWbase
set_option linter.unusedSimpArgs false
set_option linter.unusedVariables false
set_option linter.unusedSectionVars false
namespace Go.Proofs.YtcaljngigbfadaaGreat
noncomputable section
open Go Abx
attribute [local irreducible] vcm vgo vdr vrun vdrun MWp GhostQ BrC BrO BrG BrD BrH AmbO callR callD drQ EnvLe StoLe
set_option maxHeartbeats 4000000
def D_impl_Sig (x : Ls) : D := .agg [(slD 1 iD) x]
def D_impl_Rule (x : (Ls × Ls)) : D := .agg [(slD 1 iD) x.1, (slD 1 iD) x.2]
def D_impl_System (x : (Ls × (List (Ls × Ls)))) : D := .agg [(slD 1 iD) x.1, (slD 2 D_impl_Rule) x.2]
instance : Cel D_impl_Sig 1 := ⟨fun _ => rfl⟩
instance : Cel D_impl_Rule 2 := ⟨fun _ => rfl⟩
instance : Cel D_impl_System 2 := ⟨fun _ => rfl⟩
attribute [go_sem] D_impl_Sig D_impl_Rule D_impl_System
def mc223 : MCode :=
 (.seq (.reg [⟨some 1, .box 1 43 (.tmp 0), none⟩, ⟨some 2, .mv (.const (.bool false)), none⟩]) (.seq (.seq (.reg [⟨some 5, .fad 0 (.tmp 1), none⟩, ⟨some 6, .load 1 false (.tmp 5), none⟩, ⟨some 7, .len (.tmp 6), none⟩, ⟨some 8, .bin .lss (.tmp 7) (.const (.int .i64 1)), none⟩, ⟨some 9, .mv (.tmp 8), none⟩, ⟨some 10, .fad 0 (.tmp 1), (some (some 9, false))⟩, ⟨some 11, .load 1 false (.tmp 10), (some (some 9, false))⟩, ⟨some 12, .len (.tmp 11), (some (some 9, false))⟩, ⟨some 13, .bin .gtr (.tmp 12) (.const (.int .i64 8)), (some (some 9, false))⟩, ⟨some 14, .pick (.tmp 9) (.const (.bool true)) (.tmp 13), none⟩]) (.cond (.tmp 14) (.seq (.reg [⟨some 2, .mv (.const (.bool false)), none⟩]) .ret) .skip)) (.seq (.seq (.reg [⟨some 15, .fad 0 (.tmp 1), none⟩, ⟨some 16, .load 1 false (.tmp 15), none⟩, ⟨some 17, .len (.tmp 16), none⟩, ⟨some 18, .mv (.const (.int .i64 0)), none⟩]) (.block 0 (.loop (.seq (.reg [⟨some 19, .bin .lss (.tmp 18) (.tmp 17), none⟩]) (.seq (.cond (.tmp 19) .skip (.exit 0)) (.seq (.block 1 (.seq (.reg [⟨some 20, .ixa 1 (.tmp 16) (.tmp 18), none⟩, ⟨some 21, .load 1 false (.tmp 20), none⟩, ⟨some 4, .mv (.tmp 21), none⟩]) (.seq (.reg [⟨some 22, .mv (.tmp 4), none⟩, ⟨some 23, .bin .lss (.tmp 22) (.const (.int .i64 0)), none⟩, ⟨some 24, .mv (.tmp 23), none⟩, ⟨some 25, .mv (.tmp 4), (some (some 24, false))⟩, ⟨some 26, .bin .gtr (.tmp 25) (.const (.int .i64 3)), (some (some 24, false))⟩, ⟨some 27, .pick (.tmp 24) (.const (.bool true)) (.tmp 26), none⟩]) (.cond (.tmp 27) (.seq (.reg [⟨some 2, .mv (.const (.bool false)), none⟩]) .ret) .skip)))) (.reg [⟨some 28, .bin .add (.tmp 18) (.const (.int .i64 1)), none⟩, ⟨some 18, .mv (.tmp 28), none⟩]))))))) (.seq (.reg [⟨some 2, .mv (.const (.bool true)), none⟩]) .ret))))
theorem fn223 : MFn Tryz.prog 223 mc223 29 [.tmp 2] :=
  ⟨Tryz.f223, Tryz.func223, by kernel_rfl, Tryz.ntmps223, by kernel_rfl⟩
def F_impl_SigOk_l1 (sig : Ls) : Int → Option (Int ⊕ Bool)
 | v18 =>
  if (decide (v18 < (sig.length : Int))) = true then
   if 0 ≤ v18 ∧ v18 < (sig.length : Int) then
    if (decide ((sig.getD v18.toNat default) < 0)) = true then
     Option.map Sum.inr (
      some false)
    else
     if (decide (3 < (sig.getD v18.toNat default))) = true then
      Option.map Sum.inr (
       some false)
     else
      some (.inl (IntKind.i64.wrap (v18 + 1)))
   else none
  else
   Option.map Sum.inr (
    some true)
def F_impl_SigOk (sig : Ls) : Option Bool :=
 if (decide ((sig.length : Int) < 1)) = true then
  some false
 else
  if (decide (8 < (sig.length : Int))) = true then
   some false
  else
   loopC (F_impl_SigOk_l1 sig) 0
theorem c_impl_SigOk {sig : Ls} {rr : Bool} (h : F_impl_SigOk sig = some rr) : PFun Tryz.prog 223 [D_impl_Sig sig] (bD rr) := by
  delta F_impl_SigOk at h
  refine fn223.pureL (vcm_sound ?_)
  delta mc223
  refine stp ?_
  rcases ite_some h with ⟨hc, h⟩ | ⟨hc, h⟩
  · refine stpc hc ?_
    cases h
    exact don
  refine stpc hc ?_
  rcases ite_some h with ⟨hc, h⟩ | ⟨hc, h⟩
  · refine stpc hc ?_
    cases h
    exact don
  refine stpc hc ?_
  refine m_loopF h [2, 4, 18, 19, 20, 21, 22, 23, 24, 25, 26, 27, 28] (fun pp => [(18, .d (iD pp))]) (fun pp => [(1, .obj 43 [.d (slD 1 iD sig)])]) ?_ ?_
  · try dsimp only
    exact wk
  rintro v18 t1 h hb1
  unfold F_impl_SigOk_l1 at h
  try dsimp only at h
  refine vcm_sound (stp ?_)
  rcases ite_some h with ⟨hc, h⟩ | ⟨hc, h⟩
  · refine stpc hc ?_
    obtain ⟨hp, h⟩ := need_some h
    repeat (refine need_i (by omega) ?_; refine stp ?_)
    rcases ite_some h with ⟨hc, h⟩ | ⟨hc, h⟩
    · refine stpc hc ?_
      replace h := inr_some h hb1
      cases h
      exact don
    refine stpc hc ?_
    rcases ite_some h with ⟨hc, h⟩ | ⟨hc, h⟩
    · refine stpc hc ?_
      replace h := inr_some h hb1
      cases h
      exact don
    refine stpc hc ?_
    cases h
    refine ⟨_, rfl, ?_⟩
    exact wk
  refine stpc hc ?_
  replace h := inr_some h hb1
  cases h
  exact don
def mc227 : MCode :=
 (.seq (.reg [⟨some 2, .mv (.const (.int .i64 0)), none⟩]) (.seq (.seq (.reg [⟨some 5, .mv (.tmp 0), none⟩, ⟨some 6, .len (.tmp 5), none⟩, ⟨some 7, .bin .lss (.tmp 6) (.const (.int .i64 1)), none⟩]) (.cond (.tmp 7) (.reg [⟨some 8, .dead, none⟩, ⟨none, .dead, none⟩]) .skip)) (.seq (.reg [⟨some 9, .mv (.tmp 0), none⟩, ⟨some 10, .ixa 1 (.tmp 9) (.const (.int .i64 0)), none⟩, ⟨some 11, .load 1 false (.tmp 10), none⟩, ⟨some 3, .mv (.tmp 11), none⟩]) (.seq (.seq (.reg [⟨some 4, .mv (.const (.int .i64 1)), none⟩]) (.block 0 (.loop (.seq (.seq (.reg [⟨some 12, .mv (.tmp 4), none⟩, ⟨some 13, .mv (.tmp 0), none⟩, ⟨some 14, .len (.tmp 13), none⟩, ⟨some 15, .bin .lss (.tmp 12) (.tmp 14), none⟩]) (.cond (.tmp 15) .skip (.exit 0))) (.seq (.block 1 (.reg [⟨some 18, .mv (.tmp 3), none⟩, ⟨some 19, .mv (.tmp 0), none⟩, ⟨some 20, .mv (.tmp 4), none⟩, ⟨some 21, .ixa 1 (.tmp 19) (.tmp 20), none⟩, ⟨some 22, .load 1 false (.tmp 21), none⟩, ⟨some 23, .min (.tmp 18) (.tmp 22), none⟩, ⟨some 3, .mv (.tmp 23), none⟩])) (.reg [⟨some 16, .mv (.tmp 4), none⟩, ⟨some 17, .bin .add (.tmp 16) (.const (.int .i64 1)), none⟩, ⟨some 4, .mv (.tmp 17), none⟩])))))) (.seq (.reg [⟨some 24, .mv (.tmp 3), none⟩, ⟨some 2, .mv (.tmp 24), none⟩]) .ret)))))
theorem fn227 : MFn Tryz.prog 227 mc227 25 [.tmp 2] :=
  ⟨Tryz.f227, Tryz.func227, by kernel_rfl, Tryz.ntmps227, by kernel_rfl⟩
def F_slices_Min_int64_int64_l1 (x : Ls) : (Int × Int) → Option ((Int × Int) ⊕ Int)
 | (m, i) =>
  if (decide (i < (x.length : Int))) = true then
   if 0 ≤ i ∧ i < (x.length : Int) then
    some (.inl ((if (x.getD i.toNat default) < m then (x.getD i.toNat default) else m), (IntKind.i64.wrap (i + 1))))
   else none
  else
   Option.map Sum.inr (
    some m)
def F_slices_Min_int64_int64 (x : Ls) : Option Int :=
 if (decide ((x.length : Int) < 1)) = true then
  none
 else
  if 0 ≤ 0 ∧ 0 < (x.length : Int) then
   loopC (F_slices_Min_int64_int64_l1 x) ((x.getD 0 default), 1)
  else none
theorem c_slices_Min_int64_int64 {x : Ls} {rr : Int} (h : F_slices_Min_int64_int64 x = some rr) : PFun Tryz.prog 227 [(slD 1 iD) x] (iD rr) := by
  delta F_slices_Min_int64_int64 at h
  refine fn227.pureL (vcm_sound ?_)
  delta mc227
  refine stp ?_
  rcases ite_some h with ⟨hc, h⟩ | ⟨hc, h⟩
  · cases h
  refine stpc hc ?_
  obtain ⟨hp, h⟩ := need_some h
  repeat (refine need_i (by omega) ?_; refine stp ?_)
  refine m_loopF h [3, 4, 12, 13, 14, 15, 16, 17, 18, 19, 20, 21, 22, 23] (fun pp => [(3, .d (iD pp.1)), (4, .d (iD pp.2))]) (fun pp => []) ?_ ?_
  · try dsimp only
    exact wk
  rintro ⟨m, i⟩ t1 h hb1
  unfold F_slices_Min_int64_int64_l1 at h
  try dsimp only at h
  refine vcm_sound (stp ?_)
  rcases ite_some h with ⟨hc, h⟩ | ⟨hc, h⟩
  · refine stpc hc ?_
    obtain ⟨hp, h⟩ := need_some h
    repeat (refine need_i (by omega) ?_; refine stp ?_)
    cases h
    refine ⟨_, rfl, ?_⟩
    exact wk
  refine stpc hc ?_
  replace h := inr_some h hb1
  cases h
  exact don
def mc427 : MCode :=
 (.seq (.reg [⟨some 2, .box 2 43 (.tmp 0), none⟩, ⟨some 4, .mv (.const (.int .i64 0)), none⟩]) (.seq (.seq (.reg [⟨some 5, .mv (.tmp 1), none⟩, ⟨some 6, .bin .lss (.tmp 5) (.const (.int .i64 0)), none⟩]) (.cond (.tmp 6) (.seq (.reg [⟨some 4, .mv (.const (.int .i64 0)), none⟩]) .ret) .skip)) (.seq (.reg [⟨some 7, .fad 0 (.tmp 2), none⟩, ⟨some 8, .load 1 false (.tmp 7), none⟩, ⟨some 9, .mv (.tmp 1), none⟩, ⟨some 10, .ixa 1 (.tmp 8) (.tmp 9), none⟩, ⟨some 11, .load 1 false (.tmp 10), none⟩, ⟨some 4, .mv (.tmp 11), none⟩]) .ret)))
theorem fn427 : MFn Tryz.prog 427 mc427 12 [.tmp 4] :=
  ⟨Tryz.f427, Tryz.func427, by kernel_rfl, Tryz.ntmps427, by kernel_rfl⟩
def F_impl_arityAt (sig : Ls) (n : Int) : Option Int :=
 if (decide (n < 0)) = true then
  some 0
 else
  if 0 ≤ n ∧ n < (sig.length : Int) then
   some (sig.getD n.toNat default)
  else none
theorem c_impl_arityAt {sig : Ls} {n : Int} {rr : Int} (h : F_impl_arityAt sig n = some rr) : PFun Tryz.prog 427 [D_impl_Sig sig, iD n] (iD rr) := by
  delta F_impl_arityAt at h
  refine fn427.pureL (vcm_sound ?_)
  delta mc427
  refine stp ?_
  rcases ite_some h with ⟨hc, h⟩ | ⟨hc, h⟩
  · refine stpc hc ?_
    cases h
    exact don
  refine stpc hc ?_
  obtain ⟨hp, h⟩ := need_some h
  repeat (refine need_i (by omega) ?_; refine stp ?_)
  cases h
  exact don
def mc377 : MCode :=
 (.seq (.reg [⟨some 2, .mv (.const (.int .i64 0)), none⟩]) (.seq (.seq (.draw [⟨some 3, .mv (.tmp 0), none⟩, ⟨some 4, .nilc (.tmp 3), none⟩, ⟨some 5, .fad 2 (.tmp 4), none⟩, ⟨some 6, .load 1 false (.tmp 5), none⟩, ⟨some 7, .mv (.tmp 0), none⟩, ⟨some 8, .nilc (.tmp 7), none⟩, ⟨some 9, .fad 1 (.tmp 8), none⟩, ⟨some 10, .load 1 false (.tmp 9), none⟩, ⟨some 11, .len (.tmp 10), none⟩, ⟨some 12, .bin .geq (.tmp 6) (.tmp 11), none⟩, ⟨some 13, .mv (.tmp 12), none⟩, ⟨some 14, .mv (.tmp 0), (some (some 13, false))⟩, ⟨some 15, .nilc (.tmp 14), (some (some 13, false))⟩, ⟨some 16, .fad 1 (.tmp 15), (some (some 13, false))⟩, ⟨some 17, .load 1 false (.tmp 16), (some (some 13, false))⟩, ⟨some 18, .mv (.tmp 0), (some (some 13, false))⟩, ⟨some 19, .nilc (.tmp 18), (some (some 13, false))⟩, ⟨some 20, .fad 2 (.tmp 19), (some (some 13, false))⟩, ⟨some 21, .load 1 false (.tmp 20), (some (some 13, false))⟩, ⟨some 22, .ixa 1 (.tmp 17) (.tmp 21), (some (some 13, false))⟩, ⟨some 23, .load 1 false (.tmp 22), (some (some 13, false))⟩, ⟨some 24, .mv (.tmp 0), (some (some 13, false))⟩, ⟨some 25, .nilc (.tmp 24), (some (some 13, false))⟩, ⟨some 26, .fad 0 (.tmp 25), (some (some 13, false))⟩, ⟨some 27, .fad 0 (.tmp 26), (some (some 13, false))⟩, ⟨some 28, .load 1 false (.tmp 27), (some (some 13, false))⟩, ⟨some 29, .len (.tmp 28), (some (some 13, false))⟩, ⟨some 30, .bin .geq (.tmp 23) (.tmp 29), (some (some 13, false))⟩, ⟨some 31, .pick (.tmp 13) (.const (.bool true)) (.tmp 30), none⟩] [[], [0], [1], [2], [], [4], [5], [6], [7], [3, 8], [9], [10], [11, 10], [12, 10], [13, 10], [10], [15, 10], [16, 10], [17, 10], [14, 18, 10], [19, 10], [10], [21, 10], [22, 10], [23, 10], [24, 10], [25, 10], [20, 26, 10], [10, 27]]) (.cond (.tmp 31) (.seq (.reg [⟨some 2, .mv (.const (.int .i64 (-1))), none⟩]) .ret) .skip)) (.seq (.reg [⟨some 32, .mv (.tmp 0), none⟩, ⟨some 33, .nilc (.tmp 32), none⟩, ⟨some 34, .fad 2 (.tmp 33), none⟩, ⟨some 35, .load 1 false (.tmp 34), none⟩, ⟨some 36, .bin .add (.tmp 35) (.const (.int .i64 1)), none⟩, ⟨some 37, .nilc (.tmp 32), none⟩, ⟨some 38, .fad 2 (.tmp 37), none⟩, ⟨none, .store 1 (.tmp 38) (.tmp 36), none⟩]) (.seq (.draw [⟨some 39, .mv (.tmp 0), none⟩, ⟨some 40, .nilc (.tmp 39), none⟩, ⟨some 41, .fad 0 (.tmp 40), none⟩, ⟨some 42, .load 1 true (.tmp 41), none⟩, ⟨some 43, .mv (.tmp 0), none⟩, ⟨some 44, .nilc (.tmp 43), none⟩, ⟨some 45, .fad 1 (.tmp 44), none⟩, ⟨some 46, .load 1 false (.tmp 45), none⟩, ⟨some 47, .mv (.tmp 0), none⟩, ⟨some 48, .nilc (.tmp 47), none⟩, ⟨some 49, .fad 2 (.tmp 48), none⟩, ⟨some 50, .load 1 false (.tmp 49), none⟩, ⟨some 51, .bin .sub (.tmp 50) (.const (.int .i64 1)), none⟩, ⟨some 52, .ixa 1 (.tmp 46) (.tmp 51), none⟩, ⟨some 53, .load 1 false (.tmp 52), none⟩, ⟨some 54, .callf 427 [.tmp 42, .tmp 53], none⟩, ⟨some 2, .mv (.tmp 54), none⟩] [[], [0], [1], [2], [], [4], [5], [6], [], [8], [9], [10], [11], [7, 12], [13], [3, 14], [15, 15, 0, 1, 2, 3, 4, 5, 6, 7, 8, 9, 10, 11, 12, 13, 14, 15]]) .ret))))
theorem fn377 : MFn Tryz.prog 377 mc377 55 [.tmp 2] :=
  ⟨Tryz.f377, Tryz.func377, by kernel_rfl, Tryz.ntmps377, by kernel_rfl⟩
def F_impl_cursor_next (c0 : Ls) (c1 : Ls) (c2 : Int) : Option (Int × Int) :=
 if (decide ((c1.length : Int) ≤ c2)) = true then
  some ((-1), c2)
 else
  if 0 ≤ c2 ∧ c2 < (c1.length : Int) then
   if (decide ((c0.length : Int) ≤ (c1.getD c2.toNat default))) = true then
    some ((-1), c2)
   else
    if 0 ≤ (IntKind.i64.wrap ((IntKind.i64.wrap (c2 + 1)) - 1)) ∧ (IntKind.i64.wrap ((IntKind.i64.wrap (c2 + 1)) - 1)) < (c1.length : Int) then
     (F_impl_arityAt c0 (c1.getD (IntKind.i64.wrap ((IntKind.i64.wrap (c2 + 1)) - 1)).toNat default)).bind fun r =>
     some (r, (IntKind.i64.wrap (c2 + 1)))
    else none
  else none
theorem c_impl_cursor_next {c0 : Ls} {c1 : Ls} {c2 : Int} {rr : (Int × Int)} (h : F_impl_cursor_next c0 c1 c2 = some rr) : ACalls Tryz.prog 377 [.ptr 0 0] [(0, .obj 307 [.d (slD 1 iD c0), .d (slD 1 iD c1), .d (iD c2)])] 1 fun xx ss => xx = .d (iD rr.1) ∧ ss = [(0, .obj 307 [.d (slD 1 iD c0), .d (slD 1 iD c1), .d (iD rr.2)])] := by
  delta F_impl_cursor_next at h
  refine fn377.callsO (vcm_sound ?_)
  delta mc377
  refine stp ?_
  rcases ite_some h with ⟨hc, h⟩ | ⟨hc, h⟩
  · refine stpc hc ?_
    refine drQ_of (by kernel_rfl) ?_
    refine stp ?_
    cases h
    exact ⟨[], by simp, don, don⟩
  refine stpc hc ?_
  obtain ⟨hp, h⟩ := need_some h
  repeat (refine need_i (by omega) ?_; refine stp ?_)
  refine drQ_of (by kernel_rfl) ?_
  refine stp ?_
  rcases ite_some h with ⟨hc, h⟩ | ⟨hc, h⟩
  · refine stpc hc ?_
    cases h
    exact ⟨[], by simp, don, don⟩
  refine stpc hc ?_
  obtain ⟨hp, h⟩ := need_some h
  repeat (refine need_i (by omega) ?_; refine stp ?_)
  obtain ⟨r, hr, h⟩ := bind_some h
  refine cD' (c_impl_arityAt hr) (stp ?_)
  refine drQ_of (by kernel_rfl) ?_
  refine stp ?_
  cases h
  exact ⟨[], by simp, don, don⟩
def mc310 : MCode :=
 (.seq (.reg [⟨some 2, .mv (.const (.bool false)), none⟩]) (.seq (.seq (.reg [⟨some 3, .mv (.const (.int .i64 1)), none⟩]) (.block 0 (.loop (.seq (.seq (.reg [⟨some 5, .mv (.tmp 3), none⟩, ⟨some 6, .bin .gtr (.tmp 5) (.const (.int .i64 0)), none⟩]) (.cond (.tmp 6) .skip (.exit 0))) (.seq (.block 1 (.seq (.reg [⟨some 9, .mv (.tmp 0), none⟩, ⟨some 10, .callf 377 [.tmp 9], none⟩, ⟨some 4, .mv (.tmp 10), none⟩]) (.seq (.seq (.reg [⟨some 11, .mv (.tmp 4), none⟩, ⟨some 12, .bin .lss (.tmp 11) (.const (.int .i64 0)), none⟩]) (.cond (.tmp 12) (.seq (.reg [⟨some 2, .mv (.const (.bool false)), none⟩]) .ret) .skip)) (.reg [⟨some 13, .mv (.tmp 3), none⟩, ⟨some 14, .mv (.tmp 4), none⟩, ⟨some 15, .bin .add (.tmp 13) (.tmp 14), none⟩, ⟨some 3, .mv (.tmp 15), none⟩])))) (.reg [⟨some 7, .mv (.tmp 3), none⟩, ⟨some 8, .bin .sub (.tmp 7) (.const (.int .i64 1)), none⟩, ⟨some 3, .mv (.tmp 8), none⟩])))))) (.seq (.reg [⟨some 2, .mv (.const (.bool true)), none⟩]) .ret)))
theorem fn310 : MFn Tryz.prog 310 mc310 16 [.tmp 2] :=
  ⟨Tryz.f310, Tryz.func310, by kernel_rfl, Tryz.ntmps310, by kernel_rfl⟩
def F_impl_cursor_skip_l1 (c0 : Ls) (c1 : Ls) : (Int × Int) → Option ((Int × Int) ⊕ (Bool × Int))
 | (need, c) =>
  if (decide (0 < need)) = true then
   (F_impl_cursor_next c0 c1 c).bind fun r =>
   if (decide (r.1 < 0)) = true then
    Option.map Sum.inr (
     some (false, r.2))
   else
    some (.inl ((IntKind.i64.wrap ((IntKind.i64.wrap (need + r.1)) - 1)), r.2))
  else
   Option.map Sum.inr (
    some (true, c))
def F_impl_cursor_skip (c0 : Ls) (c1 : Ls) (c2 : Int) : Option (Bool × Int) :=
 loopC (F_impl_cursor_skip_l1 c0 c1) (1, c2)
theorem c_impl_cursor_skip {c0 : Ls} {c1 : Ls} {c2 : Int} {rr : (Bool × Int)} (h : F_impl_cursor_skip c0 c1 c2 = some rr) : ACalls Tryz.prog 310 [.ptr 0 0] [(0, .obj 307 [.d (slD 1 iD c0), .d (slD 1 iD c1), .d (iD c2)])] 1 fun xx ss => xx = .d (bD rr.1) ∧ ss = [(0, .obj 307 [.d (slD 1 iD c0), .d (slD 1 iD c1), .d (iD rr.2)])] := by
  delta F_impl_cursor_skip at h
  refine fn310.callsO (vcm_sound ?_)
  delta mc310
  refine stp ?_
  refine m_loopF h [2, 3, 4, 5, 6, 7, 8, 9, 10, 11, 12, 13, 14, 15] (fun pp => [(3, .d (iD pp.1))]) (fun pp => [(0, .obj 307 [.d (slD 1 iD c0), .d (slD 1 iD c1), .d (iD pp.2)])]) ?_ ?_
  · try dsimp only
    exact wk
  rintro ⟨need, c⟩ t1 h hb1
  unfold F_impl_cursor_skip_l1 at h
  try dsimp only at h
  refine vcm_sound (stp ?_)
  rcases ite_some h with ⟨hc, h⟩ | ⟨hc, h⟩
  · refine stpc hc ?_
    obtain ⟨r, hr, h⟩ := bind_some h
    refine cRo [(0, 0)] [] (c_impl_cursor_next hr) (stp ?_)
    rcases ite_some h with ⟨hc, h⟩ | ⟨hc, h⟩
    · refine stpc hc ?_
      replace h := inr_some h hb1
      cases h
      exact ⟨[], by simp, don, don⟩
    refine stpc hc ?_
    cases h
    refine ⟨_, rfl, ?_⟩
    exact wk
  refine stpc hc ?_
  replace h := inr_some h hb1
  cases h
  exact ⟨[], by simp, don, don⟩
def mc228 : MCode :=
 (.seq (.reg [⟨some 3, .box 3 43 (.tmp 0), none⟩, ⟨some 6, .mv (.const (.int .i64 0)), none⟩]) (.seq (.reg [⟨some 8, .load 1 true (.tmp 3), none⟩, ⟨some 9, .mv (.tmp 1), none⟩, ⟨some 10, .mv (.tmp 2), none⟩, ⟨some 11, .build [.sl 0 (some true) [], .sl 0 (some true) [], .lit (.int .i64 0)] [(0, 1, .tmp 8), (1, 1, .tmp 9), (2, 1, .tmp 10)], none⟩, ⟨some 7, .alloc 7 307 [.sl 0 (some true) [], .sl 0 (some true) [], .lit (.int .i64 0)], none⟩, ⟨none, .store 3 (.tmp 7) (.tmp 11), none⟩]) (.seq (.seq (.reg [⟨some 12, .callf 310 [.tmp 7], none⟩, ⟨some 13, .un .not (.tmp 12), none⟩]) (.cond (.tmp 13) (.seq (.reg [⟨some 6, .mv (.const (.int .i64 (-1))), none⟩]) .ret) .skip)) (.seq (.reg [⟨some 14, .fad 2 (.tmp 7), none⟩, ⟨some 15, .load 1 false (.tmp 14), none⟩, ⟨some 6, .mv (.tmp 15), none⟩]) .ret))))
theorem fn228 : MFn Tryz.prog 228 mc228 16 [.tmp 6] :=
  ⟨Tryz.f228, Tryz.func228, by kernel_rfl, Tryz.ntmps228, by kernel_rfl⟩
def F_impl_endAt (sig : Ls) (t : Ls) (at' : Int) : Option Int :=
 (F_impl_cursor_skip sig t at').bind fun r =>
 if r.1 = true then
  some r.2
 else
  some (-1)
theorem c_impl_endAt {sig : Ls} {t : Ls} {at' : Int} {rr : Int} (h : F_impl_endAt sig t at' = some rr) : PFun Tryz.prog 228 [D_impl_Sig sig, (slD 1 iD) t, iD at'] (iD rr) := by
  delta F_impl_endAt at h
  refine fn228.pureL (vcm_sound ?_)
  delta mc228
  refine stp ?_
  obtain ⟨r, hr, h⟩ := bind_some h
  refine cRo [(0, 7)] [] (c_impl_cursor_skip hr) (stp ?_)
  rcases ite_some h with ⟨hc, h⟩ | ⟨hc, h⟩
  · refine stpc hc ?_
    cases h
    exact don
  refine stpc hc ?_
  cases h
  exact don
def mc121 : MCode :=
 (.seq (.reg [⟨some 2, .box 2 43 (.tmp 0), none⟩, ⟨some 4, .mv (.const (.bool false)), none⟩]) (.seq (.reg [⟨some 5, .load 1 true (.tmp 2), none⟩, ⟨some 6, .callf 223 [.tmp 5], none⟩, ⟨some 7, .mv (.tmp 6), none⟩, ⟨some 8, .mv (.tmp 1), (some (some 7, true))⟩, ⟨some 9, .len (.tmp 8), (some (some 7, true))⟩, ⟨some 10, .bin .gtr (.tmp 9) (.const (.int .i64 0)), (some (some 7, true))⟩, ⟨some 11, .pick (.tmp 7) (.tmp 10) (.const (.bool false)), none⟩, ⟨some 12, .mv (.tmp 11), none⟩, ⟨some 13, .mv (.tmp 1), (some (some 12, true))⟩, ⟨some 14, .len (.tmp 13), (some (some 12, true))⟩, ⟨some 15, .bin .leq (.tmp 14) (.const (.int .i64 60)), (some (some 12, true))⟩, ⟨some 16, .pick (.tmp 12) (.tmp 15) (.const (.bool false)), none⟩, ⟨some 17, .mv (.tmp 16), none⟩, ⟨some 18, .mv (.tmp 1), (some (some 17, true))⟩, ⟨some 19, .callf 227 [.tmp 18], (some (some 17, true))⟩, ⟨some 20, .bin .geq (.tmp 19) (.const (.int .i64 (-24))), (some (some 17, true))⟩, ⟨some 21, .pick (.tmp 17) (.tmp 20) (.const (.bool false)), none⟩, ⟨some 22, .mv (.tmp 21), none⟩, ⟨some 23, .load 1 true (.tmp 2), (some (some 22, true))⟩, ⟨some 24, .mv (.tmp 1), (some (some 22, true))⟩, ⟨some 25, .callf 228 [.tmp 23, .tmp 24, (.const (.int .i64 0))], (some (some 22, true))⟩, ⟨some 26, .mv (.tmp 1), (some (some 22, true))⟩, ⟨some 27, .len (.tmp 26), (some (some 22, true))⟩, ⟨some 28, .bin .eql (.tmp 25) (.tmp 27), (some (some 22, true))⟩, ⟨some 29, .pick (.tmp 22) (.tmp 28) (.const (.bool false)), none⟩, ⟨some 4, .mv (.tmp 29), none⟩]) .ret))
theorem fn121 : MFn Tryz.prog 121 mc121 30 [.tmp 4] :=
  ⟨Tryz.f121, Tryz.func121, by kernel_rfl, Tryz.ntmps121, by kernel_rfl⟩
def F_impl_TermOk (sig : Ls) (t : Ls) : Option Bool :=
 (F_impl_SigOk sig).bind fun r =>
 if r = true then
  if (decide (0 < (t.length : Int))) = true then
   if (decide ((t.length : Int) ≤ 60)) = true then
    (F_slices_Min_int64_int64 t).bind fun r_1 =>
    if (decide ((-24) ≤ r_1)) = true then
     (F_impl_endAt sig t 0).bind fun r_2 =>
     some (r_2 == (t.length : Int))
    else
     some false
   else
    some false
  else
   some false
 else
  some false
theorem c_impl_TermOk {sig : Ls} {t : Ls} {rr : Bool} (h : F_impl_TermOk sig t = some rr) : PFun Tryz.prog 121 [D_impl_Sig sig, (slD 1 iD) t] (bD rr) := by
  delta F_impl_TermOk at h
  refine fn121.pureL (vcm_sound ?_)
  delta mc121
  refine stp ?_
  obtain ⟨r, hr, h⟩ := bind_some h
  refine cR (c_impl_SigOk hr) (stp ?_)
  rcases ite_some h with ⟨hc, h⟩ | ⟨hc, h⟩
  · refine stpc hc ?_
    rcases ite_some h with ⟨hc, h⟩ | ⟨hc, h⟩
    · refine stpc hc ?_
      rcases ite_some h with ⟨hc, h⟩ | ⟨hc, h⟩
      · refine stpc hc ?_
        obtain ⟨r_1, hr_1, h⟩ := bind_some h
        refine cR (c_slices_Min_int64_int64 hr_1) (stp ?_)
        rcases ite_some h with ⟨hc, h⟩ | ⟨hc, h⟩
        · refine stpc hc ?_
          obtain ⟨r_2, hr_2, h⟩ := bind_some h
          refine cR (c_impl_endAt hr_2) (stp ?_)
          cases h
          exact don
        refine stpc hc ?_
        cases h
        exact don
      refine stpc hc ?_
      cases h
      exact don
    refine stpc hc ?_
    cases h
    exact don
  refine stpc hc ?_
  cases h
  exact don
def mc79 : MCode :=
 (.seq (.reg [⟨some 6, .mv (.const (.bool false)), none⟩]) (.seq (.reg [⟨some 7, .mv (.tmp 0), none⟩, ⟨some 8, .mv (.tmp 1), none⟩, ⟨some 9, .bin .geq (.tmp 7) (.tmp 8), none⟩, ⟨some 10, .mv (.tmp 9), none⟩, ⟨some 11, .mv (.tmp 0), (some (some 10, true))⟩, ⟨some 12, .mv (.tmp 2), (some (some 10, true))⟩, ⟨some 13, .bin .leq (.tmp 11) (.tmp 12), (some (some 10, true))⟩, ⟨some 14, .pick (.tmp 10) (.tmp 13) (.const (.bool false)), none⟩, ⟨some 6, .mv (.tmp 14), none⟩]) .ret))
theorem fn79 : MFn Tryz.prog 79 mc79 15 [.tmp 6] :=
  ⟨Tryz.f79, Tryz.func79, by kernel_rfl, Tryz.ntmps79, by kernel_rfl⟩
def F_spec_l1In (x : Int) (lo : Int) (hi : Int) : Option Bool :=
 if (decide (lo ≤ x)) = true then
  some (decide (x ≤ hi))
 else
  some false
theorem c_spec_l1In {x : Int} {lo : Int} {hi : Int} {rr : Bool} (h : F_spec_l1In x lo hi = some rr) : PFun Tryz.prog 79 [iD x, iD lo, iD hi] (bD rr) := by
  delta F_spec_l1In at h
  refine fn79.pureL (vcm_sound ?_)
  delta mc79
  refine stp ?_
  rcases ite_some h with ⟨hc, h⟩ | ⟨hc, h⟩
  · refine stpc hc ?_
    cases h
    exact don
  refine stpc hc ?_
  cases h
  exact don
def mc217 : MCode :=
 (.seq (.reg [⟨some 1, .box 1 43 (.tmp 0), none⟩, ⟨some 2, .mv (.const (.bool false)), none⟩]) (.seq (.seq (.reg [⟨some 4, .fad 0 (.tmp 1), none⟩, ⟨some 5, .load 1 false (.tmp 4), none⟩, ⟨some 6, .len (.tmp 5), none⟩, ⟨some 7, .callf 79 [.tmp 6, (.const (.int .i64 1)), (.const (.int .i64 8))], none⟩, ⟨some 8, .un .not (.tmp 7), none⟩]) (.cond (.tmp 8) (.seq (.reg [⟨some 2, .mv (.const (.bool false)), none⟩]) .ret) .skip)) (.seq (.seq (.reg [⟨some 3, .mv (.const (.int .i64 0)), none⟩]) (.block 0 (.loop (.seq (.seq (.reg [⟨some 9, .mv (.tmp 3), none⟩, ⟨some 10, .fad 0 (.tmp 1), none⟩, ⟨some 11, .load 1 false (.tmp 10), none⟩, ⟨some 12, .len (.tmp 11), none⟩, ⟨some 13, .bin .lss (.tmp 9) (.tmp 12), none⟩]) (.cond (.tmp 13) .skip (.exit 0))) (.seq (.block 1 (.seq (.reg [⟨some 16, .fad 0 (.tmp 1), none⟩, ⟨some 17, .load 1 false (.tmp 16), none⟩, ⟨some 18, .mv (.tmp 3), none⟩, ⟨some 19, .ixa 1 (.tmp 17) (.tmp 18), none⟩, ⟨some 20, .load 1 false (.tmp 19), none⟩, ⟨some 21, .callf 79 [.tmp 20, (.const (.int .i64 0)), (.const (.int .i64 3))], none⟩, ⟨some 22, .un .not (.tmp 21), none⟩]) (.cond (.tmp 22) (.seq (.reg [⟨some 2, .mv (.const (.bool false)), none⟩]) .ret) .skip))) (.reg [⟨some 14, .mv (.tmp 3), none⟩, ⟨some 15, .bin .add (.tmp 14) (.const (.int .i64 1)), none⟩, ⟨some 3, .mv (.tmp 15), none⟩])))))) (.seq (.reg [⟨some 2, .mv (.const (.bool true)), none⟩]) .ret))))
theorem fn217 : MFn Tryz.prog 217 mc217 23 [.tmp 2] :=
  ⟨Tryz.f217, Tryz.func217, by kernel_rfl, Tryz.ntmps217, by kernel_rfl⟩
def F_spec_SigOk_l1 (sig : Ls) : Int → Option (Int ⊕ Bool)
 | f =>
  if (decide (f < (sig.length : Int))) = true then
   if 0 ≤ f ∧ f < (sig.length : Int) then
    (F_spec_l1In (sig.getD f.toNat default) 0 3).bind fun r_1 =>
    if r_1 = true then
     some (.inl (IntKind.i64.wrap (f + 1)))
    else
     Option.map Sum.inr (
      some false)
   else none
  else
   Option.map Sum.inr (
    some true)
def F_spec_SigOk (sig : Ls) : Option Bool :=
 (F_spec_l1In (sig.length : Int) 1 8).bind fun r =>
 if r = true then
  loopC (F_spec_SigOk_l1 sig) 0
 else
  some false
theorem c_spec_SigOk {sig : Ls} {rr : Bool} (h : F_spec_SigOk sig = some rr) : PFun Tryz.prog 217 [D_impl_Sig sig] (bD rr) := by
  delta F_spec_SigOk at h
  refine fn217.pureL (vcm_sound ?_)
  delta mc217
  refine stp ?_
  obtain ⟨r, hr, h⟩ := bind_some h
  refine cR (c_spec_l1In hr) (stp ?_)
  rcases ite_some h with ⟨hc, h⟩ | ⟨hc, h⟩
  · refine stpc hc ?_
    refine m_loopF h [2, 3, 9, 10, 11, 12, 13, 14, 15, 16, 17, 18, 19, 20, 21, 22] (fun pp => [(3, .d (iD pp))]) (fun pp => [(1, .obj 43 [.d (slD 1 iD sig)])]) ?_ ?_
    · try dsimp only
      exact wk
    rintro f t1 h hb1
    unfold F_spec_SigOk_l1 at h
    try dsimp only at h
    refine vcm_sound (stp ?_)
    rcases ite_some h with ⟨hc, h⟩ | ⟨hc, h⟩
    · refine stpc hc ?_
      obtain ⟨hp, h⟩ := need_some h
      repeat (refine need_i (by omega) ?_; refine stp ?_)
      obtain ⟨r_1, hr_1, h⟩ := bind_some h
      refine cR (c_spec_l1In hr_1) (stp ?_)
      rcases ite_some h with ⟨hc, h⟩ | ⟨hc, h⟩
      · refine stpc hc ?_
        cases h
        refine ⟨_, rfl, ?_⟩
        exact wk
      refine stpc hc ?_
      replace h := inr_some h hb1
      cases h
      exact don
    refine stpc hc ?_
    replace h := inr_some h hb1
    cases h
    exact don
  refine stpc hc ?_
  cases h
  exact don
def mc306 : MCode :=
 (.seq (.reg [⟨some 2, .box 2 43 (.tmp 0), none⟩, ⟨some 4, .mv (.const (.int .i64 0)), none⟩]) (.seq (.block 0 (.seq (.reg [⟨some 6, .mv (.tmp 1), none⟩, ⟨some 7, .callf 79 [.tmp 6, (.const (.int .i64 (-24))), (.const (.int .i64 (-1)))], none⟩, ⟨some 5, .mv (.tmp 7), none⟩]) (.cond (.tmp 5) (.seq (.reg [⟨some 4, .mv (.const (.int .i64 0)), none⟩]) .ret) (.seq (.reg [⟨some 9, .mv (.tmp 1), none⟩, ⟨some 10, .fad 0 (.tmp 2), none⟩, ⟨some 11, .load 1 false (.tmp 10), none⟩, ⟨some 12, .len (.tmp 11), none⟩, ⟨some 13, .bin .sub (.tmp 12) (.const (.int .i64 1)), none⟩, ⟨some 14, .callf 79 [.tmp 9, (.const (.int .i64 0)), .tmp 13], none⟩, ⟨some 8, .mv (.tmp 14), none⟩]) (.cond (.tmp 8) (.seq (.reg [⟨some 15, .fad 0 (.tmp 2), none⟩, ⟨some 16, .load 1 false (.tmp 15), none⟩, ⟨some 17, .mv (.tmp 1), none⟩, ⟨some 18, .ixa 1 (.tmp 16) (.tmp 17), none⟩, ⟨some 19, .load 1 false (.tmp 18), none⟩, ⟨some 4, .mv (.tmp 19), none⟩]) .ret) .skip))))) (.seq (.reg [⟨some 4, .mv (.const (.int .i64 (-1))), none⟩]) .ret)))
theorem fn306 : MFn Tryz.prog 306 mc306 20 [.tmp 4] :=
  ⟨Tryz.f306, Tryz.func306, by kernel_rfl, Tryz.ntmps306, by kernel_rfl⟩
def F_spec_l1Arity (sig : Ls) (n : Int) : Option Int :=
 (F_spec_l1In n (-24) (-1)).bind fun r =>
 if r = true then
  some 0
 else
  (F_spec_l1In n 0 (IntKind.i64.wrap ((sig.length : Int) - 1))).bind fun r_1 =>
  if r_1 = true then
   if 0 ≤ n ∧ n < (sig.length : Int) then
    some (sig.getD n.toNat default)
   else none
  else
   some (-1)
theorem c_spec_l1Arity {sig : Ls} {n : Int} {rr : Int} (h : F_spec_l1Arity sig n = some rr) : PFun Tryz.prog 306 [D_impl_Sig sig, iD n] (iD rr) := by
  delta F_spec_l1Arity at h
  refine fn306.pureL (vcm_sound ?_)
  delta mc306
  refine stp ?_
  obtain ⟨r, hr, h⟩ := bind_some h
  refine cR (c_spec_l1In hr) (stp ?_)
  rcases ite_some h with ⟨hc, h⟩ | ⟨hc, h⟩
  · refine stpc hc ?_
    cases h
    exact don
  refine stpc hc ?_
  obtain ⟨r_1, hr_1, h⟩ := bind_some h
  refine cR (c_spec_l1In hr_1) (stp ?_)
  rcases ite_some h with ⟨hc, h⟩ | ⟨hc, h⟩
  · refine stpc hc ?_
    obtain ⟨hp, h⟩ := need_some h
    repeat (refine need_i (by omega) ?_; refine stp ?_)
    cases h
    exact don
  refine stpc hc ?_
  cases h
  exact don
def mc220 : MCode :=
 (.seq (.reg [⟨some 3, .box 3 43 (.tmp 0), none⟩, ⟨some 6, .mv (.const (.int .i64 0)), none⟩]) (.seq (.reg [⟨some 7, .mv (.const (.int .i64 1)), none⟩]) (.seq (.seq (.reg [⟨some 10, .mv (.tmp 2), none⟩, ⟨some 8, .mv (.tmp 10), none⟩]) (.block 0 (.loop (.seq (.seq (.reg [⟨some 11, .mv (.tmp 8), none⟩, ⟨some 12, .mv (.tmp 1), none⟩, ⟨some 13, .len (.tmp 12), none⟩, ⟨some 14, .bin .lss (.tmp 11) (.tmp 13), none⟩]) (.cond (.tmp 14) .skip (.exit 0))) (.seq (.block 1 (.seq (.draw [⟨some 17, .load 1 true (.tmp 3), none⟩, ⟨some 18, .mv (.tmp 1), none⟩, ⟨some 19, .mv (.tmp 8), none⟩, ⟨some 20, .ixa 1 (.tmp 18) (.tmp 19), none⟩, ⟨some 21, .load 1 false (.tmp 20), none⟩, ⟨some 22, .callf 306 [.tmp 17, .tmp 21], none⟩, ⟨some 9, .mv (.tmp 22), none⟩] [[], [], [], [1, 2], [3], [0, 4], [5, 5, 0, 1, 2, 3, 4, 5]]) (.seq (.seq (.reg [⟨some 23, .mv (.tmp 9), none⟩, ⟨some 24, .bin .lss (.tmp 23) (.const (.int .i64 0)), none⟩]) (.cond (.tmp 24) (.seq (.reg [⟨some 6, .mv (.const (.int .i64 (-1))), none⟩]) .ret) .skip)) (.seq (.reg [⟨some 25, .mv (.tmp 7), none⟩, ⟨some 26, .mv (.tmp 9), none⟩, ⟨some 27, .bin .add (.tmp 25) (.tmp 26), none⟩, ⟨some 28, .bin .sub (.tmp 27) (.const (.int .i64 1)), none⟩, ⟨some 7, .mv (.tmp 28), none⟩]) (.seq (.reg [⟨some 29, .mv (.tmp 7), none⟩, ⟨some 30, .bin .eql (.tmp 29) (.const (.int .i64 0)), none⟩]) (.cond (.tmp 30) (.seq (.reg [⟨some 31, .mv (.tmp 8), none⟩, ⟨some 32, .bin .add (.tmp 31) (.const (.int .i64 1)), none⟩, ⟨some 6, .mv (.tmp 32), none⟩]) .ret) .skip)))))) (.reg [⟨some 15, .mv (.tmp 8), none⟩, ⟨some 16, .bin .add (.tmp 15) (.const (.int .i64 1)), none⟩, ⟨some 8, .mv (.tmp 16), none⟩])))))) (.seq (.reg [⟨some 6, .mv (.const (.int .i64 (-1))), none⟩]) .ret))))
theorem fn220 : MFn Tryz.prog 220 mc220 33 [.tmp 6] :=
  ⟨Tryz.f220, Tryz.func220, by kernel_rfl, Tryz.ntmps220, by kernel_rfl⟩
def F_spec_l1End_l1 (sig : Ls) (t : Ls) : (Int × Int) → Option ((Int × Int) ⊕ Int)
 | (need, i) =>
  if (decide (i < (t.length : Int))) = true then
   if 0 ≤ i ∧ i < (t.length : Int) then
    (F_spec_l1Arity sig (t.getD i.toNat default)).bind fun r =>
    if (decide (r < 0)) = true then
     Option.map Sum.inr (
      some (-1))
    else
     if ((IntKind.i64.wrap ((IntKind.i64.wrap (need + r)) - 1)) == 0) = true then
      Option.map Sum.inr (
       some (IntKind.i64.wrap (i + 1)))
     else
      some (.inl ((IntKind.i64.wrap ((IntKind.i64.wrap (need + r)) - 1)), (IntKind.i64.wrap (i + 1))))
   else none
  else
   Option.map Sum.inr (
    some (-1))
def F_spec_l1End (sig : Ls) (t : Ls) (at' : Int) : Option Int :=
 loopC (F_spec_l1End_l1 sig t) (1, at')
theorem c_spec_l1End {sig : Ls} {t : Ls} {at' : Int} {rr : Int} (h : F_spec_l1End sig t at' = some rr) : PFun Tryz.prog 220 [D_impl_Sig sig, (slD 1 iD) t, iD at'] (iD rr) := by
  delta F_spec_l1End at h
  refine fn220.pureL (vcm_sound ?_)
  delta mc220
  refine stp ?_
  refine m_loopF h [6, 7, 8, 9, 11, 12, 13, 14, 15, 16, 17, 18, 19, 20, 21, 22, 23, 24, 25, 26, 27, 28, 29, 30, 31, 32] (fun pp => [(7, .d (iD pp.1)), (8, .d (iD pp.2))]) (fun pp => [(3, .obj 43 [.d (slD 1 iD sig)])]) ?_ ?_
  · try dsimp only
    exact wk
  rintro ⟨need, i⟩ t1 h hb1
  unfold F_spec_l1End_l1 at h
  try dsimp only at h
  refine vcm_sound (stp ?_)
  rcases ite_some h with ⟨hc, h⟩ | ⟨hc, h⟩
  · refine stpc hc ?_
    obtain ⟨hp, h⟩ := need_some h
    repeat (refine need_i (by omega) ?_; refine stp ?_)
    obtain ⟨r, hr, h⟩ := bind_some h
    refine cD' (c_spec_l1Arity hr) (stp ?_)
    refine drQ_of (by kernel_rfl) ?_
    refine stp ?_
    rcases ite_some h with ⟨hc, h⟩ | ⟨hc, h⟩
    · refine stpc hc ?_
      replace h := inr_some h hb1
      cases h
      exact don
    refine stpc hc ?_
    rcases ite_some h with ⟨hc, h⟩ | ⟨hc, h⟩
    · refine stpc hc ?_
      replace h := inr_some h hb1
      cases h
      exact don
    refine stpc hc ?_
    cases h
    refine ⟨_, rfl, ?_⟩
    exact wk
  refine stpc hc ?_
  replace h := inr_some h hb1
  cases h
  exact don
def mc116 : MCode :=
 (.seq (.reg [⟨some 2, .box 2 43 (.tmp 0), none⟩, ⟨some 4, .mv (.const (.bool false)), none⟩]) (.seq (.reg [⟨some 5, .load 1 true (.tmp 2), none⟩, ⟨some 6, .callf 217 [.tmp 5], none⟩, ⟨some 7, .mv (.tmp 6), none⟩, ⟨some 8, .mv (.tmp 1), (some (some 7, true))⟩, ⟨some 9, .len (.tmp 8), (some (some 7, true))⟩, ⟨some 10, .callf 79 [.tmp 9, (.const (.int .i64 1)), (.const (.int .i64 60))], (some (some 7, true))⟩, ⟨some 11, .pick (.tmp 7) (.tmp 10) (.const (.bool false)), none⟩, ⟨some 12, .mv (.tmp 11), none⟩, ⟨some 13, .load 1 true (.tmp 2), (some (some 12, true))⟩, ⟨some 14, .mv (.tmp 1), (some (some 12, true))⟩, ⟨some 15, .callf 220 [.tmp 13, .tmp 14, (.const (.int .i64 0))], (some (some 12, true))⟩, ⟨some 16, .mv (.tmp 1), (some (some 12, true))⟩, ⟨some 17, .len (.tmp 16), (some (some 12, true))⟩, ⟨some 18, .bin .eql (.tmp 15) (.tmp 17), (some (some 12, true))⟩, ⟨some 19, .pick (.tmp 12) (.tmp 18) (.const (.bool false)), none⟩, ⟨some 4, .mv (.tmp 19), none⟩]) .ret))
theorem fn116 : MFn Tryz.prog 116 mc116 20 [.tmp 4] :=
  ⟨Tryz.f116, Tryz.func116, by kernel_rfl, Tryz.ntmps116, by kernel_rfl⟩
def F_spec_TermOk (sig : Ls) (t : Ls) : Option Bool :=
 (F_spec_SigOk sig).bind fun r =>
 if r = true then
  (F_spec_l1In (t.length : Int) 1 60).bind fun r_1 =>
  if r_1 = true then
   (F_spec_l1End sig t 0).bind fun r_2 =>
   some (r_2 == (t.length : Int))
  else
   some false
 else
  some false
theorem c_spec_TermOk {sig : Ls} {t : Ls} {rr : Bool} (h : F_spec_TermOk sig t = some rr) : PFun Tryz.prog 116 [D_impl_Sig sig, (slD 1 iD) t] (bD rr) := by
  delta F_spec_TermOk at h
  refine fn116.pureL (vcm_sound ?_)
  delta mc116
  refine stp ?_
  obtain ⟨r, hr, h⟩ := bind_some h
  refine cR (c_spec_SigOk hr) (stp ?_)
  rcases ite_some h with ⟨hc, h⟩ | ⟨hc, h⟩
  · refine stpc hc ?_
    obtain ⟨r_1, hr_1, h⟩ := bind_some h
    refine cR (c_spec_l1In hr_1) (stp ?_)
    rcases ite_some h with ⟨hc, h⟩ | ⟨hc, h⟩
    · refine stpc hc ?_
      obtain ⟨r_2, hr_2, h⟩ := bind_some h
      refine cR (c_spec_l1End hr_2) (stp ?_)
      cases h
      exact don
    refine stpc hc ?_
    cases h
    exact don
  refine stpc hc ?_
  cases h
  exact don
def mc379 : MCode :=
 (.seq (.reg [⟨some 4, .mv (.const (.int .i64 0)), none⟩]) (.seq (.seq (.reg [⟨some 6, .mv (.tmp 0), none⟩, ⟨some 7, .len (.tmp 6), none⟩, ⟨some 8, .mv (.const (.int .i64 0)), none⟩]) (.block 0 (.loop (.seq (.reg [⟨some 9, .bin .lss (.tmp 8) (.tmp 7), none⟩]) (.seq (.cond (.tmp 9) .skip (.exit 0)) (.seq (.block 1 (.seq (.reg [⟨some 10, .mv (.tmp 8), none⟩, ⟨some 5, .mv (.tmp 10), none⟩]) (.seq (.reg [⟨some 11, .mv (.tmp 1), none⟩, ⟨some 12, .mv (.tmp 0), none⟩, ⟨some 13, .mv (.tmp 5), none⟩, ⟨some 14, .ixa 1 (.tmp 12) (.tmp 13), none⟩, ⟨some 15, .load 1 false (.tmp 14), none⟩, ⟨some 16, .bin .eql (.tmp 11) (.tmp 15), none⟩]) (.cond (.tmp 16) (.seq (.reg [⟨some 17, .mv (.tmp 5), none⟩, ⟨some 4, .mv (.tmp 17), none⟩]) .ret) .skip)))) (.reg [⟨some 18, .bin .add (.tmp 8) (.const (.int .i64 1)), none⟩, ⟨some 8, .mv (.tmp 18), none⟩]))))))) (.seq (.reg [⟨some 4, .mv (.const (.int .i64 (-1))), none⟩]) .ret)))
theorem fn379 : MFn Tryz.prog 379 mc379 19 [.tmp 4] :=
  ⟨Tryz.f379, Tryz.func379, by kernel_rfl, Tryz.ntmps379, by kernel_rfl⟩
def F_slices_Index_int64_int64_l1 (s : Ls) (v : Int) : Int → Option (Int ⊕ Int)
 | v8 =>
  if (decide (v8 < (s.length : Int))) = true then
   if 0 ≤ v8 ∧ v8 < (s.length : Int) then
    if (v == (s.getD v8.toNat default)) = true then
     Option.map Sum.inr (
      some v8)
    else
     some (.inl (IntKind.i64.wrap (v8 + 1)))
   else none
  else
   Option.map Sum.inr (
    some (-1))
def F_slices_Index_int64_int64 (s : Ls) (v : Int) : Option Int :=
 loopC (F_slices_Index_int64_int64_l1 s v) 0
theorem c_slices_Index_int64_int64 {s : Ls} {v : Int} {rr : Int} (h : F_slices_Index_int64_int64 s v = some rr) : PFun Tryz.prog 379 [(slD 1 iD) s, iD v] (iD rr) := by
  delta F_slices_Index_int64_int64 at h
  refine fn379.pureL (vcm_sound ?_)
  delta mc379
  refine stp ?_
  refine m_loopF h [4, 5, 8, 9, 10, 11, 12, 13, 14, 15, 16, 17, 18] (fun pp => [(8, .d (iD pp))]) (fun pp => []) ?_ ?_
  · try dsimp only
    exact wk
  rintro v8 t1 h hb1
  unfold F_slices_Index_int64_int64_l1 at h
  try dsimp only at h
  refine vcm_sound (stp ?_)
  rcases ite_some h with ⟨hc, h⟩ | ⟨hc, h⟩
  · refine stpc hc ?_
    obtain ⟨hp, h⟩ := need_some h
    repeat (refine need_i (by omega) ?_; refine stp ?_)
    rcases ite_some h with ⟨hc, h⟩ | ⟨hc, h⟩
    · refine stpc hc ?_
      replace h := inr_some h hb1
      cases h
      exact don
    refine stpc hc ?_
    cases h
    refine ⟨_, rfl, ?_⟩
    exact wk
  refine stpc hc ?_
  replace h := inr_some h hb1
  cases h
  exact don
def mc315 : MCode :=
 (.seq (.reg [⟨some 4, .mv (.const (.bool false)), none⟩]) (.seq (.reg [⟨some 5, .mv (.tmp 0), none⟩, ⟨some 6, .mv (.tmp 1), none⟩, ⟨some 7, .callf 379 [.tmp 5, .tmp 6], none⟩, ⟨some 8, .bin .geq (.tmp 7) (.const (.int .i64 0)), none⟩, ⟨some 4, .mv (.tmp 8), none⟩]) .ret))
theorem fn315 : MFn Tryz.prog 315 mc315 9 [.tmp 4] :=
  ⟨Tryz.f315, Tryz.func315, by kernel_rfl, Tryz.ntmps315, by kernel_rfl⟩
def F_slices_Contains_int64_int64 (s : Ls) (v : Int) : Option Bool :=
 (F_slices_Index_int64_int64 s v).bind fun r =>
 some (decide (0 ≤ r))
theorem c_slices_Contains_int64_int64 {s : Ls} {v : Int} {rr : Bool} (h : F_slices_Contains_int64_int64 s v = some rr) : PFun Tryz.prog 315 [(slD 1 iD) s, iD v] (bD rr) := by
  delta F_slices_Contains_int64_int64 at h
  refine fn315.pureL (vcm_sound ?_)
  delta mc315
  refine stp ?_
  obtain ⟨r, hr, h⟩ := bind_some h
  refine cR (c_slices_Index_int64_int64 hr) (stp ?_)
  cases h
  exact don
def mc277 : MCode :=
 (.seq (.reg [⟨some 2, .box 2 43 (.tmp 0), none⟩, ⟨some 3, .box 3 146 (.tmp 1), none⟩, ⟨some 4, .mv (.const (.bool false)), none⟩]) (.seq (.seq (.reg [⟨some 7, .load 1 true (.tmp 2), none⟩, ⟨some 8, .fad 0 (.tmp 3), none⟩, ⟨some 9, .load 1 false (.tmp 8), none⟩, ⟨some 10, .callf 121 [.tmp 7, .tmp 9], none⟩, ⟨some 11, .un .not (.tmp 10), none⟩, ⟨some 12, .mv (.tmp 11), none⟩, ⟨some 13, .load 1 true (.tmp 2), (some (some 12, false))⟩, ⟨some 14, .fad 1 (.tmp 3), (some (some 12, false))⟩, ⟨some 15, .load 1 false (.tmp 14), (some (some 12, false))⟩, ⟨some 16, .callf 121 [.tmp 13, .tmp 15], (some (some 12, false))⟩, ⟨some 17, .un .not (.tmp 16), (some (some 12, false))⟩, ⟨some 18, .pick (.tmp 12) (.const (.bool true)) (.tmp 17), none⟩, ⟨some 19, .mv (.tmp 18), none⟩, ⟨some 20, .fad 0 (.tmp 3), (some (some 19, false))⟩, ⟨some 21, .load 1 false (.tmp 20), (some (some 19, false))⟩, ⟨some 22, .ixa 1 (.tmp 21) (.const (.int .i64 0)), (some (some 19, false))⟩, ⟨some 23, .load 1 false (.tmp 22), (some (some 19, false))⟩, ⟨some 24, .bin .lss (.tmp 23) (.const (.int .i64 0)), (some (some 19, false))⟩, ⟨some 25, .pick (.tmp 19) (.const (.bool true)) (.tmp 24), none⟩]) (.cond (.tmp 25) (.seq (.reg [⟨some 4, .mv (.const (.bool false)), none⟩]) .ret) .skip)) (.seq (.seq (.reg [⟨some 26, .fad 1 (.tmp 3), none⟩, ⟨some 27, .load 1 false (.tmp 26), none⟩, ⟨some 28, .len (.tmp 27), none⟩, ⟨some 29, .mv (.const (.int .i64 0)), none⟩]) (.block 0 (.loop (.seq (.reg [⟨some 30, .bin .lss (.tmp 29) (.tmp 28), none⟩]) (.seq (.cond (.tmp 30) .skip (.exit 0)) (.seq (.block 1 (.seq (.reg [⟨some 31, .ixa 1 (.tmp 27) (.tmp 29), none⟩, ⟨some 32, .load 1 false (.tmp 31), none⟩, ⟨some 6, .mv (.tmp 32), none⟩]) (.seq (.reg [⟨some 33, .mv (.tmp 6), none⟩, ⟨some 34, .bin .lss (.tmp 33) (.const (.int .i64 0)), none⟩, ⟨some 35, .mv (.tmp 34), none⟩, ⟨some 36, .fad 0 (.tmp 3), (some (some 35, true))⟩, ⟨some 37, .load 1 false (.tmp 36), (some (some 35, true))⟩, ⟨some 38, .mv (.tmp 6), (some (some 35, true))⟩, ⟨some 39, .callf 315 [.tmp 37, .tmp 38], (some (some 35, true))⟩, ⟨some 40, .un .not (.tmp 39), (some (some 35, true))⟩, ⟨some 41, .pick (.tmp 35) (.tmp 40) (.const (.bool false)), none⟩]) (.cond (.tmp 41) (.seq (.reg [⟨some 4, .mv (.const (.bool false)), none⟩]) .ret) .skip)))) (.reg [⟨some 42, .bin .add (.tmp 29) (.const (.int .i64 1)), none⟩, ⟨some 29, .mv (.tmp 42), none⟩]))))))) (.seq (.reg [⟨some 4, .mv (.const (.bool true)), none⟩]) .ret))))
theorem fn277 : MFn Tryz.prog 277 mc277 43 [.tmp 4] :=
  ⟨Tryz.f277, Tryz.func277, by kernel_rfl, Tryz.ntmps277, by kernel_rfl⟩
def F_impl_RuleOk_l1 (r : (Ls × Ls)) : Int → Option (Int ⊕ Bool)
 | v29 =>
  if (decide (v29 < (r.2.length : Int))) = true then
   if 0 ≤ v29 ∧ v29 < (r.2.length : Int) then
    if (decide ((r.2.getD v29.toNat default) < 0)) = true then
     (F_slices_Contains_int64_int64 r.1 (r.2.getD v29.toNat default)).bind fun r_3 =>
     if r_3 = true then
      some (.inl (IntKind.i64.wrap (v29 + 1)))
     else
      Option.map Sum.inr (
       some false)
    else
     some (.inl (IntKind.i64.wrap (v29 + 1)))
   else none
  else
   Option.map Sum.inr (
    some true)
def F_impl_RuleOk (sig : Ls) (r : (Ls × Ls)) : Option Bool :=
 (F_impl_TermOk sig r.1).bind fun r_1 =>
 if r_1 = true then
  (F_impl_TermOk sig r.2).bind fun r_2 =>
  if r_2 = true then
   if 0 ≤ 0 ∧ 0 < (r.1.length : Int) then
    if (decide ((r.1.getD 0 default) < 0)) = true then
     some false
    else
     loopC (F_impl_RuleOk_l1 r) 0
   else none
  else
   some false
 else
  some false
theorem c_impl_RuleOk {sig : Ls} {r : (Ls × Ls)} {rr : Bool} (h : F_impl_RuleOk sig r = some rr) : PFun Tryz.prog 277 [D_impl_Sig sig, D_impl_Rule r] (bD rr) := by
  delta F_impl_RuleOk at h
  refine fn277.pureL (vcm_sound ?_)
  delta mc277
  refine stp ?_
  obtain ⟨r_1, hr_1, h⟩ := bind_some h
  refine cR (c_impl_TermOk hr_1) (stp ?_)
  rcases ite_some h with ⟨hc, h⟩ | ⟨hc, h⟩
  · refine stpc hc ?_
    obtain ⟨r_2, hr_2, h⟩ := bind_some h
    refine cR (c_impl_TermOk hr_2) (stp ?_)
    rcases ite_some h with ⟨hc, h⟩ | ⟨hc, h⟩
    · refine stpc hc ?_
      obtain ⟨hp, h⟩ := need_some h
      repeat (refine need_i (by omega) ?_; refine stp ?_)
      rcases ite_some h with ⟨hc, h⟩ | ⟨hc, h⟩
      · refine stpc hc ?_
        cases h
        exact don
      refine stpc hc ?_
      refine m_loopF h [4, 6, 29, 30, 31, 32, 33, 34, 35, 36, 37, 38, 39, 40, 41, 42] (fun pp => [(29, .d (iD pp))]) (fun pp => [(2, .obj 43 [.d (slD 1 iD sig)]), (3, .obj 146 [.d (slD 1 iD r.1), .d (slD 1 iD r.2)])]) ?_ ?_
      · try dsimp only
        exact wk
      rintro v29 t1 h hb1
      unfold F_impl_RuleOk_l1 at h
      try dsimp only at h
      refine vcm_sound (stp ?_)
      rcases ite_some h with ⟨hc, h⟩ | ⟨hc, h⟩
      · refine stpc hc ?_
        obtain ⟨hp, h⟩ := need_some h
        repeat (refine need_i (by omega) ?_; refine stp ?_)
        rcases ite_some h with ⟨hc, h⟩ | ⟨hc, h⟩
        · refine stpc hc ?_
          obtain ⟨r_3, hr_3, h⟩ := bind_some h
          refine cR (c_slices_Contains_int64_int64 hr_3) (stp ?_)
          rcases ite_some h with ⟨hc, h⟩ | ⟨hc, h⟩
          · refine stpc hc ?_
            cases h
            refine ⟨_, rfl, ?_⟩
            exact wk
          refine stpc hc ?_
          replace h := inr_some h hb1
          cases h
          exact don
        refine stpc hc ?_
        cases h
        refine ⟨_, rfl, ?_⟩
        exact wk
      refine stpc hc ?_
      replace h := inr_some h hb1
      cases h
      exact don
    refine stpc hc ?_
    cases h
    exact don
  refine stpc hc ?_
  cases h
  exact don
def mc167 : MCode :=
 (.seq (.reg [⟨some 1, .box 1 46 (.tmp 0), none⟩, ⟨some 2, .mv (.const (.bool false)), none⟩]) (.seq (.seq (.reg [⟨some 5, .fad 0 (.tmp 1), none⟩, ⟨some 6, .load 1 true (.tmp 5), none⟩, ⟨some 7, .callf 223 [.tmp 6], none⟩, ⟨some 8, .un .not (.tmp 7), none⟩, ⟨some 9, .mv (.tmp 8), none⟩, ⟨some 10, .fad 1 (.tmp 1), (some (some 9, false))⟩, ⟨some 11, .load 1 false (.tmp 10), (some (some 9, false))⟩, ⟨some 12, .len (.tmp 11), (some (some 9, false))⟩, ⟨some 13, .bin .gtr (.tmp 12) (.const (.int .i64 12)), (some (some 9, false))⟩, ⟨some 14, .pick (.tmp 9) (.const (.bool true)) (.tmp 13), none⟩]) (.cond (.tmp 14) (.seq (.reg [⟨some 2, .mv (.const (.bool false)), none⟩]) .ret) .skip)) (.seq (.seq (.reg [⟨some 15, .fad 1 (.tmp 1), none⟩, ⟨some 16, .load 1 false (.tmp 15), none⟩, ⟨some 17, .len (.tmp 16), none⟩, ⟨some 18, .mv (.const (.int .i64 0)), none⟩]) (.block 0 (.loop (.seq (.reg [⟨some 19, .bin .lss (.tmp 18) (.tmp 17), none⟩]) (.seq (.cond (.tmp 19) .skip (.exit 0)) (.seq (.block 1 (.seq (.reg [⟨some 20, .ixa 2 (.tmp 16) (.tmp 18), none⟩, ⟨some 21, .load 2 true (.tmp 20), none⟩, ⟨some 4, .alloc 4 146 [.sl 0 (some true) [], .sl 0 (some true) []], none⟩, ⟨none, .store 2 (.tmp 4) (.tmp 21), none⟩]) (.seq (.reg [⟨some 22, .fad 0 (.tmp 1), none⟩, ⟨some 23, .load 1 true (.tmp 22), none⟩, ⟨some 24, .load 2 true (.tmp 4), none⟩, ⟨some 25, .callf 277 [.tmp 23, .tmp 24], none⟩, ⟨some 26, .un .not (.tmp 25), none⟩]) (.cond (.tmp 26) (.seq (.reg [⟨some 2, .mv (.const (.bool false)), none⟩]) .ret) .skip)))) (.reg [⟨some 27, .bin .add (.tmp 18) (.const (.int .i64 1)), none⟩, ⟨some 18, .mv (.tmp 27), none⟩]))))))) (.seq (.reg [⟨some 2, .mv (.const (.bool true)), none⟩]) .ret))))
theorem fn167 : MFn Tryz.prog 167 mc167 28 [.tmp 2] :=
  ⟨Tryz.f167, Tryz.func167, by kernel_rfl, Tryz.ntmps167, by kernel_rfl⟩
def F_impl_SystemOk_l1 (sys : (Ls × (List (Ls × Ls)))) : Int → Option (Int ⊕ Bool)
 | v18 =>
  if (decide (v18 < (sys.2.length : Int))) = true then
   if 0 ≤ v18 ∧ v18 < (sys.2.length : Int) then
    (F_impl_RuleOk sys.1 ((sys.2.getD v18.toNat default).1, (sys.2.getD v18.toNat default).2)).bind fun r_1 =>
    if r_1 = true then
     some (.inl (IntKind.i64.wrap (v18 + 1)))
    else
     Option.map Sum.inr (
      some false)
   else none
  else
   Option.map Sum.inr (
    some true)
def F_impl_SystemOk (sys : (Ls × (List (Ls × Ls)))) : Option Bool :=
 (F_impl_SigOk sys.1).bind fun r =>
 if r = true then
  if (decide (12 < (sys.2.length : Int))) = true then
   some false
  else
   loopC (F_impl_SystemOk_l1 sys) 0
 else
  some false
theorem c_impl_SystemOk {sys : (Ls × (List (Ls × Ls)))} {rr : Bool} (h : F_impl_SystemOk sys = some rr) : PFun Tryz.prog 167 [D_impl_System sys] (bD rr) := by
  delta F_impl_SystemOk at h
  refine fn167.pureL (vcm_sound ?_)
  delta mc167
  refine stp ?_
  obtain ⟨r, hr, h⟩ := bind_some h
  refine cR (c_impl_SigOk hr) (stp ?_)
  rcases ite_some h with ⟨hc, h⟩ | ⟨hc, h⟩
  · refine stpc hc ?_
    rcases ite_some h with ⟨hc, h⟩ | ⟨hc, h⟩
    · refine stpc hc ?_
      cases h
      exact don
    refine stpc hc ?_
    refine m_loopF h [2, 4, 18, 19, 20, 21, 22, 23, 24, 25, 26, 27] (fun pp => [(18, .d (iD pp))]) (fun pp => [(1, .obj 46 [.d (slD 1 iD sys.1), .d (slD 2 D_impl_Rule sys.2)])]) ?_ ?_
    · try dsimp only
      exact wk
    rintro v18 t1 h hb1
    unfold F_impl_SystemOk_l1 at h
    try dsimp only at h
    refine vcm_sound (stp ?_)
    rcases ite_some h with ⟨hc, h⟩ | ⟨hc, h⟩
    · refine stpc hc ?_
      obtain ⟨hp, h⟩ := need_some h
      repeat (refine need_i (by omega) ?_; refine stp ?_)
      obtain ⟨r_1, hr_1, h⟩ := bind_some h
      refine cR (c_impl_RuleOk hr_1) (stp ?_)
      rcases ite_some h with ⟨hc, h⟩ | ⟨hc, h⟩
      · refine stpc hc ?_
        cases h
        refine ⟨_, rfl, ?_⟩
        refine (Weak.drop 4 (by omega)).trans ?_
        exact wk
      refine stpc hc ?_
      replace h := inr_some h hb1
      cases h
      exact don
    refine stpc hc ?_
    replace h := inr_some h hb1
    cases h
    exact don
  refine stpc hc ?_
  cases h
  exact don
def mc286 : MCode :=
 (.seq (.reg [⟨some 4, .mv (.const (.bool false)), none⟩]) (.seq (.seq (.reg [⟨some 5, .mv (.const (.int .i64 0)), none⟩]) (.block 0 (.loop (.seq (.seq (.reg [⟨some 6, .mv (.tmp 5), none⟩, ⟨some 7, .mv (.tmp 0), none⟩, ⟨some 8, .len (.tmp 7), none⟩, ⟨some 9, .bin .lss (.tmp 6) (.tmp 8), none⟩]) (.cond (.tmp 9) .skip (.exit 0))) (.seq (.block 1 (.seq (.reg [⟨some 12, .mv (.tmp 0), none⟩, ⟨some 13, .mv (.tmp 5), none⟩, ⟨some 14, .ixa 1 (.tmp 12) (.tmp 13), none⟩, ⟨some 15, .load 1 false (.tmp 14), none⟩, ⟨some 16, .mv (.tmp 1), none⟩, ⟨some 17, .bin .eql (.tmp 15) (.tmp 16), none⟩]) (.cond (.tmp 17) (.seq (.reg [⟨some 4, .mv (.const (.bool true)), none⟩]) .ret) .skip))) (.reg [⟨some 10, .mv (.tmp 5), none⟩, ⟨some 11, .bin .add (.tmp 10) (.const (.int .i64 1)), none⟩, ⟨some 5, .mv (.tmp 11), none⟩])))))) (.seq (.reg [⟨some 4, .mv (.const (.bool false)), none⟩]) .ret)))
theorem fn286 : MFn Tryz.prog 286 mc286 18 [.tmp 4] :=
  ⟨Tryz.f286, Tryz.func286, by kernel_rfl, Tryz.ntmps286, by kernel_rfl⟩
def F_spec_l1Has_l1 (s : Ls) (n : Int) : Int → Option (Int ⊕ Bool)
 | i =>
  if (decide (i < (s.length : Int))) = true then
   if 0 ≤ i ∧ i < (s.length : Int) then
    if ((s.getD i.toNat default) == n) = true then
     Option.map Sum.inr (
      some true)
    else
     some (.inl (IntKind.i64.wrap (i + 1)))
   else none
  else
   Option.map Sum.inr (
    some false)
def F_spec_l1Has (s : Ls) (n : Int) : Option Bool :=
 loopC (F_spec_l1Has_l1 s n) 0
theorem c_spec_l1Has {s : Ls} {n : Int} {rr : Bool} (h : F_spec_l1Has s n = some rr) : PFun Tryz.prog 286 [(slD 1 iD) s, iD n] (bD rr) := by
  delta F_spec_l1Has at h
  refine fn286.pureL (vcm_sound ?_)
  delta mc286
  refine stp ?_
  refine m_loopF h [4, 5, 6, 7, 8, 9, 10, 11, 12, 13, 14, 15, 16, 17] (fun pp => [(5, .d (iD pp))]) (fun pp => []) ?_ ?_
  · try dsimp only
    exact wk
  rintro i t1 h hb1
  unfold F_spec_l1Has_l1 at h
  try dsimp only at h
  refine vcm_sound (stp ?_)
  rcases ite_some h with ⟨hc, h⟩ | ⟨hc, h⟩
  · refine stpc hc ?_
    obtain ⟨hp, h⟩ := need_some h
    repeat (refine need_i (by omega) ?_; refine stp ?_)
    rcases ite_some h with ⟨hc, h⟩ | ⟨hc, h⟩
    · refine stpc hc ?_
      replace h := inr_some h hb1
      cases h
      exact don
    refine stpc hc ?_
    cases h
    refine ⟨_, rfl, ?_⟩
    exact wk
  refine stpc hc ?_
  replace h := inr_some h hb1
  cases h
  exact don
def mc218 : MCode :=
 (.seq (.reg [⟨some 2, .box 2 43 (.tmp 0), none⟩, ⟨some 3, .box 3 146 (.tmp 1), none⟩, ⟨some 4, .mv (.const (.bool false)), none⟩]) (.seq (.seq (.reg [⟨some 6, .load 1 true (.tmp 2), none⟩, ⟨some 7, .fad 0 (.tmp 3), none⟩, ⟨some 8, .load 1 false (.tmp 7), none⟩, ⟨some 9, .callf 116 [.tmp 6, .tmp 8], none⟩, ⟨some 10, .un .not (.tmp 9), none⟩, ⟨some 11, .mv (.tmp 10), none⟩, ⟨some 12, .load 1 true (.tmp 2), (some (some 11, false))⟩, ⟨some 13, .fad 1 (.tmp 3), (some (some 11, false))⟩, ⟨some 14, .load 1 false (.tmp 13), (some (some 11, false))⟩, ⟨some 15, .callf 116 [.tmp 12, .tmp 14], (some (some 11, false))⟩, ⟨some 16, .un .not (.tmp 15), (some (some 11, false))⟩, ⟨some 17, .pick (.tmp 11) (.const (.bool true)) (.tmp 16), none⟩, ⟨some 18, .mv (.tmp 17), none⟩, ⟨some 19, .fad 0 (.tmp 3), (some (some 18, false))⟩, ⟨some 20, .load 1 false (.tmp 19), (some (some 18, false))⟩, ⟨some 21, .ixa 1 (.tmp 20) (.const (.int .i64 0)), (some (some 18, false))⟩, ⟨some 22, .load 1 false (.tmp 21), (some (some 18, false))⟩, ⟨some 23, .bin .lss (.tmp 22) (.const (.int .i64 0)), (some (some 18, false))⟩, ⟨some 24, .pick (.tmp 18) (.const (.bool true)) (.tmp 23), none⟩]) (.cond (.tmp 24) (.seq (.reg [⟨some 4, .mv (.const (.bool false)), none⟩]) .ret) .skip)) (.seq (.seq (.reg [⟨some 5, .mv (.const (.int .i64 0)), none⟩]) (.block 0 (.loop (.seq (.seq (.reg [⟨some 25, .mv (.tmp 5), none⟩, ⟨some 26, .fad 1 (.tmp 3), none⟩, ⟨some 27, .load 1 false (.tmp 26), none⟩, ⟨some 28, .len (.tmp 27), none⟩, ⟨some 29, .bin .lss (.tmp 25) (.tmp 28), none⟩]) (.cond (.tmp 29) .skip (.exit 0))) (.seq (.block 1 (.seq (.draw [⟨some 32, .fad 1 (.tmp 3), none⟩, ⟨some 33, .load 1 false (.tmp 32), none⟩, ⟨some 34, .mv (.tmp 5), none⟩, ⟨some 35, .ixa 1 (.tmp 33) (.tmp 34), none⟩, ⟨some 36, .load 1 false (.tmp 35), none⟩, ⟨some 37, .bin .lss (.tmp 36) (.const (.int .i64 0)), none⟩, ⟨some 38, .mv (.tmp 37), none⟩, ⟨some 39, .fad 0 (.tmp 3), (some (some 38, true))⟩, ⟨some 40, .load 1 false (.tmp 39), (some (some 38, true))⟩, ⟨some 41, .fad 1 (.tmp 3), (some (some 38, true))⟩, ⟨some 42, .load 1 false (.tmp 41), (some (some 38, true))⟩, ⟨some 43, .mv (.tmp 5), (some (some 38, true))⟩, ⟨some 44, .ixa 1 (.tmp 42) (.tmp 43), (some (some 38, true))⟩, ⟨some 45, .load 1 false (.tmp 44), (some (some 38, true))⟩, ⟨some 46, .callf 286 [.tmp 40, .tmp 45], (some (some 38, true))⟩, ⟨some 47, .un .not (.tmp 46), (some (some 38, true))⟩, ⟨some 48, .pick (.tmp 38) (.tmp 47) (.const (.bool false)), none⟩] [[], [0], [], [1, 2], [3], [4], [5], [6], [7, 6], [6], [9, 6], [6], [10, 11, 6], [12, 6], [8, 13, 6, 6], [14, 6], [6, 15]]) (.cond (.tmp 48) (.seq (.reg [⟨some 4, .mv (.const (.bool false)), none⟩]) .ret) .skip))) (.reg [⟨some 30, .mv (.tmp 5), none⟩, ⟨some 31, .bin .add (.tmp 30) (.const (.int .i64 1)), none⟩, ⟨some 5, .mv (.tmp 31), none⟩])))))) (.seq (.reg [⟨some 4, .mv (.const (.bool true)), none⟩]) .ret))))
theorem fn218 : MFn Tryz.prog 218 mc218 49 [.tmp 4] :=
  ⟨Tryz.f218, Tryz.func218, by kernel_rfl, Tryz.ntmps218, by kernel_rfl⟩
def F_spec_RuleOk_l1 (r : (Ls × Ls)) : Int → Option (Int ⊕ Bool)
 | i =>
  if (decide (i < (r.2.length : Int))) = true then
   if 0 ≤ i ∧ i < (r.2.length : Int) then
    if (decide ((r.2.getD i.toNat default) < 0)) = true then
     if 0 ≤ i ∧ i < (r.2.length : Int) then
      (F_spec_l1Has r.1 (r.2.getD i.toNat default)).bind fun r_3 =>
      if r_3 = true then
       some (.inl (IntKind.i64.wrap (i + 1)))
      else
       Option.map Sum.inr (
        some false)
     else none
    else
     some (.inl (IntKind.i64.wrap (i + 1)))
   else none
  else
   Option.map Sum.inr (
    some true)
def F_spec_RuleOk (sig : Ls) (r : (Ls × Ls)) : Option Bool :=
 (F_spec_TermOk sig r.1).bind fun r_1 =>
 if r_1 = true then
  (F_spec_TermOk sig r.2).bind fun r_2 =>
  if r_2 = true then
   if 0 ≤ 0 ∧ 0 < (r.1.length : Int) then
    if (decide ((r.1.getD 0 default) < 0)) = true then
     some false
    else
     loopC (F_spec_RuleOk_l1 r) 0
   else none
  else
   some false
 else
  some false
theorem c_spec_RuleOk {sig : Ls} {r : (Ls × Ls)} {rr : Bool} (h : F_spec_RuleOk sig r = some rr) : PFun Tryz.prog 218 [D_impl_Sig sig, D_impl_Rule r] (bD rr) := by
  delta F_spec_RuleOk at h
  refine fn218.pureL (vcm_sound ?_)
  delta mc218
  refine stp ?_
  obtain ⟨r_1, hr_1, h⟩ := bind_some h
  refine cR (c_spec_TermOk hr_1) (stp ?_)
  rcases ite_some h with ⟨hc, h⟩ | ⟨hc, h⟩
  · refine stpc hc ?_
    obtain ⟨r_2, hr_2, h⟩ := bind_some h
    refine cR (c_spec_TermOk hr_2) (stp ?_)
    rcases ite_some h with ⟨hc, h⟩ | ⟨hc, h⟩
    · refine stpc hc ?_
      obtain ⟨hp, h⟩ := need_some h
      repeat (refine need_i (by omega) ?_; refine stp ?_)
      rcases ite_some h with ⟨hc, h⟩ | ⟨hc, h⟩
      · refine stpc hc ?_
        cases h
        exact don
      refine stpc hc ?_
      refine m_loopF h [4, 5, 25, 26, 27, 28, 29, 30, 31, 32, 33, 34, 35, 36, 37, 38, 39, 40, 41, 42, 43, 44, 45, 46, 47, 48] (fun pp => [(5, .d (iD pp))]) (fun pp => [(2, .obj 43 [.d (slD 1 iD sig)]), (3, .obj 146 [.d (slD 1 iD r.1), .d (slD 1 iD r.2)])]) ?_ ?_
      · try dsimp only
        exact wk
      rintro i t1 h hb1
      unfold F_spec_RuleOk_l1 at h
      try dsimp only at h
      refine vcm_sound (stp ?_)
      rcases ite_some h with ⟨hc, h⟩ | ⟨hc, h⟩
      · refine stpc hc ?_
        obtain ⟨hp, h⟩ := need_some h
        repeat (refine need_i (by omega) ?_; refine stp ?_)
        rcases ite_some h with ⟨hc, h⟩ | ⟨hc, h⟩
        · refine stpc hc ?_
          obtain ⟨hp, h⟩ := need_some h
          repeat (refine need_i (by omega) ?_; refine stp ?_)
          obtain ⟨r_3, hr_3, h⟩ := bind_some h
          refine cD' (c_spec_l1Has hr_3) (stp ?_)
          refine drQ_of (by kernel_rfl) ?_
          refine stp ?_
          rcases ite_some h with ⟨hc, h⟩ | ⟨hc, h⟩
          · refine stpc hc ?_
            cases h
            refine ⟨_, rfl, ?_⟩
            exact wk
          refine stpc hc ?_
          replace h := inr_some h hb1
          cases h
          exact don
        refine stpc hc ?_
        refine drQ_of (by kernel_rfl) ?_
        refine stp ?_
        cases h
        refine ⟨_, rfl, ?_⟩
        exact wk
      refine stpc hc ?_
      replace h := inr_some h hb1
      cases h
      exact don
    refine stpc hc ?_
    cases h
    exact don
  refine stpc hc ?_
  cases h
  exact don
def mc113 : MCode :=
 (.seq (.reg [⟨some 1, .box 1 46 (.tmp 0), none⟩, ⟨some 2, .mv (.const (.bool false)), none⟩]) (.seq (.seq (.reg [⟨some 4, .fad 0 (.tmp 1), none⟩, ⟨some 5, .load 1 true (.tmp 4), none⟩, ⟨some 6, .callf 217 [.tmp 5], none⟩, ⟨some 7, .un .not (.tmp 6), none⟩, ⟨some 8, .mv (.tmp 7), none⟩, ⟨some 9, .fad 1 (.tmp 1), (some (some 8, false))⟩, ⟨some 10, .load 1 false (.tmp 9), (some (some 8, false))⟩, ⟨some 11, .len (.tmp 10), (some (some 8, false))⟩, ⟨some 12, .bin .gtr (.tmp 11) (.const (.int .i64 12)), (some (some 8, false))⟩, ⟨some 13, .pick (.tmp 8) (.const (.bool true)) (.tmp 12), none⟩]) (.cond (.tmp 13) (.seq (.reg [⟨some 2, .mv (.const (.bool false)), none⟩]) .ret) .skip)) (.seq (.seq (.reg [⟨some 3, .mv (.const (.int .i64 0)), none⟩]) (.block 0 (.loop (.seq (.seq (.reg [⟨some 14, .mv (.tmp 3), none⟩, ⟨some 15, .fad 1 (.tmp 1), none⟩, ⟨some 16, .load 1 false (.tmp 15), none⟩, ⟨some 17, .len (.tmp 16), none⟩, ⟨some 18, .bin .lss (.tmp 14) (.tmp 17), none⟩]) (.cond (.tmp 18) .skip (.exit 0))) (.seq (.block 1 (.seq (.draw [⟨some 21, .fad 0 (.tmp 1), none⟩, ⟨some 22, .load 1 true (.tmp 21), none⟩, ⟨some 23, .fad 1 (.tmp 1), none⟩, ⟨some 24, .load 1 false (.tmp 23), none⟩, ⟨some 25, .mv (.tmp 3), none⟩, ⟨some 26, .ixa 2 (.tmp 24) (.tmp 25), none⟩, ⟨some 27, .load 2 true (.tmp 26), none⟩, ⟨some 28, .callf 218 [.tmp 22, .tmp 27], none⟩, ⟨some 29, .un .not (.tmp 28), none⟩] [[], [0], [], [2], [], [3, 4], [5], [1, 6], [7]]) (.cond (.tmp 29) (.seq (.reg [⟨some 2, .mv (.const (.bool false)), none⟩]) .ret) .skip))) (.reg [⟨some 19, .mv (.tmp 3), none⟩, ⟨some 20, .bin .add (.tmp 19) (.const (.int .i64 1)), none⟩, ⟨some 3, .mv (.tmp 20), none⟩])))))) (.seq (.reg [⟨some 2, .mv (.const (.bool true)), none⟩]) .ret))))
theorem fn113 : MFn Tryz.prog 113 mc113 30 [.tmp 2] :=
  ⟨Tryz.f113, Tryz.func113, by kernel_rfl, Tryz.ntmps113, by kernel_rfl⟩
def F_spec_SystemOk_l1 (sys : (Ls × (List (Ls × Ls)))) : Int → Option (Int ⊕ Bool)
 | i =>
  if (decide (i < (sys.2.length : Int))) = true then
   if 0 ≤ i ∧ i < (sys.2.length : Int) then
    (F_spec_RuleOk sys.1 ((sys.2.getD i.toNat default).1, (sys.2.getD i.toNat default).2)).bind fun r_1 =>
    if r_1 = true then
     some (.inl (IntKind.i64.wrap (i + 1)))
    else
     Option.map Sum.inr (
      some false)
   else none
  else
   Option.map Sum.inr (
    some true)
def F_spec_SystemOk (sys : (Ls × (List (Ls × Ls)))) : Option Bool :=
 (F_spec_SigOk sys.1).bind fun r =>
 if r = true then
  if (decide (12 < (sys.2.length : Int))) = true then
   some false
  else
   loopC (F_spec_SystemOk_l1 sys) 0
 else
  some false
theorem c_spec_SystemOk {sys : (Ls × (List (Ls × Ls)))} {rr : Bool} (h : F_spec_SystemOk sys = some rr) : PFun Tryz.prog 113 [D_impl_System sys] (bD rr) := by
  delta F_spec_SystemOk at h
  refine fn113.pureL (vcm_sound ?_)
  delta mc113
  refine stp ?_
  obtain ⟨r, hr, h⟩ := bind_some h
  refine cR (c_spec_SigOk hr) (stp ?_)
  rcases ite_some h with ⟨hc, h⟩ | ⟨hc, h⟩
  · refine stpc hc ?_
    rcases ite_some h with ⟨hc, h⟩ | ⟨hc, h⟩
    · refine stpc hc ?_
      cases h
      exact don
    refine stpc hc ?_
    refine m_loopF h [2, 3, 14, 15, 16, 17, 18, 19, 20, 21, 22, 23, 24, 25, 26, 27, 28, 29] (fun pp => [(3, .d (iD pp))]) (fun pp => [(1, .obj 46 [.d (slD 1 iD sys.1), .d (slD 2 D_impl_Rule sys.2)])]) ?_ ?_
    · try dsimp only
      exact wk
    rintro i t1 h hb1
    unfold F_spec_SystemOk_l1 at h
    try dsimp only at h
    refine vcm_sound (stp ?_)
    rcases ite_some h with ⟨hc, h⟩ | ⟨hc, h⟩
    · refine stpc hc ?_
      obtain ⟨hp, h⟩ := need_some h
      repeat (refine need_i (by omega) ?_; refine stp ?_)
      obtain ⟨r_1, hr_1, h⟩ := bind_some h
      refine cD' (c_spec_RuleOk hr_1) (stp ?_)
      refine drQ_of (by kernel_rfl) ?_
      refine stp ?_
      rcases ite_some h with ⟨hc, h⟩ | ⟨hc, h⟩
      · refine stpc hc ?_
        cases h
        refine ⟨_, rfl, ?_⟩
        exact wk
      refine stpc hc ?_
      replace h := inr_some h hb1
      cases h
      exact don
    refine stpc hc ?_
    replace h := inr_some h hb1
    cases h
    exact don
  refine stpc hc ?_
  cases h
  exact don
end
end Go.Proofs.YtcaljngigbfadaaGreat
