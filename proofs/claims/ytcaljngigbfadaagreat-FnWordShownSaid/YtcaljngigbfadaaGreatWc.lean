/- Functions of the program and the equations that they compute, third part; nothing is assumed. -/
import Derived.Test.YtcaljngigbfadaaGreatWb
set_option linter.unusedSimpArgs false
set_option linter.unusedVariables false
set_option linter.unusedSectionVars false
namespace Go.Proofs.YtcaljngigbfadaaGreat
noncomputable section
open Go Abx
attribute [local irreducible] vcm vgo vdr vrun vdrun MWp GhostQ BrC BrO BrG BrD BrH AmbO callR callD drQ EnvLe StoLe
set_option maxHeartbeats 4000000
def D_impl_Step (x : (Int × Int × Ls)) : D := .agg [iD x.1, iD x.2.1, (slD 1 iD) x.2.2]
def D_impl_Walk (x : (Ls × (List (Int × Int × Ls)))) : D := .agg [(slD 1 iD) x.1, (slD 3 D_impl_Step) x.2]
instance : Cel D_impl_Step 3 := ⟨fun _ => rfl⟩
instance : Cel D_impl_Walk 2 := ⟨fun _ => rfl⟩
attribute [go_sem] D_impl_Step D_impl_Walk
def mc229 : MCode :=
 (.seq (.reg [⟨some 3, .box 3 43 (.tmp 0), none⟩, ⟨some 6, .mv (.const (.bool false)), none⟩]) (.seq (.reg [⟨some 7, .load 1 true (.tmp 3), none⟩, ⟨some 8, .mv (.tmp 1), none⟩, ⟨some 9, .callf 121 [.tmp 7, .tmp 8], none⟩, ⟨some 10, .mv (.tmp 9), none⟩, ⟨some 11, .mv (.tmp 2), (some (some 10, true))⟩, ⟨some 12, .bin .geq (.tmp 11) (.const (.int .i64 0)), (some (some 10, true))⟩, ⟨some 13, .pick (.tmp 10) (.tmp 12) (.const (.bool false)), none⟩, ⟨some 14, .mv (.tmp 13), none⟩, ⟨some 15, .mv (.tmp 2), (some (some 14, true))⟩, ⟨some 16, .mv (.tmp 1), (some (some 14, true))⟩, ⟨some 17, .len (.tmp 16), (some (some 14, true))⟩, ⟨some 18, .bin .lss (.tmp 15) (.tmp 17), (some (some 14, true))⟩, ⟨some 19, .pick (.tmp 14) (.tmp 18) (.const (.bool false)), none⟩, ⟨some 6, .mv (.tmp 19), none⟩]) .ret))
theorem fn229 : MFn Tryz.prog 229 mc229 20 [.tmp 6] :=
 ⟨Tryz.f229, Tryz.func229, by kernel_rfl, Tryz.ntmps229, by kernel_rfl⟩
def F_impl_posOk (sig : Ls) (t : Ls) (at' : Int) : Option Bool :=
 (F_impl_TermOk sig t).bind fun r =>
 if r = true then
  if (decide (0 ≤ at')) = true then
   some (decide (at' < (t.length : Int)))
  else
   some false
 else
  some false
theorem c_impl_posOk {sig : Ls} {t : Ls} {at' : Int} {rr : Bool} (h : F_impl_posOk sig t at' = some rr) : PFun Tryz.prog 229 [D_impl_Sig sig, (slD 1 iD) t, iD at'] (bD rr) := by
  delta F_impl_posOk at h
  refine fn229.pureL (vcm_sound ?_)
  delta mc229
  refine stp ?_
  obtain ⟨r, hr, h⟩ := bind_some h
  refine cR (c_impl_TermOk hr) (stp ?_)
  rcases ite_some h with ⟨hc, h⟩ | ⟨hc, h⟩
  · refine stpc hc ?_
    rcases ite_some h with ⟨hc, h⟩ | ⟨hc, h⟩
    · refine stpc hc ?_
      cases h
      exact don
    refine stpc hc ?_
    cases h
    exact don
  refine stpc hc ?_
  cases h
  exact don
def mc375 : MCode :=
 (.seq (.reg [⟨some 4, .box 4 46 (.tmp 0), none⟩, ⟨some 8, .mv (.const (.bool false)), none⟩]) (.seq (.reg [⟨some 9, .load 2 true (.tmp 4), none⟩, ⟨some 10, .callf 167 [.tmp 9], none⟩, ⟨some 11, .mv (.tmp 10), none⟩, ⟨some 12, .fad 0 (.tmp 4), (some (some 11, true))⟩, ⟨some 13, .load 1 true (.tmp 12), (some (some 11, true))⟩, ⟨some 14, .mv (.tmp 1), (some (some 11, true))⟩, ⟨some 15, .mv (.tmp 2), (some (some 11, true))⟩, ⟨some 16, .callf 229 [.tmp 13, .tmp 14, .tmp 15], (some (some 11, true))⟩, ⟨some 17, .pick (.tmp 11) (.tmp 16) (.const (.bool false)), none⟩, ⟨some 18, .mv (.tmp 17), none⟩, ⟨some 19, .mv (.tmp 3), (some (some 18, true))⟩, ⟨some 20, .bin .geq (.tmp 19) (.const (.int .i64 0)), (some (some 18, true))⟩, ⟨some 21, .pick (.tmp 18) (.tmp 20) (.const (.bool false)), none⟩, ⟨some 22, .mv (.tmp 21), none⟩, ⟨some 23, .mv (.tmp 3), (some (some 22, true))⟩, ⟨some 24, .fad 1 (.tmp 4), (some (some 22, true))⟩, ⟨some 25, .load 1 false (.tmp 24), (some (some 22, true))⟩, ⟨some 26, .len (.tmp 25), (some (some 22, true))⟩, ⟨some 27, .bin .lss (.tmp 23) (.tmp 26), (some (some 22, true))⟩, ⟨some 28, .pick (.tmp 22) (.tmp 27) (.const (.bool false)), none⟩, ⟨some 8, .mv (.tmp 28), none⟩]) .ret))
theorem fn375 : MFn Tryz.prog 375 mc375 29 [.tmp 8] :=
 ⟨Tryz.f375, Tryz.func375, by kernel_rfl, Tryz.ntmps375, by kernel_rfl⟩
def F_impl_stepArgs (sys : (Ls × (List (Ls × Ls)))) (t : Ls) (at' : Int) (rule : Int) : Option Bool :=
 (F_impl_SystemOk sys).bind fun r =>
 if r = true then
  (F_impl_posOk sys.1 t at').bind fun r_1 =>
  if r_1 = true then
   if (decide (0 ≤ rule)) = true then
    some (decide (rule < (sys.2.length : Int)))
   else
    some false
  else
   some false
 else
  some false
theorem c_impl_stepArgs {sys : (Ls × (List (Ls × Ls)))} {t : Ls} {at' : Int} {rule : Int} {rr : Bool} (h : F_impl_stepArgs sys t at' rule = some rr) : PFun Tryz.prog 375 [D_impl_System sys, (slD 1 iD) t, iD at', iD rule] (bD rr) := by
  delta F_impl_stepArgs at h
  refine fn375.pureL (vcm_sound ?_)
  delta mc375
  refine stp ?_
  obtain ⟨r, hr, h⟩ := bind_some h
  refine cR (c_impl_SystemOk hr) (stp ?_)
  rcases ite_some h with ⟨hc, h⟩ | ⟨hc, h⟩
  · refine stpc hc ?_
    obtain ⟨r_1, hr_1, h⟩ := bind_some h
    refine cR (c_impl_posOk hr_1) (stp ?_)
    rcases ite_some h with ⟨hc, h⟩ | ⟨hc, h⟩
    · refine stpc hc ?_
      rcases ite_some h with ⟨hc, h⟩ | ⟨hc, h⟩
      · refine stpc hc ?_
        cases h
        exact don
      refine stpc hc ?_
      cases h
      exact don
    refine stpc hc ?_
    cases h
    exact don
  refine stpc hc ?_
  cases h
  exact don
def F_slices_Grow_int64_int64 (n : Int) : Option Ls := if 0 ≤ n ∧ n * 8 ≤ 140737488355328 then some [] else none
theorem c_slices_Grow_int64_int64 {n : Int} {rr : List Int} (h : F_slices_Grow_int64_int64 n = some rr) : ACalls Tryz.prog 361 [.d (.sl 0 (some true) []), .d (iD n)] [] 0 fun xx ss => xx = .own 1 0 (List.map iD rr) ∧ ss = [(0, .tok 2 1 rr.length)] := by
  obtain ⟨hp, h⟩ := need_some h
  cases h
  exact grow_nil (i0 := Tryz.t2) (z := _) Tryz.grow361 (by kernel_rfl) rfl (by decide) (by decide) (by decide) (by decide) hp.1 hp.2
def mc280 : MCode :=
 (.seq (.reg [⟨some 2, .mv (.const (.slice none 0 0)), none⟩]) (.seq (.reg [⟨some 3, .mv (.const (.int .i64 0)), none⟩]) (.seq (.seq (.reg [⟨some 9, .mv (.tmp 0), none⟩, ⟨some 10, .len (.tmp 9), none⟩, ⟨some 11, .mv (.const (.int .i64 0)), none⟩]) (.block 0 (.loop (.seq (.reg [⟨some 12, .bin .lss (.tmp 11) (.tmp 10), none⟩]) (.seq (.cond (.tmp 12) .skip (.exit 0)) (.seq (.block 1 (.seq (.reg [⟨some 13, .ixa 1 (.tmp 9) (.tmp 11), none⟩, ⟨some 14, .load 1 false (.tmp 13), none⟩, ⟨some 5, .mv (.tmp 14), none⟩]) (.seq (.reg [⟨some 15, .mv (.tmp 3), none⟩, ⟨some 16, .mv (.tmp 5), none⟩, ⟨some 17, .len (.tmp 16), none⟩, ⟨some 18, .bin .add (.tmp 15) (.tmp 17), none⟩, ⟨some 3, .mv (.tmp 18), none⟩]) (.seq (.reg [⟨some 19, .mv (.tmp 3), none⟩, ⟨some 20, .bin .lss (.tmp 19) (.const (.int .i64 0)), none⟩]) (.cond (.tmp 20) (.reg [⟨some 21, .dead, none⟩, ⟨none, .dead, none⟩]) .skip))))) (.reg [⟨some 22, .bin .add (.tmp 11) (.const (.int .i64 1)), none⟩, ⟨some 11, .mv (.tmp 22), none⟩]))))))) (.seq (.reg [⟨some 23, .mv (.tmp 3), none⟩, ⟨some 24, .callf 361 [(.const (.slice none 0 0)), .tmp 23], none⟩, ⟨some 6, .mv (.tmp 24), none⟩]) (.seq (.seq (.reg [⟨some 25, .mv (.tmp 0), none⟩, ⟨some 26, .len (.tmp 25), none⟩, ⟨some 27, .mv (.const (.int .i64 0)), none⟩]) (.block 2 (.loop (.seq (.reg [⟨some 28, .bin .lss (.tmp 27) (.tmp 26), none⟩]) (.seq (.cond (.tmp 28) .skip (.exit 2)) (.seq (.block 3 (.seq (.reg [⟨some 29, .ixa 1 (.tmp 25) (.tmp 27), none⟩, ⟨some 30, .load 1 false (.tmp 29), none⟩, ⟨some 8, .mv (.tmp 30), none⟩]) (.reg [⟨some 31, .mv (.tmp 6), none⟩, ⟨some 32, .mv (.tmp 8), none⟩, ⟨some 33, .app 33 2 1 8 (.tmp 31) (.tmp 32), none⟩, ⟨some 6, .mv (.tmp 33), none⟩]))) (.reg [⟨some 34, .bin .add (.tmp 27) (.const (.int .i64 1)), none⟩, ⟨some 27, .mv (.tmp 34), none⟩]))))))) (.seq (.reg [⟨some 35, .mv (.tmp 6), none⟩, ⟨some 2, .mv (.tmp 35), none⟩]) .ret))))))
theorem fn280 : MFn Tryz.prog 280 mc280 36 [.tmp 2] :=
  ⟨Tryz.f280, Tryz.func280, by kernel_rfl, Tryz.ntmps280, by kernel_rfl⟩
def F_slices_Concat_int64_int64_l2 (slices : (List Ls)) : (Ls × Int) → Option ((Ls × Int) ⊕ Ls)
 | (newslice, v27) =>
  if (decide (v27 < (slices.length : Int))) = true then
   if 0 ≤ v27 ∧ v27 < (slices.length : Int) then
    if (newslice.length + (slices.getD v27.toNat default).length) * 8 ≤ 140737488355328 then
     some (.inl ((newslice ++ (slices.getD v27.toNat default)), (IntKind.i64.wrap (v27 + 1))))
    else none
   else none
  else
   Option.map Sum.inr (
    some newslice)
def F_slices_Concat_int64_int64_l1 (slices : (List Ls)) : (Int × Int) → Option ((Int × Int) ⊕ Ls)
 | (size, v11) =>
  if (decide (v11 < (slices.length : Int))) = true then
   if 0 ≤ v11 ∧ v11 < (slices.length : Int) then
    if (decide ((IntKind.i64.wrap (size + ((slices.getD v11.toNat default).length : Int))) < 0)) = true then
     none
    else
     some (.inl ((IntKind.i64.wrap (size + ((slices.getD v11.toNat default).length : Int))), (IntKind.i64.wrap (v11 + 1))))
   else none
  else
   Option.map Sum.inr (
    (F_slices_Grow_int64_int64 size).bind fun r =>
    loopC (F_slices_Concat_int64_int64_l2 slices) (r, 0))
def F_slices_Concat_int64_int64 (slices : (List Ls)) : Option Ls :=
 loopC (F_slices_Concat_int64_int64_l1 slices) (0, 0)
theorem c_slices_Concat_int64_int64 {slices : (List Ls)} {rr : Ls} (h : F_slices_Concat_int64_int64 slices = some rr) : PFun Tryz.prog 280 [(slD 1 (slD 1 iD)) slices] ((slD 1 iD) rr) := by
  delta F_slices_Concat_int64_int64 at h
  refine fn280.pureL (vcm_sound ?_)
  delta mc280
  refine stp ?_
  refine m_loopF h [3, 5, 11, 12, 13, 14, 15, 16, 17, 18, 19, 20, 21, 22] (fun pp => [(3, .d (iD pp.1)), (11, .d (iD pp.2))]) (fun pp => []) ?_ ?_
  · try dsimp only
    exact wk
  rintro ⟨size, v11⟩ t1 h hb1
  unfold F_slices_Concat_int64_int64_l1 at h
  try dsimp only at h
  refine vcm_sound (stp ?_)
  rcases ite_some h with ⟨hc, h⟩ | ⟨hc, h⟩
  · refine stpc hc ?_
    obtain ⟨hp, h⟩ := need_some h
    repeat (refine need_i (by omega) ?_; refine stp ?_)
    rcases ite_some h with ⟨hc, h⟩ | ⟨hc, h⟩
    · cases h
    refine stpc hc ?_
    cases h
    refine ⟨_, rfl, ?_⟩
    exact wk
  refine stpc hc ?_
  replace h := inr_some h hb1
  obtain ⟨r, hr, h⟩ := bind_some h
  refine cRo [] [(0, 24)] (c_slices_Grow_int64_int64 hr) (stp ?_)
  refine m_loopF h [6, 8, 27, 28, 29, 30, 31, 32, 33, 34] (fun pp => [(6, .own 1 24 (List.map iD pp.1)), (27, .d (iD pp.2))]) (fun pp => [(24, .tok 2 1 pp.1.length)]) ?_ ?_
  · try dsimp only
    exact wk
  rintro ⟨newslice, v27⟩ t1 h hb1
  unfold F_slices_Concat_int64_int64_l2 at h
  try dsimp only at h
  refine vcm_sound (stp ?_)
  rcases ite_some h with ⟨hc, h⟩ | ⟨hc, h⟩
  · refine stpc hc ?_
    obtain ⟨hp, h⟩ := need_some h
    repeat (refine need_i (by omega) ?_; refine stp ?_)
    obtain ⟨hp, h⟩ := need_some h
    repeat (refine need_i (by omega) ?_; refine stp ?_)
    cases h
    refine ⟨_, rfl, ?_⟩
    exact wk
  refine stpc hc ?_
  replace h := inr_some h hb1
  cases h
  exact don
def mc198 : MCode :=
 (.seq (.reg [⟨some 4, .box 4 43 (.tmp 0), none⟩, ⟨some 8, .mv (.const (.slice none 0 0)), none⟩, ⟨some 9, .mv (.const (.bool false)), none⟩]) (.seq (.draw [⟨some 11, .mv (.tmp 1), none⟩, ⟨some 12, .mv (.tmp 2), none⟩, ⟨some 13, .slc (.tmp 11) 1 none (some (.tmp 12)) none, none⟩, ⟨some 14, .mv (.tmp 3), none⟩, ⟨some 15, .mv (.tmp 1), none⟩, ⟨some 16, .load 1 true (.tmp 4), none⟩, ⟨some 17, .mv (.tmp 1), none⟩, ⟨some 18, .mv (.tmp 2), none⟩, ⟨some 19, .callf 228 [.tmp 16, .tmp 17, .tmp 18], none⟩, ⟨some 20, .slc (.tmp 15) 1 (some (.tmp 19)) none none, none⟩, ⟨some 21, .bsl 21 22 1 [.tmp 13, .tmp 14, .tmp 20], none⟩, ⟨some 22, .callf 280 [.tmp 21], none⟩, ⟨some 10, .mv (.tmp 22), none⟩] [[], [], [0, 1], [], [], [], [], [], [5, 6, 7], [4, 8], [2, 3, 9], [10, 8], [11, 11, 0, 1, 2, 3, 4, 5, 6, 7, 8, 9, 10, 11]]) (.seq (.seq (.reg [⟨some 23, .mv (.tmp 10), none⟩, ⟨some 24, .len (.tmp 23), none⟩, ⟨some 25, .bin .gtr (.tmp 24) (.const (.int .i64 60)), none⟩]) (.cond (.tmp 25) (.seq (.reg [⟨some 8, .mv (.const (.slice none 0 0)), none⟩, ⟨some 9, .mv (.const (.bool false)), none⟩]) .ret) .skip)) (.seq (.reg [⟨some 26, .mv (.tmp 10), none⟩, ⟨some 8, .mv (.tmp 26), none⟩, ⟨some 9, .mv (.const (.bool true)), none⟩]) .ret))))
theorem fn198 : MFn Tryz.prog 198 mc198 27 [.tmp 8, .tmp 9] :=
  ⟨Tryz.f198, Tryz.func198, by kernel_rfl, Tryz.ntmps198, by kernel_rfl⟩
def F_impl_put (sig : Ls) (t : Ls) (at' : Int) (u : Ls) : Option (Ls × Bool) :=
 if 0 ≤ at' ∧ at' ≤ (t.length : Int) then
  (F_impl_endAt sig t at').bind fun r =>
  if 0 ≤ r ∧ r ≤ (t.length : Int) then
   (F_slices_Concat_int64_int64 [(t.take at'.toNat), u, (t.drop r.toNat)]).bind fun r_1 =>
   if (decide (60 < (r_1.length : Int))) = true then
    some ([], false)
   else
    some (r_1, true)
  else none
 else none
theorem c_impl_put {sig : Ls} {t : Ls} {at' : Int} {u : Ls} {rr : (Ls × Bool)} (h : F_impl_put sig t at' u = some rr) : PFunN Tryz.prog 198 [D_impl_Sig sig, (slD 1 iD) t, iD at', (slD 1 iD) u] [(slD 1 iD) rr.1, bD rr.2] := by
  delta F_impl_put at h
  refine fn198.pureLN (vcm_sound ?_)
  delta mc198
  refine stp ?_
  obtain ⟨hp, h⟩ := need_some h
  repeat (refine need_i (by omega) ?_; refine stp ?_)
  obtain ⟨r, hr, h⟩ := bind_some h
  refine cD' (c_impl_endAt hr) (stp ?_)
  obtain ⟨hp, h⟩ := need_some h
  repeat (refine need_i (by omega) ?_; refine stp ?_)
  obtain ⟨r_1, hr_1, h⟩ := bind_some h
  refine cD' (c_slices_Concat_int64_int64 hr_1) (stp ?_)
  refine drQ_of (by kernel_rfl) ?_
  refine stp ?_
  rcases ite_some h with ⟨hc, h⟩ | ⟨hc, h⟩
  · refine stpc hc ?_
    cases h
    exact don
  refine stpc hc ?_
  cases h
  exact don
def mc264 : MCode :=
 (.seq (.reg [⟨some 4, .box 4 46 (.tmp 0), none⟩, ⟨some 8, .mv (.const (.slice none 0 0)), none⟩, ⟨some 9, .mv (.const (.bool false)), none⟩]) (.seq (.draw [⟨some 14, .fad 0 (.tmp 4), none⟩, ⟨some 15, .load 1 true (.tmp 14), none⟩, ⟨some 16, .fad 1 (.tmp 4), none⟩, ⟨some 17, .load 1 false (.tmp 16), none⟩, ⟨some 18, .mv (.tmp 3), none⟩, ⟨some 19, .ixa 2 (.tmp 17) (.tmp 18), none⟩, ⟨some 20, .fad 0 (.tmp 19), none⟩, ⟨some 21, .load 1 false (.tmp 20), none⟩, ⟨some 22, .fad 0 (.tmp 4), none⟩, ⟨some 23, .load 1 true (.tmp 22), none⟩, ⟨some 24, .mv (.tmp 1), none⟩, ⟨some 25, .mv (.tmp 2), none⟩, ⟨some 26, .callf 230 [.tmp 23, .tmp 24, .tmp 25], none⟩, ⟨some 27, .callf 254 [.tmp 15, .tmp 21, .tmp 26], none⟩, ⟨some 13, .mv (.tmp 27), none⟩, ⟨some 28, .ext (.tmp 13) 0, none⟩, ⟨some 29, .ext (.tmp 13) 1, none⟩, ⟨some 10, .alloc 10 48 [.sl 0 (some true) []], none⟩, ⟨none, .store 1 (.tmp 10) (.tmp 28), none⟩, ⟨some 11, .mv (.tmp 29), none⟩] [[], [0], [], [2], [], [3, 4], [5], [6], [], [8], [], [], [9, 10, 11], [1, 7, 12, 12], [13], [14], [14], [], [17, 15, 13, 0, 1, 2, 3, 4, 5, 6, 7, 8, 9, 10, 11, 12, 13, 14, 15, 17], [16, 18, 0, 1, 2, 3, 4, 5, 6, 7, 8, 9, 10, 11, 12, 13, 14, 15, 16, 17, 18]]) (.seq (.seq (.reg [⟨some 30, .mv (.tmp 11), none⟩, ⟨some 31, .un .not (.tmp 30), none⟩]) (.cond (.tmp 31) (.seq (.reg [⟨some 8, .mv (.const (.slice none 0 0)), none⟩, ⟨some 9, .mv (.const (.bool false)), none⟩]) .ret) .skip)) (.seq (.draw [⟨some 33, .load 1 true (.tmp 10), none⟩, ⟨some 34, .fad 1 (.tmp 4), none⟩, ⟨some 35, .load 1 false (.tmp 34), none⟩, ⟨some 36, .mv (.tmp 3), none⟩, ⟨some 37, .ixa 2 (.tmp 35) (.tmp 36), none⟩, ⟨some 38, .fad 1 (.tmp 37), none⟩, ⟨some 39, .load 1 false (.tmp 38), none⟩, ⟨some 40, .callf 196 [.tmp 33, .tmp 39], none⟩, ⟨some 32, .mv (.tmp 40), none⟩, ⟨some 41, .ext (.tmp 32) 0, none⟩, ⟨some 42, .ext (.tmp 32) 1, none⟩, ⟨some 12, .mv (.tmp 41), none⟩, ⟨some 11, .mv (.tmp 42), none⟩] [[], [], [1], [], [2, 3], [4], [5], [0, 6], [7], [8], [8], [9, 7, 0, 1, 2, 3, 4, 5, 6, 7, 8, 9], [10, 11, 0, 1, 2, 3, 4, 5, 6, 7, 8, 9, 10, 11]]) (.seq (.seq (.reg [⟨some 43, .mv (.tmp 11), none⟩, ⟨some 44, .un .not (.tmp 43), none⟩]) (.cond (.tmp 44) (.seq (.reg [⟨some 8, .mv (.const (.slice none 0 0)), none⟩, ⟨some 9, .mv (.const (.bool false)), none⟩]) .ret) .skip)) (.seq (.reg [⟨some 45, .fad 0 (.tmp 4), none⟩, ⟨some 46, .load 1 true (.tmp 45), none⟩, ⟨some 47, .mv (.tmp 1), none⟩, ⟨some 48, .mv (.tmp 2), none⟩, ⟨some 49, .mv (.tmp 12), none⟩, ⟨some 50, .callf 198 [.tmp 46, .tmp 47, .tmp 48, .tmp 49], none⟩, ⟨some 51, .ext (.tmp 50) 0, none⟩, ⟨some 52, .ext (.tmp 50) 1, none⟩, ⟨some 8, .mv (.tmp 51), none⟩, ⟨some 9, .mv (.tmp 52), none⟩]) .ret))))))
theorem fn264 : MFn Tryz.prog 264 mc264 53 [.tmp 8, .tmp 9] :=
  ⟨Tryz.f264, Tryz.func264, by kernel_rfl, Tryz.ntmps264, by kernel_rfl⟩
def F_impl_step (sys : (Ls × (List (Ls × Ls)))) (t : Ls) (at' : Int) (rule : Int) : Option (Ls × Bool) :=
 if 0 ≤ rule ∧ rule < (sys.2.length : Int) then
  (F_impl_subAt sys.1 t at').bind fun r =>
  (F_impl_match sys.1 ((sys.2.getD rule.toNat default).1) r).bind fun r_1 =>
  if r_1.2 = true then
   if 0 ≤ rule ∧ rule < (sys.2.length : Int) then
    (F_impl_fill r_1.1 ((sys.2.getD rule.toNat default).2)).bind fun r_2 =>
    if r_2.2 = true then
     (F_impl_put sys.1 t at' r_2.1).bind fun r_3 =>
     some r_3
    else
     some ([], false)
   else none
  else
   some ([], false)
 else none
theorem c_impl_step {sys : (Ls × (List (Ls × Ls)))} {t : Ls} {at' : Int} {rule : Int} {rr : (Ls × Bool)} (h : F_impl_step sys t at' rule = some rr) : PFunN Tryz.prog 264 [D_impl_System sys, (slD 1 iD) t, iD at', iD rule] [(slD 1 iD) rr.1, bD rr.2] := by
  delta F_impl_step at h
  refine fn264.pureLN (vcm_sound ?_)
  delta mc264
  refine stp ?_
  obtain ⟨hp, h⟩ := need_some h
  repeat (refine need_i (by omega) ?_; refine stp ?_)
  obtain ⟨r, hr, h⟩ := bind_some h
  refine cD' (c_impl_subAt hr) (stp ?_)
  obtain ⟨r_1, hr_1, h⟩ := bind_some h
  refine cDN (c_impl_match hr_1) (stp ?_)
  refine drQ_of (by kernel_rfl) ?_
  refine stp ?_
  rcases ite_some h with ⟨hc, h⟩ | ⟨hc, h⟩
  · refine stpc hc ?_
    obtain ⟨hp, h⟩ := need_some h
    repeat (refine need_i (by omega) ?_; refine stp ?_)
    obtain ⟨r_2, hr_2, h⟩ := bind_some h
    refine cDN (c_impl_fill hr_2) (stp ?_)
    refine drQ_of (by kernel_rfl) ?_
    refine stp ?_
    rcases ite_some h with ⟨hc, h⟩ | ⟨hc, h⟩
    · refine stpc hc ?_
      obtain ⟨r_3, hr_3, h⟩ := bind_some h
      refine cRN (c_impl_put hr_3) (stp ?_)
      cases h
      exact don
    refine stpc hc ?_
    cases h
    exact don
  refine stpc hc ?_
  cases h
  exact don
def mc304 : MCode :=
 (.seq (.reg [⟨some 4, .box 4 46 (.tmp 0), none⟩, ⟨some 8, .mv (.const (.slice none 0 0)), none⟩, ⟨some 9, .mv (.const (.bool false)), none⟩]) (.seq (.seq (.reg [⟨some 10, .load 2 true (.tmp 4), none⟩, ⟨some 11, .mv (.tmp 1), none⟩, ⟨some 12, .mv (.tmp 2), none⟩, ⟨some 13, .mv (.tmp 3), none⟩, ⟨some 14, .callf 375 [.tmp 10, .tmp 11, .tmp 12, .tmp 13], none⟩, ⟨some 15, .un .not (.tmp 14), none⟩]) (.cond (.tmp 15) (.seq (.reg [⟨some 8, .mv (.const (.slice none 0 0)), none⟩, ⟨some 9, .mv (.const (.bool false)), none⟩]) .ret) .skip)) (.seq (.reg [⟨some 16, .load 2 true (.tmp 4), none⟩, ⟨some 17, .mv (.tmp 1), none⟩, ⟨some 18, .mv (.tmp 2), none⟩, ⟨some 19, .mv (.tmp 3), none⟩, ⟨some 20, .callf 264 [.tmp 16, .tmp 17, .tmp 18, .tmp 19], none⟩, ⟨some 21, .ext (.tmp 20) 0, none⟩, ⟨some 22, .ext (.tmp 20) 1, none⟩, ⟨some 8, .mv (.tmp 21), none⟩, ⟨some 9, .mv (.tmp 22), none⟩]) .ret)))
theorem fn304 : MFn Tryz.prog 304 mc304 23 [.tmp 8, .tmp 9] :=
 ⟨Tryz.f304, Tryz.func304, by kernel_rfl, Tryz.ntmps304, by kernel_rfl⟩
def F_impl_StepAt (sys : (Ls × (List (Ls × Ls)))) (t : Ls) (at' : Int) (rule : Int) : Option (Ls × Bool) :=
 (F_impl_stepArgs sys t at' rule).bind fun r =>
 if r = true then
  (F_impl_step sys t at' rule).bind fun r_1 =>
  some r_1
 else
  some ([], false)
theorem c_impl_StepAt {sys : (Ls × (List (Ls × Ls)))} {t : Ls} {at' : Int} {rule : Int} {rr : (Ls × Bool)} (h : F_impl_StepAt sys t at' rule = some rr) : PFunN Tryz.prog 304 [D_impl_System sys, (slD 1 iD) t, iD at', iD rule] [(slD 1 iD) rr.1, bD rr.2] := by
  delta F_impl_StepAt at h
  refine fn304.pureLN (vcm_sound ?_)
  delta mc304
  refine stp ?_
  obtain ⟨r, hr, h⟩ := bind_some h
  refine cR (c_impl_stepArgs hr) (stp ?_)
  rcases ite_some h with ⟨hc, h⟩ | ⟨hc, h⟩
  · refine stpc hc ?_
    obtain ⟨r_1, hr_1, h⟩ := bind_some h
    refine cRN (c_impl_step hr_1) (stp ?_)
    cases h
    exact don
  refine stpc hc ?_
  cases h
  exact don
def mc213 : MCode :=
 (.seq (.reg [⟨some 2, .box 2 46 (.tmp 0), none⟩, ⟨some 3, .box 3 40 (.tmp 1), none⟩, ⟨some 4, .mv (.const (.bool false)), none⟩]) (.seq (.seq (.reg [⟨some 10, .fad 0 (.tmp 2), none⟩, ⟨some 11, .load 1 true (.tmp 10), none⟩, ⟨some 12, .fad 0 (.tmp 3), none⟩, ⟨some 13, .load 1 false (.tmp 12), none⟩, ⟨some 14, .callf 121 [.tmp 11, .tmp 13], none⟩, ⟨some 15, .un .not (.tmp 14), none⟩, ⟨some 16, .mv (.tmp 15), none⟩, ⟨some 17, .fad 1 (.tmp 3), (some (some 16, false))⟩, ⟨some 18, .load 1 false (.tmp 17), (some (some 16, false))⟩, ⟨some 19, .len (.tmp 18), (some (some 16, false))⟩, ⟨some 20, .bin .gtr (.tmp 19) (.const (.int .i64 60)), (some (some 16, false))⟩, ⟨some 21, .pick (.tmp 16) (.const (.bool true)) (.tmp 20), none⟩]) (.cond (.tmp 21) (.seq (.reg [⟨some 4, .mv (.const (.bool false)), none⟩]) .ret) .skip)) (.seq (.reg [⟨some 22, .fad 0 (.tmp 3), none⟩, ⟨some 23, .load 1 false (.tmp 22), none⟩, ⟨some 5, .mv (.tmp 23), none⟩]) (.seq (.seq (.reg [⟨some 24, .fad 1 (.tmp 3), none⟩, ⟨some 25, .load 1 false (.tmp 24), none⟩, ⟨some 26, .len (.tmp 25), none⟩, ⟨some 27, .mv (.const (.int .i64 0)), none⟩]) (.block 0 (.loop (.seq (.reg [⟨some 28, .bin .lss (.tmp 27) (.tmp 26), none⟩]) (.seq (.cond (.tmp 28) .skip (.exit 0)) (.seq (.block 1 (.seq (.reg [⟨some 29, .ixa 3 (.tmp 25) (.tmp 27), none⟩, ⟨some 30, .load 3 true (.tmp 29), none⟩, ⟨some 7, .alloc 7 84 [.lit (.int .i64 0), .lit (.int .i64 0), .sl 0 (some true) []], none⟩, ⟨none, .store 3 (.tmp 7) (.tmp 30), none⟩]) (.seq (.reg [⟨some 32, .load 2 true (.tmp 2), none⟩, ⟨some 33, .mv (.tmp 5), none⟩, ⟨some 34, .fad 0 (.tmp 7), none⟩, ⟨some 35, .load 1 false (.tmp 34), none⟩, ⟨some 36, .fad 1 (.tmp 7), none⟩, ⟨some 37, .load 1 false (.tmp 36), none⟩, ⟨some 38, .callf 304 [.tmp 32, .tmp 33, .tmp 35, .tmp 37], none⟩, ⟨some 31, .mv (.tmp 38), none⟩, ⟨some 39, .ext (.tmp 31) 0, none⟩, ⟨some 40, .ext (.tmp 31) 1, none⟩, ⟨some 8, .mv (.tmp 39), none⟩, ⟨some 9, .mv (.tmp 40), none⟩]) (.seq (.seq (.reg [⟨some 41, .mv (.tmp 9), none⟩, ⟨some 42, .un .not (.tmp 41), none⟩, ⟨some 43, .mv (.tmp 42), none⟩, ⟨some 44, .mv (.tmp 8), (some (some 43, false))⟩, ⟨some 45, .fad 2 (.tmp 7), (some (some 43, false))⟩, ⟨some 46, .load 1 false (.tmp 45), (some (some 43, false))⟩, ⟨some 47, .callf 199 [.tmp 44, .tmp 46], (some (some 43, false))⟩, ⟨some 48, .un .not (.tmp 47), (some (some 43, false))⟩, ⟨some 49, .pick (.tmp 43) (.const (.bool true)) (.tmp 48), none⟩]) (.cond (.tmp 49) (.seq (.reg [⟨some 4, .mv (.const (.bool false)), none⟩]) .ret) .skip)) (.reg [⟨some 50, .mv (.tmp 8), none⟩, ⟨some 5, .mv (.tmp 50), none⟩]))))) (.reg [⟨some 51, .bin .add (.tmp 27) (.const (.int .i64 1)), none⟩, ⟨some 27, .mv (.tmp 51), none⟩]))))))) (.seq (.reg [⟨some 4, .mv (.const (.bool true)), none⟩]) .ret)))))
theorem fn213 : MFn Tryz.prog 213 mc213 52 [.tmp 4] :=
 ⟨Tryz.f213, Tryz.func213, by kernel_rfl, Tryz.ntmps213, by kernel_rfl⟩
def F_impl_walkOk_l1 (sys : (Ls × (List (Ls × Ls)))) (w : (Ls × (List (Int × Int × Ls)))) : (Ls × Int) → Option ((Ls × Int) ⊕ Bool)
 | (t, v27) =>
  if (decide (v27 < (w.2.length : Int))) = true then
   if 0 ≤ v27 ∧ v27 < (w.2.length : Int) then
    (F_impl_StepAt sys t ((w.2.getD v27.toNat default).1) ((w.2.getD v27.toNat default).2.1)).bind fun r_1 =>
    if r_1.2 = true then
     (F_slices_Equal_int64_int64 r_1.1 ((w.2.getD v27.toNat default).2.2)).bind fun r_2 =>
     if r_2 = true then
      some (.inl (r_1.1, (IntKind.i64.wrap (v27 + 1))))
     else
      Option.map Sum.inr (
       some false)
    else
     Option.map Sum.inr (
      some false)
   else none
  else
   Option.map Sum.inr (
    some true)
def F_impl_walkOk (sys : (Ls × (List (Ls × Ls)))) (w : (Ls × (List (Int × Int × Ls)))) : Option Bool :=
 (F_impl_TermOk sys.1 w.1).bind fun r =>
 if r = true then
  if (decide (60 < (w.2.length : Int))) = true then
   some false
  else
   loopC (F_impl_walkOk_l1 sys w) (w.1, 0)
 else
  some false
theorem c_impl_walkOk {sys : (Ls × (List (Ls × Ls)))} {w : (Ls × (List (Int × Int × Ls)))} {rr : Bool} (h : F_impl_walkOk sys w = some rr) : PFun Tryz.prog 213 [D_impl_System sys, D_impl_Walk w] (bD rr) := by
  delta F_impl_walkOk at h
  refine fn213.pureL (vcm_sound ?_)
  delta mc213
  refine stp ?_
  obtain ⟨r, hr, h⟩ := bind_some h
  refine cR (c_impl_TermOk hr) (stp ?_)
  rcases ite_some h with ⟨hc, h⟩ | ⟨hc, h⟩
  · refine stpc hc ?_
    rcases ite_some h with ⟨hc, h⟩ | ⟨hc, h⟩
    · refine stpc hc ?_
      cases h
      exact don
    refine stpc hc ?_
    refine m_loopF h [4, 5, 7, 8, 9, 27, 28, 29, 30, 31, 32, 33, 34, 35, 36, 37, 38, 39, 40, 41, 42, 43, 44, 45, 46, 47, 48, 49, 50, 51] (fun pp => [(5, .d (slD 1 iD pp.1)), (27, .d (iD pp.2))]) (fun pp => [(2, .obj 46 [.d (slD 1 iD sys.1), .d (slD 2 D_impl_Rule sys.2)]), (3, .obj 40 [.d (slD 1 iD w.1), .d (slD 3 D_impl_Step w.2)])]) ?_ ?_
    · try dsimp only
      exact wk
    rintro ⟨t, v27⟩ t1 h hb1
    unfold F_impl_walkOk_l1 at h
    try dsimp only at h
    refine vcm_sound (stp ?_)
    rcases ite_some h with ⟨hc, h⟩ | ⟨hc, h⟩
    · refine stpc hc ?_
      obtain ⟨hp, h⟩ := need_some h
      repeat (refine need_i (by omega) ?_; refine stp ?_)
      obtain ⟨r_1, hr_1, h⟩ := bind_some h
      refine cRN (c_impl_StepAt hr_1) (stp ?_)
      rcases ite_some h with ⟨hc, h⟩ | ⟨hc, h⟩
      · refine stpc hc ?_
        obtain ⟨r_2, hr_2, h⟩ := bind_some h
        refine cR (c_slices_Equal_int64_int64 hr_2) (stp ?_)
        rcases ite_some h with ⟨hc, h⟩ | ⟨hc, h⟩
        · refine stpc hc ?_
          cases h
          refine ⟨_, rfl, ?_⟩
          refine (Weak.drop 7 (by omega)).trans ?_
          exact wk
        refine stpc hc ?_
        replace h := inr_some h hb1
        cases h
        exact don
      refine stpc hc ?_
      replace h := inr_some h hb1
      cases h
      exact don
    refine stpc hc ?_
    replace h := inr_some h hb1
    cases h
    exact don
  refine stpc hc ?_
  cases h
  exact don
def F_impl_WalkOk (sys : (Ls × (List (Ls × Ls)))) (w : (Ls × (List (Int × Int × Ls)))) : Option Bool :=
 (F_impl_SystemOk sys).bind fun r =>
 if r = true then
  (F_impl_walkOk sys w).bind fun r_1 =>
  some r_1
 else
  some false
def mc131 : MCode :=
 (.seq (.reg [⟨some 2, .box 2 46 (.tmp 0), none⟩, ⟨some 4, .mv (.const (.bool false)), none⟩]) (.seq (.reg [⟨some 5, .load 2 true (.tmp 2), none⟩, ⟨some 6, .callf 113 [.tmp 5], none⟩, ⟨some 7, .mv (.tmp 6), none⟩, ⟨some 8, .fad 0 (.tmp 2), (some (some 7, true))⟩, ⟨some 9, .load 1 true (.tmp 8), (some (some 7, true))⟩, ⟨some 10, .mv (.tmp 1), (some (some 7, true))⟩, ⟨some 11, .callf 116 [.tmp 9, .tmp 10], (some (some 7, true))⟩, ⟨some 12, .pick (.tmp 7) (.tmp 11) (.const (.bool false)), none⟩, ⟨some 4, .mv (.tmp 12), none⟩]) .ret))
theorem fn131 : MFn Tryz.prog 131 mc131 13 [.tmp 4] :=
  ⟨Tryz.f131, Tryz.func131, by kernel_rfl, Tryz.ntmps131, by kernel_rfl⟩
def F_spec_l7Right (sys : (Ls × (List (Ls × Ls)))) (t : Ls) : Option Bool :=
 (F_spec_SystemOk sys).bind fun r =>
 if r = true then
  (F_spec_TermOk sys.1 t).bind fun r_1 =>
  some r_1
 else
  some false
theorem c_spec_l7Right {sys : (Ls × (List (Ls × Ls)))} {t : Ls} {rr : Bool} (h : F_spec_l7Right sys t = some rr) : PFun Tryz.prog 131 [D_impl_System sys, (slD 1 iD) t] (bD rr) := by
  delta F_spec_l7Right at h
  refine fn131.pureL (vcm_sound ?_)
  delta mc131
  refine stp ?_
  obtain ⟨r, hr, h⟩ := bind_some h
  refine cR (c_spec_SystemOk hr) (stp ?_)
  rcases ite_some h with ⟨hc, h⟩ | ⟨hc, h⟩
  · refine stpc hc ?_
    obtain ⟨r_1, hr_1, h⟩ := bind_some h
    refine cR (c_spec_TermOk hr_1) (stp ?_)
    cases h
    exact don
  refine stpc hc ?_
  cases h
  exact don
def mc188 : MCode :=
 (.seq (.reg [⟨some 4, .mv (.const (.bool false)), none⟩]) (.seq (.reg [⟨some 5, .mv (.tmp 1), none⟩, ⟨some 6, .mv (.tmp 0), none⟩, ⟨some 7, .len (.tmp 6), none⟩, ⟨some 8, .bin .sub (.tmp 7) (.const (.int .i64 1)), none⟩, ⟨some 9, .callf 79 [.tmp 5, (.const (.int .i64 0)), .tmp 8], none⟩, ⟨some 4, .mv (.tmp 9), none⟩]) .ret))
theorem fn188 : MFn Tryz.prog 188 mc188 10 [.tmp 4] :=
  ⟨Tryz.f188, Tryz.func188, by kernel_rfl, Tryz.ntmps188, by kernel_rfl⟩
def F_spec_l1There (t : Ls) (at' : Int) : Option Bool :=
 (F_spec_l1In at' 0 (IntKind.i64.wrap ((t.length : Int) - 1))).bind fun r =>
 some r
theorem c_spec_l1There {t : Ls} {at' : Int} {rr : Bool} (h : F_spec_l1There t at' = some rr) : PFun Tryz.prog 188 [(slD 1 iD) t, iD at'] (bD rr) := by
  delta F_spec_l1There at h
  refine fn188.pureL (vcm_sound ?_)
  delta mc188
  refine stp ?_
  obtain ⟨r, hr, h⟩ := bind_some h
  refine cR (c_spec_l1In hr) (stp ?_)
  cases h
  exact don
def mc189 : MCode :=
 (.seq (.reg [⟨some 4, .box 4 43 (.tmp 0), none⟩, ⟨some 8, .mv (.const (.slice none 0 0)), none⟩, ⟨some 9, .mv (.const (.bool false)), none⟩]) (.seq (.reg [⟨some 11, .mv (.tmp 1), none⟩, ⟨some 12, .mv (.tmp 2), none⟩, ⟨some 13, .slc (.tmp 11) 1 none (some (.tmp 12)) none, none⟩, ⟨some 14, .callf 114 [.tmp 13], none⟩, ⟨some 15, .mv (.tmp 3), none⟩, ⟨some 16, .app 16 2 1 8 (.tmp 14) (.tmp 15), none⟩, ⟨some 10, .mv (.tmp 16), none⟩]) (.seq (.reg [⟨some 17, .mv (.tmp 10), none⟩, ⟨some 18, .mv (.tmp 1), none⟩, ⟨some 19, .load 1 true (.tmp 4), none⟩, ⟨some 20, .mv (.tmp 1), none⟩, ⟨some 21, .mv (.tmp 2), none⟩, ⟨some 22, .callf 220 [.tmp 19, .tmp 20, .tmp 21], none⟩, ⟨some 23, .slc (.tmp 18) 1 (some (.tmp 22)) none none, none⟩, ⟨some 24, .app 24 2 1 8 (.tmp 17) (.tmp 23), none⟩, ⟨some 10, .mv (.tmp 24), none⟩]) (.seq (.seq (.reg [⟨some 25, .mv (.tmp 10), none⟩, ⟨some 26, .len (.tmp 25), none⟩, ⟨some 27, .bin .gtr (.tmp 26) (.const (.int .i64 60)), none⟩]) (.cond (.tmp 27) (.seq (.reg [⟨some 28, .bsl 28 2 1 [], none⟩, ⟨some 8, .mv (.tmp 28), none⟩, ⟨some 9, .mv (.const (.bool false)), none⟩]) .ret) .skip)) (.seq (.reg [⟨some 29, .mv (.tmp 10), none⟩, ⟨some 8, .mv (.tmp 29), none⟩, ⟨some 9, .mv (.const (.bool true)), none⟩]) .ret)))))
theorem fn189 : MFn Tryz.prog 189 mc189 30 [.tmp 8, .tmp 9] :=
  ⟨Tryz.f189, Tryz.func189, by kernel_rfl, Tryz.ntmps189, by kernel_rfl⟩
def F_spec_l3Put (sig : Ls) (t : Ls) (at' : Int) (u : Ls) : Option (Ls × Bool) :=
 if 0 ≤ at' ∧ at' ≤ (t.length : Int) then
  (F_spec_l1Copy (t.take at'.toNat)).bind fun r =>
  if (r.length + u.length) * 8 ≤ 140737488355328 then
   (F_spec_l1End sig t at').bind fun r_1 =>
   if 0 ≤ r_1 ∧ r_1 ≤ (t.length : Int) then
    if ((r ++ u).length + (t.drop r_1.toNat).length) * 8 ≤ 140737488355328 then
     if (decide (60 < (((r ++ u) ++ (t.drop r_1.toNat)).length : Int))) = true then
      some ([], false)
     else
      some (((r ++ u) ++ (t.drop r_1.toNat)), true)
    else none
   else none
  else none
 else none
theorem c_spec_l3Put {sig : Ls} {t : Ls} {at' : Int} {u : Ls} {rr : (Ls × Bool)} (h : F_spec_l3Put sig t at' u = some rr) : PFunN Tryz.prog 189 [D_impl_Sig sig, (slD 1 iD) t, iD at', (slD 1 iD) u] [(slD 1 iD) rr.1, bD rr.2] := by
  delta F_spec_l3Put at h
  refine fn189.pureLN (vcm_sound ?_)
  delta mc189
  refine stp ?_
  obtain ⟨hp, h⟩ := need_some h
  repeat (refine need_i (by omega) ?_; refine stp ?_)
  obtain ⟨r, hr, h⟩ := bind_some h
  refine cRo [] [(3, 14)] (c_spec_l1Copy hr) (stp ?_)
  obtain ⟨hp, h⟩ := need_some h
  repeat (refine need_i (by omega) ?_; refine stp ?_)
  obtain ⟨r_1, hr_1, h⟩ := bind_some h
  refine cR (c_spec_l1End hr_1) (stp ?_)
  obtain ⟨hp, h⟩ := need_some h
  repeat (refine need_i (by omega) ?_; refine stp ?_)
  obtain ⟨hp, h⟩ := need_some h
  try (have hq := hp; simp only [List.length_append, List.length_cons, List.length_nil, List.length_map, Nat.reduceAdd] at hq)
  repeat (refine need_i (by omega) ?_; refine stp ?_)
  rcases ite_some h with ⟨hc, h⟩ | ⟨hc, h⟩
  · try simp only [List.length_append, List.length_cons, List.length_nil, List.length_map, Nat.reduceAdd] at hc
    refine stpc hc ?_
    cases h
    exact don
  try simp only [List.length_append, List.length_cons, List.length_nil, List.length_map, Nat.reduceAdd] at hc
  refine stpc hc ?_
  cases h
  exact don
def mc211 : MCode :=
 (.seq (.reg [⟨some 4, .box 4 46 (.tmp 0), none⟩, ⟨some 8, .mv (.const (.slice none 0 0)), none⟩, ⟨some 9, .mv (.const (.bool false)), none⟩]) (.seq (.reg [⟨some 15, .fad 1 (.tmp 4), none⟩, ⟨some 16, .load 1 false (.tmp 15), none⟩, ⟨some 17, .mv (.tmp 3), none⟩, ⟨some 18, .ixa 2 (.tmp 16) (.tmp 17), none⟩, ⟨some 19, .load 2 true (.tmp 18), none⟩, ⟨some 10, .alloc 10 146 [.sl 0 (some true) [], .sl 0 (some true) []], none⟩, ⟨none, .store 2 (.tmp 10) (.tmp 19), none⟩]) (.seq (.draw [⟨some 21, .fad 0 (.tmp 4), none⟩, ⟨some 22, .load 1 true (.tmp 21), none⟩, ⟨some 23, .fad 0 (.tmp 10), none⟩, ⟨some 24, .load 1 false (.tmp 23), none⟩, ⟨some 25, .fad 0 (.tmp 4), none⟩, ⟨some 26, .load 1 true (.tmp 25), none⟩, ⟨some 27, .mv (.tmp 1), none⟩, ⟨some 28, .mv (.tmp 2), none⟩, ⟨some 29, .callf 246 [.tmp 26, .tmp 27, .tmp 28], none⟩, ⟨some 30, .callf 265 [.tmp 22, .tmp 24, .tmp 29], none⟩, ⟨some 20, .mv (.tmp 30), none⟩, ⟨some 31, .ext (.tmp 20) 0, none⟩, ⟨some 32, .ext (.tmp 20) 1, none⟩, ⟨some 11, .alloc 11 48 [.sl 0 (some true) []], none⟩, ⟨none, .store 1 (.tmp 11) (.tmp 31), none⟩, ⟨some 12, .mv (.tmp 32), none⟩] [[], [0], [], [2], [], [4], [], [], [5, 6, 7], [1, 3, 8, 8], [9], [10], [10], [], [13, 11, 9, 0, 1, 2, 3, 4, 5, 6, 7, 8, 9, 10, 11, 13], [12, 14, 0, 1, 2, 3, 4, 5, 6, 7, 8, 9, 10, 11, 12, 13, 14]]) (.seq (.seq (.reg [⟨some 33, .mv (.tmp 12), none⟩, ⟨some 34, .un .not (.tmp 33), none⟩]) (.cond (.tmp 34) (.seq (.reg [⟨some 35, .bsl 35 2 1 [], none⟩, ⟨some 8, .mv (.tmp 35), none⟩, ⟨some 9, .mv (.const (.bool false)), none⟩]) .ret) .skip)) (.seq (.reg [⟨some 37, .load 1 true (.tmp 11), none⟩, ⟨some 38, .fad 1 (.tmp 10), none⟩, ⟨some 39, .load 1 false (.tmp 38), none⟩, ⟨some 40, .callf 186 [.tmp 37, .tmp 39], none⟩, ⟨some 36, .mv (.tmp 40), none⟩, ⟨some 41, .ext (.tmp 36) 0, none⟩, ⟨some 42, .ext (.tmp 36) 1, none⟩, ⟨some 13, .mv (.tmp 41), none⟩, ⟨some 14, .mv (.tmp 42), none⟩]) (.seq (.seq (.reg [⟨some 43, .mv (.tmp 14), none⟩, ⟨some 44, .un .not (.tmp 43), none⟩]) (.cond (.tmp 44) (.seq (.reg [⟨some 45, .bsl 45 2 1 [], none⟩, ⟨some 8, .mv (.tmp 45), none⟩, ⟨some 9, .mv (.const (.bool false)), none⟩]) .ret) .skip)) (.seq (.reg [⟨some 46, .fad 0 (.tmp 4), none⟩, ⟨some 47, .load 1 true (.tmp 46), none⟩, ⟨some 48, .mv (.tmp 1), none⟩, ⟨some 49, .mv (.tmp 2), none⟩, ⟨some 50, .mv (.tmp 13), none⟩, ⟨some 51, .callf 189 [.tmp 47, .tmp 48, .tmp 49, .tmp 50], none⟩, ⟨some 52, .ext (.tmp 51) 0, none⟩, ⟨some 53, .ext (.tmp 51) 1, none⟩, ⟨some 8, .mv (.tmp 52), none⟩, ⟨some 9, .mv (.tmp 53), none⟩]) .ret)))))))
theorem fn211 : MFn Tryz.prog 211 mc211 54 [.tmp 8, .tmp 9] :=
  ⟨Tryz.f211, Tryz.func211, by kernel_rfl, Tryz.ntmps211, by kernel_rfl⟩
def F_spec_l7Step (sys : (Ls × (List (Ls × Ls)))) (t : Ls) (at' : Int) (rule : Int) : Option (Ls × Bool) :=
 if 0 ≤ rule ∧ rule < (sys.2.length : Int) then
  (F_spec_l1Sub sys.1 t at').bind fun r =>
  (F_spec_l4Match sys.1 ((sys.2.getD rule.toNat default).1) r).bind fun r_1 =>
  if r_1.2 = true then
   (F_spec_l2Filled r_1.1 ((sys.2.getD rule.toNat default).2)).bind fun r_2 =>
   if r_2.2 = true then
    (F_spec_l3Put sys.1 t at' r_2.1).bind fun r_3 =>
    some r_3
   else
    some ([], false)
  else
   some ([], false)
 else none
theorem c_spec_l7Step {sys : (Ls × (List (Ls × Ls)))} {t : Ls} {at' : Int} {rule : Int} {rr : (Ls × Bool)} (h : F_spec_l7Step sys t at' rule = some rr) : PFunN Tryz.prog 211 [D_impl_System sys, (slD 1 iD) t, iD at', iD rule] [(slD 1 iD) rr.1, bD rr.2] := by
  delta F_spec_l7Step at h
  refine fn211.pureLN (vcm_sound ?_)
  delta mc211
  refine stp ?_
  obtain ⟨hp, h⟩ := need_some h
  repeat (refine need_i (by omega) ?_; refine stp ?_)
  obtain ⟨r, hr, h⟩ := bind_some h
  refine cD' (c_spec_l1Sub hr) (stp ?_)
  obtain ⟨r_1, hr_1, h⟩ := bind_some h
  refine cDN (c_spec_l4Match hr_1) (stp ?_)
  refine drQ_of (by kernel_rfl) ?_
  refine stp ?_
  rcases ite_some h with ⟨hc, h⟩ | ⟨hc, h⟩
  · refine stpc hc ?_
    obtain ⟨r_2, hr_2, h⟩ := bind_some h
    refine cRN (c_spec_l2Filled hr_2) (stp ?_)
    rcases ite_some h with ⟨hc, h⟩ | ⟨hc, h⟩
    · refine stpc hc ?_
      obtain ⟨r_3, hr_3, h⟩ := bind_some h
      refine cRN (c_spec_l3Put hr_3) (stp ?_)
      cases h
      exact don
    refine stpc hc ?_
    cases h
    exact don
  refine stpc hc ?_
  cases h
  exact don
def mc132 : MCode :=
 (.seq (.reg [⟨some 4, .box 4 46 (.tmp 0), none⟩, ⟨some 8, .mv (.const (.slice none 0 0)), none⟩, ⟨some 9, .mv (.const (.bool false)), none⟩]) (.seq (.seq (.reg [⟨some 10, .load 2 true (.tmp 4), none⟩, ⟨some 11, .mv (.tmp 1), none⟩, ⟨some 12, .callf 131 [.tmp 10, .tmp 11], none⟩, ⟨some 13, .un .not (.tmp 12), none⟩, ⟨some 14, .mv (.tmp 13), none⟩, ⟨some 15, .mv (.tmp 1), (some (some 14, false))⟩, ⟨some 16, .mv (.tmp 2), (some (some 14, false))⟩, ⟨some 17, .callf 188 [.tmp 15, .tmp 16], (some (some 14, false))⟩, ⟨some 18, .un .not (.tmp 17), (some (some 14, false))⟩, ⟨some 19, .pick (.tmp 14) (.const (.bool true)) (.tmp 18), none⟩, ⟨some 20, .mv (.tmp 19), none⟩, ⟨some 21, .mv (.tmp 3), (some (some 20, false))⟩, ⟨some 22, .fad 1 (.tmp 4), (some (some 20, false))⟩, ⟨some 23, .load 1 false (.tmp 22), (some (some 20, false))⟩, ⟨some 24, .len (.tmp 23), (some (some 20, false))⟩, ⟨some 25, .bin .sub (.tmp 24) (.const (.int .i64 1)), (some (some 20, false))⟩, ⟨some 26, .callf 79 [.tmp 21, (.const (.int .i64 0)), .tmp 25], (some (some 20, false))⟩, ⟨some 27, .un .not (.tmp 26), (some (some 20, false))⟩, ⟨some 28, .pick (.tmp 20) (.const (.bool true)) (.tmp 27), none⟩]) (.cond (.tmp 28) (.seq (.reg [⟨some 29, .bsl 29 2 1 [], none⟩, ⟨some 8, .mv (.tmp 29), none⟩, ⟨some 9, .mv (.const (.bool false)), none⟩]) .ret) .skip)) (.seq (.reg [⟨some 30, .load 2 true (.tmp 4), none⟩, ⟨some 31, .mv (.tmp 1), none⟩, ⟨some 32, .mv (.tmp 2), none⟩, ⟨some 33, .mv (.tmp 3), none⟩, ⟨some 34, .callf 211 [.tmp 30, .tmp 31, .tmp 32, .tmp 33], none⟩, ⟨some 35, .ext (.tmp 34) 0, none⟩, ⟨some 36, .ext (.tmp 34) 1, none⟩, ⟨some 8, .mv (.tmp 35), none⟩, ⟨some 9, .mv (.tmp 36), none⟩]) .ret)))
theorem fn132 : MFn Tryz.prog 132 mc132 37 [.tmp 8, .tmp 9] :=
  ⟨Tryz.f132, Tryz.func132, by kernel_rfl, Tryz.ntmps132, by kernel_rfl⟩
def F_spec_StepAt (sys : (Ls × (List (Ls × Ls)))) (t : Ls) (at' : Int) (rule : Int) : Option (Ls × Bool) :=
 (F_spec_l7Right sys t).bind fun r =>
 if r = true then
  (F_spec_l1There t at').bind fun r_1 =>
  if r_1 = true then
   (F_spec_l1In rule 0 (IntKind.i64.wrap ((sys.2.length : Int) - 1))).bind fun r_2 =>
   if r_2 = true then
    (F_spec_l7Step sys t at' rule).bind fun r_3 =>
    some r_3
   else
    some ([], false)
  else
   some ([], false)
 else
  some ([], false)
theorem c_spec_StepAt {sys : (Ls × (List (Ls × Ls)))} {t : Ls} {at' : Int} {rule : Int} {rr : (Ls × Bool)} (h : F_spec_StepAt sys t at' rule = some rr) : PFunN Tryz.prog 132 [D_impl_System sys, (slD 1 iD) t, iD at', iD rule] [(slD 1 iD) rr.1, bD rr.2] := by
  delta F_spec_StepAt at h
  refine fn132.pureLN (vcm_sound ?_)
  delta mc132
  refine stp ?_
  obtain ⟨r, hr, h⟩ := bind_some h
  refine cR (c_spec_l7Right hr) (stp ?_)
  rcases ite_some h with ⟨hc, h⟩ | ⟨hc, h⟩
  · refine stpc hc ?_
    obtain ⟨r_1, hr_1, h⟩ := bind_some h
    refine cR (c_spec_l1There hr_1) (stp ?_)
    rcases ite_some h with ⟨hc, h⟩ | ⟨hc, h⟩
    · refine stpc hc ?_
      obtain ⟨r_2, hr_2, h⟩ := bind_some h
      refine cR (c_spec_l1In hr_2) (stp ?_)
      rcases ite_some h with ⟨hc, h⟩ | ⟨hc, h⟩
      · refine stpc hc ?_
        obtain ⟨r_3, hr_3, h⟩ := bind_some h
        refine cRN (c_spec_l7Step hr_3) (stp ?_)
        cases h
        exact don
      refine stpc hc ?_
      cases h
      exact don
    refine stpc hc ?_
    cases h
    exact don
  refine stpc hc ?_
  cases h
  exact don
def mc44 : MCode :=
 (.seq (.reg [⟨some 2, .box 2 46 (.tmp 0), none⟩, ⟨some 3, .box 3 40 (.tmp 1), none⟩, ⟨some 4, .mv (.const (.bool false)), none⟩]) (.seq (.seq (.reg [⟨some 9, .load 2 true (.tmp 2), none⟩, ⟨some 10, .fad 0 (.tmp 3), none⟩, ⟨some 11, .load 1 false (.tmp 10), none⟩, ⟨some 12, .callf 131 [.tmp 9, .tmp 11], none⟩, ⟨some 13, .un .not (.tmp 12), none⟩, ⟨some 14, .mv (.tmp 13), none⟩, ⟨some 15, .fad 1 (.tmp 3), (some (some 14, false))⟩, ⟨some 16, .load 1 false (.tmp 15), (some (some 14, false))⟩, ⟨some 17, .len (.tmp 16), (some (some 14, false))⟩, ⟨some 18, .bin .gtr (.tmp 17) (.const (.int .i64 60)), (some (some 14, false))⟩, ⟨some 19, .pick (.tmp 14) (.const (.bool true)) (.tmp 18), none⟩]) (.cond (.tmp 19) (.seq (.reg [⟨some 4, .mv (.const (.bool false)), none⟩]) .ret) .skip)) (.seq (.reg [⟨some 20, .fad 0 (.tmp 3), none⟩, ⟨some 21, .load 1 false (.tmp 20), none⟩, ⟨some 5, .mv (.tmp 21), none⟩]) (.seq (.seq (.reg [⟨some 6, .mv (.const (.int .i64 0)), none⟩]) (.block 0 (.loop (.seq (.seq (.reg [⟨some 22, .mv (.tmp 6), none⟩, ⟨some 23, .fad 1 (.tmp 3), none⟩, ⟨some 24, .load 1 false (.tmp 23), none⟩, ⟨some 25, .len (.tmp 24), none⟩, ⟨some 26, .bin .lss (.tmp 22) (.tmp 25), none⟩]) (.cond (.tmp 26) .skip (.exit 0))) (.seq (.block 1 (.seq (.draw [⟨some 30, .load 2 true (.tmp 2), none⟩, ⟨some 31, .mv (.tmp 5), none⟩, ⟨some 32, .fad 1 (.tmp 3), none⟩, ⟨some 33, .load 1 false (.tmp 32), none⟩, ⟨some 34, .mv (.tmp 6), none⟩, ⟨some 35, .ixa 3 (.tmp 33) (.tmp 34), none⟩, ⟨some 36, .fad 0 (.tmp 35), none⟩, ⟨some 37, .load 1 false (.tmp 36), none⟩, ⟨some 38, .fad 1 (.tmp 3), none⟩, ⟨some 39, .load 1 false (.tmp 38), none⟩, ⟨some 40, .mv (.tmp 6), none⟩, ⟨some 41, .ixa 3 (.tmp 39) (.tmp 40), none⟩, ⟨some 42, .fad 1 (.tmp 41), none⟩, ⟨some 43, .load 1 false (.tmp 42), none⟩, ⟨some 44, .callf 132 [.tmp 30, .tmp 31, .tmp 37, .tmp 43], none⟩, ⟨some 29, .mv (.tmp 44), none⟩, ⟨some 45, .ext (.tmp 29) 0, none⟩, ⟨some 46, .ext (.tmp 29) 1, none⟩, ⟨some 7, .mv (.tmp 45), none⟩, ⟨some 8, .mv (.tmp 46), none⟩] [[], [], [], [2], [], [3, 4], [5], [6], [], [8], [], [9, 10], [11], [12], [0, 1, 7, 13], [14], [15], [15], [16, 14, 0, 1, 2, 3, 4, 5, 6, 7, 8, 9, 10, 11, 12, 13, 14, 15, 16], [17, 18, 0, 1, 2, 3, 4, 5, 6, 7, 8, 9, 10, 11, 12, 13, 14, 15, 16, 17, 18]]) (.seq (.seq (.reg [⟨some 47, .mv (.tmp 8), none⟩, ⟨some 48, .un .not (.tmp 47), none⟩, ⟨some 49, .mv (.tmp 48), none⟩, ⟨some 50, .mv (.tmp 7), (some (some 49, false))⟩, ⟨some 51, .fad 1 (.tmp 3), (some (some 49, false))⟩, ⟨some 52, .load 1 false (.tmp 51), (some (some 49, false))⟩, ⟨some 53, .mv (.tmp 6), (some (some 49, false))⟩, ⟨some 54, .ixa 3 (.tmp 52) (.tmp 53), (some (some 49, false))⟩, ⟨some 55, .fad 2 (.tmp 54), (some (some 49, false))⟩, ⟨some 56, .load 1 false (.tmp 55), (some (some 49, false))⟩, ⟨some 57, .callf 33 [.tmp 50, .tmp 56], (some (some 49, false))⟩, ⟨some 58, .un .not (.tmp 57), (some (some 49, false))⟩, ⟨some 59, .pick (.tmp 49) (.const (.bool true)) (.tmp 58), none⟩]) (.cond (.tmp 59) (.seq (.reg [⟨some 4, .mv (.const (.bool false)), none⟩]) .ret) .skip)) (.reg [⟨some 60, .mv (.tmp 7), none⟩, ⟨some 5, .mv (.tmp 60), none⟩])))) (.reg [⟨some 27, .mv (.tmp 6), none⟩, ⟨some 28, .bin .add (.tmp 27) (.const (.int .i64 1)), none⟩, ⟨some 6, .mv (.tmp 28), none⟩])))))) (.seq (.reg [⟨some 4, .mv (.const (.bool true)), none⟩]) .ret)))))
theorem fn44 : MFn Tryz.prog 44 mc44 61 [.tmp 4] :=
  ⟨Tryz.f44, Tryz.func44, by kernel_rfl, Tryz.ntmps44, by kernel_rfl⟩
def F_spec_WalkOk_l1 (sys : (Ls × (List (Ls × Ls)))) (w : (Ls × (List (Int × Int × Ls)))) : (Ls × Int) → Option ((Ls × Int) ⊕ Bool)
 | (now, i) =>
  if (decide (i < (w.2.length : Int))) = true then
   if 0 ≤ i ∧ i < (w.2.length : Int) then
    if 0 ≤ i ∧ i < (w.2.length : Int) then
     (F_spec_StepAt sys now ((w.2.getD i.toNat default).1) ((w.2.getD i.toNat default).2.1)).bind fun r_1 =>
     if r_1.2 = true then
      if 0 ≤ i ∧ i < (w.2.length : Int) then
       (F_spec_SameTerm r_1.1 ((w.2.getD i.toNat default).2.2)).bind fun r_2 =>
       if r_2 = true then
        some (.inl (r_1.1, (IntKind.i64.wrap (i + 1))))
       else
        Option.map Sum.inr (
         some false)
      else none
     else
      Option.map Sum.inr (
       some false)
    else none
   else none
  else
   Option.map Sum.inr (
    some true)
def F_spec_WalkOk (sys : (Ls × (List (Ls × Ls)))) (w : (Ls × (List (Int × Int × Ls)))) : Option Bool :=
 (F_spec_l7Right sys w.1).bind fun r =>
 if r = true then
  if (decide (60 < (w.2.length : Int))) = true then
   some false
  else
   loopC (F_spec_WalkOk_l1 sys w) (w.1, 0)
 else
  some false
theorem c_spec_WalkOk {sys : (Ls × (List (Ls × Ls)))} {w : (Ls × (List (Int × Int × Ls)))} {rr : Bool} (h : F_spec_WalkOk sys w = some rr) : PFun Tryz.prog 44 [D_impl_System sys, D_impl_Walk w] (bD rr) := by
  delta F_spec_WalkOk at h
  refine fn44.pureL (vcm_sound ?_)
  delta mc44
  refine stp ?_
  obtain ⟨r, hr, h⟩ := bind_some h
  refine cR (c_spec_l7Right hr) (stp ?_)
  rcases ite_some h with ⟨hc, h⟩ | ⟨hc, h⟩
  · refine stpc hc ?_
    rcases ite_some h with ⟨hc, h⟩ | ⟨hc, h⟩
    · refine stpc hc ?_
      cases h
      exact don
    refine stpc hc ?_
    refine m_loopF h [4, 5, 6, 7, 8, 22, 23, 24, 25, 26, 27, 28, 29, 30, 31, 32, 33, 34, 35, 36, 37, 38, 39, 40, 41, 42, 43, 44, 45, 46, 47, 48, 49, 50, 51, 52, 53, 54, 55, 56, 57, 58, 59, 60] (fun pp => [(5, .d (slD 1 iD pp.1)), (6, .d (iD pp.2))]) (fun pp => [(2, .obj 46 [.d (slD 1 iD sys.1), .d (slD 2 D_impl_Rule sys.2)]), (3, .obj 40 [.d (slD 1 iD w.1), .d (slD 3 D_impl_Step w.2)])]) ?_ ?_
    · try dsimp only
      exact wk
    rintro ⟨now, i⟩ t1 h hb1
    unfold F_spec_WalkOk_l1 at h
    try dsimp only at h
    refine vcm_sound (stp ?_)
    rcases ite_some h with ⟨hc, h⟩ | ⟨hc, h⟩
    · refine stpc hc ?_
      obtain ⟨hp, h⟩ := need_some h
      repeat (refine need_i (by omega) ?_; refine stp ?_)
      obtain ⟨hp, h⟩ := need_some h
      repeat (refine need_i (by omega) ?_; refine stp ?_)
      obtain ⟨r_1, hr_1, h⟩ := bind_some h
      refine cDN (c_spec_StepAt hr_1) (stp ?_)
      refine drQ_of (by kernel_rfl) ?_
      refine stp ?_
      rcases ite_some h with ⟨hc, h⟩ | ⟨hc, h⟩
      · refine stpc hc ?_
        obtain ⟨hp, h⟩ := need_some h
        repeat (refine need_i (by omega) ?_; refine stp ?_)
        obtain ⟨r_2, hr_2, h⟩ := bind_some h
        refine cR (c_spec_SameTerm hr_2) (stp ?_)
        rcases ite_some h with ⟨hc, h⟩ | ⟨hc, h⟩
        · refine stpc hc ?_
          cases h
          refine ⟨_, rfl, ?_⟩
          exact wk
        refine stpc hc ?_
        replace h := inr_some h hb1
        cases h
        exact don
      refine stpc hc ?_
      replace h := inr_some h hb1
      cases h
      exact don
    refine stpc hc ?_
    replace h := inr_some h hb1
    cases h
    exact don
  refine stpc hc ?_
  cases h
  exact don
end
end Go.Proofs.YtcaljngigbfadaaGreat
