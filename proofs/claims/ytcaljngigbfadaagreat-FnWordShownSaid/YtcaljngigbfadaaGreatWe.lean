/- Functions of the program and the equations that they compute, fifth part; nothing is assumed. -/
import Derived.Test.YtcaljngigbfadaaGreatWd
set_option linter.unusedSimpArgs false
set_option linter.unusedVariables false
set_option linter.unusedSectionVars false
namespace Go.Proofs.YtcaljngigbfadaaGreat
noncomputable section
open Go Abx
attribute [local irreducible] vcm vgo vdr vrun vdrun MWp GhostQ BrC BrO BrG BrD BrH AmbO callR callD drQ EnvLe StoLe
set_option maxHeartbeats 4000000
def F_impl_EqOk (sig : Ls) (e : (Ls × Ls)) : Option Bool :=
 (F_impl_TermOk sig e.1).bind fun r =>
 if r = true then
  (F_impl_TermOk sig e.2).bind fun r_1 =>
  some r_1
 else
  some false
def F_impl_EqsOk_1 (e : (Ls × Ls)) (o0 : Ls) : Option Bool :=
 (F_impl_EqOk o0 e).bind fun r =>
 some (!r)
def F_slices_IndexFunc_impl_Eq_impl_Eq_l1 (s : (List (Ls × Ls))) (o0 : Ls) : Int → Option (Int ⊕ Int)
 | v8 =>
  if (decide (v8 < (s.length : Int))) = true then
   if 0 ≤ v8 ∧ v8 < (s.length : Int) then
    (F_impl_EqsOk_1 ((s.getD v8.toNat default).1, (s.getD v8.toNat default).2) o0).bind fun r =>
    if r = true then
     Option.map Sum.inr (
      some v8)
    else
     some (.inl (IntKind.i64.wrap (v8 + 1)))
   else none
  else
   Option.map Sum.inr (
    some (-1))
def F_slices_IndexFunc_impl_Eq_impl_Eq (s : (List (Ls × Ls))) (o0 : Ls) : Option Int :=
 loopC (F_slices_IndexFunc_impl_Eq_impl_Eq_l1 s o0) 0
def F_slices_ContainsFunc_impl_Eq_impl_Eq (s : (List (Ls × Ls))) (o0 : Ls) : Option Bool :=
 (F_slices_IndexFunc_impl_Eq_impl_Eq s o0).bind fun r =>
 some (decide (0 ≤ r))
def F_impl_EqsOk (sig : Ls) (eqs : (List (Ls × Ls))) : Option Bool :=
 (F_impl_SigOk sig).bind fun r =>
 if r = true then
  if (decide (12 < (eqs.length : Int))) = true then
   some false
  else
   (F_slices_ContainsFunc_impl_Eq_impl_Eq eqs sig).bind fun r_1 =>
   some (!r_1)
 else
  some false
end
end Go.Proofs.YtcaljngigbfadaaGreat
namespace Go.Proofs.YtcaljngigbfadaaGreat
noncomputable section
open Go Abx
attribute [local irreducible] vcm vgo vdr vrun vdrun MWp GhostQ BrC BrO BrG BrD BrH AmbO callR callD drQ EnvLe StoLe
set_option maxHeartbeats 4000000
end
end Go.Proofs.YtcaljngigbfadaaGreat
namespace Go.Proofs.YtcaljngigbfadaaGreat
noncomputable section
open Go Abx
attribute [local irreducible] vcm vgo vdr vrun vdrun MWp GhostQ BrC BrO BrG BrD BrH AmbO callR callD drQ EnvLe StoLe
set_option maxHeartbeats 4000000
def mc219 : MCode :=
 (.seq (.reg [⟨some 2, .box 2 43 (.tmp 0), none⟩, ⟨some 3, .box 3 147 (.tmp 1), none⟩, ⟨some 4, .mv (.const (.bool false)), none⟩]) (.seq (.reg [⟨some 5, .load 1 true (.tmp 2), none⟩, ⟨some 6, .fad 0 (.tmp 3), none⟩, ⟨some 7, .load 1 false (.tmp 6), none⟩, ⟨some 8, .callf 116 [.tmp 5, .tmp 7], none⟩, ⟨some 9, .mv (.tmp 8), none⟩, ⟨some 10, .load 1 true (.tmp 2), (some (some 9, true))⟩, ⟨some 11, .fad 1 (.tmp 3), (some (some 9, true))⟩, ⟨some 12, .load 1 false (.tmp 11), (some (some 9, true))⟩, ⟨some 13, .callf 116 [.tmp 10, .tmp 12], (some (some 9, true))⟩, ⟨some 14, .pick (.tmp 9) (.tmp 13) (.const (.bool false)), none⟩, ⟨some 4, .mv (.tmp 14), none⟩]) .ret))
theorem fn219 : MFn Tryz.prog 219 mc219 15 [.tmp 4] :=
  ⟨Tryz.f219, Tryz.func219, by kernel_rfl, Tryz.ntmps219, by kernel_rfl⟩
def F_spec_EqOk (sig : Ls) (e : (Ls × Ls)) : Option Bool :=
 (F_spec_TermOk sig e.1).bind fun r =>
 if r = true then
  (F_spec_TermOk sig e.2).bind fun r_1 =>
  some r_1
 else
  some false
theorem c_spec_EqOk {sig : Ls} {e : (Ls × Ls)} {rr : Bool} (h : F_spec_EqOk sig e = some rr) : PFun Tryz.prog 219 [D_impl_Sig sig, D_impl_Eq e] (bD rr) := by
  delta F_spec_EqOk at h
  refine fn219.pureL (vcm_sound ?_)
  delta mc219
  refine stp ?_
  obtain ⟨r, hr, h⟩ := bind_some h
  refine cR (c_spec_TermOk hr) (stp ?_)
  rcases ite_some h with ⟨hc, h⟩ | ⟨hc, h⟩
  · refine stpc hc ?_
    obtain ⟨r_1, hr_1, h⟩ := bind_some h
    refine cR (c_spec_TermOk hr_1) (stp ?_)
    cases h
    exact don
  refine stpc hc ?_
  cases h
  exact don
def mc115 : MCode :=
 (.seq (.reg [⟨some 2, .box 2 43 (.tmp 0), none⟩, ⟨some 4, .mv (.const (.bool false)), none⟩]) (.seq (.seq (.reg [⟨some 6, .load 1 true (.tmp 2), none⟩, ⟨some 7, .callf 217 [.tmp 6], none⟩, ⟨some 8, .un .not (.tmp 7), none⟩, ⟨some 9, .mv (.tmp 8), none⟩, ⟨some 10, .mv (.tmp 1), (some (some 9, false))⟩, ⟨some 11, .len (.tmp 10), (some (some 9, false))⟩, ⟨some 12, .bin .gtr (.tmp 11) (.const (.int .i64 12)), (some (some 9, false))⟩, ⟨some 13, .pick (.tmp 9) (.const (.bool true)) (.tmp 12), none⟩]) (.cond (.tmp 13) (.seq (.reg [⟨some 4, .mv (.const (.bool false)), none⟩]) .ret) .skip)) (.seq (.seq (.reg [⟨some 5, .mv (.const (.int .i64 0)), none⟩]) (.block 0 (.loop (.seq (.seq (.reg [⟨some 14, .mv (.tmp 5), none⟩, ⟨some 15, .mv (.tmp 1), none⟩, ⟨some 16, .len (.tmp 15), none⟩, ⟨some 17, .bin .lss (.tmp 14) (.tmp 16), none⟩]) (.cond (.tmp 17) .skip (.exit 0))) (.seq (.block 1 (.seq (.draw [⟨some 20, .load 1 true (.tmp 2), none⟩, ⟨some 21, .mv (.tmp 1), none⟩, ⟨some 22, .mv (.tmp 5), none⟩, ⟨some 23, .ixa 2 (.tmp 21) (.tmp 22), none⟩, ⟨some 24, .load 2 true (.tmp 23), none⟩, ⟨some 25, .callf 219 [.tmp 20, .tmp 24], none⟩, ⟨some 26, .un .not (.tmp 25), none⟩] [[], [], [], [1, 2], [3], [0, 4], [5]]) (.cond (.tmp 26) (.seq (.reg [⟨some 4, .mv (.const (.bool false)), none⟩]) .ret) .skip))) (.reg [⟨some 18, .mv (.tmp 5), none⟩, ⟨some 19, .bin .add (.tmp 18) (.const (.int .i64 1)), none⟩, ⟨some 5, .mv (.tmp 19), none⟩])))))) (.seq (.reg [⟨some 4, .mv (.const (.bool true)), none⟩]) .ret))))
theorem fn115 : MFn Tryz.prog 115 mc115 27 [.tmp 4] :=
  ⟨Tryz.f115, Tryz.func115, by kernel_rfl, Tryz.ntmps115, by kernel_rfl⟩
def F_spec_EqsOk_l1 (sig : Ls) (eqs : (List (Ls × Ls))) : Int → Option (Int ⊕ Bool)
 | i =>
  if (decide (i < (eqs.length : Int))) = true then
   if 0 ≤ i ∧ i < (eqs.length : Int) then
    (F_spec_EqOk sig ((eqs.getD i.toNat default).1, (eqs.getD i.toNat default).2)).bind fun r_1 =>
    if r_1 = true then
     some (.inl (IntKind.i64.wrap (i + 1)))
    else
     Option.map Sum.inr (
      some false)
   else none
  else
   Option.map Sum.inr (
    some true)
def F_spec_EqsOk (sig : Ls) (eqs : (List (Ls × Ls))) : Option Bool :=
 (F_spec_SigOk sig).bind fun r =>
 if r = true then
  if (decide (12 < (eqs.length : Int))) = true then
   some false
  else
   loopC (F_spec_EqsOk_l1 sig eqs) 0
 else
  some false
theorem c_spec_EqsOk {sig : Ls} {eqs : (List (Ls × Ls))} {rr : Bool} (h : F_spec_EqsOk sig eqs = some rr) : PFun Tryz.prog 115 [D_impl_Sig sig, (slD 2 D_impl_Eq) eqs] (bD rr) := by
  delta F_spec_EqsOk at h
  refine fn115.pureL (vcm_sound ?_)
  delta mc115
  refine stp ?_
  obtain ⟨r, hr, h⟩ := bind_some h
  refine cR (c_spec_SigOk hr) (stp ?_)
  rcases ite_some h with ⟨hc, h⟩ | ⟨hc, h⟩
  · refine stpc hc ?_
    rcases ite_some h with ⟨hc, h⟩ | ⟨hc, h⟩
    · refine stpc hc ?_
      cases h
      exact don
    refine stpc hc ?_
    refine m_loopF h [4, 5, 14, 15, 16, 17, 18, 19, 20, 21, 22, 23, 24, 25, 26] (fun pp => [(5, .d (iD pp))]) (fun pp => [(2, .obj 43 [.d (slD 1 iD sig)])]) ?_ ?_
    · try dsimp only
      exact wk
    rintro i t1 h hb1
    unfold F_spec_EqsOk_l1 at h
    try dsimp only at h
    refine vcm_sound (stp ?_)
    rcases ite_some h with ⟨hc, h⟩ | ⟨hc, h⟩
    · refine stpc hc ?_
      obtain ⟨hp, h⟩ := need_some h
      repeat (refine need_i (by omega) ?_; refine stp ?_)
      obtain ⟨r_1, hr_1, h⟩ := bind_some h
      refine cD' (c_spec_EqOk hr_1) (stp ?_)
      refine drQ_of (by kernel_rfl) ?_
      refine stp ?_
      rcases ite_some h with ⟨hc, h⟩ | ⟨hc, h⟩
      · refine stpc hc ?_
        cases h
        refine ⟨_, rfl, ?_⟩
        exact wk
      refine stpc hc ?_
      replace h := inr_some h hb1
      cases h
      exact don
    refine stpc hc ?_
    replace h := inr_some h hb1
    cases h
    exact don
  refine stpc hc ?_
  cases h
  exact don
def mc184 : MCode :=
 (.seq (.reg [⟨some 3, .box 3 43 (.tmp 0), none⟩, ⟨some 6, .mv (.const (.slice none 0 0)), none⟩]) (.seq (.seq (.reg [⟨some 7, .load 1 true (.tmp 3), none⟩, ⟨some 8, .mv (.tmp 1), none⟩, ⟨some 9, .callf 116 [.tmp 7, .tmp 8], none⟩, ⟨some 10, .un .not (.tmp 9), none⟩, ⟨some 11, .mv (.tmp 10), none⟩, ⟨some 12, .mv (.tmp 1), (some (some 11, false))⟩, ⟨some 13, .mv (.tmp 2), (some (some 11, false))⟩, ⟨some 14, .callf 188 [.tmp 12, .tmp 13], (some (some 11, false))⟩, ⟨some 15, .un .not (.tmp 14), (some (some 11, false))⟩, ⟨some 16, .pick (.tmp 11) (.const (.bool true)) (.tmp 15), none⟩]) (.cond (.tmp 16) (.seq (.reg [⟨some 17, .bsl 17 2 1 [], none⟩, ⟨some 6, .mv (.tmp 17), none⟩]) .ret) .skip)) (.seq (.reg [⟨some 18, .load 1 true (.tmp 3), none⟩, ⟨some 19, .mv (.tmp 1), none⟩, ⟨some 20, .mv (.tmp 2), none⟩, ⟨some 21, .callf 246 [.tmp 18, .tmp 19, .tmp 20], none⟩, ⟨some 6, .mv (.tmp 21), none⟩]) .ret)))
theorem fn184 : MFn Tryz.prog 184 mc184 22 [.tmp 6] :=
  ⟨Tryz.f184, Tryz.func184, by kernel_rfl, Tryz.ntmps184, by kernel_rfl⟩
def F_spec_SubAt (sig : Ls) (t : Ls) (at' : Int) : Option Ls :=
 (F_spec_TermOk sig t).bind fun r =>
 if r = true then
  (F_spec_l1There t at').bind fun r_1 =>
  if r_1 = true then
   (F_spec_l1Sub sig t at').bind fun r_2 =>
   some r_2
  else
   some []
 else
  some []
theorem c_spec_SubAt {sig : Ls} {t : Ls} {at' : Int} {rr : Ls} (h : F_spec_SubAt sig t at' = some rr) : PFun Tryz.prog 184 [D_impl_Sig sig, (slD 1 iD) t, iD at'] ((slD 1 iD) rr) := by
  delta F_spec_SubAt at h
  refine fn184.pureL (vcm_sound ?_)
  delta mc184
  refine stp ?_
  obtain ⟨r, hr, h⟩ := bind_some h
  refine cR (c_spec_TermOk hr) (stp ?_)
  rcases ite_some h with ⟨hc, h⟩ | ⟨hc, h⟩
  · refine stpc hc ?_
    obtain ⟨r_1, hr_1, h⟩ := bind_some h
    refine cR (c_spec_l1There hr_1) (stp ?_)
    rcases ite_some h with ⟨hc, h⟩ | ⟨hc, h⟩
    · refine stpc hc ?_
      obtain ⟨r_2, hr_2, h⟩ := bind_some h
      refine cR (c_spec_l1Sub hr_2) (stp ?_)
      cases h
      exact don
    refine stpc hc ?_
    cases h
    exact don
  refine stpc hc ?_
  cases h
  exact don
end
end Go.Proofs.YtcaljngigbfadaaGreat
namespace Go.Proofs.YtcaljngigbfadaaGreat
noncomputable section
open Go Abx
attribute [local irreducible] vcm vgo vdr vrun vdrun MWp GhostQ BrC BrO BrG BrD BrH AmbO callR callD drQ EnvLe StoLe
set_option maxHeartbeats 4000000
def mc307 : MCode :=
 (.seq (.reg [⟨some 3, .box 3 43 (.tmp 0), none⟩, ⟨some 6, .mv (.const (.bool false)), none⟩]) (.seq (.reg [⟨some 7, .load 1 true (.tmp 3), none⟩, ⟨some 8, .mv (.tmp 1), none⟩, ⟨some 9, .callf 116 [.tmp 7, .tmp 8], none⟩, ⟨some 10, .mv (.tmp 9), none⟩, ⟨some 11, .mv (.tmp 1), (some (some 10, true))⟩, ⟨some 12, .mv (.tmp 2), (some (some 10, true))⟩, ⟨some 13, .callf 188 [.tmp 11, .tmp 12], (some (some 10, true))⟩, ⟨some 14, .pick (.tmp 10) (.tmp 13) (.const (.bool false)), none⟩, ⟨some 6, .mv (.tmp 14), none⟩]) .ret))
theorem fn307 : MFn Tryz.prog 307 mc307 15 [.tmp 6] :=
  ⟨Tryz.f307, Tryz.func307, by kernel_rfl, Tryz.ntmps307, by kernel_rfl⟩
def F_spec_l3Right (sig : Ls) (t : Ls) (at' : Int) : Option Bool :=
 (F_spec_TermOk sig t).bind fun r =>
 if r = true then
  (F_spec_l1There t at').bind fun r_1 =>
  some r_1
 else
  some false
theorem c_spec_l3Right {sig : Ls} {t : Ls} {at' : Int} {rr : Bool} (h : F_spec_l3Right sig t at' = some rr) : PFun Tryz.prog 307 [D_impl_Sig sig, (slD 1 iD) t, iD at'] (bD rr) := by
  delta F_spec_l3Right at h
  refine fn307.pureL (vcm_sound ?_)
  delta mc307
  refine stp ?_
  obtain ⟨r, hr, h⟩ := bind_some h
  refine cR (c_spec_TermOk hr) (stp ?_)
  rcases ite_some h with ⟨hc, h⟩ | ⟨hc, h⟩
  · refine stpc hc ?_
    obtain ⟨r_1, hr_1, h⟩ := bind_some h
    refine cR (c_spec_l1There hr_1) (stp ?_)
    cases h
    exact don
  refine stpc hc ?_
  cases h
  exact don
def mc221 : MCode :=
 (.seq (.reg [⟨some 4, .box 4 43 (.tmp 0), none⟩, ⟨some 8, .mv (.const (.slice none 0 0)), none⟩, ⟨some 9, .mv (.const (.bool false)), none⟩]) (.seq (.seq (.reg [⟨some 10, .load 1 true (.tmp 4), none⟩, ⟨some 11, .mv (.tmp 1), none⟩, ⟨some 12, .mv (.tmp 2), none⟩, ⟨some 13, .callf 307 [.tmp 10, .tmp 11, .tmp 12], none⟩, ⟨some 14, .un .not (.tmp 13), none⟩, ⟨some 15, .mv (.tmp 14), none⟩, ⟨some 16, .load 1 true (.tmp 4), (some (some 15, false))⟩, ⟨some 17, .mv (.tmp 3), (some (some 15, false))⟩, ⟨some 18, .callf 116 [.tmp 16, .tmp 17], (some (some 15, false))⟩, ⟨some 19, .un .not (.tmp 18), (some (some 15, false))⟩, ⟨some 20, .pick (.tmp 15) (.const (.bool true)) (.tmp 19), none⟩]) (.cond (.tmp 20) (.seq (.reg [⟨some 21, .bsl 21 2 1 [], none⟩, ⟨some 8, .mv (.tmp 21), none⟩, ⟨some 9, .mv (.const (.bool false)), none⟩]) .ret) .skip)) (.seq (.reg [⟨some 22, .load 1 true (.tmp 4), none⟩, ⟨some 23, .mv (.tmp 1), none⟩, ⟨some 24, .mv (.tmp 2), none⟩, ⟨some 25, .mv (.tmp 3), none⟩, ⟨some 26, .callf 189 [.tmp 22, .tmp 23, .tmp 24, .tmp 25], none⟩, ⟨some 27, .ext (.tmp 26) 0, none⟩, ⟨some 28, .ext (.tmp 26) 1, none⟩, ⟨some 8, .mv (.tmp 27), none⟩, ⟨some 9, .mv (.tmp 28), none⟩]) .ret)))
theorem fn221 : MFn Tryz.prog 221 mc221 29 [.tmp 8, .tmp 9] :=
  ⟨Tryz.f221, Tryz.func221, by kernel_rfl, Tryz.ntmps221, by kernel_rfl⟩
def F_spec_PutAt (sig : Ls) (t : Ls) (at' : Int) (u : Ls) : Option (Ls × Bool) :=
 (F_spec_l3Right sig t at').bind fun r =>
 if r = true then
  (F_spec_TermOk sig u).bind fun r_1 =>
  if r_1 = true then
   (F_spec_l3Put sig t at' u).bind fun r_2 =>
   some r_2
  else
   some ([], false)
 else
  some ([], false)
theorem c_spec_PutAt {sig : Ls} {t : Ls} {at' : Int} {u : Ls} {rr : (Ls × Bool)} (h : F_spec_PutAt sig t at' u = some rr) : PFunN Tryz.prog 221 [D_impl_Sig sig, (slD 1 iD) t, iD at', (slD 1 iD) u] [(slD 1 iD) rr.1, bD rr.2] := by
  delta F_spec_PutAt at h
  refine fn221.pureLN (vcm_sound ?_)
  delta mc221
  refine stp ?_
  obtain ⟨r, hr, h⟩ := bind_some h
  refine cR (c_spec_l3Right hr) (stp ?_)
  rcases ite_some h with ⟨hc, h⟩ | ⟨hc, h⟩
  · refine stpc hc ?_
    obtain ⟨r_1, hr_1, h⟩ := bind_some h
    refine cR (c_spec_TermOk hr_1) (stp ?_)
    rcases ite_some h with ⟨hc, h⟩ | ⟨hc, h⟩
    · refine stpc hc ?_
      obtain ⟨r_2, hr_2, h⟩ := bind_some h
      refine cRN (c_spec_l3Put hr_2) (stp ?_)
      cases h
      exact don
    refine stpc hc ?_
    cases h
    exact don
  refine stpc hc ?_
  cases h
  exact don
def mc376 : MCode :=
 (.seq (.reg [⟨some 3, .box 3 43 (.tmp 0), none⟩, ⟨some 6, .mv (.const (.slice none 0 0)), none⟩]) (.seq (.reg [⟨some 10, .bsl 10 2 1 [], none⟩, ⟨some 7, .mv (.tmp 10), none⟩]) (.seq (.reg [⟨some 11, .mv (.tmp 2), none⟩, ⟨some 12, .bin .add (.tmp 11) (.const (.int .i64 1)), none⟩, ⟨some 8, .mv (.tmp 12), none⟩]) (.seq (.seq (.draw [⟨some 13, .load 1 true (.tmp 3), none⟩, ⟨some 14, .mv (.tmp 1), none⟩, ⟨some 15, .mv (.tmp 2), none⟩, ⟨some 16, .ixa 1 (.tmp 14) (.tmp 15), none⟩, ⟨some 17, .load 1 false (.tmp 16), none⟩, ⟨some 18, .callf 306 [.tmp 13, .tmp 17], none⟩, ⟨some 9, .mv (.tmp 18), none⟩] [[], [], [], [1, 2], [3], [0, 4], [5, 5, 0, 1, 2, 3, 4, 5]]) (.block 0 (.loop (.seq (.seq (.reg [⟨some 19, .mv (.tmp 9), none⟩, ⟨some 20, .bin .gtr (.tmp 19) (.const (.int .i64 0)), none⟩]) (.cond (.tmp 20) .skip (.exit 0))) (.seq (.block 1 (.seq (.reg [⟨some 23, .mv (.tmp 7), none⟩, ⟨some 24, .mv (.tmp 8), none⟩, ⟨some 25, .bsl 25 2 1 [.tmp 24], none⟩, ⟨some 26, .app 26 2 1 8 (.tmp 23) (.tmp 25), none⟩, ⟨some 7, .mv (.tmp 26), none⟩]) (.reg [⟨some 27, .load 1 true (.tmp 3), none⟩, ⟨some 28, .mv (.tmp 1), none⟩, ⟨some 29, .mv (.tmp 8), none⟩, ⟨some 30, .callf 220 [.tmp 27, .tmp 28, .tmp 29], none⟩, ⟨some 8, .mv (.tmp 30), none⟩]))) (.reg [⟨some 21, .mv (.tmp 9), none⟩, ⟨some 22, .bin .sub (.tmp 21) (.const (.int .i64 1)), none⟩, ⟨some 9, .mv (.tmp 22), none⟩])))))) (.seq (.reg [⟨some 31, .mv (.tmp 7), none⟩, ⟨some 6, .mv (.tmp 31), none⟩]) .ret)))))
theorem fn376 : MFn Tryz.prog 376 mc376 32 [.tmp 6] :=
  ⟨Tryz.f376, Tryz.func376, by kernel_rfl, Tryz.ntmps376, by kernel_rfl⟩
def F_spec_l1Args_l1 (sig : Ls) (t : Ls) : (Ls × Int × Int) → Option ((Ls × Int × Int) ⊕ Ls)
 | (out, p, k) =>
  if (decide (0 < k)) = true then
   if (out.length + 1) * 8 ≤ 140737488355328 then
    (F_spec_l1End sig t p).bind fun r_1 =>
    some (.inl ((out ++ [p]), r_1, (IntKind.i64.wrap (k - 1))))
   else none
  else
   Option.map Sum.inr (
    some out)
def F_spec_l1Args (sig : Ls) (t : Ls) (at' : Int) : Option Ls :=
 if 0 ≤ at' ∧ at' < (t.length : Int) then
  (F_spec_l1Arity sig (t.getD at'.toNat default)).bind fun r =>
  loopC (F_spec_l1Args_l1 sig t) ([], (IntKind.i64.wrap (at' + 1)), r)
 else none
theorem c_spec_l1Args {sig : Ls} {t : Ls} {at' : Int} {rr : Ls} (h : F_spec_l1Args sig t at' = some rr) : PFun Tryz.prog 376 [D_impl_Sig sig, (slD 1 iD) t, iD at'] ((slD 1 iD) rr) := by
  delta F_spec_l1Args at h
  refine fn376.pureL (vcm_sound ?_)
  delta mc376
  refine stp ?_
  obtain ⟨hp, h⟩ := need_some h
  repeat (refine need_i (by omega) ?_; refine stp ?_)
  obtain ⟨r, hr, h⟩ := bind_some h
  refine cD' (c_spec_l1Arity hr) (stp ?_)
  refine drQ_of (by kernel_rfl) ?_
  refine stp ?_
  refine m_loopF h [7, 8, 9, 19, 20, 21, 22, 23, 24, 25, 26, 27, 28, 29, 30] (fun pp => [(7, .own 1 10 (List.map iD pp.1)), (8, .d (iD pp.2.1)), (9, .d (iD pp.2.2))]) (fun pp => [(3, .obj 43 [.d (slD 1 iD sig)]), (10, .tok 2 1 pp.1.length)]) ?_ ?_
  · try dsimp only
    exact wk
  rintro ⟨out, p, k⟩ t1 h hb1
  unfold F_spec_l1Args_l1 at h
  try dsimp only at h
  refine vcm_sound (stp ?_)
  rcases ite_some h with ⟨hc, h⟩ | ⟨hc, h⟩
  · refine stpc hc ?_
    obtain ⟨hp, h⟩ := need_some h
    repeat (refine need_i (by omega) ?_; refine stp ?_)
    obtain ⟨r_1, hr_1, h⟩ := bind_some h
    refine cR (c_spec_l1End hr_1) (stp ?_)
    cases h
    refine ⟨_, rfl, ?_⟩
    refine (Weak.drop 25 (by omega)).trans ?_
    exact wk
  refine stpc hc ?_
  replace h := inr_some h hb1
  cases h
  exact don
end
end Go.Proofs.YtcaljngigbfadaaGreat
namespace Go.Proofs.YtcaljngigbfadaaGreat
noncomputable section
open Go Abx
attribute [local irreducible] vcm vgo vdr vrun vdrun MWp GhostQ BrC BrO BrG BrD BrH AmbO callR callD drQ EnvLe StoLe
set_option maxHeartbeats 4000000
def mc308 : MCode :=
 (.seq (.reg [⟨some 3, .box 3 43 (.tmp 0), none⟩, ⟨some 6, .mv (.const (.slice none 0 0)), none⟩]) (.seq (.seq (.reg [⟨some 7, .load 1 true (.tmp 3), none⟩, ⟨some 8, .mv (.tmp 1), none⟩, ⟨some 9, .callf 116 [.tmp 7, .tmp 8], none⟩, ⟨some 10, .un .not (.tmp 9), none⟩, ⟨some 11, .mv (.tmp 10), none⟩, ⟨some 12, .mv (.tmp 1), (some (some 11, false))⟩, ⟨some 13, .mv (.tmp 2), (some (some 11, false))⟩, ⟨some 14, .callf 188 [.tmp 12, .tmp 13], (some (some 11, false))⟩, ⟨some 15, .un .not (.tmp 14), (some (some 11, false))⟩, ⟨some 16, .pick (.tmp 11) (.const (.bool true)) (.tmp 15), none⟩]) (.cond (.tmp 16) (.seq (.reg [⟨some 17, .bsl 17 2 1 [], none⟩, ⟨some 6, .mv (.tmp 17), none⟩]) .ret) .skip)) (.seq (.reg [⟨some 18, .load 1 true (.tmp 3), none⟩, ⟨some 19, .mv (.tmp 1), none⟩, ⟨some 20, .mv (.tmp 2), none⟩, ⟨some 21, .callf 376 [.tmp 18, .tmp 19, .tmp 20], none⟩, ⟨some 6, .mv (.tmp 21), none⟩]) .ret)))
theorem fn308 : MFn Tryz.prog 308 mc308 22 [.tmp 6] :=
  ⟨Tryz.f308, Tryz.func308, by kernel_rfl, Tryz.ntmps308, by kernel_rfl⟩
def F_spec_ArgsAt (sig : Ls) (t : Ls) (at' : Int) : Option Ls :=
 (F_spec_TermOk sig t).bind fun r =>
 if r = true then
  (F_spec_l1There t at').bind fun r_1 =>
  if r_1 = true then
   (F_spec_l1Args sig t at').bind fun r_2 =>
   some r_2
  else
   some []
 else
  some []
theorem c_spec_ArgsAt {sig : Ls} {t : Ls} {at' : Int} {rr : Ls} (h : F_spec_ArgsAt sig t at' = some rr) : PFun Tryz.prog 308 [D_impl_Sig sig, (slD 1 iD) t, iD at'] ((slD 1 iD) rr) := by
  delta F_spec_ArgsAt at h
  refine fn308.pureL (vcm_sound ?_)
  delta mc308
  refine stp ?_
  obtain ⟨r, hr, h⟩ := bind_some h
  refine cR (c_spec_TermOk hr) (stp ?_)
  rcases ite_some h with ⟨hc, h⟩ | ⟨hc, h⟩
  · refine stpc hc ?_
    obtain ⟨r_1, hr_1, h⟩ := bind_some h
    refine cR (c_spec_l1There hr_1) (stp ?_)
    rcases ite_some h with ⟨hc, h⟩ | ⟨hc, h⟩
    · refine stpc hc ?_
      obtain ⟨r_2, hr_2, h⟩ := bind_some h
      refine cR (c_spec_l1Args hr_2) (stp ?_)
      cases h
      exact don
    refine stpc hc ?_
    cases h
    exact don
  refine stpc hc ?_
  cases h
  exact don
def mc222_spec_l20Match : MCode :=
  (.seq (.reg [⟨(some 4), .box 4 43 (.tmp 0), none⟩,
    ⟨(some 8), .mv (.const (.slice none 0 0)), none⟩,
    ⟨(some 9), .mv (.const (.bool false)), none⟩])
  (.seq (.seq (.reg [⟨(some 17), .mv (.tmp 2), none⟩,
    ⟨(some 18), .len (.tmp 17), none⟩,
    ⟨(some 19), .bin .eql (.tmp 18) (.const (.int .i64 0)), none⟩,
    ⟨(some 20), .mv (.tmp 19), none⟩,
    ⟨(some 21), .mv (.tmp 3), (some (some 20, false))⟩,
    ⟨(some 22), .len (.tmp 21), (some (some 20, false))⟩,
    ⟨(some 23), .bin .eql (.tmp 22) (.const (.int .i64 0)), (some (some 20, false))⟩,
    ⟨(some 24), .pick (.tmp 20) (.const (.bool true)) (.tmp 23), none⟩])
  (.cond (.tmp 24)
    (.seq (.reg [⟨(some 25), .mv (.tmp 1), none⟩,
      ⟨(some 8), .mv (.tmp 25), none⟩,
      ⟨(some 9), .mv (.const (.bool false)), none⟩])
    .ret)
    .skip))
  (.seq (.seq (.reg [⟨(some 26), .mv (.tmp 2), none⟩,
    ⟨(some 27), .ixa 1 (.tmp 26) (.const (.int .i64 0)), none⟩,
    ⟨(some 28), .load 1 false (.tmp 27), none⟩,
    ⟨(some 29), .bin .lss (.tmp 28) (.const (.int .i64 0)), none⟩])
  (.cond (.tmp 29)
    (.seq (.reg [⟨(some 30), .mv (.tmp 2), none⟩,
      ⟨(some 31), .ixa 1 (.tmp 30) (.const (.int .i64 0)), none⟩,
      ⟨(some 32), .load 1 false (.tmp 31), none⟩,
      ⟨(some 33), .bin .sub (.const (.int .i64 (-1))) (.tmp 32), none⟩,
      ⟨(some 10), .mv (.tmp 33), none⟩])
    (.seq (.seq (.reg [⟨(some 34), .mv (.tmp 1), none⟩,
      ⟨(some 35), .mv (.tmp 10), none⟩,
      ⟨(some 36), .ixa 1 (.tmp 34) (.tmp 35), none⟩,
      ⟨(some 37), .load 1 false (.tmp 36), none⟩,
      ⟨(some 38), .len (.tmp 37), none⟩,
      ⟨(some 39), .bin .gtr (.tmp 38) (.const (.int .i64 0)), none⟩])
    (.cond (.tmp 39)
      (.seq (.reg [⟨(some 40), .mv (.tmp 1), none⟩,
        ⟨(some 41), .mv (.tmp 1), none⟩,
        ⟨(some 42), .mv (.tmp 10), none⟩,
        ⟨(some 43), .ixa 1 (.tmp 41) (.tmp 42), none⟩,
        ⟨(some 44), .load 1 false (.tmp 43), none⟩,
        ⟨(some 45), .mv (.tmp 3), none⟩,
        ⟨(some 46), .callf 33 [(.tmp 44), (.tmp 45)], none⟩,
        ⟨(some 8), .mv (.tmp 40), none⟩,
        ⟨(some 9), .mv (.tmp 46), none⟩])
      .ret)
      .skip))
    (.seq (.reg [⟨(some 47), .bslg 47 22 1 [], none⟩,
      ⟨(some 48), .mv (.tmp 1), none⟩,
      ⟨(some 49), .app 49 22 1 24 (.tmp 47) (.tmp 48), none⟩,
      ⟨(some 11), .mv (.tmp 49), none⟩])
    (.seq (.reg [⟨(some 50), .mv (.tmp 11), none⟩,
      ⟨(some 51), .mv (.tmp 10), none⟩,
      ⟨(some 52), .mv (.tmp 3), none⟩,
      ⟨(some 53), .ixa 1 (.tmp 50) (.tmp 51), none⟩,
      ⟨none, .store 1 (.tmp 53) (.tmp 52), none⟩])
    (.seq (.reg [⟨(some 54), .mv (.tmp 11), none⟩,
      ⟨(some 8), .mv (.tmp 54), none⟩,
      ⟨(some 9), .mv (.const (.bool true)), none⟩])
    .ret)))))
    .skip))
  (.seq (.seq (.draw [⟨(some 55), .mv (.tmp 2), none⟩,
    ⟨(some 56), .ixa 1 (.tmp 55) (.const (.int .i64 0)), none⟩,
    ⟨(some 57), .load 1 false (.tmp 56), none⟩,
    ⟨(some 58), .mv (.tmp 3), none⟩,
    ⟨(some 59), .ixa 1 (.tmp 58) (.const (.int .i64 0)), none⟩,
    ⟨(some 60), .load 1 false (.tmp 59), none⟩,
    ⟨(some 61), .bin .neq (.tmp 57) (.tmp 60), none⟩] [[], [0], [1], [], [3], [4], [2, 5]])
  (.cond (.tmp 61)
    (.seq (.reg [⟨(some 62), .mv (.tmp 1), none⟩,
      ⟨(some 8), .mv (.tmp 62), none⟩,
      ⟨(some 9), .mv (.const (.bool false)), none⟩])
    .ret)
    .skip))
  (.seq (.reg [⟨(some 63), .load 1 true (.tmp 4), none⟩,
    ⟨(some 64), .mv (.tmp 2), none⟩,
    ⟨(some 65), .callf 308 [(.tmp 63), (.tmp 64), (.const (.int .i64 0))], none⟩,
    ⟨(some 12), .mv (.tmp 65), none⟩])
  (.seq (.reg [⟨(some 66), .load 1 true (.tmp 4), none⟩,
    ⟨(some 67), .mv (.tmp 3), none⟩,
    ⟨(some 68), .callf 308 [(.tmp 66), (.tmp 67), (.const (.int .i64 0))], none⟩,
    ⟨(some 13), .mv (.tmp 68), none⟩])
  (.seq (.seq (.reg [⟨(some 14), .mv (.const (.int .i64 0)), none⟩])
  (.block 0
    (.loop
      (.seq (.seq (.reg [⟨(some 69), .mv (.tmp 14), none⟩,
        ⟨(some 70), .mv (.tmp 12), none⟩,
        ⟨(some 71), .len (.tmp 70), none⟩,
        ⟨(some 72), .bin .lss (.tmp 69) (.tmp 71), none⟩])
      (.cond (.tmp 72)
        .skip
        (.exit 0)))
      (.seq (.block 1
        (.seq (.draw [⟨(some 76), .load 1 true (.tmp 4), none⟩,
          ⟨(some 77), .mv (.tmp 1), none⟩,
          ⟨(some 78), .load 1 true (.tmp 4), none⟩,
          ⟨(some 79), .mv (.tmp 2), none⟩,
          ⟨(some 80), .mv (.tmp 12), none⟩,
          ⟨(some 81), .mv (.tmp 14), none⟩,
          ⟨(some 82), .ixa 1 (.tmp 80) (.tmp 81), none⟩,
          ⟨(some 83), .load 1 false (.tmp 82), none⟩,
          ⟨(some 84), .callf 184 [(.tmp 78), (.tmp 79), (.tmp 83)], none⟩,
          ⟨(some 85), .load 1 true (.tmp 4), none⟩,
          ⟨(some 86), .mv (.tmp 3), none⟩,
          ⟨(some 87), .mv (.tmp 13), none⟩,
          ⟨(some 88), .mv (.tmp 14), none⟩,
          ⟨(some 89), .ixa 1 (.tmp 87) (.tmp 88), none⟩,
          ⟨(some 90), .load 1 false (.tmp 89), none⟩,
          ⟨(some 91), .callf 184 [(.tmp 85), (.tmp 86), (.tmp 90)], none⟩,
          ⟨(some 92), .callf 222 [(.tmp 76), (.tmp 77), (.tmp 84), (.tmp 91)], none⟩,
          ⟨(some 75), .mv (.tmp 92), none⟩,
          ⟨(some 93), .ext (.tmp 75) 0, none⟩,
          ⟨(some 94), .ext (.tmp 75) 1, none⟩,
          ⟨(some 15), .mv (.tmp 93), none⟩,
          ⟨(some 16), .mv (.tmp 94), none⟩] [[], [], [], [], [], [], [4, 5], [6], [2, 3, 7], [], [], [], [], [11, 12], [13], [9, 10, 14, 8], [0, 1, 8, 15, 15], [16], [17], [17], [18, 16, 0, 1, 2, 3, 4, 5, 6, 7, 8, 9, 10, 11, 12, 13, 14, 15, 16, 17, 18], [19, 20, 0, 1, 2, 3, 4, 5, 6, 7, 8, 9, 10, 11, 12, 13, 14, 15, 16, 17, 18, 19, 20]])
        (.seq (.seq (.reg [⟨(some 95), .mv (.tmp 16), none⟩,
          ⟨(some 96), .un .not (.tmp 95), none⟩])
        (.cond (.tmp 96)
          (.seq (.reg [⟨(some 97), .mv (.tmp 1), none⟩,
            ⟨(some 8), .mv (.tmp 97), none⟩,
            ⟨(some 9), .mv (.const (.bool false)), none⟩])
          .ret)
          .skip))
        (.reg [⟨(some 98), .mv (.tmp 15), none⟩,
          ⟨(some 1), .mv (.tmp 98), none⟩]))))
      (.reg [⟨(some 73), .mv (.tmp 14), none⟩,
        ⟨(some 74), .bin .add (.tmp 73) (.const (.int .i64 1)), none⟩,
        ⟨(some 14), .mv (.tmp 74), none⟩]))))))
  (.seq (.reg [⟨(some 99), .mv (.tmp 1), none⟩,
    ⟨(some 8), .mv (.tmp 99), none⟩,
    ⟨(some 9), .mv (.const (.bool true)), none⟩])
  .ret))))))))
theorem fn222_spec_l20Match : MFn Tryz.prog 222 mc222_spec_l20Match 100 [.tmp 8, .tmp 9] :=
  ⟨Tryz.f222, Tryz.func222, by kernel_rfl, Tryz.ntmps222, by kernel_rfl⟩
def F_spec_l20Match_l1 (rec : Ls → (List Ls) → Ls → Ls → Option ((List Ls) × Bool)) (sig : Ls) (p : Ls) (t : Ls) (r_1 : Ls) (r_2 : Ls) : ((List Ls) × Int) → Option (((List Ls) × Int) ⊕ ((List Ls) × Bool))
 | (given_1, i) =>
  if (decide (i < (r_1.length : Int))) = true then
   if 0 ≤ i ∧ i < (r_1.length : Int) then
    (F_spec_SubAt sig p (r_1.getD i.toNat default)).bind fun r_3 =>
    if 0 ≤ i ∧ i < (r_2.length : Int) then
     (F_spec_SubAt sig t (r_2.getD i.toNat default)).bind fun r_4 =>
     (rec sig given_1 r_3 r_4).bind fun r_5 =>
     if r_5.2 = true then
      some (.inl (r_5.1, (IntKind.i64.wrap (i + 1))))
     else
      Option.map Sum.inr (
       some (given_1, false))
    else none
   else none
  else
   Option.map Sum.inr (
    some (given_1, true))
def F_spec_l20Match : Nat → Ls → (List Ls) → Ls → Ls → Option ((List Ls) × Bool)
 | 0, _, _, _, _ => none
 | fu + 1, sig, given, p, t =>
  if ((p.length : Int) == 0) = true then
   some (given, false)
  else
   if ((t.length : Int) == 0) = true then
    some (given, false)
   else
    if 0 ≤ 0 ∧ 0 < (p.length : Int) then
     if (decide ((p.getD 0 default) < 0)) = true then
      if 0 ≤ 0 ∧ 0 < (p.length : Int) then
       if 0 ≤ (IntKind.i64.wrap ((-1) - (p.getD 0 default))) ∧ (IntKind.i64.wrap ((-1) - (p.getD 0 default))) < (given.length : Int) then
        if (decide (0 < ((given.getD (IntKind.i64.wrap ((-1) - (p.getD 0 default))).toNat default).length : Int))) = true then
         if 0 ≤ (IntKind.i64.wrap ((-1) - (p.getD 0 default))) ∧ (IntKind.i64.wrap ((-1) - (p.getD 0 default))) < (given.length : Int) then
          (F_spec_SameTerm (given.getD (IntKind.i64.wrap ((-1) - (p.getD 0 default))).toNat default) t).bind fun r =>
          some (given, r)
         else none
        else
         if (0 + given.length) * 24 ≤ 140737488355328 then
          if 0 ≤ (IntKind.i64.wrap ((-1) - (p.getD 0 default))) ∧ (IntKind.i64.wrap ((-1) - (p.getD 0 default))) < (given.length : Int) then
           some ((given.set (IntKind.i64.wrap ((-1) - (p.getD 0 default))).toNat t), true)
          else none
         else none
       else none
      else none
     else
      if 0 ≤ 0 ∧ 0 < (p.length : Int) then
       if 0 ≤ 0 ∧ 0 < (t.length : Int) then
        if ((p.getD 0 default) != (t.getD 0 default)) = true then
         some (given, false)
        else
         (F_spec_ArgsAt sig p 0).bind fun r_1 =>
         (F_spec_ArgsAt sig t 0).bind fun r_2 =>
         loopC (F_spec_l20Match_l1 (F_spec_l20Match fu) sig p t r_1 r_2) (given, 0)
       else none
      else none
    else none
def F_spec_l20Match_all (sig : Ls) (given : (List Ls)) (p : Ls) (t : Ls) : Option ((List Ls) × Bool) := limO fun fu => F_spec_l20Match fu sig given p t
theorem c_spec_l20Match : ∀ {fu : Nat} {sig : Ls} {given : (List Ls)} {p : Ls} {t : Ls} {rr : ((List Ls) × Bool)} (h : F_spec_l20Match fu sig given p t = some rr), PFunN Tryz.prog 222 [D_impl_Sig sig, (slD 1 (slD 1 iD)) given, (slD 1 iD) p, (slD 1 iD) t] [(slD 1 (slD 1 iD)) rr.1, bD rr.2]
  | 0, _, _, _, _, _, h => by cases h
  | fu + 1, sig, given, p, t, rr, h => by
    have ih := @c_spec_l20Match fu
    unfold F_spec_l20Match at h
    refine fn222_spec_l20Match.pureDN (vcm_sound ?_)
    delta mc222_spec_l20Match
    refine stp ?_
    rcases ite_some h with ⟨hc, h⟩ | ⟨hc, h⟩
    · refine stpc hc ?_
      cases h
      exact ⟨_, _, Done.refl, frd⟩
    refine stpc hc ?_
    rcases ite_some h with ⟨hc, h⟩ | ⟨hc, h⟩
    · refine stpc hc ?_
      cases h
      exact ⟨_, _, Done.refl, frd⟩
    refine stpc hc ?_
    obtain ⟨hp, h⟩ := need_some h
    repeat (refine need_i (by omega) ?_; refine stp ?_)
    rcases ite_some h with ⟨hc, h⟩ | ⟨hc, h⟩
    · refine stpc hc ?_
      obtain ⟨hp, h⟩ := need_some h
      repeat (refine need_i (by omega) ?_; refine stp ?_)
      obtain ⟨hp, h⟩ := need_some h
      repeat (refine need_i (by omega) ?_; refine stp ?_)
      rcases ite_some h with ⟨hc, h⟩ | ⟨hc, h⟩
      · refine stpc hc ?_
        obtain ⟨hp, h⟩ := need_some h
        repeat (refine need_i (by omega) ?_; refine stp ?_)
        obtain ⟨r, hr, h⟩ := bind_some h
        refine cR (c_spec_SameTerm hr) (stp ?_)
        cases h
        exact ⟨_, _, Done.refl, frd⟩
      refine stpc hc ?_
      obtain ⟨hp, h⟩ := need_some h
      repeat (refine need_i (by omega) ?_; refine stp ?_)
      obtain ⟨hp, h⟩ := need_some h
      repeat (refine need_i (by omega) ?_; refine stp ?_)
      repeat (refine need_i (by omega) ?_; refine stp ?_)
      cases h
      exact ⟨_, _, (Done.fz 47 (slD 1 iD) rfl (given.set (IntKind.i64.wrap ((-1) - (p.getD 0 default))).toNat t)), frd⟩
    refine stpc hc ?_
    obtain ⟨hp, h⟩ := need_some h
    repeat (refine need_i (by omega) ?_; refine stp ?_)
    obtain ⟨hp, h⟩ := need_some h
    repeat (refine need_i (by omega) ?_; refine stp ?_)
    refine drQ_of (by kernel_rfl) ?_
    refine stp ?_
    rcases ite_some h with ⟨hc, h⟩ | ⟨hc, h⟩
    · refine stpc hc ?_
      cases h
      exact ⟨_, _, Done.refl, frd⟩
    refine stpc hc ?_
    obtain ⟨r_1, hr_1, h⟩ := bind_some h
    refine cR (c_spec_ArgsAt hr_1) (stp ?_)
    obtain ⟨r_2, hr_2, h⟩ := bind_some h
    refine cR (c_spec_ArgsAt hr_2) (stp ?_)
    refine m_loopF h [1, 8, 9, 14, 15, 16, 69, 70, 71, 72, 73, 74, 75, 76, 77, 78, 79, 80, 81, 82, 83, 84, 85, 86, 87, 88, 89, 90, 91, 92, 93, 94, 95, 96, 97, 98] (fun pp => [(1, .d (slD 1 (slD 1 iD) pp.1)), (14, .d (iD pp.2))]) (fun pp => [(4, .obj 43 [.d (slD 1 iD sig)])]) ?_ ?_
    · try dsimp only
      exact wk
    rintro ⟨given_1, i⟩ t1 h hb1
    unfold F_spec_l20Match_l1 at h
    try dsimp only at h
    refine vcm_sound (stp ?_)
    rcases ite_some h with ⟨hc, h⟩ | ⟨hc, h⟩
    · refine stpc hc ?_
      obtain ⟨hp, h⟩ := need_some h
      repeat (refine need_i (by omega) ?_; refine stp ?_)
      obtain ⟨r_3, hr_3, h⟩ := bind_some h
      refine cD' (c_spec_SubAt hr_3) (stp ?_)
      obtain ⟨hp, h⟩ := need_some h
      repeat (refine need_i (by omega) ?_; refine stp ?_)
      obtain ⟨r_4, hr_4, h⟩ := bind_some h
      refine cD' (c_spec_SubAt hr_4) (stp ?_)
      obtain ⟨r_5, hr_5, h⟩ := bind_some h
      refine cDN (ih hr_5) (stp ?_)
      refine drQ_of (by kernel_rfl) ?_
      refine stp ?_
      rcases ite_some h with ⟨hc, h⟩ | ⟨hc, h⟩
      · refine stpc hc ?_
        cases h
        refine ⟨_, rfl, ?_⟩
        exact wk
      refine stpc hc ?_
      replace h := inr_some h hb1
      cases h
      exact ⟨_, _, Done.refl, frd⟩
    refine stpc hc ?_
    replace h := inr_some h hb1
    cases h
    exact ⟨_, _, Done.refl, frd⟩
theorem c_spec_l20Match_all {sig : Ls} {given : (List Ls)} {p : Ls} {t : Ls} {rr : ((List Ls) × Bool)} (h : F_spec_l20Match_all sig given p t = some rr) : PFunN Tryz.prog 222 [D_impl_Sig sig, (slD 1 (slD 1 iD)) given, (slD 1 iD) p, (slD 1 iD) t] [(slD 1 (slD 1 iD)) rr.1, bD rr.2] := c_spec_l20Match (limO_some h).choose_spec
def mc117_spec_l20Move : MCode :=
  (.seq (.reg [⟨(some 4), .box 4 43 (.tmp 0), none⟩,
    ⟨(some 7), .box 7 152 (.tmp 3), none⟩,
    ⟨(some 8), .mv (.const (.bool false)), none⟩])
  (.seq (.seq (.reg [⟨(some 18), .fad 0 (.tmp 7), none⟩,
    ⟨(some 19), .load 1 false (.tmp 18), none⟩,
    ⟨(some 20), .mv (.tmp 1), none⟩,
    ⟨(some 21), .len (.tmp 20), none⟩,
    ⟨(some 22), .bin .sub (.tmp 21) (.const (.int .i64 1)), none⟩,
    ⟨(some 23), .callf 79 [(.tmp 19), (.const (.int .i64 0)), (.tmp 22)], none⟩,
    ⟨(some 24), .un .not (.tmp 23), none⟩,
    ⟨(some 25), .mv (.tmp 24), none⟩,
    ⟨(some 26), .fad 1 (.tmp 7), (some (some 25, false))⟩,
    ⟨(some 27), .load 1 false (.tmp 26), (some (some 25, false))⟩,
    ⟨(some 28), .mv (.tmp 2), (some (some 25, false))⟩,
    ⟨(some 29), .len (.tmp 28), (some (some 25, false))⟩,
    ⟨(some 30), .bin .sub (.tmp 29) (.const (.int .i64 1)), (some (some 25, false))⟩,
    ⟨(some 31), .callf 79 [(.tmp 27), (.const (.int .i64 0)), (.tmp 30)], (some (some 25, false))⟩,
    ⟨(some 32), .un .not (.tmp 31), (some (some 25, false))⟩,
    ⟨(some 33), .pick (.tmp 25) (.const (.bool true)) (.tmp 32), none⟩,
    ⟨(some 34), .mv (.tmp 33), none⟩,
    ⟨(some 35), .load 1 true (.tmp 4), (some (some 34, false))⟩,
    ⟨(some 36), .fad 3 (.tmp 7), (some (some 34, false))⟩,
    ⟨(some 37), .load 1 false (.tmp 36), (some (some 34, false))⟩,
    ⟨(some 38), .callf 116 [(.tmp 35), (.tmp 37)], (some (some 34, false))⟩,
    ⟨(some 39), .un .not (.tmp 38), (some (some 34, false))⟩,
    ⟨(some 40), .pick (.tmp 34) (.const (.bool true)) (.tmp 39), none⟩,
    ⟨(some 41), .mv (.tmp 40), none⟩,
    ⟨(some 42), .fad 1 (.tmp 7), (some (some 41, false))⟩,
    ⟨(some 43), .load 1 false (.tmp 42), (some (some 41, false))⟩,
    ⟨(some 44), .fad 3 (.tmp 7), (some (some 41, false))⟩,
    ⟨(some 45), .load 1 false (.tmp 44), (some (some 41, false))⟩,
    ⟨(some 46), .len (.tmp 45), (some (some 41, false))⟩,
    ⟨(some 47), .bin .geq (.tmp 43) (.tmp 46), (some (some 41, false))⟩,
    ⟨(some 48), .pick (.tmp 41) (.const (.bool true)) (.tmp 47), none⟩])
  (.cond (.tmp 48)
    (.seq (.reg [⟨(some 8), .mv (.const (.bool false)), none⟩])
    .ret)
    .skip))
  (.seq (.reg [⟨(some 49), .mv (.tmp 1), none⟩,
    ⟨(some 50), .fad 0 (.tmp 7), none⟩,
    ⟨(some 51), .load 1 false (.tmp 50), none⟩,
    ⟨(some 52), .ixa 2 (.tmp 49) (.tmp 51), none⟩,
    ⟨(some 53), .fad 0 (.tmp 52), none⟩,
    ⟨(some 54), .load 1 false (.tmp 53), none⟩,
    ⟨(some 9), .mv (.tmp 54), none⟩])
  (.seq (.reg [⟨(some 55), .mv (.tmp 1), none⟩,
    ⟨(some 56), .fad 0 (.tmp 7), none⟩,
    ⟨(some 57), .load 1 false (.tmp 56), none⟩,
    ⟨(some 58), .ixa 2 (.tmp 55) (.tmp 57), none⟩,
    ⟨(some 59), .fad 1 (.tmp 58), none⟩,
    ⟨(some 60), .load 1 false (.tmp 59), none⟩,
    ⟨(some 10), .mv (.tmp 60), none⟩])
  (.seq (.seq (.reg [⟨(some 61), .fad 2 (.tmp 7), none⟩,
    ⟨(some 62), .load 1 false (.tmp 61), none⟩])
  (.cond (.tmp 62)
    (.seq (.reg [⟨(some 63), .mv (.tmp 1), none⟩,
      ⟨(some 64), .fad 0 (.tmp 7), none⟩,
      ⟨(some 65), .load 1 false (.tmp 64), none⟩,
      ⟨(some 66), .ixa 2 (.tmp 63) (.tmp 65), none⟩,
      ⟨(some 67), .fad 1 (.tmp 66), none⟩,
      ⟨(some 68), .load 1 false (.tmp 67), none⟩,
      ⟨(some 9), .mv (.tmp 68), none⟩])
    (.reg [⟨(some 69), .mv (.tmp 1), none⟩,
      ⟨(some 70), .fad 0 (.tmp 7), none⟩,
      ⟨(some 71), .load 1 false (.tmp 70), none⟩,
      ⟨(some 72), .ixa 2 (.tmp 69) (.tmp 71), none⟩,
      ⟨(some 73), .fad 0 (.tmp 72), none⟩,
      ⟨(some 74), .load 1 false (.tmp 73), none⟩,
      ⟨(some 10), .mv (.tmp 74), none⟩]))
    .skip))
  (.seq (.reg [⟨(some 75), .load 1 true (.tmp 4), none⟩,
    ⟨(some 76), .fad 3 (.tmp 7), none⟩,
    ⟨(some 77), .load 1 false (.tmp 76), none⟩,
    ⟨(some 78), .fad 1 (.tmp 7), none⟩,
    ⟨(some 79), .load 1 false (.tmp 78), none⟩,
    ⟨(some 80), .callf 184 [(.tmp 75), (.tmp 77), (.tmp 79)], none⟩,
    ⟨(some 11), .mv (.tmp 80), none⟩])
  (.seq (.reg [⟨(some 82), .load 1 true (.tmp 4), none⟩,
    ⟨(some 83), .mv (.tmp 2), none⟩,
    ⟨(some 84), .fad 1 (.tmp 7), none⟩,
    ⟨(some 85), .load 1 false (.tmp 84), none⟩,
    ⟨(some 86), .mv (.tmp 11), none⟩,
    ⟨(some 87), .callf 221 [(.tmp 82), (.tmp 83), (.tmp 85), (.tmp 86)], none⟩,
    ⟨(some 81), .mv (.tmp 87), none⟩,
    ⟨(some 88), .ext (.tmp 81) 0, none⟩,
    ⟨(some 89), .ext (.tmp 81) 1, none⟩,
    ⟨(some 12), .mv (.tmp 88), none⟩,
    ⟨(some 13), .mv (.tmp 89), none⟩])
  (.seq (.seq (.reg [⟨(some 90), .mv (.tmp 13), none⟩,
    ⟨(some 91), .un .not (.tmp 90), none⟩,
    ⟨(some 92), .mv (.tmp 91), none⟩,
    ⟨(some 93), .mv (.tmp 12), (some (some 92, false))⟩,
    ⟨(some 94), .fad 3 (.tmp 7), (some (some 92, false))⟩,
    ⟨(some 95), .load 1 false (.tmp 94), (some (some 92, false))⟩,
    ⟨(some 96), .callf 33 [(.tmp 93), (.tmp 95)], (some (some 92, false))⟩,
    ⟨(some 97), .un .not (.tmp 96), (some (some 92, false))⟩,
    ⟨(some 98), .pick (.tmp 92) (.const (.bool true)) (.tmp 97), none⟩])
  (.cond (.tmp 98)
    (.seq (.reg [⟨(some 8), .mv (.const (.bool false)), none⟩])
    .ret)
    .skip))
  (.seq (.draw [⟨(some 100), .load 1 true (.tmp 4), none⟩,
    ⟨(some 101), .mksld 101 22 1 24 [.sl 0 (some true) []] false (.const (.int .i64 24)) (.const (.int .i64 24)), none⟩,
    ⟨(some 102), .mv (.tmp 9), none⟩,
    ⟨(some 103), .load 1 true (.tmp 4), none⟩,
    ⟨(some 104), .mv (.tmp 2), none⟩,
    ⟨(some 105), .fad 1 (.tmp 7), none⟩,
    ⟨(some 106), .load 1 false (.tmp 105), none⟩,
    ⟨(some 107), .callf 184 [(.tmp 103), (.tmp 104), (.tmp 106)], none⟩,
    ⟨(some 108), .callf 222 [(.tmp 100), (.tmp 101), (.tmp 102), (.tmp 107)], none⟩,
    ⟨(some 99), .mv (.tmp 108), none⟩,
    ⟨(some 109), .ext (.tmp 99) 0, none⟩,
    ⟨(some 110), .ext (.tmp 99) 1, none⟩,
    ⟨(some 14), .mv (.tmp 109), none⟩,
    ⟨(some 15), .mv (.tmp 110), none⟩] [[], [], [], [], [], [], [5], [3, 4, 6], [0, 1, 2, 7, 7], [8], [9], [9], [10, 8, 0, 1, 2, 3, 4, 5, 6, 7, 8, 9, 10], [11, 12, 0, 1, 2, 3, 4, 5, 6, 7, 8, 9, 10, 11, 12]])
  (.seq (.seq (.reg [⟨(some 111), .mv (.tmp 15), none⟩,
    ⟨(some 112), .un .not (.tmp 111), none⟩])
  (.cond (.tmp 112)
    (.seq (.reg [⟨(some 8), .mv (.const (.bool false)), none⟩])
    .ret)
    .skip))
  (.seq (.reg [⟨(some 114), .load 1 true (.tmp 4), none⟩,
    ⟨(some 115), .mv (.tmp 14), none⟩,
    ⟨(some 116), .mv (.tmp 10), none⟩,
    ⟨(some 117), .mv (.tmp 11), none⟩,
    ⟨(some 118), .callf 222 [(.tmp 114), (.tmp 115), (.tmp 116), (.tmp 117)], none⟩,
    ⟨(some 113), .mv (.tmp 118), none⟩,
    ⟨(some 119), .ext (.tmp 113) 0, none⟩,
    ⟨(some 120), .ext (.tmp 113) 1, none⟩,
    ⟨(some 16), .mv (.tmp 119), none⟩,
    ⟨(some 17), .mv (.tmp 120), none⟩])
  (.seq (.reg [⟨(some 121), .mv (.tmp 17), none⟩,
    ⟨(some 8), .mv (.tmp 121), none⟩])
  .ret))))))))))))
theorem fn117_spec_l20Move : MFn Tryz.prog 117 mc117_spec_l20Move 122 [.tmp 8] :=
  ⟨Tryz.f117, Tryz.func117, by kernel_rfl, Tryz.ntmps117, by kernel_rfl⟩
def F_spec_l20Move (sig : Ls) (eqs : (List (Ls × Ls))) (t : Ls) (m : (Int × Int × Bool × Ls)) : Option Bool :=
 (F_spec_l1In m.1 0 (IntKind.i64.wrap ((eqs.length : Int) - 1))).bind fun r =>
 if r = true then
  (F_spec_l1In m.2.1 0 (IntKind.i64.wrap ((t.length : Int) - 1))).bind fun r_1 =>
  if r_1 = true then
   (F_spec_TermOk sig m.2.2.2).bind fun r_2 =>
   if r_2 = true then
    if (decide ((m.2.2.2.length : Int) ≤ m.2.1)) = true then
     some false
    else
     if 0 ≤ m.1 ∧ m.1 < (eqs.length : Int) then
      if 0 ≤ m.1 ∧ m.1 < (eqs.length : Int) then
       if m.2.2.1 = true then
        if 0 ≤ m.1 ∧ m.1 < (eqs.length : Int) then
         if 0 ≤ m.1 ∧ m.1 < (eqs.length : Int) then
          (F_spec_SubAt sig m.2.2.2 m.2.1).bind fun r_3 =>
          (F_spec_PutAt sig t m.2.1 r_3).bind fun r_4 =>
          if r_4.2 = true then
           (F_spec_SameTerm r_4.1 m.2.2.2).bind fun r_5 =>
           if r_5 = true then
            (F_spec_SubAt sig t m.2.1).bind fun r_6 =>
            (F_spec_l20Match_all sig (List.replicate 24 []) ((eqs.getD m.1.toNat default).2) r_6).bind fun r_7 =>
            if r_7.2 = true then
             (F_spec_l20Match_all sig r_7.1 ((eqs.getD m.1.toNat default).1) r_3).bind fun r_8 =>
             some r_8.2
            else
             some false
           else
            some false
          else
           some false
         else none
        else none
       else
        (F_spec_SubAt sig m.2.2.2 m.2.1).bind fun r_9 =>
        (F_spec_PutAt sig t m.2.1 r_9).bind fun r_10 =>
        if r_10.2 = true then
         (F_spec_SameTerm r_10.1 m.2.2.2).bind fun r_11 =>
         if r_11 = true then
          (F_spec_SubAt sig t m.2.1).bind fun r_12 =>
          (F_spec_l20Match_all sig (List.replicate 24 []) ((eqs.getD m.1.toNat default).1) r_12).bind fun r_13 =>
          if r_13.2 = true then
           (F_spec_l20Match_all sig r_13.1 ((eqs.getD m.1.toNat default).2) r_9).bind fun r_14 =>
           some r_14.2
          else
           some false
         else
          some false
        else
         some false
      else none
     else none
   else
    some false
  else
   some false
 else
  some false
theorem c_spec_l20Move {sig : Ls} {eqs : (List (Ls × Ls))} {t : Ls} {m : (Int × Int × Bool × Ls)} {rr : Bool} (h : F_spec_l20Move sig eqs t m = some rr) : PFun Tryz.prog 117 [D_impl_Sig sig, (slD 2 D_impl_Eq) eqs, (slD 1 iD) t, D_impl_Move m] (bD rr) := by
  delta F_spec_l20Move at h
  refine fn117_spec_l20Move.pureL (vcm_sound ?_)
  delta mc117_spec_l20Move
  refine stp ?_
  obtain ⟨r, hr, h⟩ := bind_some h
  refine cR (c_spec_l1In hr) (stp ?_)
  rcases ite_some h with ⟨hc, h⟩ | ⟨hc, h⟩
  · refine stpc hc ?_
    obtain ⟨r_1, hr_1, h⟩ := bind_some h
    refine cR (c_spec_l1In hr_1) (stp ?_)
    rcases ite_some h with ⟨hc, h⟩ | ⟨hc, h⟩
    · refine stpc hc ?_
      obtain ⟨r_2, hr_2, h⟩ := bind_some h
      refine cR (c_spec_TermOk hr_2) (stp ?_)
      rcases ite_some h with ⟨hc, h⟩ | ⟨hc, h⟩
      · refine stpc hc ?_
        rcases ite_some h with ⟨hc, h⟩ | ⟨hc, h⟩
        · refine stpc hc ?_
          cases h
          exact don
        refine stpc hc ?_
        obtain ⟨hp, h⟩ := need_some h
        repeat (refine need_i (by omega) ?_; refine stp ?_)
        obtain ⟨hp, h⟩ := need_some h
        repeat (refine need_i (by omega) ?_; refine stp ?_)
        rcases ite_some h with ⟨hc, h⟩ | ⟨hc, h⟩
        · refine stpc hc ?_
          obtain ⟨hp, h⟩ := need_some h
          repeat (refine need_i (by omega) ?_; refine stp ?_)
          obtain ⟨hp, h⟩ := need_some h
          repeat (refine need_i (by omega) ?_; refine stp ?_)
          obtain ⟨r_3, hr_3, h⟩ := bind_some h
          refine cR (c_spec_SubAt hr_3) (stp ?_)
          obtain ⟨r_4, hr_4, h⟩ := bind_some h
          refine cRN (c_spec_PutAt hr_4) (stp ?_)
          rcases ite_some h with ⟨hc, h⟩ | ⟨hc, h⟩
          · refine stpc hc ?_
            obtain ⟨r_5, hr_5, h⟩ := bind_some h
            refine cR (c_spec_SameTerm hr_5) (stp ?_)
            rcases ite_some h with ⟨hc, h⟩ | ⟨hc, h⟩
            · refine stpc hc ?_
              repeat (refine need_i (by omega) ?_; refine stp ?_)
              obtain ⟨r_6, hr_6, h⟩ := bind_some h
              refine cD' (c_spec_SubAt hr_6) (stp ?_)
              obtain ⟨r_7, hr_7, h⟩ := bind_some h
              refine cDN (c_spec_l20Match_all hr_7) (stp ?_)
              refine drQ_of (by kernel_rfl) ?_
              refine stp ?_
              rcases ite_some h with ⟨hc, h⟩ | ⟨hc, h⟩
              · refine stpc hc ?_
                obtain ⟨r_8, hr_8, h⟩ := bind_some h
                refine cRN (c_spec_l20Match_all hr_8) (stp ?_)
                cases h
                exact don
              refine stpc hc ?_
              cases h
              exact don
            refine stpc hc ?_
            cases h
            exact don
          refine stpc hc ?_
          cases h
          exact don
        refine stpc hc ?_
        obtain ⟨r_9, hr_9, h⟩ := bind_some h
        refine cR (c_spec_SubAt hr_9) (stp ?_)
        obtain ⟨r_10, hr_10, h⟩ := bind_some h
        refine cRN (c_spec_PutAt hr_10) (stp ?_)
        rcases ite_some h with ⟨hc, h⟩ | ⟨hc, h⟩
        · refine stpc hc ?_
          obtain ⟨r_11, hr_11, h⟩ := bind_some h
          refine cR (c_spec_SameTerm hr_11) (stp ?_)
          rcases ite_some h with ⟨hc, h⟩ | ⟨hc, h⟩
          · refine stpc hc ?_
            repeat (refine need_i (by omega) ?_; refine stp ?_)
            obtain ⟨r_12, hr_12, h⟩ := bind_some h
            refine cD' (c_spec_SubAt hr_12) (stp ?_)
            obtain ⟨r_13, hr_13, h⟩ := bind_some h
            refine cDN (c_spec_l20Match_all hr_13) (stp ?_)
            refine drQ_of (by kernel_rfl) ?_
            refine stp ?_
            rcases ite_some h with ⟨hc, h⟩ | ⟨hc, h⟩
            · refine stpc hc ?_
              obtain ⟨r_14, hr_14, h⟩ := bind_some h
              refine cRN (c_spec_l20Match_all hr_14) (stp ?_)
              cases h
              exact don
            refine stpc hc ?_
            cases h
            exact don
          refine stpc hc ?_
          cases h
          exact don
        refine stpc hc ?_
        cases h
        exact don
      refine stpc hc ?_
      cases h
      exact don
    refine stpc hc ?_
    cases h
    exact don
  refine stpc hc ?_
  cases h
  exact don
end
end Go.Proofs.YtcaljngigbfadaaGreat
namespace Go.Proofs.YtcaljngigbfadaaGreat
noncomputable section
open Go Abx
attribute [local irreducible] vcm vgo vdr vrun vdrun MWp GhostQ BrC BrO BrG BrD BrH AmbO callR callD drQ EnvLe StoLe
set_option maxHeartbeats 4000000
def mc32 : MCode :=
 (.seq (.reg [⟨some 3, .box 3 43 (.tmp 0), none⟩, ⟨some 5, .box 5 65 (.tmp 2), none⟩, ⟨some 6, .mv (.const (.bool false)), none⟩]) (.seq (.seq (.reg [⟨some 9, .load 1 true (.tmp 3), none⟩, ⟨some 10, .mv (.tmp 1), none⟩, ⟨some 11, .callf 115 [.tmp 9, .tmp 10], none⟩, ⟨some 12, .un .not (.tmp 11), none⟩, ⟨some 13, .mv (.tmp 12), none⟩, ⟨some 14, .load 1 true (.tmp 3), (some (some 13, false))⟩, ⟨some 15, .fad 0 (.tmp 5), (some (some 13, false))⟩, ⟨some 16, .load 1 false (.tmp 15), (some (some 13, false))⟩, ⟨some 17, .callf 116 [.tmp 14, .tmp 16], (some (some 13, false))⟩, ⟨some 18, .un .not (.tmp 17), (some (some 13, false))⟩, ⟨some 19, .pick (.tmp 13) (.const (.bool true)) (.tmp 18), none⟩, ⟨some 20, .mv (.tmp 19), none⟩, ⟨some 21, .fad 1 (.tmp 5), (some (some 20, false))⟩, ⟨some 22, .load 1 false (.tmp 21), (some (some 20, false))⟩, ⟨some 23, .len (.tmp 22), (some (some 20, false))⟩, ⟨some 24, .bin .gtr (.tmp 23) (.const (.int .i64 60)), (some (some 20, false))⟩, ⟨some 25, .pick (.tmp 20) (.const (.bool true)) (.tmp 24), none⟩]) (.cond (.tmp 25) (.seq (.reg [⟨some 6, .mv (.const (.bool false)), none⟩]) .ret) .skip)) (.seq (.reg [⟨some 26, .fad 0 (.tmp 5), none⟩, ⟨some 27, .load 1 false (.tmp 26), none⟩, ⟨some 7, .mv (.tmp 27), none⟩]) (.seq (.seq (.reg [⟨some 8, .mv (.const (.int .i64 0)), none⟩]) (.block 0 (.loop (.seq (.seq (.reg [⟨some 28, .mv (.tmp 8), none⟩, ⟨some 29, .fad 1 (.tmp 5), none⟩, ⟨some 30, .load 1 false (.tmp 29), none⟩, ⟨some 31, .len (.tmp 30), none⟩, ⟨some 32, .bin .lss (.tmp 28) (.tmp 31), none⟩]) (.cond (.tmp 32) .skip (.exit 0))) (.seq (.block 1 (.seq (.seq (.draw [⟨some 35, .load 1 true (.tmp 3), none⟩, ⟨some 36, .mv (.tmp 1), none⟩, ⟨some 37, .mv (.tmp 7), none⟩, ⟨some 38, .fad 1 (.tmp 5), none⟩, ⟨some 39, .load 1 false (.tmp 38), none⟩, ⟨some 40, .mv (.tmp 8), none⟩, ⟨some 41, .ixa 4 (.tmp 39) (.tmp 40), none⟩, ⟨some 42, .load 4 true (.tmp 41), none⟩, ⟨some 43, .callf 117 [.tmp 35, .tmp 36, .tmp 37, .tmp 42], none⟩, ⟨some 44, .un .not (.tmp 43), none⟩] [[], [], [], [], [3], [], [4, 5], [6], [0, 1, 2, 7], [8]]) (.cond (.tmp 44) (.seq (.reg [⟨some 6, .mv (.const (.bool false)), none⟩]) .ret) .skip)) (.reg [⟨some 45, .fad 1 (.tmp 5), none⟩, ⟨some 46, .load 1 false (.tmp 45), none⟩, ⟨some 47, .mv (.tmp 8), none⟩, ⟨some 48, .ixa 4 (.tmp 46) (.tmp 47), none⟩, ⟨some 49, .fad 3 (.tmp 48), none⟩, ⟨some 50, .load 1 false (.tmp 49), none⟩, ⟨some 7, .mv (.tmp 50), none⟩]))) (.reg [⟨some 33, .mv (.tmp 8), none⟩, ⟨some 34, .bin .add (.tmp 33) (.const (.int .i64 1)), none⟩, ⟨some 8, .mv (.tmp 34), none⟩])))))) (.seq (.reg [⟨some 6, .mv (.const (.bool true)), none⟩]) .ret)))))
theorem fn32 : MFn Tryz.prog 32 mc32 51 [.tmp 6] :=
  ⟨Tryz.f32, Tryz.func32, by kernel_rfl, Tryz.ntmps32, by kernel_rfl⟩
def F_spec_ChainOk_l1 (sig : Ls) (eqs : (List (Ls × Ls))) (c : (Ls × (List (Int × Int × Bool × Ls)))) : (Ls × Int) → Option ((Ls × Int) ⊕ Bool)
 | (t, i) =>
  if (decide (i < (c.2.length : Int))) = true then
   if 0 ≤ i ∧ i < (c.2.length : Int) then
    (F_spec_l20Move sig eqs t ((c.2.getD i.toNat default).1, (c.2.getD i.toNat default).2.1, (c.2.getD i.toNat default).2.2.1, (c.2.getD i.toNat default).2.2.2)).bind fun r_2 =>
    if r_2 = true then
     if 0 ≤ i ∧ i < (c.2.length : Int) then
      some (.inl ((c.2.getD i.toNat default).2.2.2, (IntKind.i64.wrap (i + 1))))
     else none
    else
     Option.map Sum.inr (
      some false)
   else none
  else
   Option.map Sum.inr (
    some true)
def F_spec_ChainOk (sig : Ls) (eqs : (List (Ls × Ls))) (c : (Ls × (List (Int × Int × Bool × Ls)))) : Option Bool :=
 (F_spec_EqsOk sig eqs).bind fun r =>
 if r = true then
  (F_spec_TermOk sig c.1).bind fun r_1 =>
  if r_1 = true then
   if (decide (60 < (c.2.length : Int))) = true then
    some false
   else
    loopC (F_spec_ChainOk_l1 sig eqs c) (c.1, 0)
  else
   some false
 else
  some false
theorem c_spec_ChainOk {sig : Ls} {eqs : (List (Ls × Ls))} {c : (Ls × (List (Int × Int × Bool × Ls)))} {rr : Bool} (h : F_spec_ChainOk sig eqs c = some rr) : PFun Tryz.prog 32 [D_impl_Sig sig, (slD 2 D_impl_Eq) eqs, D_impl_Chain c] (bD rr) := by
  delta F_spec_ChainOk at h
  refine fn32.pureL (vcm_sound ?_)
  delta mc32
  refine stp ?_
  obtain ⟨r, hr, h⟩ := bind_some h
  refine cR (c_spec_EqsOk hr) (stp ?_)
  rcases ite_some h with ⟨hc, h⟩ | ⟨hc, h⟩
  · refine stpc hc ?_
    obtain ⟨r_1, hr_1, h⟩ := bind_some h
    refine cR (c_spec_TermOk hr_1) (stp ?_)
    rcases ite_some h with ⟨hc, h⟩ | ⟨hc, h⟩
    · refine stpc hc ?_
      rcases ite_some h with ⟨hc, h⟩ | ⟨hc, h⟩
      · refine stpc hc ?_
        cases h
        exact don
      refine stpc hc ?_
      refine m_loopF h [6, 7, 8, 28, 29, 30, 31, 32, 33, 34, 35, 36, 37, 38, 39, 40, 41, 42, 43, 44, 45, 46, 47, 48, 49, 50] (fun pp => [(7, .d (slD 1 iD pp.1)), (8, .d (iD pp.2))]) (fun pp => [(3, .obj 43 [.d (slD 1 iD sig)]), (5, .obj 65 [.d (slD 1 iD c.1), .d (slD 4 D_impl_Move c.2)])]) ?_ ?_
      · try dsimp only
        exact wk
      rintro ⟨t, i⟩ t1 h hb1
      unfold F_spec_ChainOk_l1 at h
      try dsimp only at h
      refine vcm_sound (stp ?_)
      rcases ite_some h with ⟨hc, h⟩ | ⟨hc, h⟩
      · refine stpc hc ?_
        obtain ⟨hp, h⟩ := need_some h
        repeat (refine need_i (by omega) ?_; refine stp ?_)
        obtain ⟨r_2, hr_2, h⟩ := bind_some h
        refine cD' (c_spec_l20Move hr_2) (stp ?_)
        refine drQ_of (by kernel_rfl) ?_
        refine stp ?_
        rcases ite_some h with ⟨hc, h⟩ | ⟨hc, h⟩
        · refine stpc hc ?_
          obtain ⟨hp, h⟩ := need_some h
          repeat (refine need_i (by omega) ?_; refine stp ?_)
          cases h
          refine ⟨_, rfl, ?_⟩
          exact wk
        refine stpc hc ?_
        replace h := inr_some h hb1
        cases h
        exact don
      refine stpc hc ?_
      replace h := inr_some h hb1
      cases h
      exact don
    refine stpc hc ?_
    cases h
    exact don
  refine stpc hc ?_
  cases h
  exact don
end
end Go.Proofs.YtcaljngigbfadaaGreat
