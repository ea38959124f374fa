/- Functions of the program and the equations that they compute, second part; nothing is assumed. -/
import Derived.Test.YtcaljngigbfadaaGreatWa
set_option linter.unusedSimpArgs false
set_option linter.unusedVariables false
set_option linter.unusedSectionVars false
namespace Go.Proofs.YtcaljngigbfadaaGreat
noncomputable section
open Go Abx
attribute [local irreducible] vcm vgo vdr vrun vdrun MWp GhostQ BrC BrO BrG BrD BrH AmbO callR callD drQ EnvLe StoLe
set_option maxHeartbeats 4000000
def D_impl_Subst (x : (List Ls)) : D := .agg [(slD 1 (slD 1 iD)) x]
instance : Cel D_impl_Subst 1 := ⟨fun _ => rfl⟩
attribute [go_sem] D_impl_Subst
def mc230 : MCode :=
 (.seq (.reg [⟨some 3, .box 3 43 (.tmp 0), none⟩, ⟨some 6, .mv (.const (.slice none 0 0)), none⟩]) (.seq (.reg [⟨some 7, .mv (.tmp 1), none⟩, ⟨some 8, .mv (.tmp 2), none⟩, ⟨some 9, .load 1 true (.tmp 3), none⟩, ⟨some 10, .mv (.tmp 1), none⟩, ⟨some 11, .mv (.tmp 2), none⟩, ⟨some 12, .callf 228 [.tmp 9, .tmp 10, .tmp 11], none⟩, ⟨some 13, .slc (.tmp 7) 1 (some (.tmp 8)) (some (.tmp 12)) none, none⟩, ⟨some 6, .mv (.tmp 13), none⟩]) .ret))
theorem fn230 : MFn Tryz.prog 230 mc230 14 [.tmp 6] :=
  ⟨Tryz.f230, Tryz.func230, by kernel_rfl, Tryz.ntmps230, by kernel_rfl⟩
def F_impl_subAt (sig : Ls) (t : Ls) (at' : Int) : Option Ls :=
 (F_impl_endAt sig t at').bind fun r =>
 if 0 ≤ at' ∧ at' ≤ r ∧ r ≤ (t.length : Int) then
  some ((t.take r.toNat).drop at'.toNat)
 else none
theorem c_impl_subAt {sig : Ls} {t : Ls} {at' : Int} {rr : Ls} (h : F_impl_subAt sig t at' = some rr) : PFun Tryz.prog 230 [D_impl_Sig sig, (slD 1 iD) t, iD at'] ((slD 1 iD) rr) := by
  delta F_impl_subAt at h
  refine fn230.pureL (vcm_sound ?_)
  delta mc230
  refine stp ?_
  obtain ⟨r, hr, h⟩ := bind_some h
  refine cR (c_impl_endAt hr) (stp ?_)
  obtain ⟨hp, h⟩ := need_some h
  repeat (refine need_i (by omega) ?_; refine stp ?_)
  cases h
  exact don
def mc199 : MCode :=
 (.seq (.reg [⟨some 4, .mv (.const (.bool false)), none⟩]) (.seq (.seq (.reg [⟨some 6, .mv (.tmp 0), none⟩, ⟨some 7, .len (.tmp 6), none⟩, ⟨some 8, .mv (.tmp 1), none⟩, ⟨some 9, .len (.tmp 8), none⟩, ⟨some 10, .bin .neq (.tmp 7) (.tmp 9), none⟩]) (.cond (.tmp 10) (.seq (.reg [⟨some 4, .mv (.const (.bool false)), none⟩]) .ret) .skip)) (.seq (.seq (.reg [⟨some 11, .mv (.tmp 0), none⟩, ⟨some 12, .len (.tmp 11), none⟩, ⟨some 13, .mv (.const (.int .i64 0)), none⟩]) (.block 0 (.loop (.seq (.reg [⟨some 14, .bin .lss (.tmp 13) (.tmp 12), none⟩]) (.seq (.cond (.tmp 14) .skip (.exit 0)) (.seq (.block 1 (.seq (.reg [⟨some 15, .mv (.tmp 13), none⟩, ⟨some 5, .mv (.tmp 15), none⟩]) (.seq (.draw [⟨some 16, .mv (.tmp 0), none⟩, ⟨some 17, .mv (.tmp 5), none⟩, ⟨some 18, .ixa 1 (.tmp 16) (.tmp 17), none⟩, ⟨some 19, .load 1 false (.tmp 18), none⟩, ⟨some 20, .mv (.tmp 1), none⟩, ⟨some 21, .mv (.tmp 5), none⟩, ⟨some 22, .ixa 1 (.tmp 20) (.tmp 21), none⟩, ⟨some 23, .load 1 false (.tmp 22), none⟩, ⟨some 24, .bin .neq (.tmp 19) (.tmp 23), none⟩] [[], [], [0, 1], [2], [], [], [4, 5], [6], [3, 7]]) (.cond (.tmp 24) (.seq (.reg [⟨some 4, .mv (.const (.bool false)), none⟩]) .ret) .skip)))) (.reg [⟨some 25, .bin .add (.tmp 13) (.const (.int .i64 1)), none⟩, ⟨some 13, .mv (.tmp 25), none⟩]))))))) (.seq (.reg [⟨some 4, .mv (.const (.bool true)), none⟩]) .ret))))
theorem fn199 : MFn Tryz.prog 199 mc199 26 [.tmp 4] :=
  ⟨Tryz.f199, Tryz.func199, by kernel_rfl, Tryz.ntmps199, by kernel_rfl⟩
def F_slices_Equal_int64_int64_l1 (s1 : Ls) (s2 : Ls) : Int → Option (Int ⊕ Bool)
 | v13 =>
  if (decide (v13 < (s1.length : Int))) = true then
   if 0 ≤ v13 ∧ v13 < (s1.length : Int) then
    if 0 ≤ v13 ∧ v13 < (s2.length : Int) then
     if ((s1.getD v13.toNat default) != (s2.getD v13.toNat default)) = true then
      Option.map Sum.inr (
       some false)
     else
      some (.inl (IntKind.i64.wrap (v13 + 1)))
    else none
   else none
  else
   Option.map Sum.inr (
    some true)
def F_slices_Equal_int64_int64 (s1 : Ls) (s2 : Ls) : Option Bool :=
 if ((s1.length : Int) != (s2.length : Int)) = true then
  some false
 else
  loopC (F_slices_Equal_int64_int64_l1 s1 s2) 0
theorem c_slices_Equal_int64_int64 {s1 : Ls} {s2 : Ls} {rr : Bool} (h : F_slices_Equal_int64_int64 s1 s2 = some rr) : PFun Tryz.prog 199 [(slD 1 iD) s1, (slD 1 iD) s2] (bD rr) := by
  delta F_slices_Equal_int64_int64 at h
  refine fn199.pureL (vcm_sound ?_)
  delta mc199
  refine stp ?_
  rcases ite_some h with ⟨hc, h⟩ | ⟨hc, h⟩
  · refine stpc hc ?_
    cases h
    exact don
  refine stpc hc ?_
  refine m_loopF h [4, 5, 13, 14, 15, 16, 17, 18, 19, 20, 21, 22, 23, 24, 25] (fun pp => [(13, .d (iD pp))]) (fun pp => []) ?_ ?_
  · try dsimp only
    exact wk
  rintro v13 t1 h hb1
  unfold F_slices_Equal_int64_int64_l1 at h
  try dsimp only at h
  refine vcm_sound (stp ?_)
  rcases ite_some h with ⟨hc, h⟩ | ⟨hc, h⟩
  · refine stpc hc ?_
    obtain ⟨hp, h⟩ := need_some h
    repeat (refine need_i (by omega) ?_; refine stp ?_)
    obtain ⟨hp, h⟩ := need_some h
    repeat (refine need_i (by omega) ?_; refine stp ?_)
    refine drQ_of (by kernel_rfl) ?_
    refine stp ?_
    rcases ite_some h with ⟨hc, h⟩ | ⟨hc, h⟩
    · refine stpc hc ?_
      replace h := inr_some h hb1
      cases h
      exact don
    refine stpc hc ?_
    cases h
    refine ⟨_, rfl, ?_⟩
    exact wk
  refine stpc hc ?_
  replace h := inr_some h hb1
  cases h
  exact don
def mc231 : MCode :=
 (.seq (.reg [⟨some 4, .box 4 43 (.tmp 0), none⟩, ⟨some 7, .box 7 239 (.tmp 3), none⟩, ⟨some 8, .alloc 8 239 [.sl 0 (some true) [], .sl 0 (some true) [], .sl 0 (some true) [], .sl 0 (some true) [], .sl 0 (some true) [], .sl 0 (some true) [], .sl 0 (some true) [], .sl 0 (some true) [], .sl 0 (some true) [], .sl 0 (some true) [], .sl 0 (some true) [], .sl 0 (some true) [], .sl 0 (some true) [], .sl 0 (some true) [], .sl 0 (some true) [], .sl 0 (some true) [], .sl 0 (some true) [], .sl 0 (some true) [], .sl 0 (some true) [], .sl 0 (some true) [], .sl 0 (some true) [], .sl 0 (some true) [], .sl 0 (some true) [], .sl 0 (some true) []], none⟩, ⟨some 9, .mv (.const (.bool false)), none⟩]) (.seq (.reg [⟨some 10, .mv (.const (.int .i64 0)), none⟩]) (.seq (.seq (.reg [⟨some 14, .mv (.tmp 1), none⟩, ⟨some 15, .len (.tmp 14), none⟩, ⟨some 16, .mv (.const (.int .i64 0)), none⟩]) (.block 0 (.loop (.seq (.reg [⟨some 17, .bin .lss (.tmp 16) (.tmp 15), none⟩]) (.seq (.cond (.tmp 17) .skip (.exit 0)) (.seq (.block 1 (.seq (.reg [⟨some 18, .ixa 1 (.tmp 14) (.tmp 16), none⟩, ⟨some 19, .load 1 false (.tmp 18), none⟩, ⟨some 12, .mv (.tmp 19), none⟩]) (.seq (.seq (.reg [⟨some 20, .mv (.tmp 10), none⟩, ⟨some 21, .mv (.tmp 2), none⟩, ⟨some 22, .len (.tmp 21), none⟩, ⟨some 23, .bin .geq (.tmp 20) (.tmp 22), none⟩]) (.cond (.tmp 23) (.seq (.reg [⟨some 24, .load 24 true (.tmp 7), none⟩, ⟨none, .store 24 (.tmp 8) (.tmp 24), none⟩, ⟨some 9, .mv (.const (.bool false)), none⟩]) .ret) .skip)) (.seq (.seq (.reg [⟨some 25, .mv (.tmp 12), none⟩, ⟨some 26, .bin .geq (.tmp 25) (.const (.int .i64 0)), none⟩]) (.cond (.tmp 26) (.seq (.seq (.reg [⟨some 27, .mv (.tmp 2), none⟩, ⟨some 28, .mv (.tmp 10), none⟩, ⟨some 29, .ixa 1 (.tmp 27) (.tmp 28), none⟩, ⟨some 30, .load 1 false (.tmp 29), none⟩, ⟨some 31, .mv (.tmp 12), none⟩, ⟨some 32, .bin .neq (.tmp 30) (.tmp 31), none⟩]) (.cond (.tmp 32) (.seq (.reg [⟨some 33, .load 24 true (.tmp 7), none⟩, ⟨none, .store 24 (.tmp 8) (.tmp 33), none⟩, ⟨some 9, .mv (.const (.bool false)), none⟩]) .ret) .skip)) (.seq (.reg [⟨some 34, .mv (.tmp 10), none⟩, ⟨some 35, .bin .add (.tmp 34) (.const (.int .i64 1)), none⟩, ⟨some 10, .mv (.tmp 35), none⟩]) (.exit 1))) .skip)) (.seq (.reg [⟨some 36, .load 1 true (.tmp 4), none⟩, ⟨some 37, .mv (.tmp 2), none⟩, ⟨some 38, .mv (.tmp 10), none⟩, ⟨some 39, .callf 230 [.tmp 36, .tmp 37, .tmp 38], none⟩, ⟨some 13, .mv (.tmp 39), none⟩]) (.seq (.seq (.reg [⟨some 40, .mv (.tmp 12), none⟩, ⟨some 41, .bin .sub (.const (.int .i64 (-1))) (.tmp 40), none⟩, ⟨some 42, .ixaA 1 24 (.tmp 7) (.tmp 41), none⟩, ⟨some 43, .load 1 false (.tmp 42), none⟩, ⟨some 44, .eqnil false (.tmp 43), none⟩]) (.cond (.tmp 44) (.reg [⟨some 45, .mv (.tmp 12), none⟩, ⟨some 46, .bin .sub (.const (.int .i64 (-1))) (.tmp 45), none⟩, ⟨some 47, .mv (.tmp 13), none⟩, ⟨some 48, .ixaA 1 24 (.tmp 7) (.tmp 46), none⟩, ⟨none, .store 1 (.tmp 48) (.tmp 47), none⟩]) (.seq (.reg [⟨some 49, .mv (.tmp 12), none⟩, ⟨some 50, .bin .sub (.const (.int .i64 (-1))) (.tmp 49), none⟩, ⟨some 51, .ixaA 1 24 (.tmp 7) (.tmp 50), none⟩, ⟨some 52, .load 1 false (.tmp 51), none⟩, ⟨some 53, .mv (.tmp 13), none⟩, ⟨some 54, .callf 199 [.tmp 52, .tmp 53], none⟩, ⟨some 55, .un .not (.tmp 54), none⟩]) (.cond (.tmp 55) (.seq (.reg [⟨some 56, .load 24 true (.tmp 7), none⟩, ⟨none, .store 24 (.tmp 8) (.tmp 56), none⟩, ⟨some 9, .mv (.const (.bool false)), none⟩]) .ret) .skip)))) (.reg [⟨some 57, .mv (.tmp 10), none⟩, ⟨some 58, .mv (.tmp 13), none⟩, ⟨some 59, .len (.tmp 58), none⟩, ⟨some 60, .bin .add (.tmp 57) (.tmp 59), none⟩, ⟨some 10, .mv (.tmp 60), none⟩]))))))) (.reg [⟨some 61, .bin .add (.tmp 16) (.const (.int .i64 1)), none⟩, ⟨some 16, .mv (.tmp 61), none⟩]))))))) (.seq (.reg [⟨some 62, .load 24 true (.tmp 7), none⟩, ⟨none, .store 24 (.tmp 8) (.tmp 62), none⟩, ⟨some 9, .mv (.const (.bool true)), none⟩]) .ret))))
theorem fn231 : MFn Tryz.prog 231 mc231 63 [.cell 8 24 true, .tmp 9] :=
  ⟨Tryz.f231, Tryz.func231, by kernel_rfl, Tryz.ntmps231, by kernel_rfl⟩
def F_impl_matchInto_l1 (sig : Ls) (p : Ls) (t : Ls) : (Int × Int × (List Ls)) → Option ((Int × Int × (List Ls)) ⊕ ((List Ls) × Bool))
 | (at', v16, b_1) =>
  if (decide (v16 < (p.length : Int))) = true then
   if 0 ≤ v16 ∧ v16 < (p.length : Int) then
    if (decide ((t.length : Int) ≤ at')) = true then
     if b_1.length = 24 then
      if b_1.length = 24 then
       Option.map Sum.inr (
        some (b_1, false))
      else none
     else none
    else
     if (decide (0 ≤ (p.getD v16.toNat default))) = true then
      if 0 ≤ at' ∧ at' < (t.length : Int) then
       if ((t.getD at'.toNat default) != (p.getD v16.toNat default)) = true then
        if b_1.length = 24 then
         if b_1.length = 24 then
          Option.map Sum.inr (
           some (b_1, false))
         else none
        else none
       else
        some (.inl ((IntKind.i64.wrap (at' + 1)), (IntKind.i64.wrap (v16 + 1)), b_1))
      else none
     else
      (F_impl_subAt sig t at').bind fun r =>
      if 0 ≤ (IntKind.i64.wrap ((-1) - (p.getD v16.toNat default))) ∧ (IntKind.i64.wrap ((-1) - (p.getD v16.toNat default))) < 24 ∧ (IntKind.i64.wrap ((-1) - (p.getD v16.toNat default))) < (b_1.length : Int) then
       if (b_1.getD (IntKind.i64.wrap ((-1) - (p.getD v16.toNat default))).toNat default).isEmpty = true then
        if 0 ≤ (IntKind.i64.wrap ((-1) - (p.getD v16.toNat default))) ∧ (IntKind.i64.wrap ((-1) - (p.getD v16.toNat default))) < 24 ∧ (IntKind.i64.wrap ((-1) - (p.getD v16.toNat default))) < (b_1.length : Int) then
         if 0 < r.length then
          some (.inl ((IntKind.i64.wrap (at' + (r.length : Int))), (IntKind.i64.wrap (v16 + 1)), (b_1.set (IntKind.i64.wrap ((-1) - (p.getD v16.toNat default))).toNat r)))
         else none
        else none
       else
        if 0 ≤ (IntKind.i64.wrap ((-1) - (p.getD v16.toNat default))) ∧ (IntKind.i64.wrap ((-1) - (p.getD v16.toNat default))) < 24 ∧ (IntKind.i64.wrap ((-1) - (p.getD v16.toNat default))) < (b_1.length : Int) then
         (F_slices_Equal_int64_int64 (b_1.getD (IntKind.i64.wrap ((-1) - (p.getD v16.toNat default))).toNat default) r).bind fun r_1 =>
         if r_1 = true then
          some (.inl ((IntKind.i64.wrap (at' + (r.length : Int))), (IntKind.i64.wrap (v16 + 1)), b_1))
         else
          if b_1.length = 24 then
           if b_1.length = 24 then
            Option.map Sum.inr (
             some (b_1, false))
           else none
          else none
        else none
      else none
   else none
  else
   Option.map Sum.inr (
    if b_1.length = 24 then
     if b_1.length = 24 then
      some (b_1, true)
     else none
    else none)
def F_impl_matchInto (sig : Ls) (p : Ls) (t : Ls) (b : (List Ls)) : Option ((List Ls) × Bool) :=
 loopC (F_impl_matchInto_l1 sig p t) (0, 0, b)
theorem c_impl_matchInto {sig : Ls} {p : Ls} {t : Ls} {b : (List Ls)} {rr : ((List Ls) × Bool)} (h : F_impl_matchInto sig p t b = some rr) : PFunN Tryz.prog 231 [D_impl_Sig sig, (slD 1 iD) p, (slD 1 iD) t, (arD (nzD 1 iD)) b] [(arD (nzD 1 iD)) rr.1, bD rr.2] := by
  delta F_impl_matchInto at h
  refine fn231.pureLN (vcm_sound ?_)
  delta mc231
  refine stp ?_
  refine m_loopF h [9, 10, 12, 13, 16, 17, 18, 19, 20, 21, 22, 23, 24, 25, 26, 27, 28, 29, 30, 31, 32, 33, 34, 35, 36, 37, 38, 39, 40, 41, 42, 43, 44, 45, 46, 47, 48, 49, 50, 51, 52, 53, 54, 55, 56, 57, 58, 59, 60, 61] (fun pp => [(10, .d (iD pp.1)), (16, .d (iD pp.2.1))]) (fun pp => [(4, .obj 43 [.d (slD 1 iD sig)]), (7, .obj 239 (List.map (aD (nzD 1 iD)) pp.2.2)), (8, .obj 239 [.d (.sl 0 (some true) []), .d (.sl 0 (some true) []), .d (.sl 0 (some true) []), .d (.sl 0 (some true) []), .d (.sl 0 (some true) []), .d (.sl 0 (some true) []), .d (.sl 0 (some true) []), .d (.sl 0 (some true) []), .d (.sl 0 (some true) []), .d (.sl 0 (some true) []), .d (.sl 0 (some true) []), .d (.sl 0 (some true) []), .d (.sl 0 (some true) []), .d (.sl 0 (some true) []), .d (.sl 0 (some true) []), .d (.sl 0 (some true) []), .d (.sl 0 (some true) []), .d (.sl 0 (some true) []), .d (.sl 0 (some true) []), .d (.sl 0 (some true) []), .d (.sl 0 (some true) []), .d (.sl 0 (some true) []), .d (.sl 0 (some true) []), .d (.sl 0 (some true) [])])]) ?_ ?_
  · try dsimp only
    exact wk
  rintro ⟨at', v16, b_1⟩ t1 h hb1
  unfold F_impl_matchInto_l1 at h
  try dsimp only at h
  refine vcm_sound (stp ?_)
  rcases ite_some h with ⟨hc, h⟩ | ⟨hc, h⟩
  · refine stpc hc ?_
    obtain ⟨hp, h⟩ := need_some h
    repeat (refine need_i (by omega) ?_; refine stp ?_)
    rcases ite_some h with ⟨hc, h⟩ | ⟨hc, h⟩
    · refine stpc hc ?_
      obtain ⟨hp, h⟩ := need_some h
      repeat (refine need_i (by omega) ?_; refine stp ?_)
      obtain ⟨hp, h⟩ := need_some h
      repeat (refine need_i (by omega) ?_; refine stp ?_)
      replace h := inr_some h hb1
      cases h
      exact don
    refine stpc hc ?_
    rcases ite_some h with ⟨hc, h⟩ | ⟨hc, h⟩
    · refine stpc hc ?_
      obtain ⟨hp, h⟩ := need_some h
      repeat (refine need_i (by omega) ?_; refine stp ?_)
      rcases ite_some h with ⟨hc, h⟩ | ⟨hc, h⟩
      · refine stpc hc ?_
        obtain ⟨hp, h⟩ := need_some h
        repeat (refine need_i (by omega) ?_; refine stp ?_)
        obtain ⟨hp, h⟩ := need_some h
        repeat (refine need_i (by omega) ?_; refine stp ?_)
        replace h := inr_some h hb1
        cases h
        exact don
      refine stpc hc ?_
      cases h
      refine ⟨_, rfl, ?_⟩
      exact wk
    refine stpc hc ?_
    obtain ⟨r, hr, h⟩ := bind_some h
    refine cR (c_impl_subAt hr) (stp ?_)
    obtain ⟨hp, h⟩ := need_some h
    repeat (refine need_i (by omega) ?_; refine stp ?_)
    rcases ite_some h with ⟨hc, h⟩ | ⟨hc, h⟩
    · refine stpc hc ?_
      obtain ⟨hp, h⟩ := need_some h
      repeat (refine need_i (by omega) ?_; refine stp ?_)
      obtain ⟨hp, h⟩ := need_some h
      repeat (refine need_i (by omega) ?_; refine stp ?_)
      cases h
      refine ⟨_, rfl, ?_⟩
      refine (Weak.leS (s' := [(4, .obj 43 [.d (slD 1 iD sig)]), (7, .obj 239 (List.map (aD (nzD 1 iD)) (b_1.set (IntKind.i64.wrap ((-1) - (p.getD v16.toNat default))).toNat r))), (8, .obj 239 [.d (.sl 0 (some true) []), .d (.sl 0 (some true) []), .d (.sl 0 (some true) []), .d (.sl 0 (some true) []), .d (.sl 0 (some true) []), .d (.sl 0 (some true) []), .d (.sl 0 (some true) []), .d (.sl 0 (some true) []), .d (.sl 0 (some true) []), .d (.sl 0 (some true) []), .d (.sl 0 (some true) []), .d (.sl 0 (some true) []), .d (.sl 0 (some true) []), .d (.sl 0 (some true) []), .d (.sl 0 (some true) []), .d (.sl 0 (some true) []), .d (.sl 0 (some true) []), .d (.sl 0 (some true) []), .d (.sl 0 (some true) []), .d (.sl 0 (some true) []), .d (.sl 0 (some true) []), .d (.sl 0 (some true) []), .d (.sl 0 (some true) []), .d (.sl 0 (some true) [])])]) (EnvLe.refl _) (by exact (stoC (ObLe.refl _) (stoC ⟨rfl, lob_set' (by omega) (by first | exact (le_nz_t (by omega)).2 trivial | exact (le_nzown_t (by omega)).2 trivial)⟩ (stoC (ObLe.refl _) stoN))))).trans ?_
      exact wk
    refine stpc hc ?_
    obtain ⟨hp, h⟩ := need_some h
    repeat (refine need_i (by omega) ?_; refine stp ?_)
    obtain ⟨r_1, hr_1, h⟩ := bind_some h
    refine cR (c_slices_Equal_int64_int64 hr_1) (stp ?_)
    rcases ite_some h with ⟨hc, h⟩ | ⟨hc, h⟩
    · refine stpc hc ?_
      cases h
      refine ⟨_, rfl, ?_⟩
      exact wk
    refine stpc hc ?_
    obtain ⟨hp, h⟩ := need_some h
    repeat (refine need_i (by omega) ?_; refine stp ?_)
    obtain ⟨hp, h⟩ := need_some h
    repeat (refine need_i (by omega) ?_; refine stp ?_)
    replace h := inr_some h hb1
    cases h
    exact don
  refine stpc hc ?_
  replace h := inr_some h hb1
  obtain ⟨hp, h⟩ := need_some h
  repeat (refine need_i (by omega) ?_; refine stp ?_)
  obtain ⟨hp, h⟩ := need_some h
  repeat (refine need_i (by omega) ?_; refine stp ?_)
  cases h
  exact don
def mc331 : MCode :=
 (.seq (.reg [⟨some 1, .box 1 239 (.tmp 0), none⟩, ⟨some 2, .alloc 2 48 [.sl 0 (some true) []], none⟩]) (.seq (.reg [⟨some 3, .slcA (.tmp 1) 1 24 none none none, none⟩, ⟨some 4, .build [.sl 0 (some true) []] [(0, 1, .tmp 3)], none⟩, ⟨none, .store 1 (.tmp 2) (.tmp 4), none⟩]) .ret))
theorem fn331 : MFn Tryz.prog 331 mc331 5 [.cell 2 1 true] :=
  ⟨Tryz.f331, Tryz.func331, by kernel_rfl, Tryz.ntmps331, by kernel_rfl⟩
def F_impl_bindings_subst (b : (List Ls)) : Option (List Ls) :=
 if b.length = 24 then
  some b
 else none
theorem c_impl_bindings_subst {b : (List Ls)} {rr : (List Ls)} (h : F_impl_bindings_subst b = some rr) : PFun Tryz.prog 331 [(arD (nzD 1 iD)) b] (D_impl_Subst rr) := by
  delta F_impl_bindings_subst at h
  refine fn331.pureD (vcm_sound ?_)
  delta mc331
  refine stp ?_
  obtain ⟨hp, h⟩ := need_some h
  repeat (refine need_i (by omega) ?_; refine stp ?_)
  cases h
  exact ⟨_, _, (Done.frzL 1 (nzD 1 iD) b (by omega) rfl), frd⟩
def mc387 : MCode :=
 (.seq (.reg [⟨some 2, .mv (.const (.slice none 0 0)), none⟩]) (.seq (.reg [⟨some 3, .mv (.tmp 0), none⟩, ⟨some 4, .bin .sub (.const (.int .i64 (-1))) (.tmp 3), none⟩, ⟨some 5, .bsl 5 2 1 [.tmp 4], none⟩, ⟨some 2, .mv (.tmp 5), none⟩]) .ret))
theorem fn387 : MFn Tryz.prog 387 mc387 6 [.tmp 2] :=
  ⟨Tryz.f387, Tryz.func387, by kernel_rfl, Tryz.ntmps387, by kernel_rfl⟩
def F_impl_variable (i : Int) : Option Ls :=
 some [(IntKind.i64.wrap ((-1) - i))]
theorem c_impl_variable {i : Int} {rr : Ls} (h : F_impl_variable i = some rr) : PFun Tryz.prog 387 [iD i] ((slD 1 iD) rr) := by
  delta F_impl_variable at h
  refine fn387.pureL (vcm_sound ?_)
  delta mc387
  refine stp ?_
  cases h
  exact don
def mc118 : MCode :=
 (.seq (.reg [⟨some 2, .mv (.const (.slice none 0 0)), none⟩]) (.seq (.seq (.reg [⟨some 3, .mv (.tmp 0), none⟩, ⟨some 4, .eqnil false (.tmp 3), none⟩]) (.cond (.tmp 4) (.seq (.reg [⟨some 2, .mv (.const (.slice none 0 0)), none⟩]) .ret) .skip)) (.seq (.reg [⟨some 5, .bsl 5 2 1 [], none⟩, ⟨some 6, .mv (.tmp 0), none⟩, ⟨some 7, .app 7 2 1 8 (.tmp 5) (.tmp 6), none⟩, ⟨some 2, .mv (.tmp 7), none⟩]) .ret)))
theorem fn118 : MFn Tryz.prog 118 mc118 8 [.tmp 2] :=
  ⟨Tryz.f118, Tryz.func118, by kernel_rfl, Tryz.ntmps118, by kernel_rfl⟩
def F_slices_Clone_int64_int64 (s : Ls) : Option Ls :=
 ambO s (
  some []) (
  if (0 + s.length) * 8 ≤ 140737488355328 then
   some s
  else none)
theorem c_slices_Clone_int64_int64 {s : Ls} {rr : Ls} (h : F_slices_Clone_int64_int64 s = some rr) : PFun Tryz.prog 118 [(slD 1 iD) s] ((slD 1 iD) rr) := by
  delta F_slices_Clone_int64_int64 at h
  refine fn118.pureL (vcm_sound ?_)
  delta mc118
  refine stp ?_
  have h1 := amb_some h
  refine AmbO.of (fun he => ?_) ?_
  · replace h := h1.1 (by simpa using he)
    clear h1
    refine stp ?_
    cases h
    exact don
  replace h := h1.2
  clear h1
  refine stp ?_
  obtain ⟨hp, h⟩ := need_some h
  repeat (refine need_i (by omega) ?_; refine stp ?_)
  cases h
  exact don
def mc330 : MCode :=
 (.seq (.reg [⟨some 1, .box 1 48 (.tmp 0), none⟩, ⟨some 2, .alloc 2 48 [.sl 0 (some true) []], none⟩]) (.seq (.reg [⟨some 3, .alloc 3 48 [.sl 0 (some true) []], none⟩]) (.seq (.seq (.reg [⟨some 6, .fad 0 (.tmp 1), none⟩, ⟨some 7, .load 1 false (.tmp 6), none⟩, ⟨some 8, .len (.tmp 7), none⟩, ⟨some 9, .mv (.const (.int .i64 0)), none⟩]) (.block 0 (.loop (.seq (.reg [⟨some 10, .bin .lss (.tmp 9) (.tmp 8), none⟩]) (.seq (.cond (.tmp 10) .skip (.exit 0)) (.seq (.block 1 (.seq (.reg [⟨some 11, .mv (.tmp 9), none⟩, ⟨some 12, .ixa 1 (.tmp 7) (.tmp 9), none⟩, ⟨some 13, .load 1 false (.tmp 12), none⟩, ⟨some 4, .mv (.tmp 11), none⟩, ⟨some 5, .mv (.tmp 13), none⟩]) (.seq (.seq (.reg [⟨some 14, .mv (.tmp 5), none⟩, ⟨some 15, .len (.tmp 14), none⟩, ⟨some 16, .bin .eql (.tmp 15) (.const (.int .i64 0)), none⟩, ⟨some 17, .mv (.tmp 16), none⟩, ⟨some 18, .mv (.tmp 5), (some (some 17, false))⟩, ⟨some 19, .mv (.tmp 4), (some (some 17, false))⟩, ⟨some 20, .callf 387 [.tmp 19], (some (some 17, false))⟩, ⟨some 21, .callf 199 [.tmp 18, .tmp 20], (some (some 17, false))⟩, ⟨some 22, .pick (.tmp 17) (.const (.bool true)) (.tmp 21), none⟩]) (.cond (.tmp 22) (.exit 1) .skip)) (.seq (.block 2 (.loop (.seq (.seq (.reg [⟨some 23, .fad 0 (.tmp 3), none⟩, ⟨some 24, .load 1 false (.tmp 23), none⟩, ⟨some 25, .len (.tmp 24), none⟩, ⟨some 26, .mv (.tmp 4), none⟩, ⟨some 27, .bin .lss (.tmp 25) (.tmp 26), none⟩]) (.cond (.tmp 27) .skip (.exit 2))) (.block 3 (.reg [⟨some 28, .fad 0 (.tmp 3), none⟩, ⟨some 29, .load 1 false (.tmp 28), none⟩, ⟨some 30, .bsl 30 22 1 [(.const (.slice none 0 0))], none⟩, ⟨some 31, .app 31 22 1 24 (.tmp 29) (.tmp 30), none⟩, ⟨some 32, .fad 0 (.tmp 3), none⟩, ⟨none, .store 1 (.tmp 32) (.tmp 31), none⟩]))))) (.draw [⟨some 33, .fad 0 (.tmp 3), none⟩, ⟨some 34, .load 1 false (.tmp 33), none⟩, ⟨some 35, .mv (.tmp 5), none⟩, ⟨some 36, .callf 118 [.tmp 35], none⟩, ⟨some 37, .bsl 37 22 1 [.tmp 36], none⟩, ⟨some 38, .app 38 22 1 24 (.tmp 34) (.tmp 37), none⟩, ⟨some 39, .fad 0 (.tmp 3), none⟩, ⟨none, .store 1 (.tmp 39) (.tmp 38), none⟩] [[], [0], [], [2], [3], [1, 4, 3], [0, 1, 2, 3, 4, 5], [6, 5, 5, 0, 1, 2, 3, 4, 5]]))))) (.reg [⟨some 40, .bin .add (.tmp 9) (.const (.int .i64 1)), none⟩, ⟨some 9, .mv (.tmp 40), none⟩]))))))) (.seq (.reg [⟨some 41, .load 1 true (.tmp 3), none⟩, ⟨none, .store 1 (.tmp 2) (.tmp 41), none⟩]) .ret))))
theorem fn330 : MFn Tryz.prog 330 mc330 42 [.cell 2 1 true] :=
  ⟨Tryz.f330, Tryz.func330, by kernel_rfl, Tryz.ntmps330, by kernel_rfl⟩
def F_impl_plain_l2 (s : (List Ls)) (v9 : Int) : (List Ls) → Option ((List Ls) ⊕ ((Int × (List Ls)) ⊕ (List Ls)))
 | out_1 =>
  if (decide ((out_1.length : Int) < v9)) = true then
   if (out_1.length + 1) * 24 ≤ 140737488355328 then
    some (.inl (out_1 ++ [[]]))
   else none
  else
   Option.map Sum.inr (
    (F_slices_Clone_int64_int64 (s.getD v9.toNat default)).bind fun r_2 =>
    if (out_1.length + 1) * 24 ≤ 140737488355328 then
     some (.inl ((IntKind.i64.wrap (v9 + 1)), (out_1 ++ [r_2])))
    else none)
def F_impl_plain_l1 (s : (List Ls)) : (Int × (List Ls)) → Option ((Int × (List Ls)) ⊕ (List Ls))
 | (v9, out) =>
  if (decide (v9 < (s.length : Int))) = true then
   if 0 ≤ v9 ∧ v9 < (s.length : Int) then
    if (((s.getD v9.toNat default).length : Int) == 0) = true then
     some (.inl ((IntKind.i64.wrap (v9 + 1)), out))
    else
     (F_impl_variable v9).bind fun r =>
     (F_slices_Equal_int64_int64 (s.getD v9.toNat default) r).bind fun r_1 =>
     if r_1 = true then
      some (.inl ((IntKind.i64.wrap (v9 + 1)), out))
     else
      loopC (F_impl_plain_l2 s v9) out
   else none
  else
   Option.map Sum.inr (
    some out)
def F_impl_plain (s : (List Ls)) : Option (List Ls) :=
 loopC (F_impl_plain_l1 s) (0, [])
theorem c_impl_plain {s : (List Ls)} {rr : (List Ls)} (h : F_impl_plain s = some rr) : PFun Tryz.prog 330 [D_impl_Subst s] (D_impl_Subst rr) := by
  delta F_impl_plain at h
  refine fn330.pureL (vcm_sound ?_)
  delta mc330
  refine stp ?_
  refine m_loopF h [4, 5, 9, 10, 11, 12, 13, 14, 15, 16, 17, 18, 19, 20, 21, 22, 23, 24, 25, 26, 27, 28, 29, 30, 31, 32, 33, 34, 35, 36, 37, 38, 39, 40] (fun pp => [(9, .d (iD pp.1))]) (fun pp => [(1, .obj 48 [.d (slD 1 (slD 1 iD) s)]), (2, .obj 48 [.d (.sl 0 (some true) [])]), (3, .obj 48 [.own 1 38 (List.map (slD 1 iD) pp.2)]), (38, .tok 22 1 pp.2.length)]) ?_ ?_
  · try dsimp only
    refine (Weak.thawCell 3 0 38 22 1 rfl rfl rfl).trans ?_
    exact wk
  rintro ⟨v9, out⟩ t1 h hb1
  unfold F_impl_plain_l1 at h
  try dsimp only at h
  refine vcm_sound (stp ?_)
  rcases ite_some h with ⟨hc, h⟩ | ⟨hc, h⟩
  · refine stpc hc ?_
    obtain ⟨hp, h⟩ := need_some h
    repeat (refine need_i (by omega) ?_; refine stp ?_)
    rcases ite_some h with ⟨hc, h⟩ | ⟨hc, h⟩
    · refine stpc hc ?_
      cases h
      refine ⟨_, rfl, ?_⟩
      exact wk
    refine stpc hc ?_
    obtain ⟨r, hr, h⟩ := bind_some h
    refine cR (c_impl_variable hr) (stp ?_)
    obtain ⟨r_1, hr_1, h⟩ := bind_some h
    refine cR (c_slices_Equal_int64_int64 hr_1) (stp ?_)
    rcases ite_some h with ⟨hc, h⟩ | ⟨hc, h⟩
    · refine stpc hc ?_
      cases h
      refine ⟨_, rfl, ?_⟩
      exact wk
    refine stpc hc ?_
    refine m_loopF h [23, 24, 25, 26, 27, 28, 29, 30, 31, 32] (fun pp => []) (fun pp => [(1, .obj 48 [.d (slD 1 (slD 1 iD) s)]), (2, .obj 48 [.d (.sl 0 (some true) [])]), (3, .obj 48 [.own 1 38 (List.map (slD 1 iD) pp)]), (38, .tok 22 1 pp.length)]) ?_ ?_
    · try dsimp only
      exact wk
    rintro out_1 t2 h hb2
    unfold F_impl_plain_l2 at h
    try dsimp only at h
    refine vcm_sound (stp ?_)
    rcases ite_some h with ⟨hc, h⟩ | ⟨hc, h⟩
    · refine stpc hc ?_
      obtain ⟨hp, h⟩ := need_some h
      repeat (refine need_i (by omega) ?_; refine stp ?_)
      cases h
      refine ⟨_, rfl, ?_⟩
      refine (Weak.drop 30 (by omega)).trans ?_
      exact wk
    refine stpc hc ?_
    replace h := inr_some h hb2
    obtain ⟨r_2, hr_2, h⟩ := bind_some h
    refine cD' (c_slices_Clone_int64_int64 hr_2) (stp ?_)
    obtain ⟨hp, h⟩ := need_some h
    repeat (refine need_i (by omega) ?_; refine stp ?_)
    refine drQ_of (by kernel_rfl) ?_
    refine stp ?_
    cases h
    refine ⟨_, rfl, ?_⟩
    refine (Weak.drop 37 (by omega)).trans ?_
    exact wk
  refine stpc hc ?_
  replace h := inr_some h hb1
  cases h
  exact don
def mc254 : MCode :=
 (.seq (.reg [⟨some 3, .box 3 43 (.tmp 0), none⟩, ⟨some 6, .alloc 6 48 [.sl 0 (some true) []], none⟩, ⟨some 7, .mv (.const (.bool false)), none⟩]) (.seq (.reg [⟨some 11, .load 1 true (.tmp 3), none⟩, ⟨some 12, .mv (.tmp 1), none⟩, ⟨some 13, .mv (.tmp 2), none⟩, ⟨some 14, .build [.sl 0 (some true) [], .sl 0 (some true) [], .sl 0 (some true) [], .sl 0 (some true) [], .sl 0 (some true) [], .sl 0 (some true) [], .sl 0 (some true) [], .sl 0 (some true) [], .sl 0 (some true) [], .sl 0 (some true) [], .sl 0 (some true) [], .sl 0 (some true) [], .sl 0 (some true) [], .sl 0 (some true) [], .sl 0 (some true) [], .sl 0 (some true) [], .sl 0 (some true) [], .sl 0 (some true) [], .sl 0 (some true) [], .sl 0 (some true) [], .sl 0 (some true) [], .sl 0 (some true) [], .sl 0 (some true) [], .sl 0 (some true) []] [], none⟩, ⟨some 15, .callf 231 [.tmp 11, .tmp 12, .tmp 13, .tmp 14], none⟩, ⟨some 10, .mv (.tmp 15), none⟩, ⟨some 16, .ext (.tmp 10) 0, none⟩, ⟨some 17, .ext (.tmp 10) 1, none⟩, ⟨some 8, .alloc 8 239 [.sl 0 (some true) [], .sl 0 (some true) [], .sl 0 (some true) [], .sl 0 (some true) [], .sl 0 (some true) [], .sl 0 (some true) [], .sl 0 (some true) [], .sl 0 (some true) [], .sl 0 (some true) [], .sl 0 (some true) [], .sl 0 (some true) [], .sl 0 (some true) [], .sl 0 (some true) [], .sl 0 (some true) [], .sl 0 (some true) [], .sl 0 (some true) [], .sl 0 (some true) [], .sl 0 (some true) [], .sl 0 (some true) [], .sl 0 (some true) [], .sl 0 (some true) [], .sl 0 (some true) [], .sl 0 (some true) [], .sl 0 (some true) []], none⟩, ⟨none, .store 24 (.tmp 8) (.tmp 16), none⟩, ⟨some 9, .mv (.tmp 17), none⟩]) (.seq (.seq (.reg [⟨some 18, .mv (.tmp 9), none⟩, ⟨some 19, .un .not (.tmp 18), none⟩]) (.cond (.tmp 19) (.seq (.reg [⟨some 20, .build [.sl 0 (some true) []] [], none⟩, ⟨none, .store 1 (.tmp 6) (.tmp 20), none⟩, ⟨some 7, .mv (.const (.bool false)), none⟩]) .ret) .skip)) (.seq (.reg [⟨some 21, .load 24 true (.tmp 8), none⟩, ⟨some 22, .callf 331 [.tmp 21], none⟩, ⟨some 23, .callf 330 [.tmp 22], none⟩, ⟨none, .store 1 (.tmp 6) (.tmp 23), none⟩, ⟨some 7, .mv (.const (.bool true)), none⟩]) .ret))))
theorem fn254 : MFn Tryz.prog 254 mc254 24 [.cell 6 1 true, .tmp 7] :=
  ⟨Tryz.f254, Tryz.func254, by kernel_rfl, Tryz.ntmps254, by kernel_rfl⟩
def F_impl_match (sig : Ls) (p : Ls) (t : Ls) : Option ((List Ls) × Bool) :=
 (F_impl_matchInto sig p t (List.replicate 24 [])).bind fun r =>
 if r.1.length = 24 then
  if r.2 = true then
   if r.1.length = 24 then
    (F_impl_bindings_subst r.1).bind fun r_1 =>
    (F_impl_plain r_1).bind fun r_2 =>
    some (r_2, true)
   else none
  else
   some ([], false)
 else none
theorem c_impl_match {sig : Ls} {p : Ls} {t : Ls} {rr : ((List Ls) × Bool)} (h : F_impl_match sig p t = some rr) : PFunN Tryz.prog 254 [D_impl_Sig sig, (slD 1 iD) p, (slD 1 iD) t] [D_impl_Subst rr.1, bD rr.2] := by
  delta F_impl_match at h
  refine fn254.pureLN (vcm_sound ?_)
  delta mc254
  refine stp ?_
  obtain ⟨r, hr, h⟩ := bind_some h
  refine cRN (c_impl_matchInto hr) (stp ?_)
  obtain ⟨hp, h⟩ := need_some h
  repeat (refine need_i (by omega) ?_; refine stp ?_)
  rcases ite_some h with ⟨hc, h⟩ | ⟨hc, h⟩
  · refine stpc hc ?_
    obtain ⟨hp, h⟩ := need_some h
    repeat (refine need_i (by omega) ?_; refine stp ?_)
    obtain ⟨r_1, hr_1, h⟩ := bind_some h
    refine cR (c_impl_bindings_subst hr_1) (stp ?_)
    obtain ⟨r_2, hr_2, h⟩ := bind_some h
    refine cR (c_impl_plain hr_2) (stp ?_)
    cases h
    exact don
  refine stpc hc ?_
  cases h
  exact don
def mc114 : MCode :=
 (.seq (.reg [⟨some 2, .mv (.const (.slice none 0 0)), none⟩]) (.seq (.reg [⟨some 3, .bsl 3 2 1 [], none⟩, ⟨some 4, .mv (.tmp 0), none⟩, ⟨some 5, .app 5 2 1 8 (.tmp 3) (.tmp 4), none⟩, ⟨some 2, .mv (.tmp 5), none⟩]) .ret))
theorem fn114 : MFn Tryz.prog 114 mc114 6 [.tmp 2] :=
  ⟨Tryz.f114, Tryz.func114, by kernel_rfl, Tryz.ntmps114, by kernel_rfl⟩
def F_spec_l1Copy (l : Ls) : Option Ls :=
 if (0 + l.length) * 8 ≤ 140737488355328 then
  some l
 else none
theorem c_spec_l1Copy {l : Ls} {rr : Ls} (h : F_spec_l1Copy l = some rr) : ACalls Tryz.prog 114 [.d (slD 1 iD l)] [] 0 fun xx ss => xx = .own 1 3 (List.map iD rr) ∧ ss = [(3, .tok 2 1 rr.length)] := by
  delta F_spec_l1Copy at h
  refine fn114.callsO (vcm_sound ?_)
  delta mc114
  refine stp ?_
  obtain ⟨hp, h⟩ := need_some h
  repeat (refine need_i (by omega) ?_; refine stp ?_)
  cases h
  exact ⟨[], by simp, don, don⟩
def mc246 : MCode :=
 (.seq (.reg [⟨some 3, .box 3 43 (.tmp 0), none⟩, ⟨some 6, .mv (.const (.slice none 0 0)), none⟩]) (.seq (.reg [⟨some 7, .mv (.tmp 1), none⟩, ⟨some 8, .mv (.tmp 2), none⟩, ⟨some 9, .load 1 true (.tmp 3), none⟩, ⟨some 10, .mv (.tmp 1), none⟩, ⟨some 11, .mv (.tmp 2), none⟩, ⟨some 12, .callf 220 [.tmp 9, .tmp 10, .tmp 11], none⟩, ⟨some 13, .slc (.tmp 7) 1 (some (.tmp 8)) (some (.tmp 12)) none, none⟩, ⟨some 14, .callf 114 [.tmp 13], none⟩, ⟨some 6, .mv (.tmp 14), none⟩]) .ret))
theorem fn246 : MFn Tryz.prog 246 mc246 15 [.tmp 6] :=
  ⟨Tryz.f246, Tryz.func246, by kernel_rfl, Tryz.ntmps246, by kernel_rfl⟩
def F_spec_l1Sub (sig : Ls) (t : Ls) (at' : Int) : Option Ls :=
 (F_spec_l1End sig t at').bind fun r =>
 if 0 ≤ at' ∧ at' ≤ r ∧ r ≤ (t.length : Int) then
  (F_spec_l1Copy ((t.take r.toNat).drop at'.toNat)).bind fun r_1 =>
  some r_1
 else none
theorem c_spec_l1Sub {sig : Ls} {t : Ls} {at' : Int} {rr : Ls} (h : F_spec_l1Sub sig t at' = some rr) : PFun Tryz.prog 246 [D_impl_Sig sig, (slD 1 iD) t, iD at'] ((slD 1 iD) rr) := by
  delta F_spec_l1Sub at h
  refine fn246.pureL (vcm_sound ?_)
  delta mc246
  refine stp ?_
  obtain ⟨r, hr, h⟩ := bind_some h
  refine cR (c_spec_l1End hr) (stp ?_)
  obtain ⟨hp, h⟩ := need_some h
  repeat (refine need_i (by omega) ?_; refine stp ?_)
  obtain ⟨r_1, hr_1, h⟩ := bind_some h
  refine cRo [] [(3, 14)] (c_spec_l1Copy hr_1) (stp ?_)
  cases h
  exact don
def mc33 : MCode :=
 (.seq (.reg [⟨some 4, .mv (.const (.bool false)), none⟩]) (.seq (.seq (.reg [⟨some 6, .mv (.tmp 0), none⟩, ⟨some 7, .len (.tmp 6), none⟩, ⟨some 8, .mv (.tmp 1), none⟩, ⟨some 9, .len (.tmp 8), none⟩, ⟨some 10, .bin .neq (.tmp 7) (.tmp 9), none⟩]) (.cond (.tmp 10) (.seq (.reg [⟨some 4, .mv (.const (.bool false)), none⟩]) .ret) .skip)) (.seq (.seq (.reg [⟨some 5, .mv (.const (.int .i64 0)), none⟩]) (.block 0 (.loop (.seq (.seq (.reg [⟨some 11, .mv (.tmp 5), none⟩, ⟨some 12, .mv (.tmp 0), none⟩, ⟨some 13, .len (.tmp 12), none⟩, ⟨some 14, .bin .lss (.tmp 11) (.tmp 13), none⟩]) (.cond (.tmp 14) .skip (.exit 0))) (.seq (.block 1 (.seq (.draw [⟨some 17, .mv (.tmp 0), none⟩, ⟨some 18, .mv (.tmp 5), none⟩, ⟨some 19, .ixa 1 (.tmp 17) (.tmp 18), none⟩, ⟨some 20, .load 1 false (.tmp 19), none⟩, ⟨some 21, .mv (.tmp 1), none⟩, ⟨some 22, .mv (.tmp 5), none⟩, ⟨some 23, .ixa 1 (.tmp 21) (.tmp 22), none⟩, ⟨some 24, .load 1 false (.tmp 23), none⟩, ⟨some 25, .bin .neq (.tmp 20) (.tmp 24), none⟩] [[], [], [0, 1], [2], [], [], [4, 5], [6], [3, 7]]) (.cond (.tmp 25) (.seq (.reg [⟨some 4, .mv (.const (.bool false)), none⟩]) .ret) .skip))) (.reg [⟨some 15, .mv (.tmp 5), none⟩, ⟨some 16, .bin .add (.tmp 15) (.const (.int .i64 1)), none⟩, ⟨some 5, .mv (.tmp 16), none⟩])))))) (.seq (.reg [⟨some 4, .mv (.const (.bool true)), none⟩]) .ret))))
theorem fn33 : MFn Tryz.prog 33 mc33 26 [.tmp 4] :=
  ⟨Tryz.f33, Tryz.func33, by kernel_rfl, Tryz.ntmps33, by kernel_rfl⟩
def F_spec_SameTerm_l1 (a : Ls) (b : Ls) : Int → Option (Int ⊕ Bool)
 | i =>
  if (decide (i < (a.length : Int))) = true then
   if 0 ≤ i ∧ i < (a.length : Int) then
    if 0 ≤ i ∧ i < (b.length : Int) then
     if ((a.getD i.toNat default) != (b.getD i.toNat default)) = true then
      Option.map Sum.inr (
       some false)
     else
      some (.inl (IntKind.i64.wrap (i + 1)))
    else none
   else none
  else
   Option.map Sum.inr (
    some true)
def F_spec_SameTerm (a : Ls) (b : Ls) : Option Bool :=
 if ((a.length : Int) != (b.length : Int)) = true then
  some false
 else
  loopC (F_spec_SameTerm_l1 a b) 0
theorem c_spec_SameTerm {a : Ls} {b : Ls} {rr : Bool} (h : F_spec_SameTerm a b = some rr) : PFun Tryz.prog 33 [(slD 1 iD) a, (slD 1 iD) b] (bD rr) := by
  delta F_spec_SameTerm at h
  refine fn33.pureL (vcm_sound ?_)
  delta mc33
  refine stp ?_
  rcases ite_some h with ⟨hc, h⟩ | ⟨hc, h⟩
  · refine stpc hc ?_
    cases h
    exact don
  refine stpc hc ?_
  refine m_loopF h [4, 5, 11, 12, 13, 14, 15, 16, 17, 18, 19, 20, 21, 22, 23, 24, 25] (fun pp => [(5, .d (iD pp))]) (fun pp => []) ?_ ?_
  · try dsimp only
    exact wk
  rintro i t1 h hb1
  unfold F_spec_SameTerm_l1 at h
  try dsimp only at h
  refine vcm_sound (stp ?_)
  rcases ite_some h with ⟨hc, h⟩ | ⟨hc, h⟩
  · refine stpc hc ?_
    obtain ⟨hp, h⟩ := need_some h
    repeat (refine need_i (by omega) ?_; refine stp ?_)
    obtain ⟨hp, h⟩ := need_some h
    repeat (refine need_i (by omega) ?_; refine stp ?_)
    refine drQ_of (by kernel_rfl) ?_
    refine stp ?_
    rcases ite_some h with ⟨hc, h⟩ | ⟨hc, h⟩
    · refine stpc hc ?_
      replace h := inr_some h hb1
      cases h
      exact don
    refine stpc hc ?_
    cases h
    refine ⟨_, rfl, ?_⟩
    exact wk
  refine stpc hc ?_
  replace h := inr_some h hb1
  cases h
  exact don
def mc292 : MCode :=
 (.seq (.reg [⟨some 2, .box 2 48 (.tmp 0), none⟩, ⟨some 4, .mv (.const (.slice none 0 0)), none⟩]) (.seq (.seq (.reg [⟨some 5, .mv (.tmp 1), none⟩, ⟨some 6, .fad 0 (.tmp 2), none⟩, ⟨some 7, .load 1 false (.tmp 6), none⟩, ⟨some 8, .len (.tmp 7), none⟩, ⟨some 9, .bin .lss (.tmp 5) (.tmp 8), none⟩, ⟨some 10, .mv (.tmp 9), none⟩, ⟨some 11, .fad 0 (.tmp 2), (some (some 10, true))⟩, ⟨some 12, .load 1 false (.tmp 11), (some (some 10, true))⟩, ⟨some 13, .mv (.tmp 1), (some (some 10, true))⟩, ⟨some 14, .ixa 1 (.tmp 12) (.tmp 13), (some (some 10, true))⟩, ⟨some 15, .load 1 false (.tmp 14), (some (some 10, true))⟩, ⟨some 16, .len (.tmp 15), (some (some 10, true))⟩, ⟨some 17, .bin .gtr (.tmp 16) (.const (.int .i64 0)), (some (some 10, true))⟩, ⟨some 18, .pick (.tmp 10) (.tmp 17) (.const (.bool false)), none⟩]) (.cond (.tmp 18) (.seq (.reg [⟨some 19, .fad 0 (.tmp 2), none⟩, ⟨some 20, .load 1 false (.tmp 19), none⟩, ⟨some 21, .mv (.tmp 1), none⟩, ⟨some 22, .ixa 1 (.tmp 20) (.tmp 21), none⟩, ⟨some 23, .load 1 false (.tmp 22), none⟩, ⟨some 24, .callf 114 [.tmp 23], none⟩, ⟨some 4, .mv (.tmp 24), none⟩]) .ret) .skip)) (.seq (.reg [⟨some 25, .mv (.tmp 1), none⟩, ⟨some 26, .bin .sub (.const (.int .i64 (-1))) (.tmp 25), none⟩, ⟨some 27, .bsl 27 2 1 [.tmp 26], none⟩, ⟨some 4, .mv (.tmp 27), none⟩]) .ret)))
theorem fn292 : MFn Tryz.prog 292 mc292 28 [.tmp 4] :=
  ⟨Tryz.f292, Tryz.func292, by kernel_rfl, Tryz.ntmps292, by kernel_rfl⟩
def F_spec_l2Gives (s : (List Ls)) (i : Int) : Option Ls :=
 if (decide (i < (s.length : Int))) = true then
  if 0 ≤ i ∧ i < (s.length : Int) then
   if (decide (0 < ((s.getD i.toNat default).length : Int))) = true then
    if 0 ≤ i ∧ i < (s.length : Int) then
     (F_spec_l1Copy (s.getD i.toNat default)).bind fun r =>
     some r
    else none
   else
    some [(IntKind.i64.wrap ((-1) - i))]
  else none
 else
  some [(IntKind.i64.wrap ((-1) - i))]
theorem c_spec_l2Gives {s : (List Ls)} {i : Int} {rr : Ls} (h : F_spec_l2Gives s i = some rr) : PFun Tryz.prog 292 [D_impl_Subst s, iD i] ((slD 1 iD) rr) := by
  delta F_spec_l2Gives at h
  refine fn292.pureL (vcm_sound ?_)
  delta mc292
  refine stp ?_
  rcases ite_some h with ⟨hc, h⟩ | ⟨hc, h⟩
  · refine stpc hc ?_
    obtain ⟨hp, h⟩ := need_some h
    repeat (refine need_i (by omega) ?_; refine stp ?_)
    rcases ite_some h with ⟨hc, h⟩ | ⟨hc, h⟩
    · refine stpc hc ?_
      obtain ⟨hp, h⟩ := need_some h
      repeat (refine need_i (by omega) ?_; refine stp ?_)
      obtain ⟨r, hr, h⟩ := bind_some h
      refine cRo [] [(3, 24)] (c_spec_l1Copy hr) (stp ?_)
      cases h
      exact don
    refine stpc hc ?_
    cases h
    exact don
  refine stpc hc ?_
  cases h
  exact don
def mc338 : MCode :=
 (.seq (.reg [⟨some 1, .box 1 48 (.tmp 0), none⟩, ⟨some 2, .alloc 2 48 [.sl 0 (some true) []], none⟩]) (.seq (.reg [⟨some 6, .build [.sl 0 (some true) []] [], none⟩, ⟨some 3, .alloc 3 48 [.sl 0 (some true) []], none⟩, ⟨none, .store 1 (.tmp 3) (.tmp 6), none⟩]) (.seq (.seq (.reg [⟨some 4, .mv (.const (.int .i64 0)), none⟩]) (.block 0 (.loop (.seq (.seq (.reg [⟨some 7, .mv (.tmp 4), none⟩, ⟨some 8, .fad 0 (.tmp 1), none⟩, ⟨some 9, .load 1 false (.tmp 8), none⟩, ⟨some 10, .len (.tmp 9), none⟩, ⟨some 11, .bin .lss (.tmp 7) (.tmp 10), none⟩]) (.cond (.tmp 11) .skip (.exit 0))) (.seq (.block 1 (.seq (.reg [⟨some 14, .load 1 true (.tmp 1), none⟩, ⟨some 15, .mv (.tmp 4), none⟩, ⟨some 16, .callf 292 [.tmp 14, .tmp 15], none⟩, ⟨some 5, .mv (.tmp 16), none⟩]) (.seq (.seq (.reg [⟨some 17, .mv (.tmp 5), none⟩, ⟨some 18, .len (.tmp 17), none⟩, ⟨some 19, .bin .eql (.tmp 18) (.const (.int .i64 1)), none⟩, ⟨some 20, .mv (.tmp 19), none⟩, ⟨some 21, .mv (.tmp 5), (some (some 20, true))⟩, ⟨some 22, .ixa 1 (.tmp 21) (.const (.int .i64 0)), (some (some 20, true))⟩, ⟨some 23, .load 1 false (.tmp 22), (some (some 20, true))⟩, ⟨some 24, .mv (.tmp 4), (some (some 20, true))⟩, ⟨some 25, .bin .sub (.const (.int .i64 (-1))) (.tmp 24), (some (some 20, true))⟩, ⟨some 26, .bin .eql (.tmp 23) (.tmp 25), (some (some 20, true))⟩, ⟨some 27, .pick (.tmp 20) (.tmp 26) (.const (.bool false)), none⟩]) (.cond (.tmp 27) (.reg [⟨some 28, .bsl 28 2 1 [], none⟩, ⟨some 5, .mv (.tmp 28), none⟩]) .skip)) (.reg [⟨some 29, .fad 0 (.tmp 3), none⟩, ⟨some 30, .load 1 false (.tmp 29), none⟩, ⟨some 31, .mv (.tmp 5), none⟩, ⟨some 32, .bsl 32 22 1 [.tmp 31], none⟩, ⟨some 33, .app 33 22 1 24 (.tmp 30) (.tmp 32), none⟩, ⟨some 34, .fad 0 (.tmp 3), none⟩, ⟨none, .store 1 (.tmp 34) (.tmp 33), none⟩])))) (.reg [⟨some 12, .mv (.tmp 4), none⟩, ⟨some 13, .bin .add (.tmp 12) (.const (.int .i64 1)), none⟩, ⟨some 4, .mv (.tmp 13), none⟩])))))) (.seq (.block 2 (.loop (.seq (.seq (.reg [⟨some 35, .fad 0 (.tmp 3), none⟩, ⟨some 36, .load 1 false (.tmp 35), none⟩, ⟨some 37, .len (.tmp 36), none⟩, ⟨some 38, .bin .gtr (.tmp 37) (.const (.int .i64 0)), none⟩, ⟨some 39, .mv (.tmp 38), none⟩, ⟨some 40, .fad 0 (.tmp 3), (some (some 39, true))⟩, ⟨some 41, .load 1 false (.tmp 40), (some (some 39, true))⟩, ⟨some 42, .fad 0 (.tmp 3), (some (some 39, true))⟩, ⟨some 43, .load 1 false (.tmp 42), (some (some 39, true))⟩, ⟨some 44, .len (.tmp 43), (some (some 39, true))⟩, ⟨some 45, .bin .sub (.tmp 44) (.const (.int .i64 1)), (some (some 39, true))⟩, ⟨some 46, .ixa 1 (.tmp 41) (.tmp 45), (some (some 39, true))⟩, ⟨some 47, .load 1 false (.tmp 46), (some (some 39, true))⟩, ⟨some 48, .len (.tmp 47), (some (some 39, true))⟩, ⟨some 49, .bin .eql (.tmp 48) (.const (.int .i64 0)), (some (some 39, true))⟩, ⟨some 50, .pick (.tmp 39) (.tmp 49) (.const (.bool false)), none⟩]) (.cond (.tmp 50) .skip (.exit 2))) (.block 3 (.reg [⟨some 51, .fad 0 (.tmp 3), none⟩, ⟨some 52, .load 1 false (.tmp 51), none⟩, ⟨some 53, .fad 0 (.tmp 3), none⟩, ⟨some 54, .load 1 false (.tmp 53), none⟩, ⟨some 55, .len (.tmp 54), none⟩, ⟨some 56, .bin .sub (.tmp 55) (.const (.int .i64 1)), none⟩, ⟨some 57, .slc (.tmp 52) 1 none (some (.tmp 56)) none, none⟩, ⟨some 58, .fad 0 (.tmp 3), none⟩, ⟨none, .store 1 (.tmp 58) (.tmp 57), none⟩]))))) (.seq (.reg [⟨some 59, .load 1 true (.tmp 3), none⟩, ⟨none, .store 1 (.tmp 2) (.tmp 59), none⟩]) .ret)))))
theorem fn338 : MFn Tryz.prog 338 mc338 60 [.cell 2 1 true] :=
  ⟨Tryz.f338, Tryz.func338, by kernel_rfl, Tryz.ntmps338, by kernel_rfl⟩
def F_spec_l2Plain_l2  : (List Ls) → Option ((List Ls) ⊕ (List Ls))
 | out_1 =>
  if (decide (0 < (out_1.length : Int))) = true then
   if 0 ≤ (IntKind.i64.wrap ((out_1.length : Int) - 1)) ∧ (IntKind.i64.wrap ((out_1.length : Int) - 1)) < (out_1.length : Int) then
    if (((out_1.getD (IntKind.i64.wrap ((out_1.length : Int) - 1)).toNat default).length : Int) == 0) = true then
     if 0 ≤ (IntKind.i64.wrap ((out_1.length : Int) - 1)) ∧ (IntKind.i64.wrap ((out_1.length : Int) - 1)) ≤ (out_1.length : Int) then
      some (.inl (out_1.take (IntKind.i64.wrap ((out_1.length : Int) - 1)).toNat))
     else none
    else
     Option.map Sum.inr (
      some out_1)
   else none
  else
   Option.map Sum.inr (
    some out_1)
def F_spec_l2Plain_l1 (s : (List Ls)) : (Int × (List Ls)) → Option ((Int × (List Ls)) ⊕ (List Ls))
 | (i, out) =>
  if (decide (i < (s.length : Int))) = true then
   (F_spec_l2Gives s i).bind fun r =>
   if ((r.length : Int) == 1) = true then
    if 0 ≤ 0 ∧ 0 < (r.length : Int) then
     if ((r.getD 0 default) == (IntKind.i64.wrap ((-1) - i))) = true then
      if (out.length + 1) * 24 ≤ 140737488355328 then
       some (.inl ((IntKind.i64.wrap (i + 1)), (out ++ [[]])))
      else none
     else
      if (out.length + 1) * 24 ≤ 140737488355328 then
       some (.inl ((IntKind.i64.wrap (i + 1)), (out ++ [r])))
      else none
    else none
   else
    if (out.length + 1) * 24 ≤ 140737488355328 then
     some (.inl ((IntKind.i64.wrap (i + 1)), (out ++ [r])))
    else none
  else
   Option.map Sum.inr (
    loopC (F_spec_l2Plain_l2) out)
def F_spec_l2Plain (s : (List Ls)) : Option (List Ls) :=
 loopC (F_spec_l2Plain_l1 s) (0, [])
theorem c_spec_l2Plain {s : (List Ls)} {rr : (List Ls)} (h : F_spec_l2Plain s = some rr) : PFun Tryz.prog 338 [D_impl_Subst s] (D_impl_Subst rr) := by
  delta F_spec_l2Plain at h
  refine fn338.pureL (vcm_sound ?_)
  delta mc338
  refine stp ?_
  refine m_loopF h [4, 5, 7, 8, 9, 10, 11, 12, 13, 14, 15, 16, 17, 18, 19, 20, 21, 22, 23, 24, 25, 26, 27, 28, 29, 30, 31, 32, 33, 34] (fun pp => [(4, .d (iD pp.1))]) (fun pp => [(1, .obj 48 [.d (slD 1 (slD 1 iD) s)]), (2, .obj 48 [.d (.sl 0 (some true) [])]), (3, .obj 48 [.own 1 33 (List.map (slD 1 iD) pp.2)]), (33, .tok 22 1 pp.2.length)]) ?_ ?_
  · try dsimp only
    refine (Weak.thawCell 3 0 33 22 1 rfl rfl rfl).trans ?_
    exact wk
  rintro ⟨i, out⟩ t1 h hb1
  unfold F_spec_l2Plain_l1 at h
  try dsimp only at h
  refine vcm_sound (stp ?_)
  rcases ite_some h with ⟨hc, h⟩ | ⟨hc, h⟩
  · refine stpc hc ?_
    obtain ⟨r, hr, h⟩ := bind_some h
    refine cR (c_spec_l2Gives hr) (stp ?_)
    rcases ite_some h with ⟨hc, h⟩ | ⟨hc, h⟩
    · refine stpc hc ?_
      obtain ⟨hp, h⟩ := need_some h
      repeat (refine need_i (by omega) ?_; refine stp ?_)
      rcases ite_some h with ⟨hc, h⟩ | ⟨hc, h⟩
      · refine stpc hc ?_
        obtain ⟨hp, h⟩ := need_some h
        repeat (refine need_i (by omega) ?_; refine stp ?_)
        cases h
        refine ⟨_, rfl, ?_⟩
        refine (Weak.drop 28 (by omega)).trans ?_
        refine (Weak.drop 32 (by omega)).trans ?_
        exact wk
      refine stpc hc ?_
      obtain ⟨hp, h⟩ := need_some h
      repeat (refine need_i (by omega) ?_; refine stp ?_)
      cases h
      refine ⟨_, rfl, ?_⟩
      refine (Weak.drop 32 (by omega)).trans ?_
      exact wk
    refine stpc hc ?_
    obtain ⟨hp, h⟩ := need_some h
    repeat (refine need_i (by omega) ?_; refine stp ?_)
    cases h
    refine ⟨_, rfl, ?_⟩
    refine (Weak.drop 32 (by omega)).trans ?_
    exact wk
  refine stpc hc ?_
  replace h := inr_some h hb1
  refine m_loopF h [35, 36, 37, 38, 39, 40, 41, 42, 43, 44, 45, 46, 47, 48, 49, 50, 51, 52, 53, 54, 55, 56, 57, 58] (fun pp => []) (fun pp => [(1, .obj 48 [.d (slD 1 (slD 1 iD) s)]), (2, .obj 48 [.d (.sl 0 (some true) [])]), (3, .obj 48 [.d (slD 1 (slD 1 iD) pp)])]) ?_ ?_
  · try dsimp only
    refine (Weak.drop 33 (by omega)).trans ?_
    exact wk
  rintro out_1 t1 h hb1
  unfold F_spec_l2Plain_l2 at h
  try dsimp only at h
  refine vcm_sound (stp ?_)
  rcases ite_some h with ⟨hc, h⟩ | ⟨hc, h⟩
  · refine stpc hc ?_
    obtain ⟨hp, h⟩ := need_some h
    repeat (refine need_i (by omega) ?_; refine stp ?_)
    rcases ite_some h with ⟨hc, h⟩ | ⟨hc, h⟩
    · refine stpc hc ?_
      obtain ⟨hp, h⟩ := need_some h
      repeat (refine need_i (by omega) ?_; refine stp ?_)
      cases h
      refine ⟨_, rfl, ?_⟩
      exact wk
    refine stpc hc ?_
    replace h := inr_some h hb1
    cases h
    exact don
  refine stpc hc ?_
  replace h := inr_some h hb1
  cases h
  exact don
def mc265 : MCode :=
 (.seq (.reg [⟨some 3, .box 3 43 (.tmp 0), none⟩, ⟨some 6, .alloc 6 48 [.sl 0 (some true) []], none⟩, ⟨some 7, .mv (.const (.bool false)), none⟩]) (.seq (.reg [⟨some 13, .mksl 13 22 1 24 [.sl 0 (some true) []] false (.const (.int .i64 24)) (.const (.int .i64 24)), none⟩, ⟨some 14, .build [.sl 0 (some true) []] [(0, 1, .tmp 13)], none⟩, ⟨some 8, .alloc 8 48 [.sl 0 (some true) []], none⟩, ⟨none, .store 1 (.tmp 8) (.tmp 14), none⟩]) (.seq (.reg [⟨some 9, .mv (.const (.int .i64 0)), none⟩]) (.seq (.seq (.reg [⟨some 10, .mv (.const (.int .i64 0)), none⟩]) (.block 0 (.loop (.seq (.seq (.reg [⟨some 15, .mv (.tmp 10), none⟩, ⟨some 16, .mv (.tmp 1), none⟩, ⟨some 17, .len (.tmp 16), none⟩, ⟨some 18, .bin .lss (.tmp 15) (.tmp 17), none⟩]) (.cond (.tmp 18) .skip (.exit 0))) (.seq (.block 1 (.seq (.seq (.reg [⟨some 21, .mv (.tmp 9), none⟩, ⟨some 22, .mv (.tmp 2), none⟩, ⟨some 23, .len (.tmp 22), none⟩, ⟨some 24, .bin .geq (.tmp 21) (.tmp 23), none⟩]) (.cond (.tmp 24) (.seq (.reg [⟨some 25, .build [.sl 0 (some true) []] [], none⟩, ⟨none, .store 1 (.tmp 6) (.tmp 25), none⟩, ⟨some 7, .mv (.const (.bool false)), none⟩]) .ret) .skip)) (.seq (.seq (.reg [⟨some 26, .mv (.tmp 1), none⟩, ⟨some 27, .mv (.tmp 10), none⟩, ⟨some 28, .ixa 1 (.tmp 26) (.tmp 27), none⟩, ⟨some 29, .load 1 false (.tmp 28), none⟩, ⟨some 30, .bin .geq (.tmp 29) (.const (.int .i64 0)), none⟩]) (.cond (.tmp 30) (.seq (.seq (.draw [⟨some 31, .mv (.tmp 1), none⟩, ⟨some 32, .mv (.tmp 10), none⟩, ⟨some 33, .ixa 1 (.tmp 31) (.tmp 32), none⟩, ⟨some 34, .load 1 false (.tmp 33), none⟩, ⟨some 35, .mv (.tmp 2), none⟩, ⟨some 36, .mv (.tmp 9), none⟩, ⟨some 37, .ixa 1 (.tmp 35) (.tmp 36), none⟩, ⟨some 38, .load 1 false (.tmp 37), none⟩, ⟨some 39, .bin .neq (.tmp 34) (.tmp 38), none⟩] [[], [], [0, 1], [2], [], [], [4, 5], [6], [3, 7]]) (.cond (.tmp 39) (.seq (.reg [⟨some 40, .build [.sl 0 (some true) []] [], none⟩, ⟨none, .store 1 (.tmp 6) (.tmp 40), none⟩, ⟨some 7, .mv (.const (.bool false)), none⟩]) .ret) .skip)) (.seq (.reg [⟨some 41, .mv (.tmp 9), none⟩, ⟨some 42, .bin .add (.tmp 41) (.const (.int .i64 1)), none⟩, ⟨some 9, .mv (.tmp 42), none⟩]) (.exit 1))) .skip)) (.seq (.reg [⟨some 43, .load 1 true (.tmp 3), none⟩, ⟨some 44, .mv (.tmp 2), none⟩, ⟨some 45, .mv (.tmp 9), none⟩, ⟨some 46, .callf 246 [.tmp 43, .tmp 44, .tmp 45], none⟩, ⟨some 11, .mv (.tmp 46), none⟩]) (.seq (.draw [⟨some 47, .fad 0 (.tmp 8), none⟩, ⟨some 48, .load 1 false (.tmp 47), none⟩, ⟨some 49, .mv (.tmp 1), none⟩, ⟨some 50, .mv (.tmp 10), none⟩, ⟨some 51, .ixa 1 (.tmp 49) (.tmp 50), none⟩, ⟨some 52, .load 1 false (.tmp 51), none⟩, ⟨some 53, .bin .sub (.const (.int .i64 (-1))) (.tmp 52), none⟩, ⟨some 54, .ixa 1 (.tmp 48) (.tmp 53), none⟩, ⟨some 55, .load 1 false (.tmp 54), none⟩, ⟨some 12, .mv (.tmp 55), none⟩] [[], [0], [], [], [2, 3], [4], [5], [1, 6], [7], [8, 0, 1, 2, 3, 4, 5, 6, 7, 8]]) (.seq (.seq (.reg [⟨some 56, .mv (.tmp 12), none⟩, ⟨some 57, .len (.tmp 56), none⟩, ⟨some 58, .bin .gtr (.tmp 57) (.const (.int .i64 0)), none⟩, ⟨some 59, .mv (.tmp 58), none⟩, ⟨some 60, .mv (.tmp 12), (some (some 59, true))⟩, ⟨some 61, .mv (.tmp 11), (some (some 59, true))⟩, ⟨some 62, .callf 33 [.tmp 60, .tmp 61], (some (some 59, true))⟩, ⟨some 63, .un .not (.tmp 62), (some (some 59, true))⟩, ⟨some 64, .pick (.tmp 59) (.tmp 63) (.const (.bool false)), none⟩]) (.cond (.tmp 64) (.seq (.reg [⟨some 65, .build [.sl 0 (some true) []] [], none⟩, ⟨none, .store 1 (.tmp 6) (.tmp 65), none⟩, ⟨some 7, .mv (.const (.bool false)), none⟩]) .ret) .skip)) (.seq (.draw [⟨some 66, .fad 0 (.tmp 8), none⟩, ⟨some 67, .load 1 false (.tmp 66), none⟩, ⟨some 68, .mv (.tmp 1), none⟩, ⟨some 69, .mv (.tmp 10), none⟩, ⟨some 70, .ixa 1 (.tmp 68) (.tmp 69), none⟩, ⟨some 71, .load 1 false (.tmp 70), none⟩, ⟨some 72, .bin .sub (.const (.int .i64 (-1))) (.tmp 71), none⟩, ⟨some 73, .mv (.tmp 11), none⟩, ⟨some 74, .ixa 1 (.tmp 67) (.tmp 72), none⟩,
 ⟨none, .store 1 (.tmp 74) (.tmp 73), none⟩] [[], [0], [], [], [2, 3], [4], [5], [], [1, 6, 0, 1, 2, 3, 4, 5, 6, 7], [8, 7, 0, 1, 2, 3, 4, 5, 6, 7]]) (.reg [⟨some 75, .mv (.tmp 9), none⟩, ⟨some 76, .mv (.tmp 11), none⟩, ⟨some 77, .len (.tmp 76), none⟩, ⟨some 78, .bin .add (.tmp 75) (.tmp 77), none⟩, ⟨some 9, .mv (.tmp 78), none⟩])))))))) (.reg [⟨some 19, .mv (.tmp 10), none⟩, ⟨some 20, .bin .add (.tmp 19) (.const (.int .i64 1)), none⟩, ⟨some 10, .mv (.tmp 20), none⟩])))))) (.seq (.reg [⟨some 79, .load 1 true (.tmp 8), none⟩, ⟨some 80, .callf 338 [.tmp 79], none⟩, ⟨none, .store 1 (.tmp 6) (.tmp 80), none⟩, ⟨some 7, .mv (.const (.bool true)), none⟩]) .ret)))))
theorem fn265 : MFn Tryz.prog 265 mc265 81 [.cell 6 1 true, .tmp 7] :=
  ⟨Tryz.f265, Tryz.func265, by kernel_rfl, Tryz.ntmps265, by kernel_rfl⟩
def F_spec_l4Match_l1 (sig : Ls) (p : Ls) (t : Ls) : (Int × Int × (List Ls)) → Option ((Int × Int × (List Ls)) ⊕ ((List Ls) × Bool))
 | (k, i, l13) =>
  if (decide (i < (p.length : Int))) = true then
   if (decide ((t.length : Int) ≤ k)) = true then
    Option.map Sum.inr (
     some ([], false))
   else
    if 0 ≤ i ∧ i < (p.length : Int) then
     if (decide (0 ≤ (p.getD i.toNat default))) = true then
      if 0 ≤ i ∧ i < (p.length : Int) then
       if 0 ≤ k ∧ k < (t.length : Int) then
        if ((p.getD i.toNat default) != (t.getD k.toNat default)) = true then
         Option.map Sum.inr (
          some ([], false))
        else
         some (.inl ((IntKind.i64.wrap (k + 1)), (IntKind.i64.wrap (i + 1)), l13))
       else none
      else none
     else
      (F_spec_l1Sub sig t k).bind fun r =>
      if 0 ≤ i ∧ i < (p.length : Int) then
       if 0 ≤ (IntKind.i64.wrap ((-1) - (p.getD i.toNat default))) ∧ (IntKind.i64.wrap ((-1) - (p.getD i.toNat default))) < (24 : Int) ∧ (IntKind.i64.wrap ((-1) - (p.getD i.toNat default))) < (l13.length : Int) then
        if (decide (0 < ((l13.getD (IntKind.i64.wrap ((-1) - (p.getD i.toNat default))).toNat default).length : Int))) = true then
         (F_spec_SameTerm (l13.getD (IntKind.i64.wrap ((-1) - (p.getD i.toNat default))).toNat default) r).bind fun r_1 =>
         if r_1 = true then
          if 0 ≤ i ∧ i < (p.length : Int) then
           if 0 ≤ (IntKind.i64.wrap ((-1) - (p.getD i.toNat default))) ∧ (IntKind.i64.wrap ((-1) - (p.getD i.toNat default))) < (24 : Int) ∧ (IntKind.i64.wrap ((-1) - (p.getD i.toNat default))) < (l13.length : Int) then
            some (.inl ((IntKind.i64.wrap (k + (r.length : Int))), (IntKind.i64.wrap (i + 1)), (l13.set (IntKind.i64.wrap ((-1) - (p.getD i.toNat default))).toNat r)))
           else none
          else none
         else
          Option.map Sum.inr (
           some ([], false))
        else
         if 0 ≤ i ∧ i < (p.length : Int) then
          if 0 ≤ (IntKind.i64.wrap ((-1) - (p.getD i.toNat default))) ∧ (IntKind.i64.wrap ((-1) - (p.getD i.toNat default))) < (24 : Int) ∧ (IntKind.i64.wrap ((-1) - (p.getD i.toNat default))) < (l13.length : Int) then
           some (.inl ((IntKind.i64.wrap (k + (r.length : Int))), (IntKind.i64.wrap (i + 1)), (l13.set (IntKind.i64.wrap ((-1) - (p.getD i.toNat default))).toNat r)))
          else none
         else none
       else none
      else none
    else none
  else
   Option.map Sum.inr (
    if l13.length = 24 then
     (F_spec_l2Plain l13).bind fun r_2 =>
     some (r_2, true)
    else none)
def F_spec_l4Match (sig : Ls) (p : Ls) (t : Ls) : Option ((List Ls) × Bool) :=
 loopC (F_spec_l4Match_l1 sig p t) (0, 0, (List.replicate 24 []))
theorem c_spec_l4Match {sig : Ls} {p : Ls} {t : Ls} {rr : ((List Ls) × Bool)} (h : F_spec_l4Match sig p t = some rr) : PFunN Tryz.prog 265 [D_impl_Sig sig, (slD 1 iD) p, (slD 1 iD) t] [D_impl_Subst rr.1, bD rr.2] := by
  delta F_spec_l4Match at h
  refine fn265.pureLN (vcm_sound ?_)
  delta mc265
  refine stp ?_
  repeat (refine need_i (by omega) ?_; refine stp ?_)
  refine m_loopF h [7, 9, 10, 11, 12, 15, 16, 17, 18, 19, 20, 21, 22, 23, 24, 25, 26, 27, 28, 29, 30, 31, 32, 33, 34, 35, 36, 37, 38, 39, 40, 41, 42, 43, 44, 45, 46, 47, 48, 49, 50, 51, 52, 53, 54, 55, 56, 57, 58, 59, 60, 61, 62, 63, 64, 65, 66, 67, 68, 69, 70, 71, 72, 73, 74, 75, 76, 77, 78] (fun pp => [(9, .d (iD pp.1)), (10, .d (iD pp.2.1))]) (fun pp => [(3, .obj 43 [.d (slD 1 iD sig)]), (6, .obj 48 [.d (.sl 0 (some true) [])]), (8, .obj 48 [.msl 1 13 0 24]), (13, .obj 22 (List.map (aD (slD 1 iD)) pp.2.2))]) ?_ ?_
  · try dsimp only
    exact wk
  rintro ⟨k, i, l13⟩ t1 h hb1
  unfold F_spec_l4Match_l1 at h
  try dsimp only at h
  refine vcm_sound (stp ?_)
  rcases ite_some h with ⟨hc, h⟩ | ⟨hc, h⟩
  · refine stpc hc ?_
    rcases ite_some h with ⟨hc, h⟩ | ⟨hc, h⟩
    · refine stpc hc ?_
      replace h := inr_some h hb1
      cases h
      exact don
    refine stpc hc ?_
    obtain ⟨hp, h⟩ := need_some h
    repeat (refine need_i (by omega) ?_; refine stp ?_)
    rcases ite_some h with ⟨hc, h⟩ | ⟨hc, h⟩
    · refine stpc hc ?_
      obtain ⟨hp, h⟩ := need_some h
      repeat (refine need_i (by omega) ?_; refine stp ?_)
      obtain ⟨hp, h⟩ := need_some h
      repeat (refine need_i (by omega) ?_; refine stp ?_)
      refine drQ_of (by kernel_rfl) ?_
      refine stp ?_
      rcases ite_some h with ⟨hc, h⟩ | ⟨hc, h⟩
      · refine stpc hc ?_
        replace h := inr_some h hb1
        cases h
        exact don
      refine stpc hc ?_
      cases h
      refine ⟨_, rfl, ?_⟩
      exact wk
    refine stpc hc ?_
    obtain ⟨r, hr, h⟩ := bind_some h
    refine cR (c_spec_l1Sub hr) (stp ?_)
    obtain ⟨hp, h⟩ := need_some h
    repeat (refine need_i (by omega) ?_; refine stp ?_)
    obtain ⟨hp, h⟩ := need_some h
    repeat (refine need_i (by omega) ?_; refine stp ?_)
    refine drQ_of (by kernel_rfl) ?_
    refine stp ?_
    rcases ite_some h with ⟨hc, h⟩ | ⟨hc, h⟩
    · refine stpc hc ?_
      obtain ⟨r_1, hr_1, h⟩ := bind_some h
      refine cR (c_spec_SameTerm hr_1) (stp ?_)
      rcases ite_some h with ⟨hc, h⟩ | ⟨hc, h⟩
      · refine stpc hc ?_
        obtain ⟨hp, h⟩ := need_some h
        repeat (refine need_i (by omega) ?_; refine stp ?_)
        obtain ⟨hp, h⟩ := need_some h
        repeat (refine need_i (by omega) ?_; refine stp ?_)
        refine drQ_of (by kernel_rfl) ?_
        refine stp ?_
        cases h
        refine ⟨_, rfl, ?_⟩
        exact wk
      refine stpc hc ?_
      replace h := inr_some h hb1
      cases h
      exact don
    refine stpc hc ?_
    obtain ⟨hp, h⟩ := need_some h
    repeat (refine need_i (by omega) ?_; refine stp ?_)
    obtain ⟨hp, h⟩ := need_some h
    repeat (refine need_i (by omega) ?_; refine stp ?_)
    refine drQ_of (by kernel_rfl) ?_
    refine stp ?_
    cases h
    refine ⟨_, rfl, ?_⟩
    exact wk
  refine stpc hc ?_
  replace h := inr_some h hb1
  obtain ⟨hp, h⟩ := need_some h
  repeat (refine need_i (by omega) ?_; refine stp ?_)
  obtain ⟨r_2, hr_2, h⟩ := bind_some h
  refine callR_freezeL 13 (slD 1 iD) l13 (by omega) rfl (fun _ => rfl) ?_
  refine stp ?_
  refine cR (c_spec_l2Plain hr_2) (stp ?_)
  cases h
  exact don
def mc294 : MCode :=
 (.seq (.reg [⟨some 1, .box 1 48 (.tmp 0), none⟩, ⟨some 2, .mv (.const .nilFunc), none⟩]) (.seq (.reg [⟨some 3, .mkfn 372 [] [.tmp 1], none⟩, ⟨some 2, .mv (.tmp 3), none⟩]) .ret))
theorem fn294 : MFn Tryz.prog 294 mc294 4 [.tmp 2] :=
  ⟨Tryz.f294, Tryz.func294, by kernel_rfl, Tryz.ntmps294, by kernel_rfl⟩
def F_impl_Subst_lookup (s : (List Ls)) : Option (List Ls) :=
 some s
theorem c_impl_Subst_lookup {s : (List Ls)} {rr : (List Ls)} (h : F_impl_Subst_lookup s = some rr) : ACalls Tryz.prog 294 [.d (.agg [slD 1 (slD 1 iD) s])] [] 0 fun xx ss => xx = .fn 372 [] [.ptr 1 0] ∧ ss = [(1, .obj 48 [.d (slD 1 (slD 1 iD) rr)])] := by
  delta F_impl_Subst_lookup at h
  refine fn294.callsO (vcm_sound ?_)
  delta mc294
  refine stp ?_
  cases h
  exact ⟨[], by simp, don, don⟩
def mc295 : MCode :=
 (.seq (.reg [⟨some 2, .box 2 48 (.tmp 0), none⟩, ⟨some 4, .mv (.const (.slice none 0 0)), none⟩]) (.seq (.seq (.reg [⟨some 5, .mv (.tmp 1), none⟩, ⟨some 6, .fad 0 (.tmp 2), none⟩, ⟨some 7, .load 1 false (.tmp 6), none⟩, ⟨some 8, .len (.tmp 7), none⟩, ⟨some 9, .bin .geq (.tmp 5) (.tmp 8), none⟩, ⟨some 10, .mv (.tmp 9), none⟩, ⟨some 11, .fad 0 (.tmp 2), (some (some 10, false))⟩, ⟨some 12, .load 1 false (.tmp 11), (some (some 10, false))⟩, ⟨some 13, .mv (.tmp 1), (some (some 10, false))⟩, ⟨some 14, .ixa 1 (.tmp 12) (.tmp 13), (some (some 10, false))⟩, ⟨some 15, .load 1 false (.tmp 14), (some (some 10, false))⟩, ⟨some 16, .len (.tmp 15), (some (some 10, false))⟩, ⟨some 17, .bin .eql (.tmp 16) (.const (.int .i64 0)), (some (some 10, false))⟩, ⟨some 18, .pick (.tmp 10) (.const (.bool true)) (.tmp 17), none⟩]) (.cond (.tmp 18) (.seq (.reg [⟨some 4, .mv (.const (.slice none 0 0)), none⟩]) .ret) .skip)) (.seq (.reg [⟨some 19, .fad 0 (.tmp 2), none⟩, ⟨some 20, .load 1 false (.tmp 19), none⟩, ⟨some 21, .mv (.tmp 1), none⟩, ⟨some 22, .ixa 1 (.tmp 20) (.tmp 21), none⟩, ⟨some 23, .load 1 false (.tmp 22), none⟩, ⟨some 4, .mv (.tmp 23), none⟩]) .ret)))
theorem fn295 : MFn Tryz.prog 295 mc295 24 [.tmp 4] :=
  ⟨Tryz.f295, Tryz.func295, by kernel_rfl, Tryz.ntmps295, by kernel_rfl⟩
def F_impl_Subst_byVar (s : (List Ls)) (i : Int) : Option Ls :=
 if (decide ((s.length : Int) ≤ i)) = true then
  some []
 else
  if 0 ≤ i ∧ i < (s.length : Int) then
   if (((s.getD i.toNat default).length : Int) == 0) = true then
    some []
   else
    if 0 ≤ i ∧ i < (s.length : Int) then
     if 0 < (s.getD i.toNat default).length then
      some (s.getD i.toNat default)
     else none
    else none
  else none
theorem c_impl_Subst_byVar {s : (List Ls)} {i : Int} {rr : Ls} (h : F_impl_Subst_byVar s i = some rr) : PFun Tryz.prog 295 [D_impl_Subst s, iD i] ((nzD 1 iD) rr) := by
  delta F_impl_Subst_byVar at h
  refine fn295.pureL (vcm_sound ?_)
  delta mc295
  refine stp ?_
  rcases ite_some h with ⟨hc, h⟩ | ⟨hc, h⟩
  · refine stpc hc ?_
    cases h
    exact don
  refine stpc hc ?_
  obtain ⟨hp, h⟩ := need_some h
  repeat (refine need_i (by omega) ?_; refine stp ?_)
  rcases ite_some h with ⟨hc, h⟩ | ⟨hc, h⟩
  · refine stpc hc ?_
    cases h
    exact don
  refine stpc hc ?_
  obtain ⟨hp, h⟩ := need_some h
  repeat (refine need_i (by omega) ?_; refine stp ?_)
  obtain ⟨hp, h⟩ := need_some h
  repeat (refine need_i (by omega) ?_; refine stp ?_)
  cases h
  exact (le_nz_t (by omega)).2 trivial
def mc372 : MCode :=
 (.seq (.reg [⟨some 3, .mv (.const (.slice none 0 0)), none⟩]) (.seq (.seq (.reg [⟨some 4, .mv (.tmp 0), none⟩, ⟨some 5, .bin .geq (.tmp 4) (.const (.int .i64 0)), none⟩]) (.cond (.tmp 5) (.seq (.reg [⟨some 3, .mv (.const (.slice none 0 0)), none⟩]) .ret) .skip)) (.seq (.reg [⟨some 6, .load 1 true (.tmp 1), none⟩, ⟨some 7, .mv (.tmp 0), none⟩, ⟨some 8, .bin .sub (.const (.int .i64 (-1))) (.tmp 7), none⟩, ⟨some 9, .callf 295 [.tmp 6, .tmp 8], none⟩, ⟨some 3, .mv (.tmp 9), none⟩]) .ret)))
theorem fn372 : MFn Tryz.prog 372 mc372 10 [.tmp 3] :=
  ⟨Tryz.f372, Tryz.func372, by kernel_rfl, Tryz.ntmps372, by kernel_rfl⟩
def F_impl_Subst_lookup_1 (n : Int) (o0 : (List Ls)) : Option Ls :=
 if (decide (0 ≤ n)) = true then
  some []
 else
  (F_impl_Subst_byVar o0 (IntKind.i64.wrap ((-1) - n))).bind fun r =>
  some r
theorem c_impl_Subst_lookup_1 {n : Int} {o0 : (List Ls)} {rr : Ls} (h : F_impl_Subst_lookup_1 n o0 = some rr) : ACalls Tryz.prog 372 [.d (iD n), .ptr 0 0] [(0, .obj 48 [.d (slD 1 (slD 1 iD) o0)])] 1 fun xx ss => xx = .d (nzD 1 iD rr) ∧ ss = [(0, .obj 48 [.d (slD 1 (slD 1 iD) o0)])] := by
  delta F_impl_Subst_lookup_1 at h
  refine fn372.callsO (vcm_sound ?_)
  delta mc372
  refine stp ?_
  rcases ite_some h with ⟨hc, h⟩ | ⟨hc, h⟩
  · refine stpc hc ?_
    cases h
    exact ⟨[], by simp, don, don⟩
  refine stpc hc ?_
  obtain ⟨r, hr, h⟩ := bind_some h
  refine cR (c_impl_Subst_byVar hr) (stp ?_)
  cases h
  exact ⟨[], by simp, don, don⟩
def mc196 : MCode :=
 (.seq (.reg [⟨some 2, .box 2 48 (.tmp 0), none⟩, ⟨some 4, .mv (.const (.slice none 0 0)), none⟩, ⟨some 5, .mv (.const (.bool false)), none⟩]) (.seq (.reg [⟨some 11, .load 1 true (.tmp 2), none⟩, ⟨some 12, .callf 294 [.tmp 11], none⟩, ⟨some 6, .mv (.tmp 12), none⟩]) (.seq (.reg [⟨some 13, .mv (.tmp 1), none⟩, ⟨some 14, .len (.tmp 13), none⟩, ⟨some 15, .mksl 15 2 1 8 [.lit (.int .i64 0)] true (.const (.int .i64 0)) (.tmp 14), none⟩, ⟨some 7, .mv (.tmp 15), none⟩]) (.seq (.seq (.reg [⟨some 16, .mv (.tmp 1), none⟩, ⟨some 17, .len (.tmp 16), none⟩, ⟨some 18, .mv (.const (.int .i64 0)), none⟩]) (.block 0 (.loop (.seq (.reg [⟨some 19, .bin .lss (.tmp 18) (.tmp 17), none⟩]) (.seq (.cond (.tmp 19) .skip (.exit 0)) (.seq (.block 1 (.seq (.reg [⟨some 20, .ixa 1 (.tmp 16) (.tmp 18), none⟩, ⟨some 21, .load 1 false (.tmp 20), none⟩, ⟨some 9, .mv (.tmp 21), none⟩]) (.seq (.seq (.reg [⟨some 22, .mv (.tmp 6), none⟩, ⟨some 23, .mv (.tmp 9), none⟩, ⟨some 24, .callv (.tmp 22) [.tmp 23], none⟩, ⟨some 10, .mv (.tmp 24), none⟩]) (.seq (.reg [⟨some 25, .mv (.tmp 10), none⟩, ⟨some 26, .eqnil false (.tmp 25), none⟩]) (.cond (.tmp 26) (.reg [⟨some 27, .mv (.tmp 7), none⟩, ⟨some 28, .mv (.tmp 9), none⟩, ⟨some 29, .bsl 29 2 1 [.tmp 28], none⟩, ⟨some 30, .app 30 2 1 8 (.tmp 27) (.tmp 29), none⟩, ⟨some 7, .mv (.tmp 30), none⟩]) (.reg [⟨some 31, .mv (.tmp 7), none⟩, ⟨some 32, .mv (.tmp 10), none⟩, ⟨some 33, .app 33 2 1 8 (.tmp 31) (.tmp 32), none⟩, ⟨some 7, .mv (.tmp 33), none⟩])))) (.seq (.reg [⟨some 34, .mv (.tmp 7), none⟩, ⟨some 35, .len (.tmp 34), none⟩, ⟨some 36, .bin .gtr (.tmp 35) (.const (.int .i64 60)), none⟩]) (.cond (.tmp 36) (.seq (.reg [⟨some 4, .mv (.const (.slice none 0 0)), none⟩, ⟨some 5, .mv (.const (.bool false)), none⟩]) .ret) .skip))))) (.reg [⟨some 37, .bin .add (.tmp 18) (.const (.int .i64 1)), none⟩, ⟨some 18, .mv (.tmp 37), none⟩]))))))) (.seq (.reg [⟨some 38, .mv (.tmp 7), none⟩, ⟨some 4, .mv (.tmp 38), none⟩, ⟨some 5, .mv (.const (.bool true)), none⟩]) .ret)))))
theorem fn196 : MFn Tryz.prog 196 mc196 39 [.tmp 4, .tmp 5] :=
  ⟨Tryz.f196, Tryz.func196, by kernel_rfl, Tryz.ntmps196, by kernel_rfl⟩
def F_impl_fill_l1 (t : Ls) (r : (List Ls)) : (Ls × Int) → Option ((Ls × Int) ⊕ (Ls × Bool))
 | (out, v18) =>
  if (decide (v18 < (t.length : Int))) = true then
   if 0 ≤ v18 ∧ v18 < (t.length : Int) then
    (F_impl_Subst_lookup_1 (t.getD v18.toNat default) r).bind fun r_1 =>
    if r_1.isEmpty = true then
     if (out.length + 1) * 8 ≤ 140737488355328 then
      if (decide (60 < ((out ++ [(t.getD v18.toNat default)]).length : Int))) = true then
       Option.map Sum.inr (
        some ([], false))
      else
       some (.inl ((out ++ [(t.getD v18.toNat default)]), (IntKind.i64.wrap (v18 + 1))))
     else none
    else
     if (out.length + r_1.length) * 8 ≤ 140737488355328 then
      if (decide (60 < ((out ++ r_1).length : Int))) = true then
       Option.map Sum.inr (
        some ([], false))
      else
       some (.inl ((out ++ r_1), (IntKind.i64.wrap (v18 + 1))))
     else none
   else none
  else
   Option.map Sum.inr (
    some (out, true))
def F_impl_fill (s : (List Ls)) (t : Ls) : Option (Ls × Bool) :=
 (F_impl_Subst_lookup s).bind fun r =>
 if 0 ≤ (t.length : Int) ∧ 8 * (t.length : Int) ≤ 281474976710656 then
  loopC (F_impl_fill_l1 t r) ([], 0)
 else none
theorem c_impl_fill {s : (List Ls)} {t : Ls} {rr : (Ls × Bool)} (h : F_impl_fill s t = some rr) : PFunN Tryz.prog 196 [D_impl_Subst s, (slD 1 iD) t] [(slD 1 iD) rr.1, bD rr.2] := by
  delta F_impl_fill at h
  refine fn196.pureLN (vcm_sound ?_)
  delta mc196
  refine stp ?_
  obtain ⟨r, hr, h⟩ := bind_some h
  refine cRo [] [(1, 12)] (c_impl_Subst_lookup hr) (stp ?_)
  obtain ⟨hp, h⟩ := need_some h
  repeat (refine need_i (by omega) ?_; refine stp ?_)
  refine m_loopF h [4, 5, 7, 9, 10, 18, 19, 20, 21, 22, 23, 24, 25, 26, 27, 28, 29, 30, 31, 32, 33, 34, 35, 36, 37] (fun pp => [(7, .own 1 15 (List.map iD pp.1)), (18, .d (iD pp.2))]) (fun pp => [(2, .obj 48 [.d (slD 1 (slD 1 iD) s)]), (12, .obj 48 [.d (slD 1 (slD 1 iD) r)]), (15, .tok 2 1 pp.1.length)]) ?_ ?_
  · try dsimp only
    exact wk
  rintro ⟨out, v18⟩ t1 h hb1
  unfold F_impl_fill_l1 at h
  try dsimp only at h
  refine vcm_sound (stp ?_)
  rcases ite_some h with ⟨hc, h⟩ | ⟨hc, h⟩
  · refine stpc hc ?_
    obtain ⟨hp, h⟩ := need_some h
    repeat (refine need_i (by omega) ?_; refine stp ?_)
    refine need_i (by kernel_rfl) ?_
    obtain ⟨r_1, hr_1, h⟩ := bind_some h
    refine cRo [(0, 12)] [] (c_impl_Subst_lookup_1 hr_1) (stp ?_)
    rcases ite_some h with ⟨hc, h⟩ | ⟨hc, h⟩
    · refine stpc hc ?_
      obtain ⟨hp, h⟩ := need_some h
      repeat (refine need_i (by omega) ?_; refine stp ?_)
      rcases ite_some h with ⟨hc, h⟩ | ⟨hc, h⟩
      · try simp only [List.length_append, List.length_cons, List.length_nil, List.length_map, Nat.reduceAdd] at hc
        refine stpc hc ?_
        replace h := inr_some h hb1
        cases h
        exact don
      try simp only [List.length_append, List.length_cons, List.length_nil, List.length_map, Nat.reduceAdd] at hc
      refine stpc hc ?_
      cases h
      refine ⟨_, rfl, ?_⟩
      refine (Weak.drop 29 (by omega)).trans ?_
      exact wk
    refine stpc hc ?_
    obtain ⟨hp, h⟩ := need_some h
    repeat (refine need_i (by omega) ?_; refine stp ?_)
    rcases ite_some h with ⟨hc, h⟩ | ⟨hc, h⟩
    · try simp only [List.length_append, List.length_cons, List.length_nil, List.length_map, Nat.reduceAdd] at hc
      refine stpc hc ?_
      replace h := inr_some h hb1
      cases h
      exact don
    try simp only [List.length_append, List.length_cons, List.length_nil, List.length_map, Nat.reduceAdd] at hc
    refine stpc hc ?_
    cases h
    refine ⟨_, rfl, ?_⟩
    exact wk
  refine stpc hc ?_
  replace h := inr_some h hb1
  cases h
  exact don
def mc186 : MCode :=
 (.seq (.reg [⟨some 2, .box 2 48 (.tmp 0), none⟩, ⟨some 4, .mv (.const (.slice none 0 0)), none⟩, ⟨some 5, .mv (.const (.bool false)), none⟩]) (.seq (.reg [⟨some 8, .bsl 8 2 1 [], none⟩, ⟨some 6, .mv (.tmp 8), none⟩]) (.seq (.seq (.reg [⟨some 7, .mv (.const (.int .i64 0)), none⟩]) (.block 0 (.loop (.seq (.seq (.reg [⟨some 9, .mv (.tmp 7), none⟩, ⟨some 10, .mv (.tmp 1), none⟩, ⟨some 11, .len (.tmp 10), none⟩, ⟨some 12, .bin .lss (.tmp 9) (.tmp 11), none⟩]) (.cond (.tmp 12) .skip (.exit 0))) (.seq (.block 1 (.seq (.seq (.reg [⟨some 15, .mv (.tmp 1), none⟩, ⟨some 16, .mv (.tmp 7), none⟩, ⟨some 17, .ixa 1 (.tmp 15) (.tmp 16), none⟩, ⟨some 18, .load 1 false (.tmp 17), none⟩, ⟨some 19, .bin .lss (.tmp 18) (.const (.int .i64 0)), none⟩]) (.cond (.tmp 19) (.draw [⟨some 20, .mv (.tmp 6), none⟩, ⟨some 21, .load 1 true (.tmp 2), none⟩, ⟨some 22, .mv (.tmp 1), none⟩, ⟨some 23, .mv (.tmp 7), none⟩, ⟨some 24, .ixa 1 (.tmp 22) (.tmp 23), none⟩, ⟨some 25, .load 1 false (.tmp 24), none⟩, ⟨some 26, .bin .sub (.const (.int .i64 (-1))) (.tmp 25), none⟩, ⟨some 27, .callf 292 [.tmp 21, .tmp 26], none⟩, ⟨some 28, .app 28 2 1 8 (.tmp 20) (.tmp 27), none⟩, ⟨some 6, .mv (.tmp 28), none⟩] [[], [], [], [], [2, 3], [4], [5], [1, 6], [0, 7, 7], [8, 8, 0, 1, 2, 3, 4, 5, 6, 7, 8]]) (.reg [⟨some 29, .mv (.tmp 6), none⟩, ⟨some 30, .mv (.tmp 1), none⟩, ⟨some 31, .mv (.tmp 7), none⟩, ⟨some 32, .ixa 1 (.tmp 30) (.tmp 31), none⟩, ⟨some 33, .load 1 false (.tmp 32), none⟩, ⟨some 34, .bsl 34 2 1 [.tmp 33], none⟩, ⟨some 35, .app 35 2 1 8 (.tmp 29) (.tmp 34), none⟩, ⟨some 6, .mv (.tmp 35), none⟩]))) (.seq (.reg [⟨some 36, .mv (.tmp 6), none⟩, ⟨some 37, .len (.tmp 36), none⟩, ⟨some 38, .bin .gtr (.tmp 37) (.const (.int .i64 60)), none⟩]) (.cond (.tmp 38) (.seq (.reg [⟨some 39, .bsl 39 2 1 [], none⟩, ⟨some 4, .mv (.tmp 39), none⟩, ⟨some 5, .mv (.const (.bool false)), none⟩]) .ret) .skip)))) (.reg [⟨some 13, .mv (.tmp 7), none⟩, ⟨some 14, .bin .add (.tmp 13) (.const (.int .i64 1)), none⟩, ⟨some 7, .mv (.tmp 14), none⟩])))))) (.seq (.reg [⟨some 40, .mv (.tmp 6), none⟩, ⟨some 4, .mv (.tmp 40), none⟩, ⟨some 5, .mv (.const (.bool true)), none⟩]) .ret))))
theorem fn186 : MFn Tryz.prog 186 mc186 41 [.tmp 4, .tmp 5] :=
  ⟨Tryz.f186, Tryz.func186, by kernel_rfl, Tryz.ntmps186, by kernel_rfl⟩
def F_spec_l2Filled_l1 (s : (List Ls)) (t : Ls) : (Ls × Int) → Option ((Ls × Int) ⊕ (Ls × Bool))
 | (out, i) =>
  if (decide (i < (t.length : Int))) = true then
   if 0 ≤ i ∧ i < (t.length : Int) then
    if (decide ((t.getD i.toNat default) < 0)) = true then
     if 0 ≤ i ∧ i < (t.length : Int) then
      (F_spec_l2Gives s (IntKind.i64.wrap ((-1) - (t.getD i.toNat default)))).bind fun r =>
      if (out.length + r.length) * 8 ≤ 140737488355328 then
       if (decide (60 < ((out ++ r).length : Int))) = true then
        Option.map Sum.inr (
         some ([], false))
       else
        some (.inl ((out ++ r), (IntKind.i64.wrap (i + 1))))
      else none
     else none
    else
     if 0 ≤ i ∧ i < (t.length : Int) then
      if (out.length + 1) * 8 ≤ 140737488355328 then
       if (decide (60 < ((out ++ [(t.getD i.toNat default)]).length : Int))) = true then
        Option.map Sum.inr (
         some ([], false))
       else
        some (.inl ((out ++ [(t.getD i.toNat default)]), (IntKind.i64.wrap (i + 1))))
      else none
     else none
   else none
  else
   Option.map Sum.inr (
    some (out, true))
def F_spec_l2Filled (s : (List Ls)) (t : Ls) : Option (Ls × Bool) :=
 loopC (F_spec_l2Filled_l1 s t) ([], 0)
theorem c_spec_l2Filled {s : (List Ls)} {t : Ls} {rr : (Ls × Bool)} (h : F_spec_l2Filled s t = some rr) : PFunN Tryz.prog 186 [D_impl_Subst s, (slD 1 iD) t] [(slD 1 iD) rr.1, bD rr.2] := by
  delta F_spec_l2Filled at h
  refine fn186.pureLN (vcm_sound ?_)
  delta mc186
  refine stp ?_
  refine m_loopF h [4, 5, 6, 7, 9, 10, 11, 12, 13, 14, 15, 16, 17, 18, 19, 20, 21, 22, 23, 24, 25, 26, 27, 28, 29, 30, 31, 32, 33, 34, 35, 36, 37, 38, 39] (fun pp => [(6, .own 1 8 (List.map iD pp.1)), (7, .d (iD pp.2))]) (fun pp => [(2, .obj 48 [.d (slD 1 (slD 1 iD) s)]), (8, .tok 2 1 pp.1.length)]) ?_ ?_
  · try dsimp only
    exact wk
  rintro ⟨out, i⟩ t1 h hb1
  unfold F_spec_l2Filled_l1 at h
  try dsimp only at h
  refine vcm_sound (stp ?_)
  rcases ite_some h with ⟨hc, h⟩ | ⟨hc, h⟩
  · refine stpc hc ?_
    obtain ⟨hp, h⟩ := need_some h
    repeat (refine need_i (by omega) ?_; refine stp ?_)
    rcases ite_some h with ⟨hc, h⟩ | ⟨hc, h⟩
    · refine stpc hc ?_
      obtain ⟨hp, h⟩ := need_some h
      repeat (refine need_i (by omega) ?_; refine stp ?_)
      obtain ⟨r, hr, h⟩ := bind_some h
      refine cD' (c_spec_l2Gives hr) (stp ?_)
      obtain ⟨hp, h⟩ := need_some h
      repeat (refine need_i (by omega) ?_; refine stp ?_)
      refine drQ_of (by kernel_rfl) ?_
      refine stp ?_
      rcases ite_some h with ⟨hc, h⟩ | ⟨hc, h⟩
      · try simp only [List.length_append, List.length_cons, List.length_nil, List.length_map, Nat.reduceAdd] at hc
        refine stpc hc ?_
        replace h := inr_some h hb1
        cases h
        exact don
      try simp only [List.length_append, List.length_cons, List.length_nil, List.length_map, Nat.reduceAdd] at hc
      refine stpc hc ?_
      cases h
      refine ⟨_, rfl, ?_⟩
      exact wk
    refine stpc hc ?_
    obtain ⟨hp, h⟩ := need_some h
    repeat (refine need_i (by omega) ?_; refine stp ?_)
    obtain ⟨hp, h⟩ := need_some h
    repeat (refine need_i (by omega) ?_; refine stp ?_)
    rcases ite_some h with ⟨hc, h⟩ | ⟨hc, h⟩
    · try simp only [List.length_append, List.length_cons, List.length_nil, List.length_map, Nat.reduceAdd] at hc
      refine stpc hc ?_
      replace h := inr_some h hb1
      cases h
      exact don
    try simp only [List.length_append, List.length_cons, List.length_nil, List.length_map, Nat.reduceAdd] at hc
    refine stpc hc ?_
    cases h
    refine ⟨_, rfl, ?_⟩
    refine (Weak.drop 34 (by omega)).trans ?_
    exact wk
  refine stpc hc ?_
  replace h := inr_some h hb1
  cases h
  exact don
end
end Go.Proofs.YtcaljngigbfadaaGreat
