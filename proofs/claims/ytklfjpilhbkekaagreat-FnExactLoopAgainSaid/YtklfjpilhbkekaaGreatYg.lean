/- The law FnExactLoopAgain of the program and the equation that it computes: copies, marks, what is lent; nothing is assumed. -/
import Derived.Test.YtklfjpilhbkekaaGreatYf
import Derived.Test.YtklfjpilhbkekaaGreatYd
import Derived.Test.YtklfjpilhbkekaaGreatYe
set_option linter.unusedSimpArgs false
set_option linter.unusedVariables false
set_option linter.unusedSectionVars false
set_option linter.unnecessarySimpa false
namespace Go.Proofs.YtklfjpilhbkekaaGreat
open Go Abx
attribute [local irreducible] vcm vgo vdr vrun vdrun MWp GhostQ BrC BrO BrG BrD BrH AmbO callR callD drQ EnvLe StoLe
set_option maxHeartbeats 4000000
def D_laws_Step (x : (Int × Int × (List Int))) : D := .agg [iD x.1, iD x.2.1, (slD 1 iD) x.2.2]
def D_laws_Walk (x : ((List Int) × (List (Int × Int × (List Int))))) : D := .agg [(slD 1 iD) x.1, (slD 3 D_laws_Step) x.2]
def D_laws_Subst (x : (List (List Int))) : D := .agg [(slD 1 (slD 1 iD)) x]
def D_laws_Loop (x : ((List Int) × (List (Int × Int × (List Int))) × Int × (List (List Int)))) : D := .agg [(slD 1 iD) x.1, (slD 3 D_laws_Step) x.2.1, iD x.2.2.1, (slD 1 (slD 1 iD)) x.2.2.2]
instance : Cel D_laws_Step 3 := ⟨fun _ => rfl⟩
instance : Cel D_laws_Walk 2 := ⟨fun _ => rfl⟩
instance : Cel D_laws_Subst 1 := ⟨fun _ => rfl⟩
instance : Cel D_laws_Loop 4 := ⟨fun _ => rfl⟩
attribute [go_sem] D_laws_Step D_laws_Walk D_laws_Subst D_laws_Loop
def mc185 : MCode :=
 (.seq (.reg (sq 2 [bo 2 234 0] ++ sq 4 [mi 0])) (.seq (.reg (sq 5 [fa 2 2, ld 5, mv 1, cf 105 [6, 7]] ++ sq 1 [mv 8])) (.seq (.seq (.reg (sq 9 [mv 1, bi .lss 9 0])) (.cond (t0 10) (.seq (.reg (sq 4 [mi (-1)])) .ret) .skip)) (.seq (.reg (sq 11 [mv 1] ++ sq 4 [mv 11])) .ret))))
theorem fn185 : MFn Tryz.prog 185 mc185 12 [.tmp 4] := ⟨_, Tryz.func185, by kernel_rfl, Tryz.ntmps185, by kernel_rfl⟩
noncomputable def F_laws_szStep (a : (Int × Int × (List Int))) (left : Int) : Option Int :=
 (F_laws_szInt64S a.2.2 left).bind fun r =>
 if (decide (r < 0)) = true then
  some (-1)
 else
  some r
instance c_laws_szStep {a : (Int × Int × (List Int))} {left : Int} : HasC (F_laws_szStep a left) fun rr => PFun Tryz.prog 185 [D_laws_Step a, iD left] (iD rr) := ⟨@fun rr h => by
  delta F_laws_szStep at h
  refine fn185.pureL (vcm_sound ?_)
  delta mc185
  refine stp ?_
  exact aut⟩
def mc107 : MCode :=
 (.seq (.reg (sq 4 [mi 0])) (.seq (.reg (sq 6 [mv 1, mv 0, ln 7, bn .sub 6 8] ++ sq 1 [mv 9])) (.seq (.seq (.reg (sq 10 [mv 1, bi .lss 10 0])) (.cond (t0 11) (.seq (.reg (sq 4 [mi (-1)])) .ret) .skip)) (.seq (.seq (.reg (sq 5 [mi 0])) (.block 0 (.loop (.seq (.seq (.reg (sq 12 [mv 5, mv 0, ln 13, bn .lss 12 14])) (.cond (t0 15) .skip (.exit 0))) (.seq (.block 1 (.seq (.reg (sq 18 [mv 0, mv 5, ix 3 18 19, la 3 20, mv 1, cf 185 [21, 22]] ++ sq 1 [mv 23])) (.seq (.reg (sq 24 [mv 1, bi .lss 24 0])) (.cond (t0 25) (.seq (.reg (sq 4 [mi (-1)])) .ret) .skip)))) (.reg (sq 16 [mv 5, bi .add 16 1] ++ sq 5 [mv 17]))))))) (.seq (.reg (sq 26 [mv 1] ++ sq 4 [mv 26])) .ret)))))
theorem fn107 : MFn Tryz.prog 107 mc107 27 [.tmp 4] := ⟨_, Tryz.func107, by kernel_rfl, Tryz.ntmps107, by kernel_rfl⟩
noncomputable def F_laws_szStepS_l1 (a : (List (Int × Int × (List Int)))) : (Int × Int) → Option ((Int × Int) ⊕ Int)
 | (left_1, i) =>
  if (decide (i < (a.length : Int))) = true then
   if 0 ≤ i ∧ i < (a.length : Int) then
    (F_laws_szStep ((a.getD i.toNat default).1, (a.getD i.toNat default).2.1, (a.getD i.toNat default).2.2) left_1).bind fun r =>
    if (decide (r < 0)) = true then
     Option.map Sum.inr (
      some (-1))
    else
     some (.inl (r, (IntKind.i64.wrap (i + 1))))
   else none
  else
   Option.map Sum.inr (
    some left_1)
noncomputable def F_laws_szStepS (a : (List (Int × Int × (List Int)))) (left : Int) : Option Int :=
 if (decide ((IntKind.i64.wrap (left - (a.length : Int))) < 0)) = true then
  some (-1)
 else
  loopC (F_laws_szStepS_l1 a) ((IntKind.i64.wrap (left - (a.length : Int))), 0)
instance c_laws_szStepS {a : (List (Int × Int × (List Int)))} {left : Int} : HasC (F_laws_szStepS a left) fun rr => PFun Tryz.prog 107 [(slD 3 D_laws_Step) a, iD left] (iD rr) := ⟨@fun rr h => by
  delta F_laws_szStepS at h
  refine fn107.pureL (vcm_sound ?_)
  delta mc107
  refine stp ?_
  refine iF h fun hc h => ?_
  refine m_lW h [1, 4, 5, 12, 13, 14, 15, 16, 17, 18, 19, 20, 21, 22, 23, 24, 25] (fun pp => [(1, .d (iD pp.1)), (5, .d (iD pp.2))]) (fun pp => []) ?_
  rintro ⟨left_1, i⟩ t1 h hb1
  unfold F_laws_szStepS_l1 at h
  try dsimp only at h
  refine vcm_sound (stp ?_)
  exact aut⟩
def mc46 : MCode :=
 (.seq (.reg (sq 2 [bo 2 30 0] ++ sq 4 [mi 0])) (.seq (.reg (sq 5 [fa 0 2, ld 5, mv 1, cf 105 [6, 7]] ++ sq 1 [mv 8])) (.seq (.seq (.reg (sq 9 [mv 1, bi .lss 9 0])) (.cond (t0 10) (.seq (.reg (sq 4 [mi (-1)])) .ret) .skip)) (.seq (.reg (sq 11 [fa 1 2, ld 11, mv 1, cf 107 [12, 13]] ++ sq 1 [mv 14])) (.seq (.seq (.reg (sq 15 [mv 1, bi .lss 15 0])) (.cond (t0 16) (.seq (.reg (sq 4 [mi (-1)])) .ret) .skip)) (.seq (.reg (sq 17 [mv 1] ++ sq 4 [mv 17])) .ret))))))
theorem fn46 : MFn Tryz.prog 46 mc46 18 [.tmp 4] := ⟨_, Tryz.func46, by kernel_rfl, Tryz.ntmps46, by kernel_rfl⟩
noncomputable def F_laws_szWalk (a : ((List Int) × (List (Int × Int × (List Int))))) (left : Int) : Option Int :=
 (F_laws_szInt64S a.1 left).bind fun r =>
 if (decide (r < 0)) = true then
  some (-1)
 else
  (F_laws_szStepS a.2 r).bind fun r_1 =>
  if (decide (r_1 < 0)) = true then
   some (-1)
  else
   some r_1
instance c_laws_szWalk {a : ((List Int) × (List (Int × Int × (List Int))))} {left : Int} : HasC (F_laws_szWalk a left) fun rr => PFun Tryz.prog 46 [D_laws_Walk a, iD left] (iD rr) := ⟨@fun rr h => by
  delta F_laws_szWalk at h
  refine fn46.pureL (vcm_sound ?_)
  delta mc46
  refine stp ?_
  exact aut⟩
def mc108 : MCode :=
 (.seq (.reg (sq 4 [mi 0])) (.seq (.reg (sq 6 [mv 1, mv 0, ln 7, bn .sub 6 8] ++ sq 1 [mv 9])) (.seq (.seq (.reg (sq 10 [mv 1, bi .lss 10 0])) (.cond (t0 11) (.seq (.reg (sq 4 [mi (-1)])) .ret) .skip)) (.seq (.seq (.reg (sq 5 [mi 0])) (.block 0 (.loop (.seq (.seq (.reg (sq 12 [mv 5, mv 0, ln 13, bn .lss 12 14])) (.cond (t0 15) .skip (.exit 0))) (.seq (.block 1 (.seq (.reg (sq 18 [mv 0, mv 5, ix 1 18 19, ld 20, mv 1, cf 105 [21, 22]] ++ sq 1 [mv 23])) (.seq (.reg (sq 24 [mv 1, bi .lss 24 0])) (.cond (t0 25) (.seq (.reg (sq 4 [mi (-1)])) .ret) .skip)))) (.reg (sq 16 [mv 5, bi .add 16 1] ++ sq 5 [mv 17]))))))) (.seq (.reg (sq 26 [mv 1] ++ sq 4 [mv 26])) .ret)))))
theorem fn108 : MFn Tryz.prog 108 mc108 27 [.tmp 4] := ⟨_, Tryz.func108, by kernel_rfl, Tryz.ntmps108, by kernel_rfl⟩
noncomputable def F_laws_szInt64SS_l1 (a : (List (List Int))) : (Int × Int) → Option ((Int × Int) ⊕ Int)
 | (left_1, i) =>
  if (decide (i < (a.length : Int))) = true then
   if 0 ≤ i ∧ i < (a.length : Int) then
    (F_laws_szInt64S (a.getD i.toNat default) left_1).bind fun r =>
    if (decide (r < 0)) = true then
     Option.map Sum.inr (
      some (-1))
    else
     some (.inl (r, (IntKind.i64.wrap (i + 1))))
   else none
  else
   Option.map Sum.inr (
    some left_1)
noncomputable def F_laws_szInt64SS (a : (List (List Int))) (left : Int) : Option Int :=
 if (decide ((IntKind.i64.wrap (left - (a.length : Int))) < 0)) = true then
  some (-1)
 else
  loopC (F_laws_szInt64SS_l1 a) ((IntKind.i64.wrap (left - (a.length : Int))), 0)
instance c_laws_szInt64SS {a : (List (List Int))} {left : Int} : HasC (F_laws_szInt64SS a left) fun rr => PFun Tryz.prog 108 [(slD 1 (slD 1 iD)) a, iD left] (iD rr) := ⟨@fun rr h => by
  delta F_laws_szInt64SS at h
  refine fn108.pureL (vcm_sound ?_)
  delta mc108
  refine stp ?_
  refine iF h fun hc h => ?_
  refine m_lW h [1, 4, 5, 12, 13, 14, 15, 16, 17, 18, 19, 20, 21, 22, 23, 24, 25] (fun pp => [(1, .d (iD pp.1)), (5, .d (iD pp.2))]) (fun pp => []) ?_
  rintro ⟨left_1, i⟩ t1 h hb1
  unfold F_laws_szInt64SS_l1 at h
  try dsimp only at h
  refine vcm_sound (stp ?_)
  exact aut⟩
def mc47 : MCode :=
 (.seq (.reg (sq 2 [bo 2 33 0] ++ sq 4 [mi 0])) (.seq (.reg (sq 5 [fa 0 2, ld 5, mv 1, cf 108 [6, 7]] ++ sq 1 [mv 8])) (.seq (.seq (.reg (sq 9 [mv 1, bi .lss 9 0])) (.cond (t0 10) (.seq (.reg (sq 4 [mi (-1)])) .ret) .skip)) (.seq (.reg (sq 11 [mv 1] ++ sq 4 [mv 11])) .ret))))
theorem fn47 : MFn Tryz.prog 47 mc47 12 [.tmp 4] := ⟨_, Tryz.func47, by kernel_rfl, Tryz.ntmps47, by kernel_rfl⟩
noncomputable def F_laws_szSubst (a : (List (List Int))) (left : Int) : Option Int :=
 (F_laws_szInt64SS a left).bind fun r =>
 if (decide (r < 0)) = true then
  some (-1)
 else
  some r
instance c_laws_szSubst {a : (List (List Int))} {left : Int} : HasC (F_laws_szSubst a left) fun rr => PFun Tryz.prog 47 [D_laws_Subst a, iD left] (iD rr) := ⟨@fun rr h => by
  delta F_laws_szSubst at h
  refine fn47.pureL (vcm_sound ?_)
  delta mc47
  refine stp ?_
  exact aut⟩
def mc8 : MCode :=
 (.seq (.reg (sq 2 [bo 2 35 0] ++ sq 4 [mi 0])) (.seq (.reg (sq 5 [fa 0 2, la 2 5, mv 1, cf 46 [6, 7]] ++ sq 1 [mv 8])) (.seq (.seq (.reg (sq 9 [mv 1, bi .lss 9 0])) (.cond (t0 10) (.seq (.reg (sq 4 [mi (-1)])) .ret) .skip)) (.seq (.reg (sq 11 [fa 3 2, la 1 11, mv 1, cf 47 [12, 13]] ++ sq 1 [mv 14])) (.seq (.seq (.reg (sq 15 [mv 1, bi .lss 15 0])) (.cond (t0 16) (.seq (.reg (sq 4 [mi (-1)])) .ret) .skip)) (.seq (.reg (sq 17 [mv 1] ++ sq 4 [mv 17])) .ret))))))
theorem fn8 : MFn Tryz.prog 8 mc8 18 [.tmp 4] := ⟨_, Tryz.func8, by kernel_rfl, Tryz.ntmps8, by kernel_rfl⟩
noncomputable def F_laws_szLoop (a : ((List Int) × (List (Int × Int × (List Int))) × Int × (List (List Int)))) (left : Int) : Option Int :=
 (F_laws_szWalk (a.1, a.2.1) left).bind fun r =>
 if (decide (r < 0)) = true then
  some (-1)
 else
  (F_laws_szSubst a.2.2.2 r).bind fun r_1 =>
  if (decide (r_1 < 0)) = true then
   some (-1)
  else
   some r_1
instance c_laws_szLoop {a : ((List Int) × (List (Int × Int × (List Int))) × Int × (List (List Int)))} {left : Int} : HasC (F_laws_szLoop a left) fun rr => PFun Tryz.prog 8 [D_laws_Loop a, iD left] (iD rr) := ⟨@fun rr h => by
  delta F_laws_szLoop at h
  refine fn8.pureL (vcm_sound ?_)
  delta mc8
  refine stp ?_
  exact aut⟩
def mc129 : MCode :=
 (.seq (.reg (sq 2 [bo 2 151 0, bo 3 151 1, mb false])) (.seq (.seq (.reg (sq 5 [fa 0 2, ld 5, fa 0 3, ld 7, bn .neq 6 8])) (.cond (t0 9) (.seq (.reg (sq 4 [mb false])) .ret) .skip)) (.seq (.seq (.reg (sq 10 [fa 1 2, ld 10, fa 1 3, ld 12, bn .neq 11 13])) (.cond (t0 14) (.seq (.reg (sq 4 [mb false])) .ret) .skip)) (.seq (.seq (.reg (sq 15 [fa 2 2, ld 15, fa 2 3, ld 17, cf 24 [16, 18], nt 19])) (.cond (t0 20) (.seq (.reg (sq 4 [mb false])) .ret) .skip)) (.seq (.reg (sq 4 [mb true])) .ret)))))
theorem fn129 : MFn Tryz.prog 129 mc129 21 [.tmp 4] := ⟨_, Tryz.func129, by kernel_rfl, Tryz.ntmps129, by kernel_rfl⟩
noncomputable def F_laws_eqStep (a : (Int × Int × (List Int))) (b : (Int × Int × (List Int))) : Option Bool :=
 if (a.1 != b.1) = true then
  some false
 else
  if (a.2.1 != b.2.1) = true then
   some false
  else
   (F_laws_eqInt64S a.2.2 b.2.2).bind fun r =>
   if r = true then
    some true
   else
    some false
instance c_laws_eqStep {a : (Int × Int × (List Int))} {b : (Int × Int × (List Int))} : HasC (F_laws_eqStep a b) fun rr => PFun Tryz.prog 129 [D_impl_Step a, D_impl_Step b] (bD rr) := ⟨@fun rr h => by
  delta F_laws_eqStep at h
  refine fn129.pureL (vcm_sound ?_)
  delta mc129
  refine stp ?_
  exact aut⟩
def mc63 : MCode :=
 (.seq (.reg (sq 4 [mb false])) (.seq (.seq (.reg (sq 6 [mv 0, ln 6, mv 1, ln 8, bn .neq 7 9])) (.cond (t0 10) (.seq (.reg (sq 4 [mb false])) .ret) .skip)) (.seq (.seq (.reg (sq 5 [mi 0])) (.block 0 (.loop (.seq (.seq (.reg (sq 11 [mv 5, mv 0, ln 12, bn .lss 11 13])) (.cond (t0 14) .skip (.exit 0))) (.seq (.block 1 (.seq (.draw (sq 17 [mv 0, mv 5, ix 3 17 18, la 3 19, mv 1, mv 5, ix 3 21 22, la 3 23, cf 129 [20, 24], nt 25]) [[], [], [0, 1], [2], [], [], [4, 5], [6], [3, 7], [8]]) (.cond (t0 26) (.seq (.reg (sq 4 [mb false])) .ret) .skip))) (.reg (sq 15 [mv 5, bi .add 15 1] ++ sq 5 [mv 16]))))))) (.seq (.reg (sq 4 [mb true])) .ret))))
theorem fn63 : MFn Tryz.prog 63 mc63 27 [.tmp 4] := ⟨_, Tryz.func63, by kernel_rfl, Tryz.ntmps63, by kernel_rfl⟩
noncomputable def F_laws_eqStepS_l1 (a : (List (Int × Int × (List Int)))) (b : (List (Int × Int × (List Int)))) : Int → Option (Int ⊕ Bool)
 | i =>
  if (decide (i < (a.length : Int))) = true then
   if 0 ≤ i ∧ i < (a.length : Int) then
    if 0 ≤ i ∧ i < (b.length : Int) then
     (F_laws_eqStep ((a.getD i.toNat default).1, (a.getD i.toNat default).2.1, (a.getD i.toNat default).2.2) ((b.getD i.toNat default).1, (b.getD i.toNat default).2.1, (b.getD i.toNat default).2.2)).bind fun r =>
     if r = true then
      some (.inl (IntKind.i64.wrap (i + 1)))
     else
      Option.map Sum.inr (
       some false)
    else none
   else none
  else
   Option.map Sum.inr (
    some true)
noncomputable def F_laws_eqStepS (a : (List (Int × Int × (List Int)))) (b : (List (Int × Int × (List Int)))) : Option Bool :=
 if ((a.length : Int) != (b.length : Int)) = true then
  some false
 else
  loopC (F_laws_eqStepS_l1 a b) 0
instance c_laws_eqStepS {a : (List (Int × Int × (List Int)))} {b : (List (Int × Int × (List Int)))} : HasC (F_laws_eqStepS a b) fun rr => PFun Tryz.prog 63 [(slD 3 D_impl_Step) a, (slD 3 D_impl_Step) b] (bD rr) := ⟨@fun rr h => by
  delta F_laws_eqStepS at h
  refine fn63.pureL (vcm_sound ?_)
  delta mc63
  refine stp ?_
  refine iF h fun hc h => ?_
  refine m_lW h [4, 5, 11, 12, 13, 14, 15, 16, 17, 18, 19, 20, 21, 22, 23, 24, 25, 26] (fun pp => [(5, .d (iD pp))]) (fun pp => []) ?_
  rintro i t1 h hb1
  unfold F_laws_eqStepS_l1 at h
  try dsimp only at h
  refine vcm_sound (stp ?_)
  exact aut⟩
def mc13 : MCode :=
 (.seq (.reg (sq 2 [bo 2 40 0, bo 3 40 1, mb false])) (.seq (.seq (.reg (sq 5 [fa 0 2, ld 5, fa 0 3, ld 7, cf 24 [6, 8], nt 9])) (.cond (t0 10) (.seq (.reg (sq 4 [mb false])) .ret) .skip)) (.seq (.seq (.reg (sq 11 [fa 1 2, ld 11, fa 1 3, ld 13, cf 63 [12, 14], nt 15])) (.cond (t0 16) (.seq (.reg (sq 4 [mb false])) .ret) .skip)) (.seq (.reg (sq 4 [mb true])) .ret))))
theorem fn13 : MFn Tryz.prog 13 mc13 17 [.tmp 4] := ⟨_, Tryz.func13, by kernel_rfl, Tryz.ntmps13, by kernel_rfl⟩
noncomputable def F_laws_eqWalk (a : ((List Int) × (List (Int × Int × (List Int))))) (b : ((List Int) × (List (Int × Int × (List Int))))) : Option Bool :=
 (F_laws_eqInt64S a.1 b.1).bind fun r =>
 if r = true then
  (F_laws_eqStepS a.2 b.2).bind fun r_1 =>
  if r_1 = true then
   some true
  else
   some false
 else
  some false
instance c_laws_eqWalk {a : ((List Int) × (List (Int × Int × (List Int))))} {b : ((List Int) × (List (Int × Int × (List Int))))} : HasC (F_laws_eqWalk a b) fun rr => PFun Tryz.prog 13 [D_impl_Walk a, D_impl_Walk b] (bD rr) := ⟨@fun rr h => by
  delta F_laws_eqWalk at h
  refine fn13.pureL (vcm_sound ?_)
  delta mc13
  refine stp ?_
  exact aut⟩
def mc66 : MCode :=
 (.seq (.reg (sq 2 [bo 2 48 0, bo 3 48 1, mb false])) (.seq (.seq (.reg (sq 5 [fa 0 2, ld 5, fa 0 3, ld 7, cf 131 [6, 8], nt 9])) (.cond (t0 10) (.seq (.reg (sq 4 [mb false])) .ret) .skip)) (.seq (.reg (sq 4 [mb true])) .ret)))
theorem fn66 : MFn Tryz.prog 66 mc66 11 [.tmp 4] := ⟨_, Tryz.func66, by kernel_rfl, Tryz.ntmps66, by kernel_rfl⟩
noncomputable def F_laws_eqSubst (a : (List (List Int))) (b : (List (List Int))) : Option Bool :=
 (F_laws_eqInt64SS a b).bind fun r =>
 if r = true then
  some true
 else
  some false
instance c_laws_eqSubst {a : (List (List Int))} {b : (List (List Int))} : HasC (F_laws_eqSubst a b) fun rr => PFun Tryz.prog 66 [D_impl_Subst a, D_impl_Subst b] (bD rr) := ⟨@fun rr h => by
  delta F_laws_eqSubst at h
  refine fn66.pureL (vcm_sound ?_)
  delta mc66
  refine stp ?_
  exact aut⟩
def mc15 : MCode :=
 (.seq (.reg (sq 2 [bo 2 50 0, bo 3 50 1, mb false])) (.seq (.seq (.reg (sq 5 [fa 0 2, la 2 5, fa 0 3, la 2 7, cf 13 [6, 8], nt 9])) (.cond (t0 10) (.seq (.reg (sq 4 [mb false])) .ret) .skip)) (.seq (.seq (.reg (sq 11 [fa 2 2, ld 11, fa 2 3, ld 13, bn .neq 12 14])) (.cond (t0 15) (.seq (.reg (sq 4 [mb false])) .ret) .skip)) (.seq (.seq (.reg (sq 16 [fa 3 2, la 1 16, fa 3 3, la 1 18, cf 66 [17, 19], nt 20])) (.cond (t0 21) (.seq (.reg (sq 4 [mb false])) .ret) .skip)) (.seq (.reg (sq 4 [mb true])) .ret)))))
theorem fn15 : MFn Tryz.prog 15 mc15 22 [.tmp 4] := ⟨_, Tryz.func15, by kernel_rfl, Tryz.ntmps15, by kernel_rfl⟩
noncomputable def F_laws_eqLoop (a : ((List Int) × (List (Int × Int × (List Int))) × Int × (List (List Int)))) (b : ((List Int) × (List (Int × Int × (List Int))) × Int × (List (List Int)))) : Option Bool :=
 (F_laws_eqWalk (a.1, a.2.1) (b.1, b.2.1)).bind fun r =>
 if r = true then
  if (a.2.2.1 != b.2.2.1) = true then
   some false
  else
   (F_laws_eqSubst a.2.2.2 b.2.2.2).bind fun r_1 =>
   if r_1 = true then
    some true
   else
    some false
 else
  some false
instance c_laws_eqLoop {a : ((List Int) × (List (Int × Int × (List Int))) × Int × (List (List Int)))} {b : ((List Int) × (List (Int × Int × (List Int))) × Int × (List (List Int)))} : HasC (F_laws_eqLoop a b) fun rr => PFun Tryz.prog 15 [D_impl_Loop a, D_impl_Loop b] (bD rr) := ⟨@fun rr h => by
  delta F_laws_eqLoop at h
  refine fn15.pureL (vcm_sound ?_)
  delta mc15
  refine stp ?_
  exact aut⟩
def mc72 : MCode :=
 (.seq (.reg (sq 4 [mi 0])) (.seq (.seq (.reg (sq 5 [mi 0])) (.block 0 (.loop (.seq (.seq (.reg (sq 6 [mv 5, mv 0, ln 7, bn .lss 6 8])) (.cond (t0 9) .skip (.exit 0))) (.seq (.block 1 (.seq (.seq (.reg (sq 12 [mv 0, mv 5, ix 3 12 13, fa 0 14, ld 15, mv 1, bn .neq 16 17])) (.cond (t0 18) (.seq (.reg (sq 4 [mi (-1)])) .ret) .skip)) (.seq (.reg (sq 19 [mv 1, bi .add 19 1] ++ sq 1 [mv 20])) (.seq (.seq (.reg (sq 21 [mv 0, mv 5, ix 3 21 22, fa 1 23, ld 24, mv 1, bn .neq 25 26])) (.cond (t0 27) (.seq (.reg (sq 4 [mi (-1)])) .ret) .skip)) (.seq (.reg (sq 28 [mv 1, bi .add 28 1] ++ sq 1 [mv 29])) (.seq (.reg (sq 30 [mv 0, mv 5, ix 3 30 31, fa 2 32, ld 33, mv 1, cf 71 [34, 35]] ++ sq 1 [mv 36])) (.seq (.reg (sq 37 [mv 1, bi .lss 37 0])) (.cond (t0 38) (.seq (.reg (sq 4 [mi (-1)])) .ret) .skip)))))))) (.reg (sq 10 [mv 5, bi .add 10 1] ++ sq 5 [mv 11]))))))) (.seq (.reg (sq 39 [mv 1] ++ sq 4 [mv 39])) .ret)))
theorem fn72 : MFn Tryz.prog 72 mc72 40 [.tmp 4] := ⟨_, Tryz.func72, by kernel_rfl, Tryz.ntmps72, by kernel_rfl⟩
noncomputable def F_laws_heldStepS_l1 (a : (List (Int × Int × (List Int)))) : (Int × Int) → Option ((Int × Int) ⊕ Int)
 | (k_1, i) =>
  if (decide (i < (a.length : Int))) = true then
   if 0 ≤ i ∧ i < (a.length : Int) then
    if ((a.getD i.toNat default).1 != k_1) = true then
     Option.map Sum.inr (
      some (-1))
    else
     if 0 ≤ i ∧ i < (a.length : Int) then
      if ((a.getD i.toNat default).2.1 != (IntKind.i64.wrap (k_1 + 1))) = true then
       Option.map Sum.inr (
        some (-1))
      else
       if 0 ≤ i ∧ i < (a.length : Int) then
        (F_laws_heldInt64S ((a.getD i.toNat default).2.2) (IntKind.i64.wrap ((IntKind.i64.wrap (k_1 + 1)) + 1))).bind fun r =>
        if (decide (r < 0)) = true then
         Option.map Sum.inr (
          some (-1))
        else
         some (.inl (r, (IntKind.i64.wrap (i + 1))))
       else none
     else none
   else none
  else
   Option.map Sum.inr (
    some k_1)
noncomputable def F_laws_heldStepS (a : (List (Int × Int × (List Int)))) (k : Int) : Option Int :=
 loopC (F_laws_heldStepS_l1 a) (k, 0)
instance c_laws_heldStepS {a : (List (Int × Int × (List Int)))} {k : Int} : HasC (F_laws_heldStepS a k) fun rr => PFun Tryz.prog 72 [(slD 3 D_impl_Step) a, iD k] (iD rr) := ⟨@fun rr h => by
  delta F_laws_heldStepS at h
  refine fn72.pureL (vcm_sound ?_)
  delta mc72
  refine stp ?_
  refine m_lW h [1, 4, 5, 6, 7, 8, 9, 10, 11, 12, 13, 14, 15, 16, 17, 18, 19, 20, 21, 22, 23, 24, 25, 26, 27, 28, 29, 30, 31, 32, 33, 34, 35, 36, 37, 38] (fun pp => [(1, .d (iD pp.1)), (5, .d (iD pp.2))]) (fun pp => []) ?_
  rintro ⟨k_1, i⟩ t1 h hb1
  unfold F_laws_heldStepS_l1 at h
  try dsimp only at h
  refine vcm_sound (stp ?_)
  exact aut⟩
def mc19 : MCode :=
 (.seq (.reg (sq 2 [bo 2 40 0] ++ sq 4 [mi 0])) (.seq (.reg (sq 5 [fa 0 2, ld 5, mv 1, cf 71 [6, 7]] ++ sq 1 [mv 8])) (.seq (.seq (.reg (sq 9 [mv 1, bi .lss 9 0])) (.cond (t0 10) (.seq (.reg (sq 4 [mi (-1)])) .ret) .skip)) (.seq (.reg (sq 11 [fa 1 2, ld 11, mv 1, cf 72 [12, 13]] ++ sq 1 [mv 14])) (.seq (.seq (.reg (sq 15 [mv 1, bi .lss 15 0])) (.cond (t0 16) (.seq (.reg (sq 4 [mi (-1)])) .ret) .skip)) (.seq (.reg (sq 17 [mv 1] ++ sq 4 [mv 17])) .ret))))))
theorem fn19 : MFn Tryz.prog 19 mc19 18 [.tmp 4] := ⟨_, Tryz.func19, by kernel_rfl, Tryz.ntmps19, by kernel_rfl⟩
noncomputable def F_laws_heldWalk (a : ((List Int) × (List (Int × Int × (List Int))))) (k : Int) : Option Int :=
 (F_laws_heldInt64S a.1 k).bind fun r =>
 if (decide (r < 0)) = true then
  some (-1)
 else
  (F_laws_heldStepS a.2 r).bind fun r_1 =>
  if (decide (r_1 < 0)) = true then
   some (-1)
  else
   some r_1
instance c_laws_heldWalk {a : ((List Int) × (List (Int × Int × (List Int))))} {k : Int} : HasC (F_laws_heldWalk a k) fun rr => PFun Tryz.prog 19 [D_impl_Walk a, iD k] (iD rr) := ⟨@fun rr h => by
  delta F_laws_heldWalk at h
  refine fn19.pureL (vcm_sound ?_)
  delta mc19
  refine stp ?_
  exact aut⟩
end Go.Proofs.YtklfjpilhbkekaaGreat
namespace Go.Proofs.YtklfjpilhbkekaaGreat
open Go Abx
attribute [local irreducible] vcm vgo vdr vrun vdrun MWp GhostQ BrC BrO BrG BrD BrH AmbO callR callD drQ EnvLe StoLe
set_option maxHeartbeats 4000000
instance : Cl D_laws_Rule := Cl.agg _ (fun _ => rfl) (fun _ => rfl)
instance : Cl D_laws_System := Cl.agg _ (fun _ => rfl) (fun _ => rfl)
def mcT21 : MCode :=
 (.seq (.reg (sq 2 [.mv (.const (.slice none 0 0))])) (.seq (.reg (sq 5 [mv 0, ln 5, .mkslp 7 2 1 8 [.lit (.int .i64 0)] false (t0 6) (t0 6)] ++ sq 3 [mv 7])) (.seq (.seq (.reg (sq 4 [mi 0])) (.block 0 (.loop (.seq (.seq (.reg (sq 8 [mv 4, mv 0, ln 9, bn .lss 8 10])) (.cond (t0 11) .skip (.exit 0))) (.seq (.block 1 (.reg (sq 14 [mv 3, mv 4, mv 0, mv 4, ix 1 16 17, ld 18, ix 1 14 15] ++ s0 (sr 1 20 19)))) (.reg (sq 12 [mv 4, bi .add 12 1] ++ sq 4 [mv 13]))))))) (.seq (.reg (sq 21 [mv 3] ++ sq 2 [mv 21])) .ret))))
theorem fnT21 : MFn Tryz.prog 21 mcT21 22 [.tmp 2] := ⟨_, Tryz.func21, by kernel_rfl, Tryz.ntmps21, by kernel_rfl⟩
noncomputable def F_to21_l (a : List Int) : (Int × List Int) → Option ((Int × List Int) ⊕ List Int)
 | (i, out) =>
  if (decide (i < (a.length : Int))) = true then
   if 0 ≤ i ∧ i < (a.length : Int) ∧ i < (out.length : Int) then
    some (.inl ((IntKind.i64.wrap (i + 1)), out.set i.toNat (a.getD i.toNat default)))
   else none
  else
   Option.map Sum.inr (some out)
noncomputable def F_to21 (a : List Int) : Option (List Int) :=
 if 0 ≤ (a.length : Int) ∧ 8 * (a.length : Int) ≤ 281474976710656 ∧ (a.length : Int) < 4611686018427387904 then
  loopC (F_to21_l a) (0, List.replicate a.length 0)
 else none
instance c_to21 {a : List Int} : HasC (F_to21 a) fun rr => ACalls Tryz.prog 21 [.d ((slD 1 iD) a)] [] 0 fun xx ss => xx = .gow 1 900000 a.length ∧ ss = [(900000, .prv 1 a.length (tolds (List.map iD rr)))] := ⟨@fun rr h => by
  delta F_to21 at h
  refine fnT21.callsD (vcm_sound ?_)
  delta mcT21
  refine stp ?_
  refine ndI h fun hp h => ?_
  refine m_loopF h [4, 8, 9, 10, 11, 12, 13, 14, 15, 16, 17, 18, 19, 20] (fun pp => [(4, .d (iD pp.1))]) (fun pp => [(7, .prv 1 a.length (tolds (List.map iD pp.2)))]) ?_ ?_
  · try dsimp only
    refine (Weak.prvE 7 (tolds (List.map iD (List.replicate a.length 0))) rfl (told_flat _)).trans ?_
    exact wk
  rintro ⟨i, out⟩ t1 h hb1
  unfold F_to21_l at h
  try dsimp only at h
  refine vcm_sound (stp ?_)
  refine it h (fun hc h => ?_) fun hc h => ?_
  · refine ndI h fun hp h => ?_
    cases h
    refine ⟨_, rfl, ?_⟩
    refine (Weak.prvE 7 (tolds (List.map iD (out.set i.toNat (a.getD i.toNat default)))) rfl (by (try simp only [go_sem, rens_take, rens_drop, rens_tolds, AV.rens, AV.ren]); exact told_segE (i := i.toNat) (by omega) (by omega) (by omega) rfl)).trans ?_
    exact wk
  replace h := inr_some h hb1
  cases h
  exact Done.trans (Done.move 7 900000 (ob := .prv 1 a.length (tolds (List.map iD rr))) (by omega) (by omega) (by omega) rfl (by first | rfl | (simp [sat, smove, Ob.ren, rens_tolds]; done))) (Done.told frd don)⟩
def mcT53 : MCode :=
 (.seq (.reg (sq 1 [bo 1 24 0, .alloc 2 43 [.sl 0 (some true) []]])) (.seq (.reg (sq 3 [.alloc 3 43 [.sl 0 (some true) []]])) (.seq (.reg (sq 4 [fa 0 1, ld 4, cf 21 [5], fa 0 3] ++ s0 (sr 1 7 6))) (.seq (.reg (sq 8 [la 1 3] ++ s0 (sr 1 2 8))) .ret))))
theorem fnT53 : MFn Tryz.prog 53 mcT53 9 [.cell 2 1 true] := ⟨_, Tryz.func53, by kernel_rfl, Tryz.ntmps53, by kernel_rfl⟩
noncomputable def F_to53 (x : (List Int)) : Option (List Int) :=
 (F_to21 x).bind fun r0 =>
 some r0
instance c_to53 {x : (List Int)} : HasC (F_to53 x) fun rr => ACalls Tryz.prog 53 [.d (.agg [(slD 1 iD) x])] [] 0 fun xx ss => xx = .agg [.gow 1 900000 x.length] ∧ ss = [(900000, .prv 1 x.length (tolds (List.map iD rr)))] := ⟨@fun rr h => by
  delta F_to53 at h
  refine fnT53.callsD (vcm_sound ?_)
  delta mcT53
  refine stp ?_
  refine rCo [] [(900000, 6)] h fun r0 hr0 h => ?_
  refine nds ?_
  cases h
  exact Done.trans ((Done.trans (Done.move 6 900000 (ob := .prv 1 x.length (tolds (List.map iD rr))) (by omega) (by omega) (by omega) rfl (by first | rfl | (simp [sat, smove, Ob.ren, rens_tolds]; done))) (Done.drops [1, 2, 3] (by simp)))) (Done.told frd don)⟩
def mcT116 : MCode :=
 (.seq (.reg (sq 1 [bo 1 158 0, .alloc 2 147 [.sl 0 (some true) [], .sl 0 (some true) []]])) (.seq (.reg (sq 3 [.alloc 3 147 [.sl 0 (some true) [], .sl 0 (some true) []]])) (.seq (.reg (sq 4 [fa 0 1, ld 4, cf 21 [5], fa 0 3] ++ s0 (sr 1 7 6))) (.seq (.reg (sq 8 [fa 1 1, ld 8, cf 21 [9], fa 1 3] ++ s0 (sr 1 11 10))) (.seq (.reg (sq 12 [la 2 3] ++ s0 (sr 2 2 12))) .ret)))))
theorem fnT116 : MFn Tryz.prog 116 mcT116 13 [.cell 2 2 true] := ⟨_, Tryz.func116, by kernel_rfl, Tryz.ntmps116, by kernel_rfl⟩
noncomputable def F_to116 (x : ((List Int) × (List Int))) : Option ((List Int) × (List Int)) :=
 (F_to21 x.1).bind fun r0 =>
 (F_to21 x.2).bind fun r1 =>
 some (r0, r1)
instance c_to116 {x : ((List Int) × (List Int))} : HasC (F_to116 x) fun rr => ACalls Tryz.prog 116 [.d (.agg [(slD 1 iD) x.1, (slD 1 iD) x.2])] [] 0 fun xx ss => xx = .agg [.gow 1 900000 x.1.length, .gow 1 900001 x.2.length] ∧ ss = [(900000, .prv 1 x.1.length (tolds (List.map iD rr.1))), (900001, .prv 1 x.2.length (tolds (List.map iD rr.2)))] := ⟨@fun rr h => by
  delta F_to116 at h
  refine fnT116.callsD (vcm_sound ?_)
  delta mcT116
  refine stp ?_
  refine rCo [] [(900000, 6)] h fun r0 hr0 h => ?_
  refine nds ?_
  refine rCo [] [(900000, 10)] h fun r1 hr1 h => ?_
  refine nds ?_
  cases h
  exact Done.trans ((Done.trans (Done.move 6 900000 (ob := .prv 1 x.1.length (tolds (List.map iD r0))) (by omega) (by omega) (by omega) rfl (by first | rfl | (simp [sat, smove, Ob.ren, rens_tolds]; done))) (Done.trans (Done.move 10 900001 (ob := .prv 1 x.2.length (tolds (List.map iD r1))) (by omega) (by omega) (by omega) rfl (by first | rfl | (simp [sat, smove, Ob.ren, rens_tolds]; done))) (Done.drops [1, 2, 3] (by simp))))) (Done.told frd don)⟩
def mcT54 : MCode :=
 (.seq (.reg (sq 2 [.mv (.const (.slice none 0 0))])) (.seq (.reg (sq 5 [mv 0, ln 5, .mkslp 7 147 2 48 [.sl 0 (some true) [], .sl 0 (some true) []] false (t0 6) (t0 6)] ++ sq 3 [mv 7])) (.seq (.seq (.reg (sq 4 [mi 0])) (.block 0 (.loop (.seq (.seq (.reg (sq 8 [mv 4, mv 0, ln 9, bn .lss 8 10])) (.cond (t0 11) .skip (.exit 0))) (.seq (.block 1 (.reg (sq 14 [mv 3, mv 4, mv 0, mv 4, ix 2 16 17, la 2 18, cf 116 [19], ix 2 14 15] ++ s0 (sr 2 21 20)))) (.reg (sq 12 [mv 4, bi .add 12 1] ++ sq 4 [mv 13]))))))) (.seq (.reg (sq 22 [mv 3] ++ sq 2 [mv 22])) .ret))))
theorem fnT54 : MFn Tryz.prog 54 mcT54 23 [.tmp 2] := ⟨_, Tryz.func54, by kernel_rfl, Tryz.ntmps54, by kernel_rfl⟩
noncomputable def F_to54_l (a : List ((List Int) × (List Int))) : (Int × List ((List Int) × (List Int))) → Option ((Int × List ((List Int) × (List Int))) ⊕ List ((List Int) × (List Int)))
 | (i, out) =>
  if (decide (i < (a.length : Int))) = true then
   if 0 ≤ i ∧ i < (a.length : Int) ∧ i < (out.length : Int) then
    (F_to116 (a.getD i.toNat default)).bind fun r =>
    some (.inl ((IntKind.i64.wrap (i + 1)), out.set i.toNat r))
   else none
  else
   Option.map Sum.inr (some out)
noncomputable def F_to54 (a : List ((List Int) × (List Int))) : Option (List ((List Int) × (List Int))) :=
 if 0 ≤ (a.length : Int) ∧ 48 * (a.length : Int) ≤ 281474976710656 ∧ (a.length : Int) < 4611686018427387904 then
  loopC (F_to54_l a) (0, List.replicate a.length ([], []))
 else none
instance c_to54 {a : List ((List Int) × (List Int))} : HasC (F_to54 a) fun rr => ACalls Tryz.prog 54 [.d ((slD 2 D_laws_Rule) a)] [] 0 fun xx ss => xx = .gow 2 900000 a.length ∧ ss = [(900000, .prv 2 a.length (tolds (List.map D_impl_Rule rr)))] := ⟨@fun rr h => by
  delta F_to54 at h
  refine fnT54.callsD (vcm_sound ?_)
  delta mcT54
  refine stp ?_
  refine ndI h fun hp h => ?_
  refine m_loopF h [4, 8, 9, 10, 11, 12, 13, 14, 15, 16, 17, 18, 19, 20, 21] (fun pp => [(4, .d (iD pp.1))]) (fun pp => [(7, .prv 2 a.length (tolds (List.map D_impl_Rule pp.2)))]) ?_ ?_
  · try dsimp only
    refine (Weak.prvZ (id := 7) (f := D_impl_Rule) ([], []) rfl (by exact ⟨NLe.nilz, ⟨NLe.nilz, trivial⟩⟩)).trans ?_
    exact wk
  rintro ⟨i, out⟩ t1 h hb1
  unfold F_to54_l at h
  try dsimp only at h
  refine vcm_sound (stp ?_)
  refine it h (fun hc h => ?_) fun hc h => ?_
  · refine ndI h fun hp h => ?_
    refine rCo [] [(900000, 20), (900001, 200001)] h fun r hr h => ?_
    refine nds ?_
    cases h
    refine ⟨_, rfl, ?_⟩
    refine (Weak.absSeg (f' := iD) (ys := r.1) (m := (a.getD i.toNat default).1.length) (m' := (a.getD i.toNat default).1.length) 7 20 0 rfl rfl (by first | rfl | (simp [sat, sdel, sset, skill, Ob.kill, Ob.ren, rens_tolds]; done)) rfl (by decide) (by omega) (by decide)).trans ?_
    refine (Weak.absSeg (f' := iD) (ys := r.2) (m := (a.getD i.toNat default).2.length) (m' := (a.getD i.toNat default).2.length) 7 200001 1 rfl rfl (by first | rfl | (simp [sat, sdel, sset, skill, Ob.kill, Ob.ren, rens_tolds]; done)) rfl (by decide) (by omega) (by decide)).trans ?_
    refine (Weak.drop 20 (by omega)).trans ?_
    refine (Weak.drop 200001 (by omega)).trans ?_
    refine (Weak.prvE 7 (tolds (List.map D_impl_Rule (out.set i.toNat r))) rfl (by (try simp only [go_sem, rens_take, rens_drop, rens_tolds, AV.rens, AV.ren]); exact told_segE (i := i.toNat) (by omega) (by omega) (by omega) rfl)).trans ?_
    exact wk
  replace h := inr_some h hb1
  cases h
  exact Done.trans (Done.move 7 900000 (ob := .prv 2 a.length (tolds (List.map D_impl_Rule rr))) (by omega) (by omega) (by omega) rfl (by first | rfl | (simp [sat, smove, Ob.ren, rens_tolds]; done))) (Done.told frd don)⟩
def mcT10 : MCode :=
 (.seq (.reg (sq 1 [bo 1 27 0, .alloc 2 46 [.sl 0 (some true) [], .sl 0 (some true) []]])) (.seq (.reg (sq 3 [.alloc 3 46 [.sl 0 (some true) [], .sl 0 (some true) []]])) (.seq (.reg (sq 4 [fa 0 1, la 1 4, cf 53 [5], fa 0 3] ++ s0 (sr 1 7 6))) (.seq (.reg (sq 8 [fa 1 1, ld 8, cf 54 [9], fa 1 3] ++ s0 (sr 1 11 10))) (.seq (.reg (sq 12 [la 2 3] ++ s0 (sr 2 2 12))) .ret)))))
theorem fnT10 : MFn Tryz.prog 10 mcT10 13 [.cell 2 2 true] := ⟨_, Tryz.func10, by kernel_rfl, Tryz.ntmps10, by kernel_rfl⟩
noncomputable def F_to10 (x : ((List Int) × (List ((List Int) × (List Int))))) : Option ((List Int) × (List ((List Int) × (List Int)))) :=
 (F_to53 x.1).bind fun r0 =>
 (F_to54 x.2).bind fun r1 =>
 some (r0, r1)
instance c_to10 {x : ((List Int) × (List ((List Int) × (List Int))))} : HasC (F_to10 x) fun rr => ACalls Tryz.prog 10 [.d (.agg [(slD 1 iD) x.1, (slD 2 D_laws_Rule) x.2])] [] 0 fun xx ss => xx = .agg [.gow 1 900000 x.1.length, .gow 2 900001 x.2.length] ∧ ss = [(900000, .prv 1 x.1.length (tolds (List.map iD rr.1))), (900001, .prv 2 x.2.length (tolds (List.map D_impl_Rule rr.2)))] := ⟨@fun rr h => by
  delta F_to10 at h
  refine fnT10.callsD (vcm_sound ?_)
  delta mcT10
  refine stp ?_
  refine rCo [] [(900000, 6)] h fun r0 hr0 h => ?_
  refine nds ?_
  refine rCo [] [(900000, 10)] h fun r1 hr1 h => ?_
  refine nds ?_
  cases h
  exact Done.trans ((Done.trans (Done.move 6 900000 (ob := .prv 1 x.1.length (tolds (List.map iD r0))) (by omega) (by omega) (by omega) rfl (by first | rfl | (simp [sat, smove, Ob.ren, rens_tolds]; done))) (Done.trans (Done.move 10 900001 (ob := .prv 2 x.2.length (tolds (List.map D_impl_Rule r1))) (by omega) (by omega) (by omega) rfl (by first | rfl | (simp [sat, smove, Ob.ren, rens_tolds]; done))) (Done.drops [1, 2, 3] (by simp))))) (Done.told frd don)⟩
noncomputable def F_pub10 (x : ((List Int) × (List ((List Int) × (List Int))))) : Option ((List Int) × (List ((List Int) × (List Int)))) := (F_to10 x).bind fun r => if x.1.length = r.1.length ∧ x.2.length = r.2.length then some r else none
instance c_pub10 {x : ((List Int) × (List ((List Int) × (List Int))))} : HasC (F_pub10 x) fun rr => PFun Tryz.prog 10 [(.agg [(slD 1 iD) x.1, (slD 2 D_laws_Rule) x.2])] (.agg [(slD 1 iD) rr.1, (slD 2 D_impl_Rule) rr.2]) := ⟨@fun rr h => by
  obtain ⟨r, h1, h2⟩ := bind_some h
  obtain ⟨hp, h2⟩ := need_some h2
  cases h2
  exact ACalls.pub (dz := [(.agg [(slD 1 iD) x.1, (slD 2 D_laws_Rule) x.2])]) (tl := [(900000, 1, List.map iD rr.1), (900001, 2, List.map D_impl_Rule rr.2)]) ((c_to10).c h1) (by simp [toks]; try omega) (.agg (.cons (Pub.tok (f := iD) (by simp [toks, sat]; try omega) (by omega)) (.cons (Pub.tok (f := D_impl_Rule) (by simp [toks, sat]; try omega) (by omega)) .nil)))⟩
noncomputable def F_le14_ll (n0 : Nat) (n1 : Nat) (n2 : Nat) (n3 : Nat) (x0 : ((List Int) × (List ((List Int) × (List Int))))) (x1 : ((List Int) × (List ((List Int) × (List Int))))) : Option Bool := if n0 = x0.1.length ∧ n1 = x0.2.length ∧ n2 = x1.1.length ∧ n3 = x1.2.length then F_laws_eqSystem x0 x1 else none
instance c_F_le14_ll {n0 : Nat} {n1 : Nat} {n2 : Nat} {n3 : Nat} {x0 : ((List Int) × (List ((List Int) × (List Int))))} {x1 : ((List Int) × (List ((List Int) × (List Int))))} : HasC (F_le14_ll n0 n1 n2 n3 x0 x1) fun rr => ACalls Tryz.prog 14 [.agg [.gow 1 0 n0, .gow 2 1 n1], .agg [.gow 1 2 n2, .gow 2 3 n3]] [(0, .prv 1 n0 (tolds (List.map iD x0.1))), (1, .prv 2 n1 (tolds (List.map D_impl_Rule x0.2))), (2, .prv 1 n2 (tolds (List.map iD x1.1))), (3, .prv 2 n3 (tolds (List.map D_impl_Rule x1.2)))] 4 fun xx ss => xx = .d (bD rr) ∧ ss = [(0, .prv 1 n0 (tolds (List.map iD x0.1))), (1, .prv 2 n1 (tolds (List.map D_impl_Rule x0.2))), (2, .prv 1 n2 (tolds (List.map iD x1.1))), (3, .prv 2 n3 (tolds (List.map D_impl_Rule x1.2)))] := ⟨@fun rr h => by
  obtain ⟨hp, h⟩ := need_some h
  exact ACalls.lent ((c_laws_eqSystem).c h) (.cons (.agg (.cons (Lent.tok (f := iD) rfl (by omega)) (.cons (Lent.tok (f := D_impl_Rule) rfl (by omega)) .nil))) (.cons (.agg (.cons (Lent.tok (f := iD) rfl (by omega)) (.cons (Lent.tok (f := D_impl_Rule) rfl (by omega)) .nil))) .nil))⟩
def mcM25 : MCode :=
 (.seq (.reg (sq 4 [mi 0])) (.seq (.seq (.reg (sq 5 [mi 0])) (.block 0 (.loop (.seq (.seq (.reg (sq 6 [mv 5, mv 0, ln 7, bn .lss 6 8])) (.cond (t0 9) .skip (.exit 0))) (.seq (.block 1 (.seq (.reg (sq 12 [mv 0, mv 5, mv 1, ix 1 12 13] ++ s0 (sr 1 15 14))) (.reg (sq 16 [mv 1, bi .add 16 1] ++ sq 1 [mv 17])))) (.reg (sq 10 [mv 5, bi .add 10 1] ++ sq 5 [mv 11]))))))) (.seq (.reg (sq 18 [mv 1] ++ sq 4 [mv 18])) .ret)))
theorem fnM25 : MFn Tryz.prog 25 mcM25 19 [.tmp 4] := ⟨_, Tryz.func25, by kernel_rfl, Tryz.ntmps25, by kernel_rfl⟩
noncomputable def F_mk25_l (n : Nat) : (Int × Int × List Int) → Option ((Int × Int × List Int) ⊕ (List Int × Int))
 | (k, i, b) =>
  if (decide (i < (n : Int))) = true then
   if 0 ≤ i ∧ i < (n : Int) ∧ i < (b.length : Int) then
    some (.inl ((IntKind.i64.wrap (k + 1)), (IntKind.i64.wrap (i + 1)), b.set i.toNat k))
   else none
  else
   Option.map Sum.inr (some (b, k))
noncomputable def F_mk25 (n : Nat) (a : List Int) (k : Int) : Option (List Int × Int) := loopC (F_mk25_l n) (k, 0, a)
instance c_mk25 {n : Nat} {a : List Int} {k : Int} : HasC (F_mk25 n a k) fun rr => ACalls Tryz.prog 25 [.gow 1 0 n, .d (iD k)] [(0, .prv 1 n (tolds (List.map iD a)))] 1 fun xx ss => xx = .d (iD rr.2) ∧ ss = [(0, .prv 1 n (tolds (List.map iD rr.1)))] := ⟨@fun rr h => by
  delta F_mk25 at h
  refine fnM25.callsD (vcm_sound ?_)
  delta mcM25
  refine stp ?_
  refine m_loopF h [1, 5, 6, 7, 8, 9, 10, 11, 12, 13, 14, 15, 16, 17] (fun pp => [(1, .d (iD pp.1)), (5, .d (iD pp.2.1))]) (fun pp => [(0, .prv 1 n (tolds (List.map iD pp.2.2)))]) ?_ ?_
  · try dsimp only
    exact wk
  rintro ⟨k, i, b⟩ t1 h hb1
  unfold F_mk25_l at h
  try dsimp only at h
  refine vcm_sound (stp ?_)
  refine it h (fun hc h => ?_) fun hc h => ?_
  · refine ndI h fun hp h => ?_
    refine nds ?_
    cases h
    refine ⟨_, rfl, ?_⟩
    refine (Weak.prvE 0 (tolds (List.map iD (b.set i.toNat k))) rfl (told_segE (i := i.toNat) (by omega) (by omega) (by omega) rfl)).trans ?_
    exact wk
  replace h := inr_some h hb1
  cases h
  exact Done.told frd don⟩
def mcM67 : MCode :=
 (.seq (.reg (sq 2 [.boxi 64 2 43 (t0 0)] ++ sq 4 [mi 0])) (.seq (.reg (sq 5 [fa 0 2, ld 5, mv 1, cf 25 [6, 7]] ++ sq 1 [mv 8])) (.seq (.reg (sq 9 [mv 1] ++ sq 4 [mv 9])) .ret)))
theorem fnM67 : MFn Tryz.prog 67 mcM67 10 [.tmp 4] := ⟨_, Tryz.func67, by kernel_rfl, Tryz.ntmps67, by kernel_rfl⟩
noncomputable def F_mk67 (n0 : Nat) (x : (List Int)) (k : Int) : Option ((List Int) × Int) :=
 (F_mk25 n0 x k).bind fun r0 =>
 some (r0.1, r0.2)
instance c_mk67 {n0 : Nat} {x : (List Int)} {k : Int} : HasC (F_mk67 n0 x k) fun rr => ACalls Tryz.prog 67 [.agg [.gow 1 0 n0], .d (iD k)] [(0, .prv 1 n0 (tolds (List.map iD x)))] 1 fun xx ss => xx = .d (iD rr.2) ∧ ss = [(0, .prv 1 n0 (tolds (List.map iD rr.1)))] := ⟨@fun rr h => by
  delta F_mk67 at h
  refine fnM67.callsD (vcm_sound ?_)
  delta mcM67
  refine stp ?_
  refine rCo [(0, 0)] [] h fun r0 hr0 h => ?_
  refine nds ?_
  cases h
  exact Done.trans (Done.drops [64] (by simp)) (Done.told frd don)⟩
def mcM68 : MCode :=
 (.seq (.reg (sq 4 [mi 0])) (.seq (.seq (.reg (sq 5 [mi 0])) (.block 0 (.loop (.seq (.seq (.reg (sq 6 [mv 5, mv 0, ln 7, bn .lss 6 8])) (.cond (t0 9) .skip (.exit 0))) (.seq (.block 1 (.seq (.ghost (.reg (sq 12 [mv 0, mv 5, ix 2 12 13, fa 0 14, ld 15, mv 1, cf 25 [16, 17]] ++ sq 1 [mv 18]))) (.ghost (.reg (sq 19 [mv 0, mv 5, ix 2 19 20, fa 1 21, ld 22, mv 1, cf 25 [23, 24]] ++ sq 1 [mv 25]))))) (.reg (sq 10 [mv 5, bi .add 10 1] ++ sq 5 [mv 11]))))))) (.seq (.reg (sq 26 [mv 1] ++ sq 4 [mv 26])) .ret)))
theorem fnM68 : MFn Tryz.prog 68 mcM68 27 [.tmp 4] := ⟨_, Tryz.func68, by kernel_rfl, Tryz.ntmps68, by kernel_rfl⟩
noncomputable def F_mk68_l (n : Nat) : (Int × Int × List ((List Int) × (List Int))) → Option ((Int × Int × List ((List Int) × (List Int))) ⊕ (List ((List Int) × (List Int)) × Int))
 | (k, i, b) =>
  if (decide (i < (n : Int))) = true then
   if 0 ≤ i ∧ i < (n : Int) ∧ i < (b.length : Int) then
    (F_mk25 ((b.getD i.toNat default).1).length ((b.getD i.toNat default).1) k).bind fun r1 =>
    (F_mk25 ((b.getD i.toNat default).2).length ((b.getD i.toNat default).2) r1.2).bind fun r2 =>
    some (.inl (r2.2, (IntKind.i64.wrap (i + 1)), b.set i.toNat (r1.1, r2.1)))
   else none
  else
   Option.map Sum.inr (some (b, k))
noncomputable def F_mk68 (n : Nat) (a : List ((List Int) × (List Int))) (k : Int) : Option (List ((List Int) × (List Int)) × Int) := loopC (F_mk68_l n) (k, 0, a)
instance c_mk68 {n : Nat} {a : List ((List Int) × (List Int))} {k : Int} : HasC (F_mk68 n a k) fun rr => ACalls Tryz.prog 68 [.gow 2 0 n, .d (iD k)] [(0, .prv 2 n (tolds (List.map D_impl_Rule a)))] 1 fun xx ss => xx = .d (iD rr.2) ∧ ss = [(0, .prv 2 n (tolds (List.map D_impl_Rule rr.1)))] := ⟨@fun rr h => by
  delta F_mk68 at h
  refine fnM68.callsD (vcm_sound ?_)
  delta mcM68
  refine stp ?_
  refine m_loopF h [1, 5, 6, 7, 8, 9, 10, 11, 12, 13, 14, 15, 16, 17, 18, 19, 20, 21, 22, 23, 24, 25] (fun pp => [(1, .d (iD pp.1)), (5, .d (iD pp.2.1))]) (fun pp => [(0, .prv 2 n (tolds (List.map D_impl_Rule pp.2.2)))]) ?_ ?_
  · try dsimp only
    exact wk
  rintro ⟨k, i, b⟩ t1 h hb1
  unfold F_mk68_l at h
  try dsimp only at h
  refine vcm_sound (stp ?_)
  refine it h (fun hc h => ?_) fun hc h => ?_
  · refine ndI h fun hp h => ?_
    refine GhostQ.of ((Weak.prvE 0 (tolds (List.map D_impl_Rule (b.set i.toNat ((b.getD i.toNat default).1, (b.getD i.toNat default).2)))) rfl (by rw [set_self (by omega)])).trans (Weak.extC (f := D_impl_Rule) (f' := iD) (xs := b) (y := ((b.getD i.toNat default).1, (b.getD i.toNat default).2)) (ys := ((b.getD i.toNat default).1)) 0 501 i.toNat 0 rfl (by omega) (by decide) (m := i.toNat * 2) (by omega) rfl rfl (by omega))) ?_
    refine stp ?_
    refine nds ?_
    refine rCo [(0, 501)] [] h fun r1 hr1 h => ?_
    refine nds ?_
    refine GhostQ.of ((Weak.absC (f := D_impl_Rule) (f' := iD) (xs := b) (y := ((b.getD i.toNat default).1, (b.getD i.toNat default).2)) (y' := (r1.1, (b.getD i.toNat default).2)) (ys := r1.1) 0 501 i.toNat 0 rfl rfl rfl (by omega) (by decide) (by omega) (by decide) rfl (by omega) (by decide)).trans (Weak.extC (f := D_impl_Rule) (f' := iD) (xs := b) (y := (r1.1, (b.getD i.toNat default).2)) (ys := ((b.getD i.toNat default).2)) 0 502 i.toNat 1 rfl (by omega) (by decide) (m := i.toNat * 2 + 1) (by omega) rfl rfl (by omega))) ?_
    refine stp ?_
    refine nds ?_
    refine rCo [(0, 502)] [] h fun r2 hr2 h => ?_
    refine nds ?_
    cases h
    refine ⟨_, rfl, ?_⟩
    refine (Weak.absC (f := D_impl_Rule) (f' := iD) (xs := b) (y := (r1.1, (b.getD i.toNat default).2)) (y' := (r1.1, r2.1)) (ys := r2.1) 0 502 i.toNat 1 rfl rfl rfl (by omega) (by decide) (by omega) (by decide) rfl (by omega) (by decide)).trans ?_
    exact wk
  replace h := inr_some h hb1
  cases h
  exact Done.told frd don⟩
def mcM16 : MCode :=
 (.seq (.reg (sq 2 [.boxi 64 2 46 (t0 0)] ++ sq 4 [mi 0])) (.seq (.reg (sq 5 [fa 0 2, la 1 5, mv 1, cf 67 [6, 7]] ++ sq 1 [mv 8])) (.seq (.reg (sq 9 [fa 1 2, ld 9, mv 1, cf 68 [10, 11]] ++ sq 1 [mv 12])) (.seq (.reg (sq 13 [mv 1] ++ sq 4 [mv 13])) .ret))))
theorem fnM16 : MFn Tryz.prog 16 mcM16 14 [.tmp 4] := ⟨_, Tryz.func16, by kernel_rfl, Tryz.ntmps16, by kernel_rfl⟩
noncomputable def F_mk16 (n0 : Nat) (n1 : Nat) (x : ((List Int) × (List ((List Int) × (List Int))))) (k : Int) : Option (((List Int) × (List ((List Int) × (List Int)))) × Int) :=
 (F_mk67 n0 x.1 k).bind fun r0 =>
 (F_mk68 n1 x.2 r0.2).bind fun r1 =>
 some ((r0.1, r1.1), r1.2)
instance c_mk16 {n0 : Nat} {n1 : Nat} {x : ((List Int) × (List ((List Int) × (List Int))))} {k : Int} : HasC (F_mk16 n0 n1 x k) fun rr => ACalls Tryz.prog 16 [.agg [.gow 1 0 n0, .gow 2 1 n1], .d (iD k)] [(0, .prv 1 n0 (tolds (List.map iD x.1))), (1, .prv 2 n1 (tolds (List.map D_impl_Rule x.2)))] 2 fun xx ss => xx = .d (iD rr.2) ∧ ss = [(0, .prv 1 n0 (tolds (List.map iD rr.1.1))), (1, .prv 2 n1 (tolds (List.map D_impl_Rule rr.1.2)))] := ⟨@fun rr h => by
  delta F_mk16 at h
  refine fnM16.callsD (vcm_sound ?_)
  delta mcM16
  refine stp ?_
  refine rCo [(0, 0)] [] h fun r0 hr0 h => ?_
  refine nds ?_
  refine rCo [(0, 1)] [] h fun r1 hr1 h => ?_
  refine nds ?_
  cases h
  exact Done.trans (Done.drops [64] (by simp)) (Done.told frd don)⟩
def mcM132 : MCode :=
 (.seq (.reg (sq 4 [mi 0])) (.seq (.seq (.reg (sq 5 [mi 0])) (.block 0 (.loop (.seq (.seq (.reg (sq 6 [mv 5, mv 0, ln 7, bn .lss 6 8])) (.cond (t0 9) .skip (.exit 0))) (.seq (.block 1 (.ghost (.reg (sq 12 [mv 0, mv 5, ix 1 12 13, ld 14, mv 1, cf 25 [15, 16]] ++ sq 1 [mv 17])))) (.reg (sq 10 [mv 5, bi .add 10 1] ++ sq 5 [mv 11]))))))) (.seq (.reg (sq 18 [mv 1] ++ sq 4 [mv 18])) .ret)))
theorem fnM132 : MFn Tryz.prog 132 mcM132 19 [.tmp 4] := ⟨_, Tryz.func132, by kernel_rfl, Tryz.ntmps132, by kernel_rfl⟩
noncomputable def F_mk132_l (n : Nat) : (Int × Int × List (List Int)) → Option ((Int × Int × List (List Int)) ⊕ (List (List Int) × Int))
 | (k, i, b) =>
  if (decide (i < (n : Int))) = true then
   if 0 ≤ i ∧ i < (n : Int) ∧ i < (b.length : Int) then
    (F_mk25 (b.getD i.toNat default).length (b.getD i.toNat default) k).bind fun r1 =>
    some (.inl (r1.2, (IntKind.i64.wrap (i + 1)), b.set i.toNat r1.1))
   else none
  else
   Option.map Sum.inr (some (b, k))
noncomputable def F_mk132 (n : Nat) (a : List (List Int)) (k : Int) : Option (List (List Int) × Int) := loopC (F_mk132_l n) (k, 0, a)
instance c_mk132 {n : Nat} {a : List (List Int)} {k : Int} : HasC (F_mk132 n a k) fun rr => ACalls Tryz.prog 132 [.gow 1 0 n, .d (iD k)] [(0, .prv 1 n (tolds (List.map (slD 1 iD) a)))] 1 fun xx ss => xx = .d (iD rr.2) ∧ ss = [(0, .prv 1 n (tolds (List.map (slD 1 iD) rr.1)))] := ⟨@fun rr h => by
  delta F_mk132 at h
  refine fnM132.callsD (vcm_sound ?_)
  delta mcM132
  refine stp ?_
  refine m_loopF h [1, 5, 6, 7, 8, 9, 10, 11, 12, 13, 14, 15, 16, 17] (fun pp => [(1, .d (iD pp.1)), (5, .d (iD pp.2.1))]) (fun pp => [(0, .prv 1 n (tolds (List.map (slD 1 iD) pp.2.2)))]) ?_ ?_
  · try dsimp only
    exact wk
  rintro ⟨k, i, b⟩ t1 h hb1
  unfold F_mk132_l at h
  try dsimp only at h
  refine vcm_sound (stp ?_)
  refine it h (fun hc h => ?_) fun hc h => ?_
  · refine ndI h fun hp h => ?_
    refine GhostQ.of ((Weak.prvE 0 (tolds (List.map (slD 1 iD) (b.set i.toNat (b.getD i.toNat default)))) rfl (by rw [set_self (by omega)])).trans (Weak.extC (f := (slD 1 iD)) (f' := iD) (xs := b) (y := (b.getD i.toNat default)) (ys := (b.getD i.toNat default)) 0 501 i.toNat 0 rfl (by omega) (by decide) (m := i.toNat) (by omega) rfl rfl (by omega))) ?_
    refine stp ?_
    refine nds ?_
    refine rCo [(0, 501)] [] h fun r1 hr1 h => ?_
    refine nds ?_
    cases h
    refine ⟨_, rfl, ?_⟩
    refine (Weak.absC (f := (slD 1 iD)) (f' := iD) (xs := b) (y := (b.getD i.toNat default)) (y' := r1.1) (ys := r1.1) 0 501 i.toNat 0 rfl rfl rfl (by omega) (by decide) (by omega) (by decide) rfl (by omega) (by decide)).trans ?_
    exact wk
  replace h := inr_some h hb1
  cases h
  exact Done.told frd don⟩
end Go.Proofs.YtklfjpilhbkekaaGreat
namespace Go.Proofs.YtklfjpilhbkekaaGreat
open Go Abx
attribute [local irreducible] vcm vgo vdr vrun vdrun MWp GhostQ BrC BrO BrG BrD BrH AmbO callR callD drQ EnvLe StoLe
set_option maxHeartbeats 4000000
instance : Cl D_laws_Step := Cl.agg _ (fun _ => rfl) (fun _ => rfl)
instance : Cl D_laws_Loop := Cl.agg _ (fun _ => rfl) (fun _ => rfl)
def mcT188 : MCode :=
 (.seq (.reg (sq 1 [bo 1 234 0, .alloc 2 151 [.lit (.int .i64 0), .lit (.int .i64 0), .sl 0 (some true) []]])) (.seq (.reg (sq 3 [.alloc 3 151 [.lit (.int .i64 0), .lit (.int .i64 0), .sl 0 (some true) []]])) (.seq (.reg (sq 4 [fa 0 1, ld 4, fa 0 3] ++ s0 (sr 1 6 5))) (.seq (.reg (sq 7 [fa 1 1, ld 7, fa 1 3] ++ s0 (sr 1 9 8))) (.seq (.reg (sq 10 [fa 2 1, ld 10, cf 21 [11], fa 2 3] ++ s0 (sr 1 13 12))) (.seq (.reg (sq 14 [la 3 3] ++ s0 (sr 3 2 14))) .ret))))))
theorem fnT188 : MFn Tryz.prog 188 mcT188 15 [.cell 2 3 true] := ⟨_, Tryz.func188, by kernel_rfl, Tryz.ntmps188, by kernel_rfl⟩
noncomputable def F_to188 (x : (Int × Int × (List Int))) : Option (Int × Int × (List Int)) :=
 (F_to21 x.2.2).bind fun r0 =>
 some (x.1, x.2.1, r0)
instance c_to188 {x : (Int × Int × (List Int))} : HasC (F_to188 x) fun rr => ACalls Tryz.prog 188 [.d (.agg [iD x.1, iD x.2.1, (slD 1 iD) x.2.2])] [] 0 fun xx ss => xx = .agg [.d (iD rr.1), .d (iD rr.2.1), .gow 1 900000 x.2.2.length] ∧ ss = [(900000, .prv 1 x.2.2.length (tolds (List.map iD rr.2.2)))] := ⟨@fun rr h => by
  delta F_to188 at h
  refine fnT188.callsD (vcm_sound ?_)
  delta mcT188
  refine stp ?_
  refine rCo [] [(900000, 12)] h fun r0 hr0 h => ?_
  refine nds ?_
  cases h
  exact Done.trans ((Done.trans (Done.move 12 900000 (ob := .prv 1 x.2.2.length (tolds (List.map iD r0))) (by omega) (by omega) (by omega) rfl (by first | rfl | (simp [sat, smove, Ob.ren, rens_tolds]; done))) (Done.drops [1, 2, 3] (by simp)))) (Done.told frd don)⟩
def mcT117 : MCode :=
 (.seq (.reg (sq 2 [.mv (.const (.slice none 0 0))])) (.seq (.reg (sq 5 [mv 0, ln 5, .mkslp 7 151 3 40 [.lit (.int .i64 0), .lit (.int .i64 0), .sl 0 (some true) []] false (t0 6) (t0 6)] ++ sq 3 [mv 7])) (.seq (.seq (.reg (sq 4 [mi 0])) (.block 0 (.loop (.seq (.seq (.reg (sq 8 [mv 4, mv 0, ln 9, bn .lss 8 10])) (.cond (t0 11) .skip (.exit 0))) (.seq (.block 1 (.reg (sq 14 [mv 3, mv 4, mv 0, mv 4, ix 3 16 17, la 3 18, cf 188 [19], ix 3 14 15] ++ s0 (sr 3 21 20)))) (.reg (sq 12 [mv 4, bi .add 12 1] ++ sq 4 [mv 13]))))))) (.seq (.reg (sq 22 [mv 3] ++ sq 2 [mv 22])) .ret))))
theorem fnT117 : MFn Tryz.prog 117 mcT117 23 [.tmp 2] := ⟨_, Tryz.func117, by kernel_rfl, Tryz.ntmps117, by kernel_rfl⟩
noncomputable def F_to117_l (a : List (Int × Int × (List Int))) : (Int × List (Int × Int × (List Int))) → Option ((Int × List (Int × Int × (List Int))) ⊕ List (Int × Int × (List Int)))
 | (i, out) =>
  if (decide (i < (a.length : Int))) = true then
   if 0 ≤ i ∧ i < (a.length : Int) ∧ i < (out.length : Int) then
    (F_to188 (a.getD i.toNat default)).bind fun r =>
    some (.inl ((IntKind.i64.wrap (i + 1)), out.set i.toNat r))
   else none
  else
   Option.map Sum.inr (some out)
noncomputable def F_to117 (a : List (Int × Int × (List Int))) : Option (List (Int × Int × (List Int))) :=
 if 0 ≤ (a.length : Int) ∧ 40 * (a.length : Int) ≤ 281474976710656 ∧ (a.length : Int) < 4611686018427387904 then
  loopC (F_to117_l a) (0, List.replicate a.length (0, 0, []))
 else none
instance c_to117 {a : List (Int × Int × (List Int))} : HasC (F_to117 a) fun rr => ACalls Tryz.prog 117 [.d ((slD 3 D_laws_Step) a)] [] 0 fun xx ss => xx = .gow 3 900000 a.length ∧ ss = [(900000, .prv 3 a.length (tolds (List.map D_impl_Step rr)))] := ⟨@fun rr h => by
  delta F_to117 at h
  refine fnT117.callsD (vcm_sound ?_)
  delta mcT117
  refine stp ?_
  refine ndI h fun hp h => ?_
  refine m_loopF h [4, 8, 9, 10, 11, 12, 13, 14, 15, 16, 17, 18, 19, 20, 21] (fun pp => [(4, .d (iD pp.1))]) (fun pp => [(7, .prv 3 a.length (tolds (List.map D_impl_Step pp.2)))]) ?_ ?_
  · try dsimp only
    refine (Weak.prvZ (id := 7) (f := D_impl_Step) (0, 0, []) rfl (by exact ⟨.inl rfl, ⟨.inl rfl, ⟨NLe.nilz, trivial⟩⟩⟩)).trans ?_
    exact wk
  rintro ⟨i, out⟩ t1 h hb1
  unfold F_to117_l at h
  try dsimp only at h
  refine vcm_sound (stp ?_)
  refine it h (fun hc h => ?_) fun hc h => ?_
  · refine ndI h fun hp h => ?_
    refine rCo [] [(900000, 20)] h fun r hr h => ?_
    refine nds ?_
    cases h
    refine ⟨_, rfl, ?_⟩
    refine (Weak.absSeg (f' := iD) (ys := r.2.2) (m := (a.getD i.toNat default).2.2.length) (m' := (a.getD i.toNat default).2.2.length) 7 20 2 rfl rfl (by first | rfl | (simp [sat, sdel, sset, skill, Ob.kill, Ob.ren, rens_tolds]; done)) rfl (by decide) (by omega) (by decide)).trans ?_
    refine (Weak.drop 20 (by omega)).trans ?_
    refine (Weak.prvE 7 (tolds (List.map D_impl_Step (out.set i.toNat r))) rfl (by (try simp only [go_sem, rens_take, rens_drop, rens_tolds, AV.rens, AV.ren]); exact told_segE (i := i.toNat) (by omega) (by omega) (by omega) rfl)).trans ?_
    exact wk
  replace h := inr_some h hb1
  cases h
  exact Done.trans (Done.move 7 900000 (ob := .prv 3 a.length (tolds (List.map D_impl_Step rr))) (by omega) (by omega) (by omega) rfl (by first | rfl | (simp [sat, smove, Ob.ren, rens_tolds]; done))) (Done.told frd don)⟩
def mcT55 : MCode :=
 (.seq (.reg (sq 1 [bo 1 30 0, .alloc 2 40 [.sl 0 (some true) [], .sl 0 (some true) []]])) (.seq (.reg (sq 3 [.alloc 3 40 [.sl 0 (some true) [], .sl 0 (some true) []]])) (.seq (.reg (sq 4 [fa 0 1, ld 4, cf 21 [5], fa 0 3] ++ s0 (sr 1 7 6))) (.seq (.reg (sq 8 [fa 1 1, ld 8, cf 117 [9], fa 1 3] ++ s0 (sr 1 11 10))) (.seq (.reg (sq 12 [la 2 3] ++ s0 (sr 2 2 12))) .ret)))))
theorem fnT55 : MFn Tryz.prog 55 mcT55 13 [.cell 2 2 true] := ⟨_, Tryz.func55, by kernel_rfl, Tryz.ntmps55, by kernel_rfl⟩
noncomputable def F_to55 (x : ((List Int) × (List (Int × Int × (List Int))))) : Option ((List Int) × (List (Int × Int × (List Int)))) :=
 (F_to21 x.1).bind fun r0 =>
 (F_to117 x.2).bind fun r1 =>
 some (r0, r1)
instance c_to55 {x : ((List Int) × (List (Int × Int × (List Int))))} : HasC (F_to55 x) fun rr => ACalls Tryz.prog 55 [.d (.agg [(slD 1 iD) x.1, (slD 3 D_laws_Step) x.2])] [] 0 fun xx ss => xx = .agg [.gow 1 900000 x.1.length, .gow 3 900001 x.2.length] ∧ ss = [(900000, .prv 1 x.1.length (tolds (List.map iD rr.1))), (900001, .prv 3 x.2.length (tolds (List.map D_impl_Step rr.2)))] := ⟨@fun rr h => by
  delta F_to55 at h
  refine fnT55.callsD (vcm_sound ?_)
  delta mcT55
  refine stp ?_
  refine rCo [] [(900000, 6)] h fun r0 hr0 h => ?_
  refine nds ?_
  refine rCo [] [(900000, 10)] h fun r1 hr1 h => ?_
  refine nds ?_
  cases h
  exact Done.trans ((Done.trans (Done.move 6 900000 (ob := .prv 1 x.1.length (tolds (List.map iD r0))) (by omega) (by omega) (by omega) rfl (by first | rfl | (simp [sat, smove, Ob.ren, rens_tolds]; done))) (Done.trans (Done.move 10 900001 (ob := .prv 3 x.2.length (tolds (List.map D_impl_Step r1))) (by omega) (by omega) (by omega) rfl (by first | rfl | (simp [sat, smove, Ob.ren, rens_tolds]; done))) (Done.drops [1, 2, 3] (by simp))))) (Done.told frd don)⟩
def mcT118 : MCode :=
 (.seq (.reg (sq 2 [.mv (.const (.slice none 0 0))])) (.seq (.reg (sq 5 [mv 0, ln 5, .mkslp 7 22 1 24 [.sl 0 (some true) []] false (t0 6) (t0 6)] ++ sq 3 [mv 7])) (.seq (.seq (.reg (sq 4 [mi 0])) (.block 0 (.loop (.seq (.seq (.reg (sq 8 [mv 4, mv 0, ln 9, bn .lss 8 10])) (.cond (t0 11) .skip (.exit 0))) (.seq (.block 1 (.reg (sq 14 [mv 3, mv 4, mv 0, mv 4, ix 1 16 17, ld 18, cf 21 [19], ix 1 14 15] ++ s0 (sr 1 21 20)))) (.reg (sq 12 [mv 4, bi .add 12 1] ++ sq 4 [mv 13]))))))) (.seq (.reg (sq 22 [mv 3] ++ sq 2 [mv 22])) .ret))))
theorem fnT118 : MFn Tryz.prog 118 mcT118 23 [.tmp 2] := ⟨_, Tryz.func118, by kernel_rfl, Tryz.ntmps118, by kernel_rfl⟩
noncomputable def F_to118_l (a : List (List Int)) : (Int × List (List Int)) → Option ((Int × List (List Int)) ⊕ List (List Int))
 | (i, out) =>
  if (decide (i < (a.length : Int))) = true then
   if 0 ≤ i ∧ i < (a.length : Int) ∧ i < (out.length : Int) then
    (F_to21 (a.getD i.toNat default)).bind fun r =>
    some (.inl ((IntKind.i64.wrap (i + 1)), out.set i.toNat r))
   else none
  else
   Option.map Sum.inr (some out)
noncomputable def F_to118 (a : List (List Int)) : Option (List (List Int)) :=
 if 0 ≤ (a.length : Int) ∧ 24 * (a.length : Int) ≤ 281474976710656 ∧ (a.length : Int) < 4611686018427387904 then
  loopC (F_to118_l a) (0, List.replicate a.length [])
 else none
instance c_to118 {a : List (List Int)} : HasC (F_to118 a) fun rr => ACalls Tryz.prog 118 [.d ((slD 1 (slD 1 iD)) a)] [] 0 fun xx ss => xx = .gow 1 900000 a.length ∧ ss = [(900000, .prv 1 a.length (tolds (List.map (slD 1 iD) rr)))] := ⟨@fun rr h => by
  delta F_to118 at h
  refine fnT118.callsD (vcm_sound ?_)
  delta mcT118
  refine stp ?_
  refine ndI h fun hp h => ?_
  refine m_loopF h [4, 8, 9, 10, 11, 12, 13, 14, 15, 16, 17, 18, 19, 20, 21] (fun pp => [(4, .d (iD pp.1))]) (fun pp => [(7, .prv 1 a.length (tolds (List.map (slD 1 iD) pp.2)))]) ?_ ?_
  · try dsimp only
    refine (Weak.prvZ (id := 7) (f := (slD 1 iD)) [] rfl (by exact ⟨NLe.nilz, trivial⟩)).trans ?_
    exact wk
  rintro ⟨i, out⟩ t1 h hb1
  unfold F_to118_l at h
  try dsimp only at h
  refine vcm_sound (stp ?_)
  refine it h (fun hc h => ?_) fun hc h => ?_
  · refine ndI h fun hp h => ?_
    refine rCo [] [(900000, 20)] h fun r hr h => ?_
    refine nds ?_
    cases h
    refine ⟨_, rfl, ?_⟩
    refine (Weak.absSeg (f' := iD) (ys := r) (m := (a.getD i.toNat default).length) (m' := (a.getD i.toNat default).length) 7 20 0 rfl rfl (by first | rfl | (simp [sat, sdel, sset, skill, Ob.kill, Ob.ren, rens_tolds]; done)) rfl (by decide) (by omega) (by decide)).trans ?_
    refine (Weak.drop 20 (by omega)).trans ?_
    refine (Weak.prvE 7 (tolds (List.map (slD 1 iD) (out.set i.toNat r))) rfl (by (try simp only [go_sem, rens_take, rens_drop, rens_tolds, AV.rens, AV.ren]); exact told_segE (i := i.toNat) (by omega) (by omega) (by omega) rfl)).trans ?_
    exact wk
  replace h := inr_some h hb1
  cases h
  exact Done.trans (Done.move 7 900000 (ob := .prv 1 a.length (tolds (List.map (slD 1 iD) rr))) (by omega) (by omega) (by omega) rfl (by first | rfl | (simp [sat, smove, Ob.ren, rens_tolds]; done))) (Done.told frd don)⟩
def mcT56 : MCode :=
 (.seq (.reg (sq 1 [bo 1 33 0, .alloc 2 48 [.sl 0 (some true) []]])) (.seq (.reg (sq 3 [.alloc 3 48 [.sl 0 (some true) []]])) (.seq (.reg (sq 4 [fa 0 1, ld 4, cf 118 [5], fa 0 3] ++ s0 (sr 1 7 6))) (.seq (.reg (sq 8 [la 1 3] ++ s0 (sr 1 2 8))) .ret))))
theorem fnT56 : MFn Tryz.prog 56 mcT56 9 [.cell 2 1 true] := ⟨_, Tryz.func56, by kernel_rfl, Tryz.ntmps56, by kernel_rfl⟩
noncomputable def F_to56 (x : (List (List Int))) : Option (List (List Int)) :=
 (F_to118 x).bind fun r0 =>
 some r0
instance c_to56 {x : (List (List Int))} : HasC (F_to56 x) fun rr => ACalls Tryz.prog 56 [.d (.agg [(slD 1 (slD 1 iD)) x])] [] 0 fun xx ss => xx = .agg [.gow 1 900000 x.length] ∧ ss = [(900000, .prv 1 x.length (tolds (List.map (slD 1 iD) rr)))] := ⟨@fun rr h => by
  delta F_to56 at h
  refine fnT56.callsD (vcm_sound ?_)
  delta mcT56
  refine stp ?_
  refine rCo [] [(900000, 6)] h fun r0 hr0 h => ?_
  refine nds ?_
  cases h
  exact Done.trans ((Done.trans (Done.move 6 900000 (ob := .prv 1 x.length (tolds (List.map (slD 1 iD) rr))) (by omega) (by omega) (by omega) rfl (by first | rfl | (simp [sat, smove, Ob.ren, rens_tolds]; done))) (Done.drops [1, 2, 3] (by simp)))) (Done.told frd don)⟩
def mcT11 : MCode :=
 (.seq (.reg (sq 1 [bo 1 35 0, .alloc 2 50 [.sl 0 (some true) [], .sl 0 (some true) [], .lit (.int .i64 0), .sl 0 (some true) []]])) (.seq (.reg (sq 3 [.alloc 3 50 [.sl 0 (some true) [], .sl 0 (some true) [], .lit (.int .i64 0), .sl 0 (some true) []]])) (.seq (.reg (sq 4 [fa 0 1, la 2 4, cf 55 [5], fa 0 3] ++ s0 (sr 2 7 6))) (.seq (.reg (sq 8 [fa 2 1, ld 8, fa 2 3] ++ s0 (sr 1 10 9))) (.seq (.reg (sq 11 [fa 3 1, la 1 11, cf 56 [12], fa 3 3] ++ s0 (sr 1 14 13))) (.seq (.reg (sq 15 [la 4 3] ++ s0 (sr 4 2 15))) .ret))))))
theorem fnT11 : MFn Tryz.prog 11 mcT11 16 [.cell 2 4 true] := ⟨_, Tryz.func11, by kernel_rfl, Tryz.ntmps11, by kernel_rfl⟩
noncomputable def F_to11 (x : ((List Int) × (List (Int × Int × (List Int))) × Int × (List (List Int)))) : Option ((List Int) × (List (Int × Int × (List Int))) × Int × (List (List Int))) :=
 (F_to55 (x.1, x.2.1)).bind fun r0 =>
 (F_to56 x.2.2.2).bind fun r1 =>
 some (r0.1, r0.2, x.2.2.1, r1)
instance c_to11 {x : ((List Int) × (List (Int × Int × (List Int))) × Int × (List (List Int)))} : HasC (F_to11 x) fun rr => ACalls Tryz.prog 11 [.d (.agg [(slD 1 iD) x.1, (slD 3 D_laws_Step) x.2.1, iD x.2.2.1, (slD 1 (slD 1 iD)) x.2.2.2])] [] 0 fun xx ss => xx = .agg [.gow 1 900000 x.1.length, .gow 3 900001 x.2.1.length, .d (iD rr.2.2.1), .gow 1 900002 x.2.2.2.length] ∧ ss = [(900000, .prv 1 x.1.length (tolds (List.map iD rr.1))), (900001, .prv 3 x.2.1.length (tolds (List.map D_impl_Step rr.2.1))), (900002, .prv 1 x.2.2.2.length (tolds (List.map (slD 1 iD) rr.2.2.2)))] := ⟨@fun rr h => by
  delta F_to11 at h
  refine fnT11.callsD (vcm_sound ?_)
  delta mcT11
  refine stp ?_
  refine rCo [] [(900000, 6), (900001, 200001)] h fun r0 hr0 h => ?_
  refine nds ?_
  refine rCo [] [(900000, 13)] h fun r1 hr1 h => ?_
  refine nds ?_
  cases h
  exact Done.trans ((Done.trans (Done.move 6 900000 (ob := .prv 1 x.1.length (tolds (List.map iD r0.1))) (by omega) (by omega) (by omega) rfl (by first | rfl | (simp [sat, smove, Ob.ren, rens_tolds]; done))) (Done.trans (Done.move 200001 900001 (ob := .prv 3 x.2.1.length (tolds (List.map D_impl_Step r0.2))) (by omega) (by omega) (by omega) rfl (by first | rfl | (simp [sat, smove, Ob.ren, rens_tolds]; done))) (Done.trans (Done.move 13 900002 (ob := .prv 1 x.2.2.2.length (tolds (List.map (slD 1 iD) r1))) (by omega) (by omega) (by omega) rfl (by first | rfl | (simp [sat, smove, Ob.ren, rens_tolds]; done))) (Done.drops [1, 2, 3] (by simp)))))) (Done.told frd don)⟩
noncomputable def F_pub11 (x : ((List Int) × (List (Int × Int × (List Int))) × Int × (List (List Int)))) : Option ((List Int) × (List (Int × Int × (List Int))) × Int × (List (List Int))) := (F_to11 x).bind fun r => if x.1.length = r.1.length ∧ x.2.1.length = r.2.1.length ∧ x.2.2.2.length = r.2.2.2.length then some r else none
instance c_pub11 {x : ((List Int) × (List (Int × Int × (List Int))) × Int × (List (List Int)))} : HasC (F_pub11 x) fun rr => PFun Tryz.prog 11 [(.agg [(slD 1 iD) x.1, (slD 3 D_laws_Step) x.2.1, iD x.2.2.1, (slD 1 (slD 1 iD)) x.2.2.2])] (.agg [(slD 1 iD) rr.1, (slD 3 D_impl_Step) rr.2.1, iD rr.2.2.1, (slD 1 (slD 1 iD)) rr.2.2.2]) := ⟨@fun rr h => by
  obtain ⟨r, h1, h2⟩ := bind_some h
  obtain ⟨hp, h2⟩ := need_some h2
  cases h2
  exact ACalls.pub (dz := [(.agg [(slD 1 iD) x.1, (slD 3 D_laws_Step) x.2.1, iD x.2.2.1, (slD 1 (slD 1 iD)) x.2.2.2])]) (tl := [(900000, 1, List.map iD rr.1), (900001, 3, List.map D_impl_Step rr.2.1), (900002, 1, List.map (slD 1 iD) rr.2.2.2)]) ((c_to11).c h1) (by simp [toks]; try omega) (.agg (.cons (Pub.tok (f := iD) (by simp [toks, sat]; try omega) (by omega)) (.cons (Pub.tok (f := D_impl_Step) (by simp [toks, sat]; try omega) (by omega)) (.cons .lit (.cons (Pub.tok (f := (slD 1 iD)) (by simp [toks, sat]; try omega) (by omega)) .nil)))))⟩
noncomputable def F_le12_lld (n0 : Nat) (n1 : Nat) (n2 : Nat) (n3 : Nat) (n4 : Nat) (x0 : ((List Int) × (List ((List Int) × (List Int))))) (x1 : ((List Int) × (List (Int × Int × (List Int))) × Int × (List (List Int)))) (x2 : Int) : Option ((List Int) × (List (Int × Int × (List Int))) × Bool) := if n0 = x0.1.length ∧ n1 = x0.2.length ∧ n2 = x1.1.length ∧ n3 = x1.2.1.length ∧ n4 = x1.2.2.2.length then F_impl_LoopAgain x0 x1 x2 else none
instance c_F_le12_lld {n0 : Nat} {n1 : Nat} {n2 : Nat} {n3 : Nat} {n4 : Nat} {x0 : ((List Int) × (List ((List Int) × (List Int))))} {x1 : ((List Int) × (List (Int × Int × (List Int))) × Int × (List (List Int)))} {x2 : Int} : HasC (F_le12_lld n0 n1 n2 n3 n4 x0 x1 x2) fun rr => ACalls Tryz.prog 12 [.agg [.gow 1 0 n0, .gow 2 1 n1], .agg [.gow 1 2 n2, .gow 3 3 n3, .d (iD x1.2.2.1), .gow 1 4 n4], .d (iD x2)] [(0, .prv 1 n0 (tolds (List.map iD x0.1))), (1, .prv 2 n1 (tolds (List.map D_impl_Rule x0.2))), (2, .prv 1 n2 (tolds (List.map iD x1.1))), (3, .prv 3 n3 (tolds (List.map D_impl_Step x1.2.1))), (4, .prv 1 n4 (tolds (List.map (slD 1 iD) x1.2.2.2)))] 5 fun xx ss => xx = .tup [.agg [.gow 1 900000 rr.1.length, .gow 3 900001 rr.2.1.length], .d (bD rr.2.2)] ∧ ss = [(0, .prv 1 n0 (tolds (List.map iD x0.1))), (1, .prv 2 n1 (tolds (List.map D_impl_Rule x0.2))), (2, .prv 1 n2 (tolds (List.map iD x1.1))), (3, .prv 3 n3 (tolds (List.map D_impl_Step x1.2.1))), (4, .prv 1 n4 (tolds (List.map (slD 1 iD) x1.2.2.2))), (900000, .prv 1 rr.1.length (tolds (List.map iD rr.1))), (900001, .prv 3 rr.2.1.length (tolds (List.map D_impl_Step rr.2.1)))] := ⟨@fun rr h => by
  obtain ⟨hp, h⟩ := need_some h
  have h1 := ACalls.prv (y := .tup [.agg [.own 1 900000 (List.map iD rr.1), .own 3 900001 (List.map D_impl_Step rr.2.1)], .d (bD rr.2.2)]) ((c_impl_LoopAgain).c h) (fun p hp => by
    simp only [tksOf, tksOfs, List.nil_append, List.cons_append, List.append_nil, List.mem_cons, List.not_mem_nil, or_false] at hp
    rcases hp with rfl | rfl
    · exact Whole.flat (by rfl) (by simp)
    · exact Whole.deep (by rfl) (by simp)) rfl rfl
  refine ACalls.eq (ACalls.lentO («as» := [(.agg [(slD 1 iD) x0.1, (slD 2 D_impl_Rule) x0.2]), (.agg [(slD 1 iD) x1.1, (slD 3 D_impl_Step) x1.2.1, iD x1.2.2.1, (slD 1 (slD 1 iD)) x1.2.2.2]), (iD x2)]) h1 rfl (args := [.agg [.gow 1 0 n0, .gow 2 1 n1], .agg [.gow 1 2 n2, .gow 3 3 n3, .d (iD x1.2.2.1), .gow 1 4 n4], .d (iD x2)]) (s := [(0, .prv 1 n0 (tolds (List.map iD x0.1))), (1, .prv 2 n1 (tolds (List.map D_impl_Rule x0.2))), (2, .prv 1 n2 (tolds (List.map iD x1.1))), (3, .prv 3 n3 (tolds (List.map D_impl_Step x1.2.1))), (4, .prv 1 n4 (tolds (List.map (slD 1 iD) x1.2.2.2)))]) (k := 5) (.cons (.agg (.cons (Lent.tok (f := iD) rfl (by omega)) (.cons (Lent.tok (f := D_impl_Rule) rfl (by omega)) .nil))) (.cons (.agg (.cons (Lent.tok (f := iD) rfl (by omega)) (.cons (Lent.tok (f := D_impl_Step) rfl (by omega)) (.cons (.le (AV.le_refl _)) (.cons (Lent.tok (f := (slD 1 iD)) rfl (by omega)) .nil))))) (.cons (.le (AV.le_refl _)) .nil))) (by simp [tksOf, tksOfs]) (fun p hp => ?_)) (by simp [cnv, cnvs]) (by simp [toks, tksOf, tksOfs])
  simp only [tksOf, tksOfs, List.nil_append, List.cons_append, List.append_nil, List.mem_cons, List.not_mem_nil, or_false] at hp
  rcases hp with rfl | rfl
  · exact told_cond.2
  · exact told_cond.2⟩
noncomputable def F_le13_ld (n0 : Nat) (n1 : Nat) (x0 : ((List Int) × (List (Int × Int × (List Int))))) (x1 : ((List Int) × (List (Int × Int × (List Int))))) : Option Bool := if n0 = x0.1.length ∧ n1 = x0.2.length then F_laws_eqWalk x0 x1 else none
instance c_F_le13_ld {n0 : Nat} {n1 : Nat} {x0 : ((List Int) × (List (Int × Int × (List Int))))} {x1 : ((List Int) × (List (Int × Int × (List Int))))} : HasC (F_le13_ld n0 n1 x0 x1) fun rr => ACalls Tryz.prog 13 [.agg [.gow 1 0 n0, .gow 3 1 n1], .d (.agg [(slD 1 iD) x1.1, (slD 3 D_impl_Step) x1.2])] [(0, .prv 1 n0 (tolds (List.map iD x0.1))), (1, .prv 3 n1 (tolds (List.map D_impl_Step x0.2)))] 2 fun xx ss => xx = .d (bD rr) ∧ ss = [(0, .prv 1 n0 (tolds (List.map iD x0.1))), (1, .prv 3 n1 (tolds (List.map D_impl_Step x0.2)))] := ⟨@fun rr h => by
  obtain ⟨hp, h⟩ := need_some h
  exact ACalls.lent ((c_laws_eqWalk).c h) (.cons (.agg (.cons (Lent.tok (f := iD) rfl (by omega)) (.cons (Lent.tok (f := D_impl_Step) rfl (by omega)) .nil))) (.cons (.le (AV.le_refl _)) .nil))⟩
noncomputable def F_le15_ll (n0 : Nat) (n1 : Nat) (n2 : Nat) (n3 : Nat) (n4 : Nat) (n5 : Nat) (x0 : ((List Int) × (List (Int × Int × (List Int))) × Int × (List (List Int)))) (x1 : ((List Int) × (List (Int × Int × (List Int))) × Int × (List (List Int)))) : Option Bool := if n0 = x0.1.length ∧ n1 = x0.2.1.length ∧ n2 = x0.2.2.2.length ∧ n3 = x1.1.length ∧ n4 = x1.2.1.length ∧ n5 = x1.2.2.2.length then F_laws_eqLoop x0 x1 else none
instance c_F_le15_ll {n0 : Nat} {n1 : Nat} {n2 : Nat} {n3 : Nat} {n4 : Nat} {n5 : Nat} {x0 : ((List Int) × (List (Int × Int × (List Int))) × Int × (List (List Int)))} {x1 : ((List Int) × (List (Int × Int × (List Int))) × Int × (List (List Int)))} : HasC (F_le15_ll n0 n1 n2 n3 n4 n5 x0 x1) fun rr => ACalls Tryz.prog 15 [.agg [.gow 1 0 n0, .gow 3 1 n1, .d (iD x0.2.2.1), .gow 1 2 n2], .agg [.gow 1 3 n3, .gow 3 4 n4, .d (iD x1.2.2.1), .gow 1 5 n5]] [(0, .prv 1 n0 (tolds (List.map iD x0.1))), (1, .prv 3 n1 (tolds (List.map D_impl_Step x0.2.1))), (2, .prv 1 n2 (tolds (List.map (slD 1 iD) x0.2.2.2))), (3, .prv 1 n3 (tolds (List.map iD x1.1))), (4, .prv 3 n4 (tolds (List.map D_impl_Step x1.2.1))), (5, .prv 1 n5 (tolds (List.map (slD 1 iD) x1.2.2.2)))] 6 fun xx ss => xx = .d (bD rr) ∧ ss = [(0, .prv 1 n0 (tolds (List.map iD x0.1))), (1, .prv 3 n1 (tolds (List.map D_impl_Step x0.2.1))), (2, .prv 1 n2 (tolds (List.map (slD 1 iD) x0.2.2.2))), (3, .prv 1 n3 (tolds (List.map iD x1.1))), (4, .prv 3 n4 (tolds (List.map D_impl_Step x1.2.1))), (5, .prv 1 n5 (tolds (List.map (slD 1 iD) x1.2.2.2)))] := ⟨@fun rr h => by
  obtain ⟨hp, h⟩ := need_some h
  exact ACalls.lent ((c_laws_eqLoop).c h) (.cons (.agg (.cons (Lent.tok (f := iD) rfl (by omega)) (.cons (Lent.tok (f := D_impl_Step) rfl (by omega)) (.cons (.le (AV.le_refl _)) (.cons (Lent.tok (f := (slD 1 iD)) rfl (by omega)) .nil))))) (.cons (.agg (.cons (Lent.tok (f := iD) rfl (by omega)) (.cons (Lent.tok (f := D_impl_Step) rfl (by omega)) (.cons (.le (AV.le_refl _)) (.cons (Lent.tok (f := (slD 1 iD)) rfl (by omega)) .nil))))) .nil))⟩
def mcM70 : MCode :=
 (.seq (.reg (sq 4 [mi 0])) (.seq (.seq (.reg (sq 5 [mi 0])) (.block 0 (.loop (.seq (.seq (.reg (sq 6 [mv 5, mv 0, ln 7, bn .lss 6 8])) (.cond (t0 9) .skip (.exit 0))) (.seq (.block 1 (.seq (.ghost (.reg (sq 12 [mv 0, mv 5, mv 1, ix 3 12 13, fa 0 15] ++ s0 (sr 1 16 14)))) (.seq (.reg (sq 17 [mv 1, bi .add 17 1] ++ sq 1 [mv 18])) (.seq (.ghost (.reg (sq 19 [mv 0, mv 5, mv 1, ix 3 19 20, fa 1 22] ++ s0 (sr 1 23 21)))) (.seq (.reg (sq 24 [mv 1, bi .add 24 1] ++ sq 1 [mv 25])) (.ghost (.reg (sq 26 [mv 0, mv 5, ix 3 26 27, fa 2 28, ld 29, mv 1, cf 25 [30, 31]] ++ sq 1 [mv 32])))))))) (.reg (sq 10 [mv 5, bi .add 10 1] ++ sq 5 [mv 11]))))))) (.seq (.reg (sq 33 [mv 1] ++ sq 4 [mv 33])) .ret)))
theorem fnM70 : MFn Tryz.prog 70 mcM70 34 [.tmp 4] := ⟨_, Tryz.func70, by kernel_rfl, Tryz.ntmps70, by kernel_rfl⟩
noncomputable def F_mk70_l (n : Nat) : (Int × Int × List (Int × Int × (List Int))) → Option ((Int × Int × List (Int × Int × (List Int))) ⊕ (List (Int × Int × (List Int)) × Int))
 | (k, i, b) =>
  if (decide (i < (n : Int))) = true then
   if 0 ≤ i ∧ i < (n : Int) ∧ i < (b.length : Int) then
    (F_mk25 ((b.getD i.toNat default).2.2).length ((b.getD i.toNat default).2.2) (IntKind.i64.wrap ((IntKind.i64.wrap (k + 1)) + 1))).bind fun r1 =>
    some (.inl (r1.2, (IntKind.i64.wrap (i + 1)), b.set i.toNat (k, (IntKind.i64.wrap (k + 1)), r1.1)))
   else none
  else
   Option.map Sum.inr (some (b, k))
noncomputable def F_mk70 (n : Nat) (a : List (Int × Int × (List Int))) (k : Int) : Option (List (Int × Int × (List Int)) × Int) := loopC (F_mk70_l n) (k, 0, a)
instance c_mk70 {n : Nat} {a : List (Int × Int × (List Int))} {k : Int} : HasC (F_mk70 n a k) fun rr => ACalls Tryz.prog 70 [.gow 3 0 n, .d (iD k)] [(0, .prv 3 n (tolds (List.map D_impl_Step a)))] 1 fun xx ss => xx = .d (iD rr.2) ∧ ss = [(0, .prv 3 n (tolds (List.map D_impl_Step rr.1)))] := ⟨@fun rr h => by
  delta F_mk70 at h
  refine fnM70.callsD (vcm_sound ?_)
  delta mcM70
  refine stp ?_
  refine m_loopF h [1, 5, 6, 7, 8, 9, 10, 11, 12, 13, 14, 15, 16, 17, 18, 19, 20, 21, 22, 23, 24, 25, 26, 27, 28, 29, 30, 31, 32] (fun pp => [(1, .d (iD pp.1)), (5, .d (iD pp.2.1))]) (fun pp => [(0, .prv 3 n (tolds (List.map D_impl_Step pp.2.2)))]) ?_ ?_
  · try dsimp only
    exact wk
  rintro ⟨k, i, b⟩ t1 h hb1
  unfold F_mk70_l at h
  try dsimp only at h
  refine vcm_sound (stp ?_)
  refine it h (fun hc h => ?_) fun hc h => ?_
  · refine ndI h fun hp h => ?_
    refine GhostQ.of (Weak.prvE 0 (tolds (List.map D_impl_Step (b.set i.toNat ((b.getD i.toNat default).1, (b.getD i.toNat default).2.1, (b.getD i.toNat default).2.2)))) rfl (by rw [set_self (by omega)])) (nds ?_)
    refine GhostQ.of (Weak.prvE 0 (tolds (List.map D_impl_Step (b.set i.toNat (k, (b.getD i.toNat default).2.1, (b.getD i.toNat default).2.2)))) rfl (by exact told_seg2 (i := i.toNat) (k := 0) (by omega) (by decide) (by omega) (by omega) rfl rfl)) (nds ?_)
    refine GhostQ.of ((Weak.prvE 0 (tolds (List.map D_impl_Step (b.set i.toNat (k, (IntKind.i64.wrap (k + 1)), (b.getD i.toNat default).2.2)))) rfl (by exact told_seg2 (i := i.toNat) (k := 1) (by omega) (by decide) (by omega) (by omega) rfl rfl)).trans (Weak.extC (f := D_impl_Step) (f' := iD) (xs := b) (y := (k, (IntKind.i64.wrap (k + 1)), (b.getD i.toNat default).2.2)) (ys := ((b.getD i.toNat default).2.2)) 0 501 i.toNat 2 rfl (by omega) (by decide) (m := i.toNat * 3 + 2) (by omega) rfl rfl (by omega))) ?_
    refine stp ?_
    refine nds ?_
    refine rCo [(0, 501)] [] h fun r1 hr1 h => ?_
    refine nds ?_
    cases h
    refine ⟨_, rfl, ?_⟩
    refine (Weak.absC (f := D_impl_Step) (f' := iD) (xs := b) (y := (k, (IntKind.i64.wrap (k + 1)), (b.getD i.toNat default).2.2)) (y' := (k, (IntKind.i64.wrap (k + 1)), r1.1)) (ys := r1.1) 0 501 i.toNat 2 rfl rfl rfl (by omega) (by decide) (by omega) (by decide) rfl (by omega) (by decide)).trans ?_
    exact wk
  replace h := inr_some h hb1
  cases h
  exact Done.told frd don⟩
def mcM18 : MCode :=
 (.seq (.reg (sq 2 [.boxi 64 2 40 (t0 0)] ++ sq 4 [mi 0])) (.seq (.reg (sq 5 [fa 0 2, ld 5, mv 1, cf 25 [6, 7]] ++ sq 1 [mv 8])) (.seq (.reg (sq 9 [fa 1 2, ld 9, mv 1, cf 70 [10, 11]] ++ sq 1 [mv 12])) (.seq (.reg (sq 13 [mv 1] ++ sq 4 [mv 13])) .ret))))
theorem fnM18 : MFn Tryz.prog 18 mcM18 14 [.tmp 4] := ⟨_, Tryz.func18, by kernel_rfl, Tryz.ntmps18, by kernel_rfl⟩
noncomputable def F_mk18 (n0 : Nat) (n1 : Nat) (x : ((List Int) × (List (Int × Int × (List Int))))) (k : Int) : Option (((List Int) × (List (Int × Int × (List Int)))) × Int) :=
 (F_mk25 n0 x.1 k).bind fun r0 =>
 (F_mk70 n1 x.2 r0.2).bind fun r1 =>
 some ((r0.1, r1.1), r1.2)
instance c_mk18 {n0 : Nat} {n1 : Nat} {x : ((List Int) × (List (Int × Int × (List Int))))} {k : Int} : HasC (F_mk18 n0 n1 x k) fun rr => ACalls Tryz.prog 18 [.agg [.gow 1 0 n0, .gow 3 1 n1], .d (iD k)] [(0, .prv 1 n0 (tolds (List.map iD x.1))), (1, .prv 3 n1 (tolds (List.map D_impl_Step x.2)))] 2 fun xx ss => xx = .d (iD rr.2) ∧ ss = [(0, .prv 1 n0 (tolds (List.map iD rr.1.1))), (1, .prv 3 n1 (tolds (List.map D_impl_Step rr.1.2)))] := ⟨@fun rr h => by
  delta F_mk18 at h
  refine fnM18.callsD (vcm_sound ?_)
  delta mcM18
  refine stp ?_
  refine rCo [(0, 0)] [] h fun r0 hr0 h => ?_
  refine nds ?_
  refine rCo [(0, 1)] [] h fun r1 hr1 h => ?_
  refine nds ?_
  cases h
  exact Done.trans (Done.drops [64] (by simp)) (Done.told frd don)⟩
def mcM69 : MCode :=
 (.seq (.reg (sq 2 [.boxi 64 2 48 (t0 0)] ++ sq 4 [mi 0])) (.seq (.reg (sq 5 [fa 0 2, ld 5, mv 1, cf 132 [6, 7]] ++ sq 1 [mv 8])) (.seq (.reg (sq 9 [mv 1] ++ sq 4 [mv 9])) .ret)))
theorem fnM69 : MFn Tryz.prog 69 mcM69 10 [.tmp 4] := ⟨_, Tryz.func69, by kernel_rfl, Tryz.ntmps69, by kernel_rfl⟩
noncomputable def F_mk69 (n0 : Nat) (x : (List (List Int))) (k : Int) : Option ((List (List Int)) × Int) :=
 (F_mk132 n0 x k).bind fun r0 =>
 some (r0.1, r0.2)
instance c_mk69 {n0 : Nat} {x : (List (List Int))} {k : Int} : HasC (F_mk69 n0 x k) fun rr => ACalls Tryz.prog 69 [.agg [.gow 1 0 n0], .d (iD k)] [(0, .prv 1 n0 (tolds (List.map (slD 1 iD) x)))] 1 fun xx ss => xx = .d (iD rr.2) ∧ ss = [(0, .prv 1 n0 (tolds (List.map (slD 1 iD) rr.1)))] := ⟨@fun rr h => by
  delta F_mk69 at h
  refine fnM69.callsD (vcm_sound ?_)
  delta mcM69
  refine stp ?_
  refine rCo [(0, 0)] [] h fun r0 hr0 h => ?_
  refine nds ?_
  cases h
  exact Done.trans (Done.drops [64] (by simp)) (Done.told frd don)⟩
def mcM17 : MCode :=
 (.seq (.reg (sq 2 [.boxi 64 2 50 (t0 0)] ++ sq 4 [mi 0])) (.seq (.reg (sq 5 [fa 0 2, la 2 5, mv 1, cf 18 [6, 7]] ++ sq 1 [mv 8])) (.seq (.reg (sq 9 [fa 3 2, la 1 9, mv 1, cf 69 [10, 11]] ++ sq 1 [mv 12])) (.seq (.reg (sq 13 [mv 1] ++ sq 4 [mv 13])) .ret))))
theorem fnM17 : MFn Tryz.prog 17 mcM17 14 [.tmp 4] := ⟨_, Tryz.func17, by kernel_rfl, Tryz.ntmps17, by kernel_rfl⟩
noncomputable def F_mk17 (n0 : Nat) (n1 : Nat) (n2 : Nat) (x : ((List Int) × (List (Int × Int × (List Int))) × Int × (List (List Int)))) (k : Int) : Option (((List Int) × (List (Int × Int × (List Int))) × Int × (List (List Int))) × Int) :=
 (F_mk18 n0 n1 (x.1, x.2.1) k).bind fun r0 =>
 (F_mk69 n2 x.2.2.2 r0.2).bind fun r1 =>
 some ((r0.1.1, r0.1.2, x.2.2.1, r1.1), r1.2)
instance c_mk17 {n0 : Nat} {n1 : Nat} {n2 : Nat} {x : ((List Int) × (List (Int × Int × (List Int))) × Int × (List (List Int)))} {k : Int} : HasC (F_mk17 n0 n1 n2 x k) fun rr => ACalls Tryz.prog 17 [.agg [.gow 1 0 n0, .gow 3 1 n1, .d (iD x.2.2.1), .gow 1 2 n2], .d (iD k)] [(0, .prv 1 n0 (tolds (List.map iD x.1))), (1, .prv 3 n1 (tolds (List.map D_impl_Step x.2.1))), (2, .prv 1 n2 (tolds (List.map (slD 1 iD) x.2.2.2)))] 3 fun xx ss => xx = .d (iD rr.2) ∧ ss = [(0, .prv 1 n0 (tolds (List.map iD rr.1.1))), (1, .prv 3 n1 (tolds (List.map D_impl_Step rr.1.2.1))), (2, .prv 1 n2 (tolds (List.map (slD 1 iD) rr.1.2.2.2)))] := ⟨@fun rr h => by
  delta F_mk17 at h
  refine fnM17.callsD (vcm_sound ?_)
  delta mcM17
  refine stp ?_
  refine rCo [(0, 0), (1, 1)] [] h fun r0 hr0 h => ?_
  refine nds ?_
  refine rCo [(0, 2)] [] h fun r1 hr1 h => ?_
  refine nds ?_
  cases h
  exact Done.trans (Done.drops [64] (by simp)) (Done.told frd don)⟩
noncomputable def F_le19_ld (n0 : Nat) (n1 : Nat) (x0 : ((List Int) × (List (Int × Int × (List Int))))) (x1 : Int) : Option Int := if n0 = x0.1.length ∧ n1 = x0.2.length then F_laws_heldWalk x0 x1 else none
instance c_F_le19_ld {n0 : Nat} {n1 : Nat} {x0 : ((List Int) × (List (Int × Int × (List Int))))} {x1 : Int} : HasC (F_le19_ld n0 n1 x0 x1) fun rr => ACalls Tryz.prog 19 [.agg [.gow 1 0 n0, .gow 3 1 n1], .d (iD x1)] [(0, .prv 1 n0 (tolds (List.map iD x0.1))), (1, .prv 3 n1 (tolds (List.map D_impl_Step x0.2)))] 2 fun xx ss => xx = .d (iD rr) ∧ ss = [(0, .prv 1 n0 (tolds (List.map iD x0.1))), (1, .prv 3 n1 (tolds (List.map D_impl_Step x0.2)))] := ⟨@fun rr h => by
  obtain ⟨hp, h⟩ := need_some h
  exact ACalls.lent ((c_laws_heldWalk).c h) (.cons (.agg (.cons (Lent.tok (f := iD) rfl (by omega)) (.cons (Lent.tok (f := D_impl_Step) rfl (by omega)) .nil))) (.cons (.le (AV.le_refl _)) .nil))⟩
end Go.Proofs.YtklfjpilhbkekaaGreat
namespace Go.Proofs.YtklfjpilhbkekaaGreat
open Go Abx
attribute [local irreducible] vcm vgo vdr vrun vdrun MWp GhostQ BrC BrO BrG BrD BrH AmbO callR callD drQ EnvLe StoLe
set_option maxHeartbeats 4000000
end Go.Proofs.YtklfjpilhbkekaaGreat
namespace Go.Proofs.YtklfjpilhbkekaaGreat
open Go Abx
attribute [local irreducible] vcm vgo vdr vrun vdrun MWp GhostQ BrC BrO BrG BrD BrH AmbO callR callD drQ EnvLe StoLe
set_option maxHeartbeats 4000000
attribute [-go_sem] sat sset
def mc3 : MCode :=
 (.seq (.reg (sq 3 [bo 3 27 0, bo 4 35 1] ++ sq 6 [mb false])) (.seq (.reg (sq 7 [mi 1048576])) (.seq (.reg (sq 19 [la 2 3, mv 7, cf 7 [19, 20]] ++ sq 7 [mv 21])) (.seq (.seq (.reg (sq 22 [mv 7, bi .lss 22 0])) (.cond (t0 23) (.seq (.reg (sq 6 [mb true])) .ret) .skip)) (.seq (.reg (sq 24 [la 4 4, mv 7, cf 8 [24, 25]] ++ sq 7 [mv 26])) (.seq (.seq (.reg (sq 27 [mv 7, bi .lss 27 0])) (.cond (t0 28) (.seq (.reg (sq 6 [mb true])) .ret) .skip)) (.seq (.draw (sq 30 [la 2 3, cf 10 [30], la 4 4, cf 11 [32], mv 2, cf 9 [31, 33, 34]] ++ sq 29 [mv 35] ++ sq 36 [ex 29 0, ex 29 1] ++ sq 8 [.alloc 8 40 [.sl 0 (some true) [], .sl 0 (some true) []]] ++ s0 (sr 2 8 36) ++ sq 9 [mv 37]) [[], [0], [], [2, 1], [], [1, 3, 4, 3], [5], [6], [6], [], [9, 7, 5, 0, 1, 2, 3, 4, 5, 6, 7, 9], [8, 10, 0, 1, 2, 3, 4, 5, 6, 7, 8, 9, 10]]) (.seq (.reg (sq 38 [la 2 3, cf 10 [38]] ++ sq 10 [.alloc 10 46 [.sl 0 (some true) [], .sl 0 (some true) []]] ++ s0 (sr 2 10 39))) (.seq (.reg (sq 40 [la 4 4, cf 11 [40]] ++ sq 11 [.alloc 11 50 [.sl 0 (some true) [], .sl 0 (some true) [], .lit (.int .i64 0), .sl 0 (some true) []]] ++ s0 (sr 4 11 41))) (.seq (.reg (sq 43 [la 2 10, la 4 11, mv 2, cf 12 [43, 44, 45]] ++ sq 42 [mv 46] ++ sq 47 [ex 42 0, ex 42 1] ++ sq 12 [.alloc 12 40 [.sl 0 (some true) [], .sl 0 (some true) []]] ++ s0 (sr 2 12 47) ++ sq 13 [mv 48])) (.seq (.seq (.reg (sq 49 [la 2 12, la 2 8, cf 13 [49, 50], nt 51, mv 52] ++ sg 53 false 54 [mv 13, mv 9, .binb true (t0 54) (t0 55)] ++ sq 57 [po 53 56])) (.cond (t0 57) (.seq (.reg (sq 6 [mb false])) .ret) .skip)) (.seq (.seq (.draw (sq 58 [la 2 10, la 2 3, cf 10 [59], cf 14 [58, 60], nt 61]) [[], [], [1], [0, 2, 2], [3]]) (.cond (t0 62) (.seq (.reg (sq 6 [mb false])) .ret) .skip)) (.seq (.seq (.draw (sq 63 [la 4 11, la 4 4, cf 11 [64], cf 15 [63, 65], nt 66]) [[], [], [1], [0, 2, 2], [3]]) (.cond (t0 67) (.seq (.reg (sq 6 [mb false])) .ret) .skip)) (.seq (.reg (sq 14 [mi 1])) (.seq (.reg (sq 68 [la 2 10, mv 14, cf 16 [68, 69]] ++ sq 14 [mv 70])) (.seq (.reg (sq 71 [la 4 11, mv 14, cf 17 [71, 72]] ++ sq 14 [mv 73])) (.seq (.seq (.reg (sq 74 [mv 14, bi .lss 74 0, mv 75] ++ sg 76 false 77 [la 2 12, la 2 8, cf 13 [77, 78], nt 79] ++ sq 81 [po 76 80, mv 81] ++ sg 82 false 83 [mv 13, mv 9, .binb true (t0 83) (t0 84)] ++ sq 86 [po 82 85])) (.cond (t0 86) (.seq (.reg (sq 6 [mb false])) .ret) .skip)) (.seq (.reg (sq 15 [mi 1])) (.seq (.reg (sq 87 [la 2 12, mv 15, cf 18 [87, 88]] ++ sq 15 [mv 89])) (.seq (.reg (sq 16 [mi 1])) (.seq (.reg (sq 90 [la 2 12, mv 16, cf 19 [90, 91]] ++ sq 16 [mv 92])) (.seq (.seq (.reg (sq 93 [mv 16, bi .lss 93 0])) (.cond (t0 94) (.seq (.reg (sq 6 [mb false])) .ret) .skip)) (.seq (.seq (.reg (sq 95 [mv 16, mv 15, bn .neq 95 96])) (.cond (t0 97) (.seq (.reg (sq 6 [mb false])) .ret) .skip)) (.seq (.draw (sq 99 [la 2 3, cf 10 [99], la 4 4, cf 11 [101], mv 2, cf 12 [100, 102, 103]] ++ sq 98 [mv 104] ++ sq 105 [ex 98 0, ex 98 1] ++ sq 17 [.alloc 17 40 [.sl 0 (some true) [], .sl 0 (some true) []]] ++ s0 (sr 2 17 105) ++ sq 18 [mv 106]) [[], [0], [], [2, 1], [], [1, 3, 4, 3], [5], [6], [6], [], [9, 7, 5, 0, 1, 2, 3, 4, 5, 6, 7, 9], [8, 10, 0, 1, 2, 3, 4, 5, 6, 7, 8, 9, 10]]) (.seq (.seq (.reg (sq 107 [la 2 17, la 2 8, cf 13 [107, 108], nt 109, mv 110] ++ sg 111 false 112 [mv 18, mv 9, .binb true (t0 112) (t0 113)] ++ sq 115 [po 111 114])) (.cond (t0 115) (.seq (.reg (sq 6 [mb false])) .ret) .skip)) (.seq (.reg (sq 16 [mi 1])) (.seq (.reg (sq 116 [la 2 12, mv 16, cf 19 [116, 117]] ++ sq 16 [mv 118])) (.seq (.seq (.reg (sq 119 [mv 16, bi .lss 119 0])) (.cond (t0 120) (.seq (.reg (sq 6 [mb false])) .ret) .skip)) (.seq (.seq (.reg (sq 121 [mv 16, mv 15, bn .neq 121 122])) (.cond (t0 123) (.seq (.reg (sq 6 [mb false])) .ret) .skip)) (.seq (.reg (sq 6 [mb true])) .ret))))))))))))))))))))))))))))))
theorem fn3 : MFn Tryz.prog 3 mc3 124 [.tmp 6] := ⟨_, Tryz.func3, by kernel_rfl, Tryz.ntmps3, by kernel_rfl⟩
noncomputable def F_laws_FnExactLoopAgain (aSys : ((List Int) × (List ((List Int) × (List Int))))) (aL : ((List Int) × (List (Int × Int × (List Int))) × Int × (List (List Int)))) (aMany : Int) : Option Bool :=
 (F_laws_szSystem aSys 1048576).bind fun r =>
 if (decide (r < 0)) = true then
  some true
 else
  (F_laws_szLoop aL r).bind fun r_1 =>
  if (decide (r_1 < 0)) = true then
   some true
  else
   (F_pub10 aSys).bind fun v =>
   (F_pub11 aL).bind fun v_1 =>
   (F_spec_LoopAgain v v_1 aMany).bind fun r_2 =>
   (F_to10 aSys).bind fun v_2 =>
   (F_to11 aL).bind fun v_3 =>
   (F_le12_lld aSys.1.length aSys.2.length aL.1.length aL.2.1.length aL.2.2.2.length v_2 v_3 aMany).bind fun g =>
   (F_le13_ld g.1.length g.2.1.length (g.1, g.2.1) r_2.1).bind fun q =>
   if q = true then
    if (g.2.2 != r_2.2) = true then
     some false
    else
     (F_to10 aSys).bind fun v_4 =>
     (F_le14_ll aSys.1.length aSys.2.length aSys.1.length aSys.2.length v_2 v_4).bind fun q_1 =>
     if q_1 = true then
      (F_to11 aL).bind fun v_5 =>
      (F_le15_ll aL.1.length aL.2.1.length aL.2.2.2.length aL.1.length aL.2.1.length aL.2.2.2.length v_3 v_5).bind fun q_2 =>
      if q_2 = true then
       (F_mk16 aSys.1.length aSys.2.length v_2 1).bind fun m =>
       (F_mk17 aL.1.length aL.2.1.length aL.2.2.2.length v_3 m.2).bind fun m_1 =>
       if (decide (m_1.2 < 0)) = true then
        some false
       else
        (F_le13_ld g.1.length g.2.1.length (g.1, g.2.1) r_2.1).bind fun q_3 =>
        if q_3 = true then
         if (g.2.2 != r_2.2) = true then
          some false
         else
          (F_mk18 g.1.length g.2.1.length (g.1, g.2.1) 1).bind fun m_2 =>
          (F_le19_ld g.1.length g.2.1.length m_2.1 1).bind fun q_4 =>
          if (decide (q_4 < 0)) = true then
           some false
          else
           if (q_4 != m_2.2) = true then
            some false
           else
            (F_to10 aSys).bind fun v_6 =>
            (F_to11 aL).bind fun v_7 =>
            (F_le12_lld aSys.1.length aSys.2.length aL.1.length aL.2.1.length aL.2.2.2.length v_6 v_7 aMany).bind fun g_1 =>
            (F_le13_ld g_1.1.length g_1.2.1.length (g_1.1, g_1.2.1) r_2.1).bind fun q_5 =>
            if q_5 = true then
             if (g_1.2.2 != r_2.2) = true then
              some false
             else
              (F_le19_ld g.1.length g.2.1.length m_2.1 1).bind fun q_6 =>
              if (decide (q_6 < 0)) = true then
               some false
              else
               if (q_6 != m_2.2) = true then
                some false
               else
                some true
            else
             some false
        else
         some false
      else
       some false
     else
      some false
   else
    some false
instance c_laws_FnExactLoopAgain {aSys : ((List Int) × (List ((List Int) × (List Int))))} {aL : ((List Int) × (List (Int × Int × (List Int))) × Int × (List (List Int)))} {aMany : Int} : HasC (F_laws_FnExactLoopAgain aSys aL aMany) fun rr => PFun Tryz.prog 3 [D_laws_System aSys, D_laws_Loop aL, iD aMany] (bD rr) := ⟨@fun rr h => by
  delta F_laws_FnExactLoopAgain at h
  refine fn3.pureL (vcm_sound ?_)
  delta mc3
  refine stp ?_
  refine rC h fun r hr h => ?_
  refine iF h fun hc h => ?_
  refine rC h fun r_1 hr_1 h => ?_
  refine iF h fun hc h => ?_
  refine dC h fun v hv h => ?_
  refine dC h fun v_1 hv_1 h => ?_
  refine dCN h fun r_2 hr_2 h => ?_
  refine drQ_of (by kernel_rfl) (stp ?_)
  refine rCo [] [(900000, 39), (900001, 200000)] h fun v_2 hv_2 h => ?_
  refine rCo [] [(900000, 41), (900001, 200001), (900002, 200002)] h fun v_3 hv_3 h => ?_
  refine rCo [(0, 39), (1, 200000), (2, 41), (3, 200001), (4, 200002)] [(900000, 46), (900001, 200003)] h fun g hg h => ?_
  refine rCo [(0, 46), (1, 200003)] [] h fun q hq h => ?_
  refine iT h fun hc h => ?_
  refine iF h fun hc h => ?_
  refine dCo [] [(900000, 60), (900001, 200004)] h fun v_4 hv_4 h => ?_
  refine dCo [(0, 39), (1, 200000), (2, 60), (3, 200004)] [] h fun q_1 hq_1 h => ?_
  refine drQ_of (by kernel_rfl) (stp ?_)
  refine iT h fun hc h => ?_
  refine dCo [] [(900000, 65), (900001, 200005), (900002, 200006)] h fun v_5 hv_5 h => ?_
  refine dCo [(0, 41), (1, 200001), (2, 200002), (3, 65), (4, 200005), (5, 200006)] [] h fun q_2 hq_2 h => ?_
  refine drQ_of (by kernel_rfl) (stp ?_)
  refine iT h fun hc h => ?_
  refine rCo [(0, 39), (1, 200000)] [] h fun m hm h => ?_
  refine rCo [(0, 41), (1, 200001), (2, 200002)] [] h fun m_1 hm_1 h => ?_
  refine iF h fun hc h => ?_
  refine rCo [(0, 46), (1, 200003)] [] h fun q_3 hq_3 h => ?_
  refine iT h fun hc h => ?_
  refine iF h fun hc h => ?_
  refine rCo [(0, 46), (1, 200003)] [] h fun m_2 hm_2 h => ?_
  refine rCo [(0, 46), (1, 200003)] [] h fun q_4 hq_4 h => ?_
  refine iF h fun hc h => ?_
  refine iF h fun hc h => ?_
  refine dCo [] [(900000, 100), (900001, 200007)] h fun v_6 hv_6 h => ?_
  refine dCo [] [(900000, 102), (900001, 200008), (900002, 200009)] h fun v_7 hv_7 h => ?_
  refine dCo [(0, 100), (1, 200007), (2, 102), (3, 200008), (4, 200009)] [(900000, 104), (900001, 200010)] h fun g_1 hg_1 h => ?_
  refine drQ_of (by kernel_rfl) (stp ?_)
  refine rCo [(0, 104), (1, 200010)] [] h fun q_5 hq_5 h => ?_
  refine iT h fun hc h => ?_
  refine iF h fun hc h => ?_
  refine rCo [(0, 46), (1, 200003)] [] h fun q_6 hq_6 h => ?_
  exact aut⟩
end Go.Proofs.YtklfjpilhbkekaaGreat
