/- Functions of the program and the equations that they compute, the tests of the law; nothing is assumed. -/
import Derived.Test.YtklfjpilhbkekaaGreatYb
set_option linter.unusedSimpArgs false
set_option linter.unusedVariables false
set_option linter.unusedSectionVars false
set_option linter.unnecessarySimpa false
namespace Go.Proofs.YtklfjpilhbkekaaGreat
open Go Abx
attribute [local irreducible] vcm vgo vdr vrun vdrun MWp GhostQ BrC BrO BrG BrD BrH AmbO callR callD drQ EnvLe StoLe
set_option maxHeartbeats 4000000
def D_laws_Sig (x : (List Int)) : D := .agg [(slD 1 iD) x]
def D_laws_Rule (x : ((List Int) × (List Int))) : D := .agg [(slD 1 iD) x.1, (slD 1 iD) x.2]
def D_laws_System (x : ((List Int) × (List ((List Int) × (List Int))))) : D := .agg [(slD 1 iD) x.1, (slD 2 D_laws_Rule) x.2]
instance : Cel D_laws_Sig 1 := ⟨fun _ => rfl⟩
instance : Cel D_laws_Rule 2 := ⟨fun _ => rfl⟩
instance : Cel D_laws_System 2 := ⟨fun _ => rfl⟩
attribute [go_sem] D_laws_Sig D_laws_Rule D_laws_System
def mc105 : MCode :=
 (.seq (.reg (sq 4 [mi 0])) (.seq (.reg (sq 5 [mv 1, mv 0, ln 6, bn .sub 5 7] ++ sq 1 [mv 8])) (.seq (.seq (.reg (sq 9 [mv 1, bi .lss 9 0])) (.cond (t0 10) (.seq (.reg (sq 4 [mi (-1)])) .ret) .skip)) (.seq (.reg (sq 11 [mv 1] ++ sq 4 [mv 11])) .ret))))
theorem fn105 : MFn Tryz.prog 105 mc105 12 [.tmp 4] := ⟨_, Tryz.func105, by kernel_rfl, Tryz.ntmps105, by kernel_rfl⟩
noncomputable def F_laws_szInt64S (a : (List Int)) (left : Int) : Option Int :=
 if (decide ((IntKind.i64.wrap (left - (a.length : Int))) < 0)) = true then
  some (-1)
 else
  some (IntKind.i64.wrap (left - (a.length : Int)))
instance c_laws_szInt64S {a : (List Int)} {left : Int} : HasC (F_laws_szInt64S a left) fun rr => PFun Tryz.prog 105 [(slD 1 iD) a, iD left] (iD rr) := ⟨@fun rr h => by
  delta F_laws_szInt64S at h
  refine fn105.pureL (vcm_sound ?_)
  delta mc105
  refine stp ?_
  exact aut⟩
def mc44 : MCode :=
 (.seq (.reg (sq 2 [bo 2 24 0] ++ sq 4 [mi 0])) (.seq (.reg (sq 5 [fa 0 2, ld 5, mv 1, cf 105 [6, 7]] ++ sq 1 [mv 8])) (.seq (.seq (.reg (sq 9 [mv 1, bi .lss 9 0])) (.cond (t0 10) (.seq (.reg (sq 4 [mi (-1)])) .ret) .skip)) (.seq (.reg (sq 11 [mv 1] ++ sq 4 [mv 11])) .ret))))
theorem fn44 : MFn Tryz.prog 44 mc44 12 [.tmp 4] := ⟨_, Tryz.func44, by kernel_rfl, Tryz.ntmps44, by kernel_rfl⟩
noncomputable def F_laws_szSig (a : (List Int)) (left : Int) : Option Int :=
 (F_laws_szInt64S a left).bind fun r =>
 if (decide (r < 0)) = true then
  some (-1)
 else
  some r
instance c_laws_szSig {a : (List Int)} {left : Int} : HasC (F_laws_szSig a left) fun rr => PFun Tryz.prog 44 [D_laws_Sig a, iD left] (iD rr) := ⟨@fun rr h => by
  delta F_laws_szSig at h
  refine fn44.pureL (vcm_sound ?_)
  delta mc44
  refine stp ?_
  exact aut⟩
def mc106 : MCode :=
 (.seq (.reg (sq 2 [bo 2 158 0] ++ sq 4 [mi 0])) (.seq (.reg (sq 5 [fa 0 2, ld 5, mv 1, cf 105 [6, 7]] ++ sq 1 [mv 8])) (.seq (.seq (.reg (sq 9 [mv 1, bi .lss 9 0])) (.cond (t0 10) (.seq (.reg (sq 4 [mi (-1)])) .ret) .skip)) (.seq (.reg (sq 11 [fa 1 2, ld 11, mv 1, cf 105 [12, 13]] ++ sq 1 [mv 14])) (.seq (.seq (.reg (sq 15 [mv 1, bi .lss 15 0])) (.cond (t0 16) (.seq (.reg (sq 4 [mi (-1)])) .ret) .skip)) (.seq (.reg (sq 17 [mv 1] ++ sq 4 [mv 17])) .ret))))))
theorem fn106 : MFn Tryz.prog 106 mc106 18 [.tmp 4] := ⟨_, Tryz.func106, by kernel_rfl, Tryz.ntmps106, by kernel_rfl⟩
noncomputable def F_laws_szRule (a : ((List Int) × (List Int))) (left : Int) : Option Int :=
 (F_laws_szInt64S a.1 left).bind fun r =>
 if (decide (r < 0)) = true then
  some (-1)
 else
  (F_laws_szInt64S a.2 r).bind fun r_1 =>
  if (decide (r_1 < 0)) = true then
   some (-1)
  else
   some r_1
instance c_laws_szRule {a : ((List Int) × (List Int))} {left : Int} : HasC (F_laws_szRule a left) fun rr => PFun Tryz.prog 106 [D_laws_Rule a, iD left] (iD rr) := ⟨@fun rr h => by
  delta F_laws_szRule at h
  refine fn106.pureL (vcm_sound ?_)
  delta mc106
  refine stp ?_
  exact aut⟩
def mc45 : MCode :=
 (.seq (.reg (sq 4 [mi 0])) (.seq (.reg (sq 6 [mv 1, mv 0, ln 7, bn .sub 6 8] ++ sq 1 [mv 9])) (.seq (.seq (.reg (sq 10 [mv 1, bi .lss 10 0])) (.cond (t0 11) (.seq (.reg (sq 4 [mi (-1)])) .ret) .skip)) (.seq (.seq (.reg (sq 5 [mi 0])) (.block 0 (.loop (.seq (.seq (.reg (sq 12 [mv 5, mv 0, ln 13, bn .lss 12 14])) (.cond (t0 15) .skip (.exit 0))) (.seq (.block 1 (.seq (.reg (sq 18 [mv 0, mv 5, ix 2 18 19, la 2 20, mv 1, cf 106 [21, 22]] ++ sq 1 [mv 23])) (.seq (.reg (sq 24 [mv 1, bi .lss 24 0])) (.cond (t0 25) (.seq (.reg (sq 4 [mi (-1)])) .ret) .skip)))) (.reg (sq 16 [mv 5, bi .add 16 1] ++ sq 5 [mv 17]))))))) (.seq (.reg (sq 26 [mv 1] ++ sq 4 [mv 26])) .ret)))))
theorem fn45 : MFn Tryz.prog 45 mc45 27 [.tmp 4] := ⟨_, Tryz.func45, by kernel_rfl, Tryz.ntmps45, by kernel_rfl⟩
noncomputable def F_laws_szRuleS_l1 (a : (List ((List Int) × (List Int)))) : (Int × Int) → Option ((Int × Int) ⊕ Int)
 | (left_1, i) =>
  if (decide (i < (a.length : Int))) = true then
   if 0 ≤ i ∧ i < (a.length : Int) then
    (F_laws_szRule ((a.getD i.toNat default).1, (a.getD i.toNat default).2) left_1).bind fun r =>
    if (decide (r < 0)) = true then
     Option.map Sum.inr (
      some (-1))
    else
     some (.inl (r, (IntKind.i64.wrap (i + 1))))
   else none
  else
   Option.map Sum.inr (
    some left_1)
noncomputable def F_laws_szRuleS (a : (List ((List Int) × (List Int)))) (left : Int) : Option Int :=
 if (decide ((IntKind.i64.wrap (left - (a.length : Int))) < 0)) = true then
  some (-1)
 else
  loopC (F_laws_szRuleS_l1 a) ((IntKind.i64.wrap (left - (a.length : Int))), 0)
instance c_laws_szRuleS {a : (List ((List Int) × (List Int)))} {left : Int} : HasC (F_laws_szRuleS a left) fun rr => PFun Tryz.prog 45 [(slD 2 D_laws_Rule) a, iD left] (iD rr) := ⟨@fun rr h => by
  delta F_laws_szRuleS at h
  refine fn45.pureL (vcm_sound ?_)
  delta mc45
  refine stp ?_
  refine iF h fun hc h => ?_
  refine m_lW h [1, 4, 5, 12, 13, 14, 15, 16, 17, 18, 19, 20, 21, 22, 23, 24, 25] (fun pp => [(1, .d (iD pp.1)), (5, .d (iD pp.2))]) (fun pp => []) ?_
  rintro ⟨left_1, i⟩ t1 h hb1
  unfold F_laws_szRuleS_l1 at h
  try dsimp only at h
  refine vcm_sound (stp ?_)
  exact aut⟩
def mc7 : MCode :=
 (.seq (.reg (sq 2 [bo 2 27 0] ++ sq 4 [mi 0])) (.seq (.reg (sq 5 [fa 0 2, la 1 5, mv 1, cf 44 [6, 7]] ++ sq 1 [mv 8])) (.seq (.seq (.reg (sq 9 [mv 1, bi .lss 9 0])) (.cond (t0 10) (.seq (.reg (sq 4 [mi (-1)])) .ret) .skip)) (.seq (.reg (sq 11 [fa 1 2, ld 11, mv 1, cf 45 [12, 13]] ++ sq 1 [mv 14])) (.seq (.seq (.reg (sq 15 [mv 1, bi .lss 15 0])) (.cond (t0 16) (.seq (.reg (sq 4 [mi (-1)])) .ret) .skip)) (.seq (.reg (sq 17 [mv 1] ++ sq 4 [mv 17])) .ret))))))
theorem fn7 : MFn Tryz.prog 7 mc7 18 [.tmp 4] := ⟨_, Tryz.func7, by kernel_rfl, Tryz.ntmps7, by kernel_rfl⟩
noncomputable def F_laws_szSystem (a : ((List Int) × (List ((List Int) × (List Int))))) (left : Int) : Option Int :=
 (F_laws_szSig a.1 left).bind fun r =>
 if (decide (r < 0)) = true then
  some (-1)
 else
  (F_laws_szRuleS a.2 r).bind fun r_1 =>
  if (decide (r_1 < 0)) = true then
   some (-1)
  else
   some r_1
instance c_laws_szSystem {a : ((List Int) × (List ((List Int) × (List Int))))} {left : Int} : HasC (F_laws_szSystem a left) fun rr => PFun Tryz.prog 7 [D_laws_System a, iD left] (iD rr) := ⟨@fun rr h => by
  delta F_laws_szSystem at h
  refine fn7.pureL (vcm_sound ?_)
  delta mc7
  refine stp ?_
  exact aut⟩
def mc24 : MCode :=
 (.seq (.reg (sq 4 [mb false])) (.seq (.seq (.reg (sq 6 [mv 0, ln 6, mv 1, ln 8, bn .neq 7 9])) (.cond (t0 10) (.seq (.reg (sq 4 [mb false])) .ret) .skip)) (.seq (.seq (.reg (sq 5 [mi 0])) (.block 0 (.loop (.seq (.seq (.reg (sq 11 [mv 5, mv 0, ln 12, bn .lss 11 13])) (.cond (t0 14) .skip (.exit 0))) (.seq (.block 1 (.seq (.draw (sq 17 [mv 0, mv 5, ix 1 17 18, ld 19, mv 1, mv 5, ix 1 21 22, ld 23, bn .neq 20 24]) [[], [], [0, 1], [2], [], [], [4, 5], [6], [3, 7]]) (.cond (t0 25) (.seq (.reg (sq 4 [mb false])) .ret) .skip))) (.reg (sq 15 [mv 5, bi .add 15 1] ++ sq 5 [mv 16]))))))) (.seq (.reg (sq 4 [mb true])) .ret))))
theorem fn24 : MFn Tryz.prog 24 mc24 26 [.tmp 4] := ⟨_, Tryz.func24, by kernel_rfl, Tryz.ntmps24, by kernel_rfl⟩
noncomputable def F_laws_eqInt64S_l1 (a : (List Int)) (b : (List Int)) : Int → Option (Int ⊕ Bool)
 | i =>
  if (decide (i < (a.length : Int))) = true then
   if 0 ≤ i ∧ i < (a.length : Int) then
    if 0 ≤ i ∧ i < (b.length : Int) then
     if ((a.getD i.toNat default) != (b.getD i.toNat default)) = true then
      Option.map Sum.inr (
       some false)
     else
      some (.inl (IntKind.i64.wrap (i + 1)))
    else none
   else none
  else
   Option.map Sum.inr (
    some true)
noncomputable def F_laws_eqInt64S (a : (List Int)) (b : (List Int)) : Option Bool :=
 if ((a.length : Int) != (b.length : Int)) = true then
  some false
 else
  loopC (F_laws_eqInt64S_l1 a b) 0
instance c_laws_eqInt64S {a : (List Int)} {b : (List Int)} : HasC (F_laws_eqInt64S a b) fun rr => PFun Tryz.prog 24 [(slD 1 iD) a, (slD 1 iD) b] (bD rr) := ⟨@fun rr h => by
  delta F_laws_eqInt64S at h
  refine fn24.pureL (vcm_sound ?_)
  delta mc24
  refine stp ?_
  refine iF h fun hc h => ?_
  refine m_lW h [4, 5, 11, 12, 13, 14, 15, 16, 17, 18, 19, 20, 21, 22, 23, 24, 25] (fun pp => [(5, .d (iD pp))]) (fun pp => []) ?_
  rintro i t1 h hb1
  unfold F_laws_eqInt64S_l1 at h
  try dsimp only at h
  refine vcm_sound (stp ?_)
  exact aut⟩
def mc64 : MCode :=
 (.seq (.reg (sq 2 [bo 2 43 0, bo 3 43 1, mb false])) (.seq (.seq (.reg (sq 5 [fa 0 2, ld 5, fa 0 3, ld 7, cf 24 [6, 8], nt 9])) (.cond (t0 10) (.seq (.reg (sq 4 [mb false])) .ret) .skip)) (.seq (.reg (sq 4 [mb true])) .ret)))
theorem fn64 : MFn Tryz.prog 64 mc64 11 [.tmp 4] := ⟨_, Tryz.func64, by kernel_rfl, Tryz.ntmps64, by kernel_rfl⟩
noncomputable def F_laws_eqSig (a : (List Int)) (b : (List Int)) : Option Bool :=
 (F_laws_eqInt64S a b).bind fun r =>
 if r = true then
  some true
 else
  some false
instance c_laws_eqSig {a : (List Int)} {b : (List Int)} : HasC (F_laws_eqSig a b) fun rr => PFun Tryz.prog 64 [D_impl_Sig a, D_impl_Sig b] (bD rr) := ⟨@fun rr h => by
  delta F_laws_eqSig at h
  refine fn64.pureL (vcm_sound ?_)
  delta mc64
  refine stp ?_
  exact aut⟩
def mc130 : MCode :=
 (.seq (.reg (sq 2 [bo 2 147 0, bo 3 147 1, mb false])) (.seq (.seq (.reg (sq 5 [fa 0 2, ld 5, fa 0 3, ld 7, cf 24 [6, 8], nt 9])) (.cond (t0 10) (.seq (.reg (sq 4 [mb false])) .ret) .skip)) (.seq (.seq (.reg (sq 11 [fa 1 2, ld 11, fa 1 3, ld 13, cf 24 [12, 14], nt 15])) (.cond (t0 16) (.seq (.reg (sq 4 [mb false])) .ret) .skip)) (.seq (.reg (sq 4 [mb true])) .ret))))
theorem fn130 : MFn Tryz.prog 130 mc130 17 [.tmp 4] := ⟨_, Tryz.func130, by kernel_rfl, Tryz.ntmps130, by kernel_rfl⟩
noncomputable def F_laws_eqRule (a : ((List Int) × (List Int))) (b : ((List Int) × (List Int))) : Option Bool :=
 (F_laws_eqInt64S a.1 b.1).bind fun r =>
 if r = true then
  (F_laws_eqInt64S a.2 b.2).bind fun r_1 =>
  if r_1 = true then
   some true
  else
   some false
 else
  some false
instance c_laws_eqRule {a : ((List Int) × (List Int))} {b : ((List Int) × (List Int))} : HasC (F_laws_eqRule a b) fun rr => PFun Tryz.prog 130 [D_impl_Rule a, D_impl_Rule b] (bD rr) := ⟨@fun rr h => by
  delta F_laws_eqRule at h
  refine fn130.pureL (vcm_sound ?_)
  delta mc130
  refine stp ?_
  exact aut⟩
def mc65 : MCode :=
 (.seq (.reg (sq 4 [mb false])) (.seq (.seq (.reg (sq 6 [mv 0, ln 6, mv 1, ln 8, bn .neq 7 9])) (.cond (t0 10) (.seq (.reg (sq 4 [mb false])) .ret) .skip)) (.seq (.seq (.reg (sq 5 [mi 0])) (.block 0 (.loop (.seq (.seq (.reg (sq 11 [mv 5, mv 0, ln 12, bn .lss 11 13])) (.cond (t0 14) .skip (.exit 0))) (.seq (.block 1 (.seq (.draw (sq 17 [mv 0, mv 5, ix 2 17 18, la 2 19, mv 1, mv 5, ix 2 21 22, la 2 23, cf 130 [20, 24], nt 25]) [[], [], [0, 1], [2], [], [], [4, 5], [6], [3, 7], [8]]) (.cond (t0 26) (.seq (.reg (sq 4 [mb false])) .ret) .skip))) (.reg (sq 15 [mv 5, bi .add 15 1] ++ sq 5 [mv 16]))))))) (.seq (.reg (sq 4 [mb true])) .ret))))
theorem fn65 : MFn Tryz.prog 65 mc65 27 [.tmp 4] := ⟨_, Tryz.func65, by kernel_rfl, Tryz.ntmps65, by kernel_rfl⟩
noncomputable def F_laws_eqRuleS_l1 (a : (List ((List Int) × (List Int)))) (b : (List ((List Int) × (List Int)))) : Int → Option (Int ⊕ Bool)
 | i =>
  if (decide (i < (a.length : Int))) = true then
   if 0 ≤ i ∧ i < (a.length : Int) then
    if 0 ≤ i ∧ i < (b.length : Int) then
     (F_laws_eqRule ((a.getD i.toNat default).1, (a.getD i.toNat default).2) ((b.getD i.toNat default).1, (b.getD i.toNat default).2)).bind fun r =>
     if r = true then
      some (.inl (IntKind.i64.wrap (i + 1)))
     else
      Option.map Sum.inr (
       some false)
    else none
   else none
  else
   Option.map Sum.inr (
    some true)
noncomputable def F_laws_eqRuleS (a : (List ((List Int) × (List Int)))) (b : (List ((List Int) × (List Int)))) : Option Bool :=
 if ((a.length : Int) != (b.length : Int)) = true then
  some false
 else
  loopC (F_laws_eqRuleS_l1 a b) 0
instance c_laws_eqRuleS {a : (List ((List Int) × (List Int)))} {b : (List ((List Int) × (List Int)))} : HasC (F_laws_eqRuleS a b) fun rr => PFun Tryz.prog 65 [(slD 2 D_impl_Rule) a, (slD 2 D_impl_Rule) b] (bD rr) := ⟨@fun rr h => by
  delta F_laws_eqRuleS at h
  refine fn65.pureL (vcm_sound ?_)
  delta mc65
  refine stp ?_
  refine iF h fun hc h => ?_
  refine m_lW h [4, 5, 11, 12, 13, 14, 15, 16, 17, 18, 19, 20, 21, 22, 23, 24, 25, 26] (fun pp => [(5, .d (iD pp))]) (fun pp => []) ?_
  rintro i t1 h hb1
  unfold F_laws_eqRuleS_l1 at h
  try dsimp only at h
  refine vcm_sound (stp ?_)
  exact aut⟩
def mc14 : MCode :=
 (.seq (.reg (sq 2 [bo 2 46 0, bo 3 46 1, mb false])) (.seq (.seq (.reg (sq 5 [fa 0 2, la 1 5, fa 0 3, la 1 7, cf 64 [6, 8], nt 9])) (.cond (t0 10) (.seq (.reg (sq 4 [mb false])) .ret) .skip)) (.seq (.seq (.reg (sq 11 [fa 1 2, ld 11, fa 1 3, ld 13, cf 65 [12, 14], nt 15])) (.cond (t0 16) (.seq (.reg (sq 4 [mb false])) .ret) .skip)) (.seq (.reg (sq 4 [mb true])) .ret))))
theorem fn14 : MFn Tryz.prog 14 mc14 17 [.tmp 4] := ⟨_, Tryz.func14, by kernel_rfl, Tryz.ntmps14, by kernel_rfl⟩
noncomputable def F_laws_eqSystem (a : ((List Int) × (List ((List Int) × (List Int))))) (b : ((List Int) × (List ((List Int) × (List Int))))) : Option Bool :=
 (F_laws_eqSig a.1 b.1).bind fun r =>
 if r = true then
  (F_laws_eqRuleS a.2 b.2).bind fun r_1 =>
  if r_1 = true then
   some true
  else
   some false
 else
  some false
instance c_laws_eqSystem {a : ((List Int) × (List ((List Int) × (List Int))))} {b : ((List Int) × (List ((List Int) × (List Int))))} : HasC (F_laws_eqSystem a b) fun rr => PFun Tryz.prog 14 [D_impl_System a, D_impl_System b] (bD rr) := ⟨@fun rr h => by
  delta F_laws_eqSystem at h
  refine fn14.pureL (vcm_sound ?_)
  delta mc14
  refine stp ?_
  exact aut⟩
def mc131 : MCode :=
 (.seq (.reg (sq 4 [mb false])) (.seq (.seq (.reg (sq 6 [mv 0, ln 6, mv 1, ln 8, bn .neq 7 9])) (.cond (t0 10) (.seq (.reg (sq 4 [mb false])) .ret) .skip)) (.seq (.seq (.reg (sq 5 [mi 0])) (.block 0 (.loop (.seq (.seq (.reg (sq 11 [mv 5, mv 0, ln 12, bn .lss 11 13])) (.cond (t0 14) .skip (.exit 0))) (.seq (.block 1 (.seq (.draw (sq 17 [mv 0, mv 5, ix 1 17 18, ld 19, mv 1, mv 5, ix 1 21 22, ld 23, cf 24 [20, 24], nt 25]) [[], [], [0, 1], [2], [], [], [4, 5], [6], [3, 7], [8]]) (.cond (t0 26) (.seq (.reg (sq 4 [mb false])) .ret) .skip))) (.reg (sq 15 [mv 5, bi .add 15 1] ++ sq 5 [mv 16]))))))) (.seq (.reg (sq 4 [mb true])) .ret))))
theorem fn131 : MFn Tryz.prog 131 mc131 27 [.tmp 4] := ⟨_, Tryz.func131, by kernel_rfl, Tryz.ntmps131, by kernel_rfl⟩
noncomputable def F_laws_eqInt64SS_l1 (a : (List (List Int))) (b : (List (List Int))) : Int → Option (Int ⊕ Bool)
 | i =>
  if (decide (i < (a.length : Int))) = true then
   if 0 ≤ i ∧ i < (a.length : Int) then
    if 0 ≤ i ∧ i < (b.length : Int) then
     (F_laws_eqInt64S (a.getD i.toNat default) (b.getD i.toNat default)).bind fun r =>
     if r = true then
      some (.inl (IntKind.i64.wrap (i + 1)))
     else
      Option.map Sum.inr (
       some false)
    else none
   else none
  else
   Option.map Sum.inr (
    some true)
noncomputable def F_laws_eqInt64SS (a : (List (List Int))) (b : (List (List Int))) : Option Bool :=
 if ((a.length : Int) != (b.length : Int)) = true then
  some false
 else
  loopC (F_laws_eqInt64SS_l1 a b) 0
instance c_laws_eqInt64SS {a : (List (List Int))} {b : (List (List Int))} : HasC (F_laws_eqInt64SS a b) fun rr => PFun Tryz.prog 131 [(slD 1 (slD 1 iD)) a, (slD 1 (slD 1 iD)) b] (bD rr) := ⟨@fun rr h => by
  delta F_laws_eqInt64SS at h
  refine fn131.pureL (vcm_sound ?_)
  delta mc131
  refine stp ?_
  refine iF h fun hc h => ?_
  refine m_lW h [4, 5, 11, 12, 13, 14, 15, 16, 17, 18, 19, 20, 21, 22, 23, 24, 25, 26] (fun pp => [(5, .d (iD pp))]) (fun pp => []) ?_
  rintro i t1 h hb1
  unfold F_laws_eqInt64SS_l1 at h
  try dsimp only at h
  refine vcm_sound (stp ?_)
  exact aut⟩
def mc71 : MCode :=
 (.seq (.reg (sq 4 [mi 0])) (.seq (.seq (.reg (sq 5 [mi 0])) (.block 0 (.loop (.seq (.seq (.reg (sq 6 [mv 5, mv 0, ln 7, bn .lss 6 8])) (.cond (t0 9) .skip (.exit 0))) (.seq (.block 1 (.seq (.seq (.reg (sq 12 [mv 0, mv 5, ix 1 12 13, ld 14, mv 1, bn .neq 15 16])) (.cond (t0 17) (.seq (.reg (sq 4 [mi (-1)])) .ret) .skip)) (.reg (sq 18 [mv 1, bi .add 18 1] ++ sq 1 [mv 19])))) (.reg (sq 10 [mv 5, bi .add 10 1] ++ sq 5 [mv 11]))))))) (.seq (.reg (sq 20 [mv 1] ++ sq 4 [mv 20])) .ret)))
theorem fn71 : MFn Tryz.prog 71 mc71 21 [.tmp 4] := ⟨_, Tryz.func71, by kernel_rfl, Tryz.ntmps71, by kernel_rfl⟩
noncomputable def F_laws_heldInt64S_l1 (a : (List Int)) : (Int × Int) → Option ((Int × Int) ⊕ Int)
 | (k_1, i) =>
  if (decide (i < (a.length : Int))) = true then
   if 0 ≤ i ∧ i < (a.length : Int) then
    if ((a.getD i.toNat default) != k_1) = true then
     Option.map Sum.inr (
      some (-1))
    else
     some (.inl ((IntKind.i64.wrap (k_1 + 1)), (IntKind.i64.wrap (i + 1))))
   else none
  else
   Option.map Sum.inr (
    some k_1)
noncomputable def F_laws_heldInt64S (a : (List Int)) (k : Int) : Option Int :=
 loopC (F_laws_heldInt64S_l1 a) (k, 0)
instance c_laws_heldInt64S {a : (List Int)} {k : Int} : HasC (F_laws_heldInt64S a k) fun rr => PFun Tryz.prog 71 [(slD 1 iD) a, iD k] (iD rr) := ⟨@fun rr h => by
  delta F_laws_heldInt64S at h
  refine fn71.pureL (vcm_sound ?_)
  delta mc71
  refine stp ?_
  refine m_lW h [1, 4, 5, 6, 7, 8, 9, 10, 11, 12, 13, 14, 15, 16, 17, 18, 19] (fun pp => [(1, .d (iD pp.1)), (5, .d (iD pp.2))]) (fun pp => []) ?_
  rintro ⟨k_1, i⟩ t1 h hb1
  unfold F_laws_heldInt64S_l1 at h
  try dsimp only at h
  refine vcm_sound (stp ?_)
  exact aut⟩
end Go.Proofs.YtklfjpilhbkekaaGreat
