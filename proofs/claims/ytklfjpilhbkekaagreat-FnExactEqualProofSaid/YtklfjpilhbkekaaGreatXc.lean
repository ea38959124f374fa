/- Functions of the program and the equations that they compute, third part; nothing is assumed. -/
import Derived.Test.YtklfjpilhbkekaaGreatXb
set_option linter.unusedSimpArgs false
set_option linter.unusedVariables false
set_option linter.unusedSectionVars false
set_option linter.unnecessarySimpa false
namespace Go.Proofs.YtklfjpilhbkekaaGreat
open Go Abx
attribute [local irreducible] vcm vgo vdr vrun vdrun MWp GhostQ BrC BrO BrG BrD BrH AmbO callR callD drQ EnvLe StoLe
set_option maxHeartbeats 4000000
def D_impl_Node (x : (Int × (List Int) × (List (List Int)) × (List Int))) : D := .agg [iD x.1, (slD 1 iD) x.2.1, (slD 1 (slD 1 iD)) x.2.2.1, (slD 1 iD) x.2.2.2]
def D_impl_Proof (x : (List (Int × (List Int) × (List (List Int)) × (List Int)))) : D := .agg [(slD 4 D_impl_Node) x]
instance : Cel D_impl_Node 4 := ⟨fun _ => rfl⟩
instance : Cel D_impl_Proof 1 := ⟨fun _ => rfl⟩
attribute [go_sem] D_impl_Node D_impl_Proof
def mc196 : MCode :=
 (.seq (.reg (sq 3 [bo 3 46 0] ++ sq 6 [mb false])) (.seq (.reg (sq 7 [la 2 3, mv 1, cf 98 [7, 8], mv 9] ++ sg 10 true 11 [mv 2, .callf 49 [(t0 11), (i0 0), (i0 60)]] ++ sq 13 [pa 10 12] ++ sq 6 [mv 13])) .ret))
theorem fn196 : MFn Tryz.prog 196 mc196 14 [.tmp 6] := ⟨_, Tryz.func196, by kernel_rfl, Tryz.ntmps196, by kernel_rfl⟩
noncomputable def F_spec_l22Right (sys : ((List Int) × (List ((List Int) × (List Int))))) (t : (List Int)) (fuel : Int) : Option Bool :=
 (F_spec_l7Right sys t).bind fun r =>
 if r = true then
  (F_spec_l1In fuel 0 60).bind fun r_1 =>
  some r_1
 else
  some false
instance c_spec_l22Right {sys : ((List Int) × (List ((List Int) × (List Int))))} {t : (List Int)} {fuel : Int} : HasC (F_spec_l22Right sys t fuel) fun rr => PFun Tryz.prog 196 [D_impl_System sys, (slD 1 iD) t, iD fuel] (bD rr) := ⟨@fun rr h => by
  delta F_spec_l22Right at h
  refine fn196.pureL (vcm_sound ?_)
  delta mc196
  refine stp ?_
  exact aut⟩
def mc198 : MCode :=
 (.seq (.reg (sq 3 [bo 3 46 0] ++ sq 6 [mb false])) (.seq (.reg (sq 7 [la 2 3, mv 1, cf 98 [7, 8], mv 9] ++ sg 10 true 11 [mv 2, .callf 49 [(t0 11), (i0 1), (i0 3)]] ++ sq 13 [pa 10 12] ++ sq 6 [mv 13])) .ret))
theorem fn198 : MFn Tryz.prog 198 mc198 14 [.tmp 6] := ⟨_, Tryz.func198, by kernel_rfl, Tryz.ntmps198, by kernel_rfl⟩
noncomputable def F_spec_l8Right (sys : ((List Int) × (List ((List Int) × (List Int))))) (t : (List Int)) (strategy : Int) : Option Bool :=
 (F_spec_l7Right sys t).bind fun r =>
 if r = true then
  (F_spec_l1In strategy 1 3).bind fun r_1 =>
  some r_1
 else
  some false
instance c_spec_l8Right {sys : ((List Int) × (List ((List Int) × (List Int))))} {t : (List Int)} {strategy : Int} : HasC (F_spec_l8Right sys t strategy) fun rr => PFun Tryz.prog 198 [D_impl_System sys, (slD 1 iD) t, iD strategy] (bD rr) := ⟨@fun rr h => by
  delta F_spec_l8Right at h
  refine fn198.pureL (vcm_sound ?_)
  delta mc198
  refine stp ?_
  exact aut⟩
def mc246 : MCode :=
 (.seq (.reg (sq 3 [bo 3 46 0] ++ sq 6 [mi 0])) (.seq (.reg (sq 11 [fa 0 3, la 1 11, mv 1, mv 2, cf 163 [12, 13, 14]] ++ sq 7 [mv 15])) (.seq (.seq (.reg (sq 8 [mi 0])) (.block 0 (.loop (.seq (.seq (.reg (sq 16 [mv 8, fa 1 3, ld 17, ln 18, bn .lss 16 19])) (.cond (t0 20) .skip (.exit 0))) (.seq (.block 1 (.seq (.draw (sq 24 [fa 0 3, la 1 24, fa 1 3, ld 26, mv 8, ix 2 27 28, fa 0 29, ld 30, mv 7, cf 236 [25, 31, 32]] ++ sq 23 [mv 33] ++ sq 34 [ex 23 0, ex 23 1] ++ sq 9 [.alloc 9 48 [.sl 0 (some true) []]] ++ s0 (sr 1 9 34) ++ sq 10 [mv 35]) [[], [0], [], [2], [], [3, 4], [5], [6], [], [1, 7, 8], [9], [10], [10], [], [13, 11, 9, 0, 1, 2, 3, 4, 5, 6, 7, 8, 9, 10, 11, 13], [12, 14, 0, 1, 2, 3, 4, 5, 6, 7, 8, 9, 10, 11, 12, 13, 14]]) (.seq (.reg (sq 36 [mv 10])) (.cond (t0 36) (.seq (.reg (sq 37 [mv 8] ++ sq 6 [mv 37])) .ret) .skip)))) (.reg (sq 21 [mv 8, bi .add 21 1] ++ sq 8 [mv 22]))))))) (.seq (.reg (sq 6 [mi (-1)])) .ret))))
theorem fn246 : MFn Tryz.prog 246 mc246 38 [.tmp 6] := ⟨_, Tryz.func246, by kernel_rfl, Tryz.ntmps246, by kernel_rfl⟩
noncomputable def F_spec_l8Redex_l1 (sys : ((List Int) × (List ((List Int) × (List Int))))) (r : (List Int)) : Int → Option (Int ⊕ Int)
 | rule =>
  if (decide (rule < (sys.2.length : Int))) = true then
   if 0 ≤ rule ∧ rule < (sys.2.length : Int) then
    (F_spec_l4Match sys.1 ((sys.2.getD rule.toNat default).1) r).bind fun r_1 =>
    if r_1.2 = true then
     Option.map Sum.inr (
      some rule)
    else
     some (.inl (IntKind.i64.wrap (rule + 1)))
   else none
  else
   Option.map Sum.inr (
    some (-1))
noncomputable def F_spec_l8Redex (sys : ((List Int) × (List ((List Int) × (List Int))))) (t : (List Int)) (at' : Int) : Option Int :=
 (F_spec_l1Sub sys.1 t at').bind fun r =>
 loopC (F_spec_l8Redex_l1 sys r) 0
instance c_spec_l8Redex {sys : ((List Int) × (List ((List Int) × (List Int))))} {t : (List Int)} {at' : Int} : HasC (F_spec_l8Redex sys t at') fun rr => PFun Tryz.prog 246 [D_impl_System sys, (slD 1 iD) t, iD at'] (iD rr) := ⟨@fun rr h => by
  delta F_spec_l8Redex at h
  refine fn246.pureL (vcm_sound ?_)
  delta mc246
  refine stp ?_
  refine rC h fun r hr h => ?_
  refine m_lW h [6, 8, 9, 10, 16, 17, 18, 19, 20, 21, 22, 23, 24, 25, 26, 27, 28, 29, 30, 31, 32, 33, 34, 35, 36, 37] (fun pp => [(8, .d (iD pp))]) (fun pp => [(3, .obj 46 [.d (slD 1 iD sys.1), .d (slD 2 D_impl_Rule sys.2)])]) ?_
  rintro rule t1 h hb1
  unfold F_spec_l8Redex_l1 at h
  try dsimp only at h
  refine vcm_sound (stp ?_)
  refine iT h fun hc h => ?_
  refine ndI h fun hp h => ?_
  refine dCN h fun r_1 hr_1 h => ?_
  refine drQ_of (by kernel_rfl) (stp ?_)
  refine iF h fun hc h => ?_
  cases h
  refine ⟨_, rfl, ?_⟩
  refine (Weak.drop 9 (by omega)).trans ?_
  exact wk⟩
def mc276 : MCode :=
 (.seq (.reg (sq 2 [bo 2 46 0] ++ sq 4 [.mv (.const (.slice none 0 0))])) (.seq (.reg (sq 7 [.bsl 7 2 1 []] ++ sq 5 [mv 7])) (.seq (.seq (.reg (sq 6 [mi 0])) (.block 0 (.loop (.seq (.seq (.reg (sq 8 [mv 6, mv 1, ln 9, bn .lss 8 10, mv 11] ++ sg 12 true 13 [la 2 2, mv 1, cf 98 [13, 14]] ++ sq 16 [pa 12 15])) (.cond (t0 16) .skip (.exit 0))) (.seq (.block 1 (.seq (.reg (sq 19 [la 2 2, mv 1, mv 6, cf 246 [19, 20, 21], bi .geq 22 0])) (.cond (t0 23) (.reg (sq 24 [mv 5, mv 6, .bsl 26 2 1 [(t0 25)], ap 27 2 1 8 24 26] ++ sq 5 [mv 27])) .skip))) (.reg (sq 17 [mv 6, bi .add 17 1] ++ sq 6 [mv 18]))))))) (.seq (.reg (sq 28 [mv 5] ++ sq 4 [mv 28])) .ret))))
theorem fn276 : MFn Tryz.prog 276 mc276 29 [.tmp 4] := ⟨_, Tryz.func276, by kernel_rfl, Tryz.ntmps276, by kernel_rfl⟩
noncomputable def F_spec_RedexesIn_l1 (sys : ((List Int) × (List ((List Int) × (List Int))))) (t : (List Int)) : ((List Int) × Int) → Option (((List Int) × Int) ⊕ (List Int))
 | (out, at') =>
  if (decide (at' < (t.length : Int))) = true then
   (F_spec_l7Right sys t).bind fun r =>
   if r = true then
    (F_spec_l8Redex sys t at').bind fun r_1 =>
    if (decide (0 ≤ r_1)) = true then
     if (out.length + 1) * 8 ≤ 140737488355328 then
      some (.inl ((out ++ [at']), (IntKind.i64.wrap (at' + 1))))
     else none
    else
     some (.inl (out, (IntKind.i64.wrap (at' + 1))))
   else
    Option.map Sum.inr (
     some out)
  else
   Option.map Sum.inr (
    some out)
noncomputable def F_spec_RedexesIn (sys : ((List Int) × (List ((List Int) × (List Int))))) (t : (List Int)) : Option (List Int) :=
 loopC (F_spec_RedexesIn_l1 sys t) ([], 0)
instance c_spec_RedexesIn {sys : ((List Int) × (List ((List Int) × (List Int))))} {t : (List Int)} : HasC (F_spec_RedexesIn sys t) fun rr => PFun Tryz.prog 276 [D_impl_System sys, (slD 1 iD) t] ((slD 1 iD) rr) := ⟨@fun rr h => by
  delta F_spec_RedexesIn at h
  refine fn276.pureL (vcm_sound ?_)
  delta mc276
  refine stp ?_
  refine m_lW h [5, 6, 8, 9, 10, 11, 12, 13, 14, 15, 16, 17, 18, 19, 20, 21, 22, 23, 24, 25, 26, 27] (fun pp => [(5, .own 1 7 (List.map iD pp.1)), (6, .d (iD pp.2))]) (fun pp => [(2, .obj 46 [.d (slD 1 iD sys.1), .d (slD 2 D_impl_Rule sys.2)]), (7, .tok 2 1 pp.1.length)]) ?_
  rintro ⟨out, at'⟩ t1 h hb1
  unfold F_spec_RedexesIn_l1 at h
  try dsimp only at h
  refine vcm_sound (stp ?_)
  refine iT h fun hc h => ?_
  refine rC h fun r hr h => ?_
  refine iT h fun hc h => ?_
  refine rC h fun r_1 hr_1 h => ?_
  refine iT h fun hc h => ?_
  refine ndI h fun hp h => ?_
  cases h
  refine ⟨_, rfl, ?_⟩
  refine (Weak.drop 26 (by omega)).trans ?_
  exact wk⟩
def mc275 : MCode :=
 (.seq (.reg (sq 2 [bo 2 46 0] ++ sq 4 [.mv (.const (.slice none 0 0))])) (.seq (.reg (sq 9 [.bsl 9 2 1 []] ++ sq 5 [mv 9])) (.seq (.reg (sq 10 [la 2 2, mv 1, cf 276 [10, 11]] ++ sq 6 [mv 12])) (.seq (.seq (.reg (sq 7 [mi 0])) (.block 0 (.loop (.seq (.seq (.reg (sq 13 [mv 7, mv 6, ln 14, bn .lss 13 15])) (.cond (t0 16) .skip (.exit 0))) (.seq (.block 1 (.seq (.draw (sq 19 [fa 0 2, la 1 19, mv 1, mv 6, mv 7, ix 1 22 23, ld 24, cf 187 [20, 21, 25]] ++ sq 8 [mv 26]) [[], [0], [], [], [], [3, 4], [5], [1, 2, 6], [7, 7, 0, 1, 2, 3, 4, 5, 6, 7]]) (.seq (.reg (sq 27 [mv 7, bi .add 27 1, mv 6, ln 29, bn .eql 28 30, mv 31] ++ sg 32 false 33 [mv 6, mv 7, bi .add 34 1, ix 1 33 35, ld 36, mv 8, bn .geq 37 38] ++ sq 40 [po 32 39])) (.cond (t0 40) (.reg (sq 41 [mv 5, mv 6, mv 7, ix 1 42 43, ld 44, .bsl 46 2 1 [(t0 45)], ap 47 2 1 8 41 46] ++ sq 5 [mv 47])) .skip)))) (.reg (sq 17 [mv 7, bi .add 17 1] ++ sq 7 [mv 18]))))))) (.seq (.reg (sq 48 [mv 5] ++ sq 4 [mv 48])) .ret)))))
theorem fn275 : MFn Tryz.prog 275 mc275 49 [.tmp 4] := ⟨_, Tryz.func275, by kernel_rfl, Tryz.ntmps275, by kernel_rfl⟩
noncomputable def F_spec_InmostIn_l1 (sys : ((List Int) × (List ((List Int) × (List Int))))) (t : (List Int)) (r : (List Int)) : ((List Int) × Int) → Option (((List Int) × Int) ⊕ (List Int))
 | (out, i) =>
  if (decide (i < (r.length : Int))) = true then
   if 0 ≤ i ∧ i < (r.length : Int) then
    (F_spec_l1End sys.1 t (r.getD i.toNat default)).bind fun r_1 =>
    if ((IntKind.i64.wrap (i + 1)) == (r.length : Int)) = true then
     if 0 ≤ i ∧ i < (r.length : Int) then
      if (out.length + 1) * 8 ≤ 140737488355328 then
       some (.inl ((out ++ [(r.getD i.toNat default)]), (IntKind.i64.wrap (i + 1))))
      else none
     else none
    else
     if 0 ≤ (IntKind.i64.wrap (i + 1)) ∧ (IntKind.i64.wrap (i + 1)) < (r.length : Int) then
      if (decide (r_1 ≤ (r.getD (IntKind.i64.wrap (i + 1)).toNat default))) = true then
       if 0 ≤ i ∧ i < (r.length : Int) then
        if (out.length + 1) * 8 ≤ 140737488355328 then
         some (.inl ((out ++ [(r.getD i.toNat default)]), (IntKind.i64.wrap (i + 1))))
        else none
       else none
      else
       some (.inl (out, (IntKind.i64.wrap (i + 1))))
     else none
   else none
  else
   Option.map Sum.inr (
    some out)
noncomputable def F_spec_InmostIn (sys : ((List Int) × (List ((List Int) × (List Int))))) (t : (List Int)) : Option (List Int) :=
 (F_spec_RedexesIn sys t).bind fun r =>
 loopC (F_spec_InmostIn_l1 sys t r) ([], 0)
instance c_spec_InmostIn {sys : ((List Int) × (List ((List Int) × (List Int))))} {t : (List Int)} : HasC (F_spec_InmostIn sys t) fun rr => PFun Tryz.prog 275 [D_impl_System sys, (slD 1 iD) t] ((slD 1 iD) rr) := ⟨@fun rr h => by
  delta F_spec_InmostIn at h
  refine fn275.pureL (vcm_sound ?_)
  delta mc275
  refine stp ?_
  refine rC h fun r hr h => ?_
  refine m_lW h [5, 7, 8, 13, 14, 15, 16, 17, 18, 19, 20, 21, 22, 23, 24, 25, 26, 27, 28, 29, 30, 31, 32, 33, 34, 35, 36, 37, 38, 39, 40, 41, 42, 43, 44, 45, 46, 47] (fun pp => [(5, .own 1 9 (List.map iD pp.1)), (7, .d (iD pp.2))]) (fun pp => [(2, .obj 46 [.d (slD 1 iD sys.1), .d (slD 2 D_impl_Rule sys.2)]), (9, .tok 2 1 pp.1.length)]) ?_
  rintro ⟨out, i⟩ t1 h hb1
  unfold F_spec_InmostIn_l1 at h
  try dsimp only at h
  refine vcm_sound (stp ?_)
  refine iT h fun hc h => ?_
  refine ndI h fun hp h => ?_
  refine dC h fun r_1 hr_1 h => ?_
  refine drQ_of (by kernel_rfl) (stp ?_)
  refine it h (fun hc h => ?_) fun hc h => ?_
  · refine ndI h fun hp h => ?_
    refine ndI h fun hp h => ?_
    cases h
    refine ⟨_, rfl, ?_⟩
    refine (Weak.drop 46 (by omega)).trans ?_
    exact wk
  refine ndI h fun hp h => ?_
  refine iT h fun hc h => ?_
  refine ndI h fun hp h => ?_
  refine ndI h fun hp h => ?_
  cases h
  refine ⟨_, rfl, ?_⟩
  refine (Weak.drop 46 (by omega)).trans ?_
  exact wk⟩
def mc245 : MCode :=
 (.seq (.reg (sq 3 [bo 3 46 0] ++ sq 6 [.mv (.const (.slice none 0 0))])) (.seq (.seq (.reg (sq 8 [mv 2])) (.block 0 (.seq (.reg (sq 10 [bi .eql 8 1] ++ sq 9 [mv 10])) (.cond (t0 9) (.seq (.reg (sq 11 [la 2 3, mv 1, cf 275 [11, 12]] ++ sq 6 [mv 13])) .ret) (.seq (.reg (sq 15 [bi .eql 8 2] ++ sq 14 [mv 15])) (.cond (t0 14) (.seq (.reg (sq 16 [la 2 3, mv 1, cf 276 [16, 17]] ++ sq 6 [mv 18])) .ret) .skip)))))) (.seq (.reg (sq 19 [la 2 3, mv 1, cf 276 [19, 20]] ++ sq 7 [mv 21])) (.seq (.seq (.reg (sq 22 [mv 7, ln 22, bi .gtr 23 0])) (.cond (t0 24) (.reg (sq 25 [mv 7, mv 7, ln 26, bi .sub 27 1, .slc (t0 25) 1 (some (t0 28)) none none] ++ sq 7 [mv 29])) .skip)) (.seq (.reg (sq 30 [mv 7] ++ sq 6 [mv 30])) .ret)))))
theorem fn245 : MFn Tryz.prog 245 mc245 31 [.tmp 6] := ⟨_, Tryz.func245, by kernel_rfl, Tryz.ntmps245, by kernel_rfl⟩
noncomputable def F_spec_l8Places (sys : ((List Int) × (List ((List Int) × (List Int))))) (t : (List Int)) (strategy : Int) : Option (List Int) :=
 if (strategy == 1) = true then
  (F_spec_InmostIn sys t).bind fun r =>
  some r
 else
  if (strategy == 2) = true then
   (F_spec_RedexesIn sys t).bind fun r_1 =>
   some r_1
  else
   (F_spec_RedexesIn sys t).bind fun r_2 =>
   if (decide (0 < (r_2.length : Int))) = true then
    if 0 ≤ (IntKind.i64.wrap ((r_2.length : Int) - 1)) ∧ (IntKind.i64.wrap ((r_2.length : Int) - 1)) ≤ (r_2.length : Int) then
     some (r_2.drop (IntKind.i64.wrap ((r_2.length : Int) - 1)).toNat)
    else none
   else
    some r_2
instance c_spec_l8Places {sys : ((List Int) × (List ((List Int) × (List Int))))} {t : (List Int)} {strategy : Int} : HasC (F_spec_l8Places sys t strategy) fun rr => PFun Tryz.prog 245 [D_impl_System sys, (slD 1 iD) t, iD strategy] ((slD 1 iD) rr) := ⟨@fun rr h => by
  delta F_spec_l8Places at h
  refine fn245.pureL (vcm_sound ?_)
  delta mc245
  refine stp ?_
  exact aut⟩
def mc199 : MCode :=
 (.seq (.reg (sq 3 [bo 3 46 0] ++ sq 6 [mi 0, mi 0, mb false])) (.seq (.seq (.reg (sq 10 [la 2 3, mv 1, mv 2, cf 198 [10, 11, 12], nt 13])) (.cond (t0 14) (.seq (.reg (sq 6 [mi 0, mi 0, mb false])) .ret) .skip)) (.seq (.reg (sq 15 [la 2 3, mv 1, mv 2, cf 245 [15, 16, 17]] ++ sq 9 [mv 18])) (.seq (.seq (.reg (sq 19 [mv 9, ln 19, bi .eql 20 0])) (.cond (t0 21) (.seq (.reg (sq 6 [mi 0, mi 0, mb false])) .ret) .skip)) (.seq (.draw (sq 22 [mv 9, .ixa 1 (t0 22) (i0 0), ld 23, la 2 3, mv 1, mv 9, .ixa 1 (t0 27) (i0 0), ld 28, cf 246 [25, 26, 29]] ++ sq 6 [mv 24, mv 30, mb true]) [[], [0], [1], [], [], [], [5], [6], [3, 4, 7], [2, 8, 0, 1, 2], [8, 9, 0, 1, 2, 3, 4, 5, 6, 7, 8, 9], [10, 0, 1, 2, 3, 4, 5, 6, 7, 8, 9, 10]]) .ret)))))
theorem fn199 : MFn Tryz.prog 199 mc199 31 [.tmp 6, .tmp 7, .tmp 8] := ⟨_, Tryz.func199, by kernel_rfl, Tryz.ntmps199, by kernel_rfl⟩
noncomputable def F_spec_PickBy (sys : ((List Int) × (List ((List Int) × (List Int))))) (t : (List Int)) (strategy : Int) : Option (Int × Int × Bool) :=
 (F_spec_l8Right sys t strategy).bind fun r =>
 if r = true then
  (F_spec_l8Places sys t strategy).bind fun r_1 =>
  if ((r_1.length : Int) == 0) = true then
   some (0, 0, false)
  else
   if 0 ≤ 0 ∧ 0 < (r_1.length : Int) then
    if 0 ≤ 0 ∧ 0 < (r_1.length : Int) then
     (F_spec_l8Redex sys t (r_1.getD 0 default)).bind fun r_2 =>
     some ((r_1.getD 0 default), r_2, true)
    else none
   else none
 else
  some (0, 0, false)
instance c_spec_PickBy {sys : ((List Int) × (List ((List Int) × (List Int))))} {t : (List Int)} {strategy : Int} : HasC (F_spec_PickBy sys t strategy) fun rr => PFunN Tryz.prog 199 [D_impl_System sys, (slD 1 iD) t, iD strategy] [iD rr.1, iD rr.2.1, bD rr.2.2] := ⟨@fun rr h => by
  delta F_spec_PickBy at h
  refine fn199.pureLN (vcm_sound ?_)
  delta mc199
  refine stp ?_
  exact aut⟩
def mc247 : MCode :=
 (.seq (.reg (sq 2 [bo 2 46 0] ++ sq 4 [mi 0])) (.seq (.reg (sq 5 [mi 0])) (.seq (.seq (.reg (sq 6 [mi 0])) (.block 0 (.loop (.seq (.seq (.reg (sq 10 [mv 6, mv 1, ln 11, bn .lss 10 12])) (.cond (t0 13) .skip (.exit 0))) (.seq (.block 1 (.seq (.reg (sq 7 [mi 0])) (.block 2 (.loop (.seq (.seq (.reg (sq 16 [mv 7, fa 1 2, ld 17, ln 18, bn .lss 16 19])) (.cond (t0 20) .skip (.exit 2))) (.seq (.block 3 (.seq (.draw (sq 24 [fa 0 2, la 1 24, fa 1 2, ld 26, mv 7, ix 2 27 28, fa 0 29, ld 30, fa 0 2, la 1 32, mv 1, mv 6, cf 163 [33, 34, 35], cf 236 [25, 31, 36]] ++ sq 23 [mv 37] ++ sq 38 [ex 23 0, ex 23 1] ++ sq 8 [.alloc 8 48 [.sl 0 (some true) []]] ++ s0 (sr 1 8 38) ++ sq 9 [mv 39]) [[], [0], [], [2], [], [3, 4], [5], [6], [], [8], [], [], [9, 10, 11], [1, 7, 12, 12], [13], [14], [14], [], [17, 15, 13, 0, 1, 2, 3, 4, 5, 6, 7, 8, 9, 10, 11, 12, 13, 14, 15, 17], [16, 18, 0, 1, 2, 3, 4, 5, 6, 7, 8, 9, 10, 11, 12, 13, 14, 15, 16, 17, 18]]) (.seq (.reg (sq 40 [mv 9])) (.cond (t0 40) (.reg (sq 41 [mv 5, bi .add 41 1] ++ sq 5 [mv 42])) .skip)))) (.reg (sq 21 [mv 7, bi .add 21 1] ++ sq 7 [mv 22])))))))) (.reg (sq 14 [mv 6, bi .add 14 1] ++ sq 6 [mv 15]))))))) (.seq (.reg (sq 43 [mv 5] ++ sq 4 [mv 43])) .ret))))
theorem fn247 : MFn Tryz.prog 247 mc247 44 [.tmp 4] := ⟨_, Tryz.func247, by kernel_rfl, Tryz.ntmps247, by kernel_rfl⟩
noncomputable def F_spec_l7Redexes_l2 (sys : ((List Int) × (List ((List Int) × (List Int))))) (t : (List Int)) (at' : Int) : (Int × Int) → Option ((Int × Int) ⊕ ((Int × Int) ⊕ Int))
 | (many_1, rule) =>
  if (decide (rule < (sys.2.length : Int))) = true then
   if 0 ≤ rule ∧ rule < (sys.2.length : Int) then
    (F_spec_l1Sub sys.1 t at').bind fun r =>
    (F_spec_l4Match sys.1 ((sys.2.getD rule.toNat default).1) r).bind fun r_1 =>
    if r_1.2 = true then
     some (.inl ((IntKind.i64.wrap (many_1 + 1)), (IntKind.i64.wrap (rule + 1))))
    else
     some (.inl (many_1, (IntKind.i64.wrap (rule + 1))))
   else none
  else
   Option.map Sum.inr (
    some (.inl (many_1, (IntKind.i64.wrap (at' + 1)))))
noncomputable def F_spec_l7Redexes_l1 (sys : ((List Int) × (List ((List Int) × (List Int))))) (t : (List Int)) : (Int × Int) → Option ((Int × Int) ⊕ Int)
 | (many, at') =>
  if (decide (at' < (t.length : Int))) = true then
   loopC (F_spec_l7Redexes_l2 sys t at') (many, 0)
  else
   Option.map Sum.inr (
    some many)
noncomputable def F_spec_l7Redexes (sys : ((List Int) × (List ((List Int) × (List Int))))) (t : (List Int)) : Option Int :=
 loopC (F_spec_l7Redexes_l1 sys t) (0, 0)
instance c_spec_l7Redexes {sys : ((List Int) × (List ((List Int) × (List Int))))} {t : (List Int)} : HasC (F_spec_l7Redexes sys t) fun rr => PFun Tryz.prog 247 [D_impl_System sys, (slD 1 iD) t] (iD rr) := ⟨@fun rr h => by
  delta F_spec_l7Redexes at h
  refine fn247.pureL (vcm_sound ?_)
  delta mc247
  refine stp ?_
  refine m_lW h [5, 6, 7, 8, 9, 10, 11, 12, 13, 14, 15, 16, 17, 18, 19, 20, 21, 22, 23, 24, 25, 26, 27, 28, 29, 30, 31, 32, 33, 34, 35, 36, 37, 38, 39, 40, 41, 42] (fun pp => [(5, .d (iD pp.1)), (6, .d (iD pp.2))]) (fun pp => [(2, .obj 46 [.d (slD 1 iD sys.1), .d (slD 2 D_impl_Rule sys.2)])]) ?_
  rintro ⟨many, at'⟩ t1 h hb1
  unfold F_spec_l7Redexes_l1 at h
  try dsimp only at h
  refine vcm_sound (stp ?_)
  refine iT h fun hc h => ?_
  refine m_lW h [5, 7, 8, 9, 16, 17, 18, 19, 20, 21, 22, 23, 24, 25, 26, 27, 28, 29, 30, 31, 32, 33, 34, 35, 36, 37, 38, 39, 40, 41, 42] (fun pp => [(5, .d (iD pp.1)), (7, .d (iD pp.2))]) (fun pp => [(2, .obj 46 [.d (slD 1 iD sys.1), .d (slD 2 D_impl_Rule sys.2)])]) ?_
  rintro ⟨many_1, rule⟩ t2 h hb2
  unfold F_spec_l7Redexes_l2 at h
  try dsimp only at h
  refine vcm_sound (stp ?_)
  refine iT h fun hc h => ?_
  refine ndI h fun hp h => ?_
  refine dC h fun r hr h => ?_
  refine dCN h fun r_1 hr_1 h => ?_
  refine drQ_of (by kernel_rfl) (stp ?_)
  refine it h (fun hc h => ?_) fun hc h => ?_
  · cases h
    refine ⟨_, rfl, ?_⟩
    refine (Weak.drop 8 (by omega)).trans ?_
    exact wk
  cases h
  refine ⟨_, rfl, ?_⟩
  refine (Weak.drop 8 (by omega)).trans ?_
  exact wk⟩
def mc200 : MCode :=
 (.seq (.reg (sq 2 [bo 2 46 0] ++ sq 4 [mb false])) (.seq (.reg (sq 5 [la 2 2, mv 1, cf 98 [5, 6], mv 7] ++ sg 8 true 9 [la 2 2, mv 1, cf 247 [9, 10], bi .eql 11 0] ++ sq 13 [pa 8 12] ++ sq 4 [mv 13])) .ret))
theorem fn200 : MFn Tryz.prog 200 mc200 14 [.tmp 4] := ⟨_, Tryz.func200, by kernel_rfl, Tryz.ntmps200, by kernel_rfl⟩
noncomputable def F_spec_NormalIn (sys : ((List Int) × (List ((List Int) × (List Int))))) (t : (List Int)) : Option Bool :=
 (F_spec_l7Right sys t).bind fun r =>
 if r = true then
  (F_spec_l7Redexes sys t).bind fun r_1 =>
  some (r_1 == 0)
 else
  some false
instance c_spec_NormalIn {sys : ((List Int) × (List ((List Int) × (List Int))))} {t : (List Int)} : HasC (F_spec_NormalIn sys t) fun rr => PFun Tryz.prog 200 [D_impl_System sys, (slD 1 iD) t] (bD rr) := ⟨@fun rr h => by
  delta F_spec_NormalIn at h
  refine fn200.pureL (vcm_sound ?_)
  delta mc200
  refine stp ?_
  exact aut⟩
def mc134 : MCode :=
 (.seq (.reg (sq 4 [bo 4 46 0] ++ sq 8 [.alloc 8 40 [.sl 0 (some true) [], .sl 0 (some true) []], mb false])) (.seq (.seq (.reg (sq 17 [la 2 4, mv 1, mv 2, cf 198 [17, 18, 19], nt 20, mv 21] ++ sg 22 false 23 [mv 3, .callf 49 [(t0 23), (i0 0), (i0 60)], nt 24] ++ sq 26 [po 22 25])) (.cond (t0 26) (.seq (.reg (sq 27 [.build [.sl 0 (some true) [], .sl 0 (some true) []] []] ++ s0 (sr 2 8 27) ++ sq 9 [mb false])) .ret) .skip)) (.seq (.reg (sq 28 [mv 1, cf 91 [28], .build [.sl 0 (some true) [], .sl 0 (some true) []] [(0, 1, (t0 29))]] ++ sq 10 [.alloc 10 40 [.sl 0 (some true) [], .sl 0 (some true) []]] ++ s0 (sr 2 10 30))) (.seq (.reg (sq 31 [mv 1, cf 91 [31]] ++ sq 11 [mv 32])) (.seq (.block 0 (.loop (.seq (.seq (.reg (sq 33 [fa 1 10, ld 33, ln 34, mv 3, bn .lss 35 36])) (.cond (t0 37) .skip (.exit 0))) (.block 1 (.seq (.reg (sq 39 [la 2 4, mv 11, mv 2, cf 199 [39, 40, 41]] ++ sq 38 [mv 42] ++ sq 43 [ex 38 0, ex 38 1, ex 38 2] ++ sq 12 [mv 43, mv 44, mv 45])) (.seq (.seq (.reg (sq 46 [mv 14, nt 46])) (.cond (t0 47) (.exit 0) .skip)) (.seq (.reg (sq 49 [la 2 4, mv 11, mv 12, mv 13, cf 180 [49, 50, 51, 52]] ++ sq 48 [mv 53] ++ sq 54 [ex 48 0, ex 48 1] ++ sq 15 [mv 54, mv 55])) (.seq (.seq (.reg (sq 56 [mv 16, nt 56])) (.cond (t0 57) (.exit 0) .skip)) (.seq (.reg (sq 58 [fa 1 10, ld 58, mv 12, mv 13, mv 15, .build [.lit (.int .i64 0), .lit (.int .i64 0), .sl 0 (some true) []] [(0, 1, (t0 60)), (1, 1, (t0 61)), (2, 1, (t0 62))], .bsl 64 151 3 [(t0 63)], ap 65 151 3 40 59 64, fa 1 10] ++ s0 (sr 1 66 65))) (.reg (sq 67 [mv 15, cf 91 [67]] ++ sq 11 [mv 68]))))))))))) (.seq (.draw (sq 69 [la 2 10, la 2 4, mv 11, cf 200 [70, 71]] ++ s0 (sr 2 8 69) ++ sq 9 [mv 72]) [[], [], [], [1, 2], [0, 3, 0], [3, 4, 0, 1, 2, 3, 4]]) .ret))))))
theorem fn134 : MFn Tryz.prog 134 mc134 73 [.cell 8 2 true, .tmp 9] := ⟨_, Tryz.func134, by kernel_rfl, Tryz.ntmps134, by kernel_rfl⟩
noncomputable def F_spec_WalkBy_l1 (sys : ((List Int) × (List ((List Int) × (List Int))))) (strategy : Int) (fuel : Int) (r_2 : (List Int)) : ((List Int) × (List (Int × Int × (List Int)))) → Option (((List Int) × (List (Int × Int × (List Int)))) ⊕ (((List Int) × (List (Int × Int × (List Int)))) × Bool))
 | (now, w) =>
  if (decide ((w.length : Int) < fuel)) = true then
   (F_spec_PickBy sys now strategy).bind fun r_4 =>
   if r_4.2.2 = true then
    (F_spec_l7Step sys now r_4.1 r_4.2.1).bind fun r_5 =>
    if r_5.2 = true then
     if (w.length + 1) * 40 ≤ 140737488355328 then
      (F_spec_l1Copy r_5.1).bind fun r_6 =>
      some (.inl (r_6, (w ++ [(r_4.1, r_4.2.1, r_5.1)])))
     else none
    else
     Option.map Sum.inr (
      (F_spec_NormalIn sys now).bind fun r_7 =>
      some ((r_2, w), r_7))
   else
    Option.map Sum.inr (
     (F_spec_NormalIn sys now).bind fun r_8 =>
     some ((r_2, w), r_8))
  else
   Option.map Sum.inr (
    (F_spec_NormalIn sys now).bind fun r_9 =>
    some ((r_2, w), r_9))
noncomputable def F_spec_WalkBy (sys : ((List Int) × (List ((List Int) × (List Int))))) (t : (List Int)) (strategy : Int) (fuel : Int) : Option (((List Int) × (List (Int × Int × (List Int)))) × Bool) :=
 (F_spec_l8Right sys t strategy).bind fun r =>
 if r = true then
  (F_spec_l1In fuel 0 60).bind fun r_1 =>
  if r_1 = true then
   (F_spec_l1Copy t).bind fun r_2 =>
   (F_spec_l1Copy t).bind fun r_3 =>
   loopC (F_spec_WalkBy_l1 sys strategy fuel r_2) (r_3, [])
  else
   some (([], []), false)
 else
  some (([], []), false)
instance c_spec_WalkBy {sys : ((List Int) × (List ((List Int) × (List Int))))} {t : (List Int)} {strategy : Int} {fuel : Int} : HasC (F_spec_WalkBy sys t strategy fuel) fun rr => PFunN Tryz.prog 134 [D_impl_System sys, (slD 1 iD) t, iD strategy, iD fuel] [D_impl_Walk rr.1, bD rr.2] := ⟨@fun rr h => by
  delta F_spec_WalkBy at h
  refine fn134.pureLN (vcm_sound ?_)
  delta mc134
  refine stp ?_
  refine rC h fun r hr h => ?_
  refine iT h fun hc h => ?_
  refine rC h fun r_1 hr_1 h => ?_
  refine iT h fun hc h => ?_
  refine rCo [] [(3, 29)] h fun r_2 hr_2 h => ?_
  refine rCo [] [(3, 32)] h fun r_3 hr_3 h => ?_
  refine m_loopF h [11, 12, 13, 14, 15, 16, 33, 34, 35, 36, 37, 38, 39, 40, 41, 42, 43, 44, 45, 46, 47, 48, 49, 50, 51, 52, 53, 54, 55, 56, 57, 58, 59, 60, 61, 62, 63, 64, 65, 66, 67, 68] (fun pp => [(11, .d (slD 1 iD pp.1))]) (fun pp => [(4, .obj 46 [.d (slD 1 iD sys.1), .d (slD 2 D_impl_Rule sys.2)]), (8, .obj 40 [.d (.sl 0 (some true) []), .d (.sl 0 (some true) [])]), (10, .obj 40 [.own 1 29 (List.map iD r_2), .own 3 65 (List.map D_impl_Step pp.2)]), (29, .tok 2 1 r_2.length), (32, .tok 2 1 r_3.length), (65, .tok 151 3 pp.2.length)]) ?_ ?_
  · try dsimp only
    refine (Weak.thawCell 10 1 65 151 3 rfl rfl rfl).trans ?_
    exact wk
  rintro ⟨now, w⟩ t1 h hb1
  unfold F_spec_WalkBy_l1 at h
  try dsimp only at h
  refine vcm_sound (stp ?_)
  refine iT h fun hc h => ?_
  refine rCN h fun r_4 hr_4 h => ?_
  refine iT h fun hc h => ?_
  refine rCN h fun r_5 hr_5 h => ?_
  refine iT h fun hc h => ?_
  refine ndI h fun hp h => ?_
  refine rCo [] [(3, 68)] h fun r_6 hr_6 h => ?_
  cases h
  refine ⟨_, rfl, ?_⟩
  refine (Weak.drop 64 (by omega)).trans ?_
  refine (Weak.drop 68 (by omega)).trans ?_
  exact wk⟩
def mc100 : MCode :=
 (.seq (.reg (sq 1 [bo 1 40 0, .mv (.const (.slice none 0 0))])) (.seq (.seq (.reg (sq 3 [fa 1 1, ld 3, ln 4, bi .eql 5 0])) (.cond (t0 6) (.seq (.reg (sq 7 [fa 0 1, ld 7, cf 91 [8]] ++ sq 2 [mv 9])) .ret) .skip)) (.seq (.reg (sq 10 [fa 1 1, ld 10, fa 1 1, ld 12, ln 13, bi .sub 14 1, ix 3 11 15, fa 2 16, ld 17, cf 91 [18]] ++ sq 2 [mv 19])) .ret)))
theorem fn100 : MFn Tryz.prog 100 mc100 20 [.tmp 2] := ⟨_, Tryz.func100, by kernel_rfl, Tryz.ntmps100, by kernel_rfl⟩
noncomputable def F_spec_l7End (w : ((List Int) × (List (Int × Int × (List Int))))) : Option (List Int) :=
 if ((w.2.length : Int) == 0) = true then
  (F_spec_l1Copy w.1).bind fun r =>
  some r
 else
  if 0 ≤ (IntKind.i64.wrap ((w.2.length : Int) - 1)) ∧ (IntKind.i64.wrap ((w.2.length : Int) - 1)) < (w.2.length : Int) then
   (F_spec_l1Copy ((w.2.getD (IntKind.i64.wrap ((w.2.length : Int) - 1)).toNat default).2.2)).bind fun r_1 =>
   some r_1
  else none
instance c_spec_l7End {w : ((List Int) × (List (Int × Int × (List Int))))} : HasC (F_spec_l7End w) fun rr => PFun Tryz.prog 100 [D_impl_Walk w] ((slD 1 iD) rr) := ⟨@fun rr h => by
  delta F_spec_l7End at h
  refine fn100.pureL (vcm_sound ?_)
  delta mc100
  refine stp ?_
  refine it h (fun hc h => ?_) fun hc h => ?_
  · refine rCo [] [(3, 9)] h fun r hr h => ?_
    exact aut
  refine ndI h fun hp h => ?_
  refine rCo [] [(3, 19)] h fun r_1 hr_1 h => ?_
  exact aut⟩
def mc197 : MCode :=
 (.seq (.reg (sq 4 [bo 4 46 0] ++ sq 8 [.mv (.const (.slice none 0 0)), mb false])) (.seq (.reg (sq 13 [la 2 4, mv 1, mv 2, mv 3, cf 134 [13, 14, 15, 16]] ++ sq 12 [mv 17] ++ sq 18 [ex 12 0, ex 12 1] ++ sq 10 [.alloc 10 40 [.sl 0 (some true) [], .sl 0 (some true) []]] ++ s0 (sr 2 10 18) ++ sq 11 [mv 19])) (.seq (.seq (.reg (sq 20 [mv 11, nt 20])) (.cond (t0 21) (.seq (.reg (sq 22 [.bsl 22 2 1 []] ++ sq 8 [mv 22, mb false])) .ret) .skip)) (.seq (.reg (sq 23 [la 2 10, cf 100 [23]] ++ sq 8 [mv 24, mb true])) .ret))))
theorem fn197 : MFn Tryz.prog 197 mc197 25 [.tmp 8, .tmp 9] := ⟨_, Tryz.func197, by kernel_rfl, Tryz.ntmps197, by kernel_rfl⟩
noncomputable def F_spec_NormalBy (sys : ((List Int) × (List ((List Int) × (List Int))))) (t : (List Int)) (strategy : Int) (fuel : Int) : Option ((List Int) × Bool) :=
 (F_spec_WalkBy sys t strategy fuel).bind fun r =>
 if r.2 = true then
  (F_spec_l7End r.1).bind fun r_1 =>
  some (r_1, true)
 else
  some ([], false)
instance c_spec_NormalBy {sys : ((List Int) × (List ((List Int) × (List Int))))} {t : (List Int)} {strategy : Int} {fuel : Int} : HasC (F_spec_NormalBy sys t strategy fuel) fun rr => PFunN Tryz.prog 197 [D_impl_System sys, (slD 1 iD) t, iD strategy, iD fuel] [(slD 1 iD) rr.1, bD rr.2] := ⟨@fun rr h => by
  delta F_spec_NormalBy at h
  refine fn197.pureLN (vcm_sound ?_)
  delta mc197
  refine stp ?_
  exact aut⟩
def mc138 : MCode :=
 (.seq (.reg (sq 2 [mi 0])) (.seq (.seq (.reg (sq 3 [mv 0])) (.cond (t0 3) (.seq (.reg (sq 2 [mi 1])) .ret) .skip)) (.seq (.reg (sq 2 [mi 0])) .ret)))
theorem fn138 : MFn Tryz.prog 138 mc138 4 [.tmp 2] := ⟨_, Tryz.func138, by kernel_rfl, Tryz.ntmps138, by kernel_rfl⟩
noncomputable def F_spec_l1Flag (is : Bool) : Option Int :=
 if is = true then
  some 1
 else
  some 0
instance c_spec_l1Flag {is : Bool} : HasC (F_spec_l1Flag is) fun rr => PFun Tryz.prog 138 [bD is] (iD rr) := ⟨@fun rr h => by
  delta F_spec_l1Flag at h
  refine fn138.pureL (vcm_sound ?_)
  delta mc138
  refine stp ?_
  exact aut⟩
def mc133 : MCode :=
 (.seq (.reg (sq 4 [bo 4 46 0] ++ sq 8 [mi 0])) (.seq (.seq (.reg (sq 13 [la 2 4, mv 1, mv 3, cf 196 [13, 14, 15], nt 16, mv 17] ++ sg 18 false 19 [la 2 4, mv 2, mv 3, cf 196 [19, 20, 21], nt 22] ++ sq 24 [po 18 23])) (.cond (t0 24) (.seq (.reg (sq 8 [mi (-1)])) .ret) .skip)) (.seq (.reg (sq 26 [la 2 4, mv 1, mv 3, .callf 197 [(t0 26), (t0 27), (i0 1), (t0 28)]] ++ sq 25 [mv 29] ++ sq 30 [ex 25 0, ex 25 1] ++ sq 9 [mv 30, mv 31])) (.seq (.reg (sq 33 [la 2 4, mv 2, mv 3, .callf 197 [(t0 33), (t0 34), (i0 1), (t0 35)]] ++ sq 32 [mv 36] ++ sq 37 [ex 32 0, ex 32 1] ++ sq 11 [mv 37, mv 38])) (.seq (.seq (.reg (sq 39 [mv 10, nt 39, mv 40] ++ sg 41 false 42 [mv 12, nt 42] ++ sq 44 [po 41 43])) (.cond (t0 44) (.seq (.reg (sq 8 [mi (-1)])) .ret) .skip)) (.seq (.reg (sq 45 [mv 9, mv 11, cf 36 [45, 46], cf 138 [47]] ++ sq 8 [mv 48])) .ret))))))
theorem fn133 : MFn Tryz.prog 133 mc133 49 [.tmp 8] := ⟨_, Tryz.func133, by kernel_rfl, Tryz.ntmps133, by kernel_rfl⟩
noncomputable def F_spec_EqualBy (sys : ((List Int) × (List ((List Int) × (List Int))))) (a : (List Int)) (b : (List Int)) (fuel : Int) : Option Int :=
 (F_spec_l22Right sys a fuel).bind fun r =>
 if r = true then
  (F_spec_l22Right sys b fuel).bind fun r_1 =>
  if r_1 = true then
   (F_spec_NormalBy sys a 1 fuel).bind fun r_2 =>
   (F_spec_NormalBy sys b 1 fuel).bind fun r_3 =>
   if r_2.2 = true then
    if r_3.2 = true then
     (F_spec_SameTerm r_2.1 r_3.1).bind fun r_4 =>
     (F_spec_l1Flag r_4).bind fun r_5 =>
     some r_5
    else
     some (-1)
   else
    some (-1)
  else
   some (-1)
 else
  some (-1)
instance c_spec_EqualBy {sys : ((List Int) × (List ((List Int) × (List Int))))} {a : (List Int)} {b : (List Int)} {fuel : Int} : HasC (F_spec_EqualBy sys a b fuel) fun rr => PFun Tryz.prog 133 [D_impl_System sys, (slD 1 iD) a, (slD 1 iD) b, iD fuel] (iD rr) := ⟨@fun rr h => by
  delta F_spec_EqualBy at h
  refine fn133.pureL (vcm_sound ?_)
  delta mc133
  refine stp ?_
  exact aut⟩
def mc39 : MCode :=
 (.seq (.reg (sq 2 [bo 2 46 0, bo 3 40 1, .mv (.const (.slice none 0 0))])) (.seq (.seq (.reg (sq 5 [la 2 2, la 2 3, cf 38 [5, 6], nt 7])) (.cond (t0 8) (.seq (.reg (sq 9 [.bsl 9 2 1 []] ++ sq 4 [mv 9])) .ret) .skip)) (.seq (.reg (sq 10 [la 2 3, cf 100 [10]] ++ sq 4 [mv 11])) .ret)))
theorem fn39 : MFn Tryz.prog 39 mc39 12 [.tmp 4] := ⟨_, Tryz.func39, by kernel_rfl, Tryz.ntmps39, by kernel_rfl⟩
noncomputable def F_spec_EndTerm (sys : ((List Int) × (List ((List Int) × (List Int))))) (w : ((List Int) × (List (Int × Int × (List Int))))) : Option (List Int) :=
 (F_spec_WalkOk sys w).bind fun r =>
 if r = true then
  (F_spec_l7End w).bind fun r_1 =>
  some r_1
 else
  some []
instance c_spec_EndTerm {sys : ((List Int) × (List ((List Int) × (List Int))))} {w : ((List Int) × (List (Int × Int × (List Int))))} : HasC (F_spec_EndTerm sys w) fun rr => PFun Tryz.prog 39 [D_impl_System sys, D_impl_Walk w] ((slD 1 iD) rr) := ⟨@fun rr h => by
  delta F_spec_EndTerm at h
  refine fn39.pureL (vcm_sound ?_)
  delta mc39
  refine stp ?_
  exact aut⟩
def mc202 : MCode :=
 (.seq (.reg (sq 1 [bo 1 40 0, .alloc 2 120 [.sl 0 (some true) [], .sl 0 (some true) []]])) (.seq (.reg (sq 6 [fa 0 1, ld 6, cf 91 [7], .build [.sl 0 (some true) [], .sl 0 (some true) []] [(0, 1, (t0 8))]] ++ sq 3 [.alloc 3 120 [.sl 0 (some true) [], .sl 0 (some true) []]] ++ s0 (sr 2 3 9))) (.seq (.seq (.reg (sq 4 [mi 0])) (.block 0 (.loop (.seq (.seq (.reg (sq 10 [mv 4, fa 1 1, ld 11, ln 12, bn .lss 10 13])) (.cond (t0 14) .skip (.exit 0))) (.seq (.block 1 (.seq (.reg (sq 17 [fa 1 1, ld 17, mv 4, ix 3 18 19, la 3 20] ++ sq 5 [.alloc 5 151 [.lit (.int .i64 0), .lit (.int .i64 0), .sl 0 (some true) []]] ++ s0 (sr 3 5 21))) (.draw (sq 22 [fa 1 3, ld 22, fa 1 5, ld 24, fa 0 5, ld 26, fa 2 5, ld 28, cf 91 [29], .build [.lit (.int .i64 0), .lit (.int .i64 0), .lit (.bool false), .sl 0 (some true) []] [(0, 1, (t0 25)), (1, 1, (t0 27)), (3, 1, (t0 30))], .bsl 32 183 4 [(t0 31)], ap 33 183 4 48 23 32, fa 1 3] ++ s0 (sr 1 34 33)) [[], [0], [], [2], [], [4], [], [6], [7], [3, 5, 8], [9], [1, 10, 8], [0, 1, 2, 3, 4, 5, 6, 7, 8, 9, 10, 11], [12, 11, 11, 0, 1, 2, 3, 4, 5, 6, 7, 8, 9, 10, 11]]))) (.reg (sq 15 [mv 4, bi .add 15 1] ++ sq 4 [mv 16]))))))) (.seq (.reg (sq 35 [la 2 3] ++ s0 (sr 2 2 35))) .ret))))
theorem fn202 : MFn Tryz.prog 202 mc202 36 [.cell 2 2 true] := ⟨_, Tryz.func202, by kernel_rfl, Tryz.ntmps202, by kernel_rfl⟩
noncomputable def F_spec_l20Walk_l1 (w : ((List Int) × (List (Int × Int × (List Int))))) (r : (List Int)) : (Int × (List (Int × Int × Bool × (List Int)))) → Option ((Int × (List (Int × Int × Bool × (List Int)))) ⊕ ((List Int) × (List (Int × Int × Bool × (List Int)))))
 | (i, out) =>
  if (decide (i < (w.2.length : Int))) = true then
   if 0 ≤ i ∧ i < (w.2.length : Int) then
    (F_spec_l1Copy ((w.2.getD i.toNat default).2.2)).bind fun r_1 =>
    if (out.length + 1) * 48 ≤ 140737488355328 then
     some (.inl ((IntKind.i64.wrap (i + 1)), (out ++ [((w.2.getD i.toNat default).2.1, (w.2.getD i.toNat default).1, false, r_1)])))
    else none
   else none
  else
   Option.map Sum.inr (
    some (r, out))
noncomputable def F_spec_l20Walk (w : ((List Int) × (List (Int × Int × (List Int))))) : Option ((List Int) × (List (Int × Int × Bool × (List Int)))) :=
 (F_spec_l1Copy w.1).bind fun r =>
 loopC (F_spec_l20Walk_l1 w r) (0, [])
instance c_spec_l20Walk {w : ((List Int) × (List (Int × Int × (List Int))))} : HasC (F_spec_l20Walk w) fun rr => PFun Tryz.prog 202 [D_impl_Walk w] (D_impl_Chain rr) := ⟨@fun rr h => by
  delta F_spec_l20Walk at h
  refine fn202.pureL (vcm_sound ?_)
  delta mc202
  refine stp ?_
  refine rCo [] [(3, 8)] h fun r hr h => ?_
  refine m_loopF h [4, 5, 10, 11, 12, 13, 14, 15, 16, 17, 18, 19, 20, 21, 22, 23, 24, 25, 26, 27, 28, 29, 30, 31, 32, 33, 34] (fun pp => [(4, .d (iD pp.1))]) (fun pp => [(1, .obj 40 [.d (slD 1 iD w.1), .d (slD 3 D_impl_Step w.2)]), (2, .obj 120 [.d (.sl 0 (some true) []), .d (.sl 0 (some true) [])]), (3, .obj 120 [.own 1 8 (List.map iD r), .own 4 33 (List.map D_impl_Move pp.2)]), (8, .tok 2 1 r.length), (33, .tok 183 4 pp.2.length)]) ?_ ?_
  · try dsimp only
    refine (Weak.thawCell 3 1 33 183 4 rfl rfl rfl).trans ?_
    exact wk
  rintro ⟨i, out⟩ t1 h hb1
  unfold F_spec_l20Walk_l1 at h
  try dsimp only at h
  refine vcm_sound (stp ?_)
  refine iT h fun hc h => ?_
  refine ndI h fun hp h => ?_
  refine dCo [] [(3, 30)] h fun r_1 hr_1 h => ?_
  refine ndI h fun hp h => ?_
  refine drQ_of (by kernel_rfl) (stp ?_)
  cases h
  refine ⟨_, rfl, ?_⟩
  refine (Weak.drop 5 (by omega)).trans ?_
  refine (Weak.drop 30 (by omega)).trans ?_
  refine (Weak.drop 32 (by omega)).trans ?_
  exact wk⟩
def mc249 : MCode :=
 (.seq (.reg (sq 1 [bo 1 120 0, .mv (.const (.slice none 0 0))])) (.seq (.seq (.reg (sq 3 [fa 1 1, ld 3, ln 4, bi .eql 5 0])) (.cond (t0 6) (.seq (.reg (sq 7 [fa 0 1, ld 7] ++ sq 2 [mv 8])) .ret) .skip)) (.seq (.reg (sq 9 [fa 1 1, ld 9, fa 1 1, ld 11, ln 12, bi .sub 13 1, ix 4 10 14, fa 3 15, ld 16] ++ sq 2 [mv 17])) .ret)))
theorem fn249 : MFn Tryz.prog 249 mc249 18 [.tmp 2] := ⟨_, Tryz.func249, by kernel_rfl, Tryz.ntmps249, by kernel_rfl⟩
noncomputable def F_spec_l20End (c : ((List Int) × (List (Int × Int × Bool × (List Int))))) : Option (List Int) :=
 if ((c.2.length : Int) == 0) = true then
  some c.1
 else
  if 0 ≤ (IntKind.i64.wrap ((c.2.length : Int) - 1)) ∧ (IntKind.i64.wrap ((c.2.length : Int) - 1)) < (c.2.length : Int) then
   some ((c.2.getD (IntKind.i64.wrap ((c.2.length : Int) - 1)).toNat default).2.2.2)
  else none
instance c_spec_l20End {c : ((List Int) × (List (Int × Int × Bool × (List Int))))} : HasC (F_spec_l20End c) fun rr => PFun Tryz.prog 249 [D_impl_Chain c] ((slD 1 iD) rr) := ⟨@fun rr h => by
  delta F_spec_l20End at h
  refine fn249.pureL (vcm_sound ?_)
  delta mc249
  refine stp ?_
  exact aut⟩
def mc248 : MCode :=
 (.seq (.reg (sq 1 [bo 1 183 0, .alloc 2 183 [.lit (.int .i64 0), .lit (.int .i64 0), .lit (.bool false), .sl 0 (some true) []]])) (.seq (.reg (sq 3 [fa 3 1, ld 3, cf 91 [4], fa 3 1] ++ s0 (sr 1 6 5))) (.seq (.reg (sq 7 [la 4 1] ++ s0 (sr 4 2 7))) .ret)))
theorem fn248 : MFn Tryz.prog 248 mc248 8 [.cell 2 4 true] := ⟨_, Tryz.func248, by kernel_rfl, Tryz.ntmps248, by kernel_rfl⟩
noncomputable def F_spec_l20CopyMove (m : (Int × Int × Bool × (List Int))) : Option (Int × Int × Bool × (List Int)) :=
 (F_spec_l1Copy m.2.2.2).bind fun r =>
 some (m.1, m.2.1, m.2.2.1, r)
instance c_spec_l20CopyMove {m : (Int × Int × Bool × (List Int))} : HasC (F_spec_l20CopyMove m) fun rr => PFun Tryz.prog 248 [D_impl_Move m] (D_impl_Move rr) := ⟨@fun rr h => by
  delta F_spec_l20CopyMove at h
  refine fn248.pureL (vcm_sound ?_)
  delta mc248
  refine stp ?_
  refine rCo [] [(3, 5)] h fun r hr h => ?_
  exact aut⟩
def mc203 : MCode :=
 (.seq (.reg (sq 1 [bo 1 120 0, .alloc 2 120 [.sl 0 (some true) [], .sl 0 (some true) []]])) (.seq (.reg (sq 6 [la 2 1, cf 249 [6], cf 91 [7], .build [.sl 0 (some true) [], .sl 0 (some true) []] [(0, 1, (t0 8))]] ++ sq 3 [.alloc 3 120 [.sl 0 (some true) [], .sl 0 (some true) []]] ++ s0 (sr 2 3 9))) (.seq (.seq (.reg (sq 10 [fa 1 1, ld 10, ln 11, bi .sub 12 1] ++ sq 4 [mv 13])) (.block 0 (.loop (.seq (.seq (.reg (sq 14 [mv 4, bi .geq 14 0])) (.cond (t0 15) .skip (.exit 0))) (.seq (.block 1 (.seq (.reg (sq 18 [fa 1 1, ld 18, mv 4, ix 4 19 20, la 4 21] ++ sq 5 [.alloc 5 183 [.lit (.int .i64 0), .lit (.int .i64 0), .lit (.bool false), .sl 0 (some true) []]] ++ s0 (sr 4 5 22))) (.seq (.reg (sq 23 [fa 2 5, ld 23, nt 24, fa 2 5] ++ s0 (sr 1 26 25))) (.seq (.reg (sq 27 [fa 0 1, ld 27, fa 3 5] ++ s0 (sr 1 29 28))) (.seq (.seq (.reg (sq 30 [mv 4, bi .gtr 30 0])) (.cond (t0 31) (.reg (sq 32 [fa 1 1, ld 32, mv 4, bi .sub 34 1, ix 4 33 35, fa 3 36, ld 37, fa 3 5] ++ s0 (sr 1 39 38))) .skip)) (.draw (sq 40 [fa 1 3, ld 40, la 4 5, cf 248 [42], .bsl 44 183 4 [(t0 43)], ap 45 183 4 48 41 44, fa 1 3] ++ s0 (sr 1 46 45)) [[], [0], [], [2], [3], [1, 4, 3], [0, 1, 2, 3, 4, 5], [6, 5, 5, 0, 1, 2, 3, 4, 5]])))))) (.reg (sq 16 [mv 4, bi .sub 16 1] ++ sq 4 [mv 17]))))))) (.seq (.reg (sq 47 [la 2 3] ++ s0 (sr 2 2 47))) .ret))))
theorem fn203 : MFn Tryz.prog 203 mc203 48 [.cell 2 2 true] := ⟨_, Tryz.func203, by kernel_rfl, Tryz.ntmps203, by kernel_rfl⟩
noncomputable def F_spec_l20Turn_l1 (c : ((List Int) × (List (Int × Int × Bool × (List Int))))) (r_1 : (List Int)) : (Int × (List (Int × Int × Bool × (List Int)))) → Option ((Int × (List (Int × Int × Bool × (List Int)))) ⊕ ((List Int) × (List (Int × Int × Bool × (List Int)))))
 | (i, out) =>
  if (decide (0 ≤ i)) = true then
   if 0 ≤ i ∧ i < (c.2.length : Int) then
    if (decide (0 < i)) = true then
     if 0 ≤ (IntKind.i64.wrap (i - 1)) ∧ (IntKind.i64.wrap (i - 1)) < (c.2.length : Int) then
      (F_spec_l20CopyMove ((c.2.getD i.toNat default).1, (c.2.getD i.toNat default).2.1, (!(c.2.getD i.toNat default).2.2.1), (c.2.getD (IntKind.i64.wrap (i - 1)).toNat default).2.2.2)).bind fun r_2 =>
      if (out.length + 1) * 48 ≤ 140737488355328 then
       some (.inl ((IntKind.i64.wrap (i - 1)), (out ++ [r_2])))
      else none
     else none
    else
     (F_spec_l20CopyMove ((c.2.getD i.toNat default).1, (c.2.getD i.toNat default).2.1, (!(c.2.getD i.toNat default).2.2.1), c.1)).bind fun r_3 =>
     if (out.length + 1) * 48 ≤ 140737488355328 then
      some (.inl ((IntKind.i64.wrap (i - 1)), (out ++ [r_3])))
     else none
   else none
  else
   Option.map Sum.inr (
    some (r_1, out))
noncomputable def F_spec_l20Turn (c : ((List Int) × (List (Int × Int × Bool × (List Int))))) : Option ((List Int) × (List (Int × Int × Bool × (List Int)))) :=
 (F_spec_l20End c).bind fun r =>
 (F_spec_l1Copy r).bind fun r_1 =>
 loopC (F_spec_l20Turn_l1 c r_1) ((IntKind.i64.wrap ((c.2.length : Int) - 1)), [])
instance c_spec_l20Turn {c : ((List Int) × (List (Int × Int × Bool × (List Int))))} : HasC (F_spec_l20Turn c) fun rr => PFun Tryz.prog 203 [D_impl_Chain c] (D_impl_Chain rr) := ⟨@fun rr h => by
  delta F_spec_l20Turn at h
  refine fn203.pureL (vcm_sound ?_)
  delta mc203
  refine stp ?_
  refine rC h fun r hr h => ?_
  refine rCo [] [(3, 8)] h fun r_1 hr_1 h => ?_
  refine m_loopF h [4, 5, 14, 15, 16, 17, 18, 19, 20, 21, 22, 23, 24, 25, 26, 27, 28, 29, 30, 31, 32, 33, 34, 35, 36, 37, 38, 39, 40, 41, 42, 43, 44, 45, 46] (fun pp => [(4, .d (iD pp.1))]) (fun pp => [(1, .obj 120 [.d (slD 1 iD c.1), .d (slD 4 D_impl_Move c.2)]), (2, .obj 120 [.d (.sl 0 (some true) []), .d (.sl 0 (some true) [])]), (3, .obj 120 [.own 1 8 (List.map iD r_1), .own 4 45 (List.map D_impl_Move pp.2)]), (8, .tok 2 1 r_1.length), (45, .tok 183 4 pp.2.length)]) ?_ ?_
  · try dsimp only
    refine (Weak.thawCell 3 1 45 183 4 rfl rfl rfl).trans ?_
    exact wk
  rintro ⟨i, out⟩ t1 h hb1
  unfold F_spec_l20Turn_l1 at h
  try dsimp only at h
  refine vcm_sound (stp ?_)
  refine iT h fun hc h => ?_
  refine ndI h fun hp h => ?_
  refine it h (fun hc h => ?_) fun hc h => ?_
  · refine ndI h fun hp h => ?_
    refine dC h fun r_2 hr_2 h => ?_
    refine ndI h fun hp h => ?_
    refine drQ_of (by kernel_rfl) (stp ?_)
    cases h
    refine ⟨_, rfl, ?_⟩
    refine (Weak.drop 5 (by omega)).trans ?_
    refine (Weak.drop 44 (by omega)).trans ?_
    exact wk
  refine dC h fun r_3 hr_3 h => ?_
  refine ndI h fun hp h => ?_
  refine drQ_of (by kernel_rfl) (stp ?_)
  cases h
  refine ⟨_, rfl, ?_⟩
  refine (Weak.drop 5 (by omega)).trans ?_
  refine (Weak.drop 44 (by omega)).trans ?_
  exact wk⟩
def mc201 : MCode :=
 (.seq (.reg (sq 2 [bo 2 120 0, bo 3 120 1, .alloc 4 120 [.sl 0 (some true) [], .sl 0 (some true) []], mb false])) (.seq (.seq (.reg (sq 9 [fa 1 2, ld 9, ln 10, fa 1 3, ld 12, ln 13, bn .add 11 14, bi .gtr 15 60])) (.cond (t0 16) (.seq (.reg (sq 17 [.build [.sl 0 (some true) [], .sl 0 (some true) []] []] ++ s0 (sr 2 4 17) ++ sq 5 [mb false])) .ret) .skip)) (.seq (.reg (sq 18 [fa 0 2, ld 18, cf 91 [19], .build [.sl 0 (some true) [], .sl 0 (some true) []] [(0, 1, (t0 20))]] ++ sq 6 [.alloc 6 120 [.sl 0 (some true) [], .sl 0 (some true) []]] ++ s0 (sr 2 6 21))) (.seq (.seq (.reg (sq 7 [mi 0])) (.block 0 (.loop (.seq (.seq (.reg (sq 22 [mv 7, fa 1 2, ld 23, ln 24, bn .lss 22 25])) (.cond (t0 26) .skip (.exit 0))) (.seq (.block 1 (.draw (sq 29 [fa 1 6, ld 29, fa 1 2, ld 31, mv 7, ix 4 32 33, la 4 34, cf 248 [35], .bsl 37 183 4 [(t0 36)], ap 38 183 4 48 30 37, fa 1 6] ++ s0 (sr 1 39 38)) [[], [0], [], [2], [], [3, 4], [5], [6], [7], [1, 8, 7], [0, 1, 2, 3, 4, 5, 6, 7, 8, 9], [10, 9, 9, 0, 1, 2, 3, 4, 5, 6, 7, 8, 9]])) (.reg (sq 27 [mv 7, bi .add 27 1] ++ sq 7 [mv 28]))))))) (.seq (.seq (.reg (sq 8 [mi 0])) (.block 2 (.loop (.seq (.seq (.reg (sq 40 [mv 8, fa 1 3, ld 41, ln 42, bn .lss 40 43])) (.cond (t0 44) .skip (.exit 2))) (.seq (.block 3 (.draw (sq 47 [fa 1 6, ld 47, fa 1 3, ld 49, mv 8, ix 4 50 51, la 4 52, cf 248 [53], .bsl 55 183 4 [(t0 54)], ap 56 183 4 48 48 55, fa 1 6] ++ s0 (sr 1 57 56)) [[], [0], [], [2], [], [3, 4], [5], [6], [7], [1, 8, 7], [0, 1, 2, 3, 4, 5, 6, 7, 8, 9], [10, 9, 9, 0, 1, 2, 3, 4, 5, 6, 7, 8, 9]])) (.reg (sq 45 [mv 8, bi .add 45 1] ++ sq 8 [mv 46]))))))) (.seq (.reg (sq 58 [la 2 6] ++ s0 (sr 2 4 58) ++ sq 5 [mb true])) .ret))))))
theorem fn201 : MFn Tryz.prog 201 mc201 59 [.cell 4 2 true, .tmp 5] := ⟨_, Tryz.func201, by kernel_rfl, Tryz.ntmps201, by kernel_rfl⟩
noncomputable def F_spec_l20Join_l2 (b : ((List Int) × (List (Int × Int × Bool × (List Int))))) (r : (List Int)) : (Int × (List (Int × Int × Bool × (List Int)))) → Option ((Int × (List (Int × Int × Bool × (List Int)))) ⊕ (((List Int) × (List (Int × Int × Bool × (List Int)))) × Bool))
 | (i_1, out_1) =>
  if (decide (i_1 < (b.2.length : Int))) = true then
   if 0 ≤ i_1 ∧ i_1 < (b.2.length : Int) then
    (F_spec_l20CopyMove ((b.2.getD i_1.toNat default).1, (b.2.getD i_1.toNat default).2.1, (b.2.getD i_1.toNat default).2.2.1, (b.2.getD i_1.toNat default).2.2.2)).bind fun r_2 =>
    if (out_1.length + 1) * 48 ≤ 140737488355328 then
     some (.inl ((IntKind.i64.wrap (i_1 + 1)), (out_1 ++ [r_2])))
    else none
   else none
  else
   Option.map Sum.inr (
    some ((r, out_1), true))
noncomputable def F_spec_l20Join_l1 (a : ((List Int) × (List (Int × Int × Bool × (List Int))))) (b : ((List Int) × (List (Int × Int × Bool × (List Int))))) (r : (List Int)) : (Int × (List (Int × Int × Bool × (List Int)))) → Option ((Int × (List (Int × Int × Bool × (List Int)))) ⊕ (((List Int) × (List (Int × Int × Bool × (List Int)))) × Bool))
 | (i, out) =>
  if (decide (i < (a.2.length : Int))) = true then
   if 0 ≤ i ∧ i < (a.2.length : Int) then
    (F_spec_l20CopyMove ((a.2.getD i.toNat default).1, (a.2.getD i.toNat default).2.1, (a.2.getD i.toNat default).2.2.1, (a.2.getD i.toNat default).2.2.2)).bind fun r_1 =>
    if (out.length + 1) * 48 ≤ 140737488355328 then
     some (.inl ((IntKind.i64.wrap (i + 1)), (out ++ [r_1])))
    else none
   else none
  else
   Option.map Sum.inr (
    loopC (F_spec_l20Join_l2 b r) (0, out))
noncomputable def F_spec_l20Join (a : ((List Int) × (List (Int × Int × Bool × (List Int))))) (b : ((List Int) × (List (Int × Int × Bool × (List Int))))) : Option (((List Int) × (List (Int × Int × Bool × (List Int)))) × Bool) :=
 if (decide (60 < (IntKind.i64.wrap ((a.2.length : Int) + (b.2.length : Int))))) = true then
  some (([], []), false)
 else
  (F_spec_l1Copy a.1).bind fun r =>
  loopC (F_spec_l20Join_l1 a b r) (0, [])
instance c_spec_l20Join {a : ((List Int) × (List (Int × Int × Bool × (List Int))))} {b : ((List Int) × (List (Int × Int × Bool × (List Int))))} : HasC (F_spec_l20Join a b) fun rr => PFunN Tryz.prog 201 [D_impl_Chain a, D_impl_Chain b] [D_impl_Chain rr.1, bD rr.2] := ⟨@fun rr h => by
  delta F_spec_l20Join at h
  refine fn201.pureLN (vcm_sound ?_)
  delta mc201
  refine stp ?_
  refine iF h fun hc h => ?_
  refine rCo [] [(3, 20)] h fun r hr h => ?_
  refine m_loopF h [7, 22, 23, 24, 25, 26, 27, 28, 29, 30, 31, 32, 33, 34, 35, 36, 37, 38, 39] (fun pp => [(7, .d (iD pp.1))]) (fun pp => [(2, .obj 120 [.d (slD 1 iD a.1), .d (slD 4 D_impl_Move a.2)]), (3, .obj 120 [.d (slD 1 iD b.1), .d (slD 4 D_impl_Move b.2)]), (4, .obj 120 [.d (.sl 0 (some true) []), .d (.sl 0 (some true) [])]), (6, .obj 120 [.own 1 20 (List.map iD r), .own 4 38 (List.map D_impl_Move pp.2)]), (20, .tok 2 1 r.length), (38, .tok 183 4 pp.2.length)]) ?_ ?_
  · try dsimp only
    refine (Weak.thawCell 6 1 38 183 4 rfl rfl rfl).trans ?_
    exact wk
  rintro ⟨i, out⟩ t1 h hb1
  unfold F_spec_l20Join_l1 at h
  try dsimp only at h
  refine vcm_sound (stp ?_)
  refine it h (fun hc h => ?_) fun hc h => ?_
  · refine ndI h fun hp h => ?_
    refine dC h fun r_1 hr_1 h => ?_
    refine ndI h fun hp h => ?_
    refine drQ_of (by kernel_rfl) (stp ?_)
    cases h
    refine ⟨_, rfl, ?_⟩
    refine (Weak.drop 37 (by omega)).trans ?_
    exact wk
  replace h := inr_some h hb1
  refine m_lW h [8, 40, 41, 42, 43, 44, 45, 46, 47, 48, 49, 50, 51, 52, 53, 54, 55, 56, 57] (fun pp => [(8, .d (iD pp.1))]) (fun pp => [(2, .obj 120 [.d (slD 1 iD a.1), .d (slD 4 D_impl_Move a.2)]), (3, .obj 120 [.d (slD 1 iD b.1), .d (slD 4 D_impl_Move b.2)]), (4, .obj 120 [.d (.sl 0 (some true) []), .d (.sl 0 (some true) [])]), (6, .obj 120 [.own 1 20 (List.map iD r), .own 4 38 (List.map D_impl_Move pp.2)]), (20, .tok 2 1 r.length), (38, .tok 183 4 pp.2.length)]) ?_
  rintro ⟨i_1, out_1⟩ t1 h hb1
  unfold F_spec_l20Join_l2 at h
  try dsimp only at h
  refine vcm_sound (stp ?_)
  refine iT h fun hc h => ?_
  refine ndI h fun hp h => ?_
  refine dC h fun r_2 hr_2 h => ?_
  refine ndI h fun hp h => ?_
  refine drQ_of (by kernel_rfl) (stp ?_)
  cases h
  refine ⟨_, rfl, ?_⟩
  refine (Weak.drop 55 (by omega)).trans ?_
  exact wk⟩
def mc135 : MCode :=
 (.seq (.reg (sq 3 [bo 3 46 0, bo 4 40 1, bo 5 40 2, .alloc 6 120 [.sl 0 (some true) [], .sl 0 (some true) []], mb false])) (.seq (.seq (.draw (sq 8 [la 2 3, la 2 4, cf 38 [8, 9], nt 10, mv 11] ++ sg 12 false 13 [la 2 3, la 2 5, cf 38 [13, 14], nt 15] ++ sq 17 [po 12 16, mv 17] ++ sg 18 false 19 [la 2 3, la 2 4, cf 39 [19, 20], la 2 3, la 2 5, cf 39 [22, 23], cf 36 [21, 24], nt 25] ++ sq 27 [po 18 26]) [[], [], [0, 1], [2], [3, 2], [4], [4], [5, 6, 4, 4], [7, 4], [4, 8], [9, 7], [10], [10], [11, 12, 10, 10], [10], [10], [14, 15, 13, 10], [13, 16, 16, 10], [17, 10], [10, 18]]) (.cond (t0 27) (.seq (.reg (sq 28 [.build [.sl 0 (some true) [], .sl 0 (some true) []] []] ++ s0 (sr 2 6 28) ++ sq 7 [mb false])) .ret) .skip)) (.seq (.draw (sq 29 [la 2 4, cf 202 [29], la 2 5, cf 202 [31], cf 203 [32], cf 201 [30, 33], ex 34 0, ex 34 1] ++ s0 (sr 2 6 35) ++ sq 7 [mv 36]) [[], [0], [], [2, 1], [3, 3], [1, 4, 4], [5], [5], [6, 5, 0, 1, 2, 3, 4, 5, 6, 7], [7, 8, 0, 1, 2, 3, 4, 5, 6, 7, 8]]) .ret)))
theorem fn135 : MFn Tryz.prog 135 mc135 37 [.cell 6 2 true, .tmp 7] := ⟨_, Tryz.func135, by kernel_rfl, Tryz.ntmps135, by kernel_rfl⟩
noncomputable def F_spec_ChainOfJoin (sys : ((List Int) × (List ((List Int) × (List Int))))) (v : ((List Int) × (List (Int × Int × (List Int))))) (w : ((List Int) × (List (Int × Int × (List Int))))) : Option (((List Int) × (List (Int × Int × Bool × (List Int)))) × Bool) :=
 (F_spec_WalkOk sys v).bind fun r =>
 if r = true then
  (F_spec_WalkOk sys w).bind fun r_1 =>
  if r_1 = true then
   (F_spec_EndTerm sys v).bind fun r_2 =>
   (F_spec_EndTerm sys w).bind fun r_3 =>
   (F_spec_SameTerm r_2 r_3).bind fun r_4 =>
   if r_4 = true then
    (F_spec_l20Walk v).bind fun r_5 =>
    (F_spec_l20Walk w).bind fun r_6 =>
    (F_spec_l20Turn r_6).bind fun r_7 =>
    (F_spec_l20Join r_5 r_7).bind fun r_8 =>
    some r_8
   else
    some (([], []), false)
  else
   some (([], []), false)
 else
  some (([], []), false)
instance c_spec_ChainOfJoin {sys : ((List Int) × (List ((List Int) × (List Int))))} {v : ((List Int) × (List (Int × Int × (List Int))))} {w : ((List Int) × (List (Int × Int × (List Int))))} : HasC (F_spec_ChainOfJoin sys v w) fun rr => PFunN Tryz.prog 135 [D_impl_System sys, D_impl_Walk v, D_impl_Walk w] [D_impl_Chain rr.1, bD rr.2] := ⟨@fun rr h => by
  delta F_spec_ChainOfJoin at h
  refine fn135.pureLN (vcm_sound ?_)
  delta mc135
  refine stp ?_
  exact aut⟩
def mc73 : MCode :=
 (.seq (.reg (sq 4 [bo 4 46 0] ++ sq 8 [.alloc 8 120 [.sl 0 (some true) [], .sl 0 (some true) []], mb false])) (.seq (.seq (.reg (sq 14 [la 2 4, mv 1, mv 2, mv 3, cf 133 [14, 15, 16, 17], bi .neq 18 1])) (.cond (t0 19) (.seq (.reg (sq 20 [.build [.sl 0 (some true) [], .sl 0 (some true) []] []] ++ s0 (sr 2 8 20) ++ sq 9 [mb false])) .ret) .skip)) (.seq (.reg (sq 22 [la 2 4, mv 1, mv 3, .callf 134 [(t0 22), (t0 23), (i0 1), (t0 24)]] ++ sq 21 [mv 25] ++ sq 26 [ex 21 0, ex 21 1] ++ sq 10 [.alloc 10 40 [.sl 0 (some true) [], .sl 0 (some true) []]] ++ s0 (sr 2 10 26) ++ sq 11 [mv 27])) (.seq (.reg (sq 29 [la 2 4, mv 2, mv 3, .callf 134 [(t0 29), (t0 30), (i0 1), (t0 31)]] ++ sq 28 [mv 32] ++ sq 33 [ex 28 0, ex 28 1] ++ sq 12 [.alloc 12 40 [.sl 0 (some true) [], .sl 0 (some true) []]] ++ s0 (sr 2 12 33) ++ sq 13 [mv 34])) (.seq (.reg (sq 35 [la 2 4, la 2 10, la 2 12, cf 135 [35, 36, 37], ex 38 0, ex 38 1] ++ s0 (sr 2 8 39) ++ sq 9 [mv 40])) .ret)))))
theorem fn73 : MFn Tryz.prog 73 mc73 41 [.cell 8 2 true, .tmp 9] := ⟨_, Tryz.func73, by kernel_rfl, Tryz.ntmps73, by kernel_rfl⟩
noncomputable def F_spec_ShownBy (sys : ((List Int) × (List ((List Int) × (List Int))))) (a : (List Int)) (b : (List Int)) (fuel : Int) : Option (((List Int) × (List (Int × Int × Bool × (List Int)))) × Bool) :=
 (F_spec_EqualBy sys a b fuel).bind fun r =>
 if (r != 1) = true then
  some (([], []), false)
 else
  (F_spec_WalkBy sys a 1 fuel).bind fun r_1 =>
  (F_spec_WalkBy sys b 1 fuel).bind fun r_2 =>
  (F_spec_ChainOfJoin sys r_1.1 r_2.1).bind fun r_3 =>
  some r_3
instance c_spec_ShownBy {sys : ((List Int) × (List ((List Int) × (List Int))))} {a : (List Int)} {b : (List Int)} {fuel : Int} : HasC (F_spec_ShownBy sys a b fuel) fun rr => PFunN Tryz.prog 73 [D_impl_System sys, (slD 1 iD) a, (slD 1 iD) b, iD fuel] [D_impl_Chain rr.1, bD rr.2] := ⟨@fun rr h => by
  delta F_spec_ShownBy at h
  refine fn73.pureLN (vcm_sound ?_)
  delta mc73
  refine stp ?_
  exact aut⟩
def mc137 : MCode :=
 (.seq (.reg (sq 2 [mb false])) (.seq (.reg (sq 3 [mv 0, ln 3, .callf 49 [(t0 4), (i0 1), (i0 60)]] ++ sq 2 [mv 5])) .ret))
theorem fn137 : MFn Tryz.prog 137 mc137 6 [.tmp 2] := ⟨_, Tryz.func137, by kernel_rfl, Tryz.ntmps137, by kernel_rfl⟩
noncomputable def F_spec_l29Term (t : (List Int)) : Option Bool :=
 (F_spec_l1In (t.length : Int) 1 60).bind fun r =>
 some r
instance c_spec_l29Term {t : (List Int)} : HasC (F_spec_l29Term t) fun rr => PFun Tryz.prog 137 [(slD 1 iD) t] (bD rr) := ⟨@fun rr h => by
  delta F_spec_l29Term at h
  refine fn137.pureL (vcm_sound ?_)
  delta mc137
  refine stp ?_
  exact aut⟩
def mc75 : MCode :=
 (.seq (.reg (sq 1 [bo 1 120 0, .alloc 2 125 [.lit (.int .i64 0), .sl 0 (some true) [], .sl 0 (some true) [], .sl 0 (some true) []]])) (.seq (.seq (.reg (sq 6 [fa 1 1, ld 6, ln 7, bi .gtr 8 60, mv 9] ++ sg 10 false 11 [fa 0 1, ld 11, cf 137 [12], nt 13] ++ sq 15 [po 10 14])) (.cond (t0 15) (.seq (.reg (sq 16 [.build [.lit (.int .i64 0), .sl 0 (some true) [], .sl 0 (some true) [], .sl 0 (some true) []] []] ++ s0 (sr 4 2 16))) .ret) .skip)) (.seq (.reg (sq 17 [fa 0 1, ld 17, cf 91 [18], .bsl 20 22 1 [(t0 19)], .build [.lit (.int .i64 0), .sl 0 (some true) [], .sl 0 (some true) [], .sl 0 (some true) []] [(0, 1, (i0 11)), (2, 1, (t0 20))]] ++ sq 3 [.alloc 3 125 [.lit (.int .i64 0), .sl 0 (some true) [], .sl 0 (some true) [], .sl 0 (some true) []]] ++ s0 (sr 4 3 21))) (.seq (.seq (.reg (sq 4 [mi 0])) (.block 0 (.loop (.seq (.seq (.reg (sq 22 [mv 4, fa 1 1, ld 23, ln 24, bn .lss 22 25])) (.cond (t0 26) .skip (.exit 0))) (.seq (.block 1 (.seq (.reg (sq 29 [fa 1 1, ld 29, mv 4, ix 4 30 31, la 4 32] ++ sq 5 [.alloc 5 183 [.lit (.int .i64 0), .lit (.int .i64 0), .lit (.bool false), .sl 0 (some true) []]] ++ s0 (sr 4 5 33))) (.seq (.seq (.reg (sq 34 [fa 3 5, ld 34, cf 137 [35], nt 36])) (.cond (t0 37) (.seq (.reg (sq 38 [.build [.lit (.int .i64 0), .sl 0 (some true) [], .sl 0 (some true) [], .sl 0 (some true) []] []] ++ s0 (sr 4 2 38))) .ret) .skip)) (.seq (.draw (sq 39 [fa 1 3, ld 39, fa 0 5, ld 41, fa 1 5, ld 43, fa 2 5, ld 45, cf 138 [46], .bsl 48 2 1 [(t0 42), (t0 44), (t0 47)], ap 49 2 1 8 40 48, fa 1 3] ++ s0 (sr 1 50 49)) [[], [0], [], [2], [], [4], [], [6], [7], [3, 5, 8], [1, 9, 8], [0, 1, 2, 3, 4, 5, 6, 7, 8, 9, 10], [11, 10, 10, 0, 1, 2, 3, 4, 5, 6, 7, 8, 9, 10]]) (.draw (sq 51 [fa 2 3, ld 51, fa 3 5, ld 53, cf 91 [54], .bsl 56 22 1 [(t0 55)], ap 57 22 1 24 52 56, fa 2 3] ++ s0 (sr 1 58 57)) [[], [0], [], [2], [3], [4], [1, 5, 4], [0, 1, 2, 3, 4, 5, 6], [7, 6, 6, 0, 1, 2, 3, 4, 5, 6]]))))) (.reg (sq 27 [mv 4, bi .add 27 1] ++ sq 4 [mv 28]))))))) (.seq (.reg (sq 59 [la 4 3] ++ s0 (sr 4 2 59))) .ret)))))
theorem fn75 : MFn Tryz.prog 75 mc75 60 [.cell 2 4 true] := ⟨_, Tryz.func75, by kernel_rfl, Tryz.ntmps75, by kernel_rfl⟩
noncomputable def F_spec_ChainNode_l1 (c : ((List Int) × (List (Int × Int × Bool × (List Int))))) : (Int × (List Int) × (List (List Int))) → Option ((Int × (List Int) × (List (List Int))) ⊕ (Int × (List Int) × (List (List Int)) × (List Int)))
 | (i, out, out_1) =>
  if (decide (i < (c.2.length : Int))) = true then
   if 0 ≤ i ∧ i < (c.2.length : Int) then
    (F_spec_l29Term ((c.2.getD i.toNat default).2.2.2)).bind fun r_2 =>
    if r_2 = true then
     (F_spec_l1Flag ((c.2.getD i.toNat default).2.2.1)).bind fun r_3 =>
     if (out.length + 3) * 8 ≤ 140737488355328 then
      (F_spec_l1Copy ((c.2.getD i.toNat default).2.2.2)).bind fun r_4 =>
      if (out_1.length + 1) * 24 ≤ 140737488355328 then
       some (.inl ((IntKind.i64.wrap (i + 1)), (out ++ [(c.2.getD i.toNat default).1, (c.2.getD i.toNat default).2.1, r_3]), (out_1 ++ [r_4])))
      else none
     else none
    else
     Option.map Sum.inr (
      some (0, [], [], []))
   else none
  else
   Option.map Sum.inr (
    some (11, out, out_1, []))
noncomputable def F_spec_ChainNode (c : ((List Int) × (List (Int × Int × Bool × (List Int))))) : Option (Int × (List Int) × (List (List Int)) × (List Int)) :=
 if (decide (60 < (c.2.length : Int))) = true then
  some (0, [], [], [])
 else
  (F_spec_l29Term c.1).bind fun r =>
  if r = true then
   (F_spec_l1Copy c.1).bind fun r_1 =>
   loopC (F_spec_ChainNode_l1 c) (0, [], [r_1])
  else
   some (0, [], [], [])
instance c_spec_ChainNode {c : ((List Int) × (List (Int × Int × Bool × (List Int))))} : HasC (F_spec_ChainNode c) fun rr => PFun Tryz.prog 75 [D_impl_Chain c] (D_impl_Node rr) := ⟨@fun rr h => by
  delta F_spec_ChainNode at h
  refine fn75.pureL (vcm_sound ?_)
  delta mc75
  refine stp ?_
  refine iF h fun hc h => ?_
  refine rC h fun r hr h => ?_
  refine iT h fun hc h => ?_
  refine rCo [] [(3, 19)] h fun r_1 hr_1 h => ?_
  refine m_loopF h [4, 5, 22, 23, 24, 25, 26, 27, 28, 29, 30, 31, 32, 33, 34, 35, 36, 37, 38, 39, 40, 41, 42, 43, 44, 45, 46, 47, 48, 49, 50, 51, 52, 53, 54, 55, 56, 57, 58] (fun pp => [(4, .d (iD pp.1))]) (fun pp => [(1, .obj 120 [.d (slD 1 iD c.1), .d (slD 4 D_impl_Move c.2)]), (2, .obj 125 [.d (iD 0), .d (.sl 0 (some true) []), .d (.sl 0 (some true) []), .d (.sl 0 (some true) [])]), (3, .obj 125 [.d (iD 11), .own 1 49 (List.map iD pp.2.1), .own 1 20 (List.map (slD 1 iD) pp.2.2), .d (.sl 0 (some true) [])]), (19, .tok 2 1 r_1.length), (20, .tok 22 1 pp.2.2.length), (49, .tok 2 1 pp.2.1.length)]) ?_ ?_
  · try dsimp only
    refine (Weak.thawCell 3 1 49 2 1 rfl rfl rfl).trans ?_
    exact wk
  rintro ⟨i, out, out_1⟩ t1 h hb1
  unfold F_spec_ChainNode_l1 at h
  try dsimp only at h
  refine vcm_sound (stp ?_)
  refine iT h fun hc h => ?_
  refine ndI h fun hp h => ?_
  refine rC h fun r_2 hr_2 h => ?_
  refine iT h fun hc h => ?_
  refine dC h fun r_3 hr_3 h => ?_
  refine ndI h fun hp h => ?_
  refine drQ_of (by kernel_rfl) (stp ?_)
  refine dCo [] [(3, 55)] h fun r_4 hr_4 h => ?_
  refine ndI h fun hp h => ?_
  refine drQ_of (by kernel_rfl) (stp ?_)
  cases h
  refine ⟨_, rfl, ?_⟩
  refine (Weak.drop 5 (by omega)).trans ?_
  refine (Weak.drop 48 (by omega)).trans ?_
  refine (Weak.drop 55 (by omega)).trans ?_
  refine (Weak.drop 56 (by omega)).trans ?_
  exact wk⟩
def mc205 : MCode :=
 (.seq (.reg (sq 2 [bo 2 125 0] ++ sq 4 [mb false])) (.seq (.seq (.reg (sq 7 [mv 1, bi .lss 7 0, mv 8] ++ sg 9 false 10 [fa 0 2, ld 10, .callf 49 [(t0 11), (i0 1), (i0 12)], nt 12] ++ sq 14 [po 9 13, mv 14] ++ sg 15 false 16 [fa 1 2, ld 16, ln 17, bi .gtr 18 200] ++ sq 20 [po 15 19, mv 20] ++ sg 21 false 22 [fa 2 2, ld 22, ln 23, bi .gtr 24 61] ++ sq 26 [po 21 25, mv 26] ++ sg 27 false 28 [fa 3 2, ld 28, ln 29, bi .gtr 30 64] ++ sq 32 [po 27 31])) (.cond (t0 32) (.seq (.reg (sq 4 [mb false])) .ret) .skip)) (.seq (.seq (.reg (sq 5 [mi 0])) (.block 0 (.loop (.seq (.seq (.reg (sq 33 [mv 5, fa 2 2, ld 34, ln 35, bn .lss 33 36])) (.cond (t0 37) .skip (.exit 0))) (.seq (.block 1 (.seq (.reg (sq 40 [fa 2 2, ld 40, mv 5, ix 1 41 42, ld 43, cf 137 [44], nt 45])) (.cond (t0 46) (.seq (.reg (sq 4 [mb false])) .ret) .skip))) (.reg (sq 38 [mv 5, bi .add 38 1] ++ sq 5 [mv 39]))))))) (.seq (.seq (.reg (sq 6 [mi 0])) (.block 2 (.loop (.seq (.seq (.reg (sq 47 [mv 6, fa 3 2, ld 48, ln 49, bn .lss 47 50])) (.cond (t0 51) .skip (.exit 2))) (.seq (.block 3 (.seq (.reg (sq 54 [fa 3 2, ld 54, mv 6, ix 1 55 56, ld 57, mv 1, bi .sub 59 1, .callf 49 [(t0 58), (i0 0), (t0 60)], nt 61])) (.cond (t0 62) (.seq (.reg (sq 4 [mb false])) .ret) .skip))) (.reg (sq 52 [mv 6, bi .add 52 1] ++ sq 6 [mv 53]))))))) (.seq (.reg (sq 4 [mb true])) .ret)))))
theorem fn205 : MFn Tryz.prog 205 mc205 63 [.tmp 4] := ⟨_, Tryz.func205, by kernel_rfl, Tryz.ntmps205, by kernel_rfl⟩
noncomputable def F_spec_NodeOk_l2 (n : (Int × (List Int) × (List (List Int)) × (List Int))) (many : Int) : Int → Option (Int ⊕ Bool)
 | i_1 =>
  if (decide (i_1 < (n.2.2.2.length : Int))) = true then
   if 0 ≤ i_1 ∧ i_1 < (n.2.2.2.length : Int) then
    (F_spec_l1In (n.2.2.2.getD i_1.toNat default) 0 (IntKind.i64.wrap (many - 1))).bind fun r_2 =>
    if r_2 = true then
     some (.inl (IntKind.i64.wrap (i_1 + 1)))
    else
     Option.map Sum.inr (
      some false)
   else none
  else
   Option.map Sum.inr (
    some true)
noncomputable def F_spec_NodeOk_l1 (n : (Int × (List Int) × (List (List Int)) × (List Int))) (many : Int) : Int → Option (Int ⊕ Bool)
 | i =>
  if (decide (i < (n.2.2.1.length : Int))) = true then
   if 0 ≤ i ∧ i < (n.2.2.1.length : Int) then
    (F_spec_l29Term (n.2.2.1.getD i.toNat default)).bind fun r_1 =>
    if r_1 = true then
     some (.inl (IntKind.i64.wrap (i + 1)))
    else
     Option.map Sum.inr (
      some false)
   else none
  else
   Option.map Sum.inr (
    loopC (F_spec_NodeOk_l2 n many) 0)
noncomputable def F_spec_NodeOk (n : (Int × (List Int) × (List (List Int)) × (List Int))) (many : Int) : Option Bool :=
 if (decide (many < 0)) = true then
  some false
 else
  (F_spec_l1In n.1 1 12).bind fun r =>
  if r = true then
   if (decide (200 < (n.2.1.length : Int))) = true then
    some false
   else
    if (decide (61 < (n.2.2.1.length : Int))) = true then
     some false
    else
     if (decide (64 < (n.2.2.2.length : Int))) = true then
      some false
     else
      loopC (F_spec_NodeOk_l1 n many) 0
  else
   some false
instance c_spec_NodeOk {n : (Int × (List Int) × (List (List Int)) × (List Int))} {many : Int} : HasC (F_spec_NodeOk n many) fun rr => PFun Tryz.prog 205 [D_impl_Node n, iD many] (bD rr) := ⟨@fun rr h => by
  delta F_spec_NodeOk at h
  refine fn205.pureL (vcm_sound ?_)
  delta mc205
  refine stp ?_
  refine iF h fun hc h => ?_
  refine rC h fun r hr h => ?_
  refine iT h fun hc h => ?_
  refine iF h fun hc h => ?_
  refine iF h fun hc h => ?_
  refine iF h fun hc h => ?_
  refine m_lW h [4, 5, 33, 34, 35, 36, 37, 38, 39, 40, 41, 42, 43, 44, 45, 46] (fun pp => [(5, .d (iD pp))]) (fun pp => [(2, .obj 125 [.d (iD n.1), .d (slD 1 iD n.2.1), .d (slD 1 (slD 1 iD) n.2.2.1), .d (slD 1 iD n.2.2.2)])]) ?_
  rintro i t1 h hb1
  unfold F_spec_NodeOk_l1 at h
  try dsimp only at h
  refine vcm_sound (stp ?_)
  refine iF h fun hc h => ?_
  replace h := inr_some h hb1
  refine m_lW h [4, 6, 47, 48, 49, 50, 51, 52, 53, 54, 55, 56, 57, 58, 59, 60, 61, 62] (fun pp => [(6, .d (iD pp))]) (fun pp => [(2, .obj 125 [.d (iD n.1), .d (slD 1 iD n.2.1), .d (slD 1 (slD 1 iD) n.2.2.1), .d (slD 1 iD n.2.2.2)])]) ?_
  rintro i_1 t1 h hb1
  unfold F_spec_NodeOk_l2 at h
  try dsimp only at h
  refine vcm_sound (stp ?_)
  exact aut⟩
def mc204 : MCode :=
 (.seq (.reg (sq 1 [bo 1 61 0, mb false])) (.seq (.seq (.reg (sq 3 [mi 0])) (.block 0 (.loop (.seq (.seq (.reg (sq 4 [mv 3, fa 0 1, ld 5, ln 6, bn .lss 4 7])) (.cond (t0 8) .skip (.exit 0))) (.seq (.block 1 (.seq (.reg (sq 11 [fa 0 1, ld 11, mv 3, ix 4 12 13, la 4 14, mv 3, cf 205 [15, 16], nt 17])) (.cond (t0 18) (.seq (.reg (sq 2 [mb false])) .ret) .skip))) (.reg (sq 9 [mv 3, bi .add 9 1] ++ sq 3 [mv 10]))))))) (.seq (.reg (sq 2 [mb true])) .ret)))
theorem fn204 : MFn Tryz.prog 204 mc204 19 [.tmp 2] := ⟨_, Tryz.func204, by kernel_rfl, Tryz.ntmps204, by kernel_rfl⟩
noncomputable def F_spec_l29Nodes_l1 (p : (List (Int × (List Int) × (List (List Int)) × (List Int)))) : Int → Option (Int ⊕ Bool)
 | i =>
  if (decide (i < (p.length : Int))) = true then
   if 0 ≤ i ∧ i < (p.length : Int) then
    (F_spec_NodeOk ((p.getD i.toNat default).1, (p.getD i.toNat default).2.1, (p.getD i.toNat default).2.2.1, (p.getD i.toNat default).2.2.2) i).bind fun r =>
    if r = true then
     some (.inl (IntKind.i64.wrap (i + 1)))
    else
     Option.map Sum.inr (
      some false)
   else none
  else
   Option.map Sum.inr (
    some true)
noncomputable def F_spec_l29Nodes (p : (List (Int × (List Int) × (List (List Int)) × (List Int)))) : Option Bool :=
 loopC (F_spec_l29Nodes_l1 p) 0
instance c_spec_l29Nodes {p : (List (Int × (List Int) × (List (List Int)) × (List Int)))} : HasC (F_spec_l29Nodes p) fun rr => PFun Tryz.prog 204 [D_impl_Proof p] (bD rr) := ⟨@fun rr h => by
  delta F_spec_l29Nodes at h
  refine fn204.pureL (vcm_sound ?_)
  delta mc204
  refine stp ?_
  refine m_lW h [2, 3, 4, 5, 6, 7, 8, 9, 10, 11, 12, 13, 14, 15, 16, 17, 18] (fun pp => [(3, .d (iD pp))]) (fun pp => [(1, .obj 61 [.d (slD 4 D_impl_Node p)])]) ?_
  rintro i t1 h hb1
  unfold F_spec_l29Nodes_l1 at h
  try dsimp only at h
  refine vcm_sound (stp ?_)
  exact aut⟩
def mc250 : MCode :=
 (.seq (.reg (sq 2 [.mv (.const (.slice none 0 0))])) (.seq (.reg (sq 5 [.bsl 5 22 1 []] ++ sq 3 [mv 5])) (.seq (.seq (.reg (sq 4 [mi 0])) (.block 0 (.loop (.seq (.seq (.reg (sq 6 [mv 4, mv 0, ln 7, bn .lss 6 8])) (.cond (t0 9) .skip (.exit 0))) (.seq (.block 1 (.reg (sq 12 [mv 3, mv 0, mv 4, ix 1 13 14, ld 15, cf 91 [16], .bsl 18 22 1 [(t0 17)], ap 19 22 1 24 12 18] ++ sq 3 [mv 19]))) (.reg (sq 10 [mv 4, bi .add 10 1] ++ sq 4 [mv 11]))))))) (.seq (.reg (sq 20 [mv 3] ++ sq 2 [mv 20])) .ret))))
theorem fn250 : MFn Tryz.prog 250 mc250 21 [.tmp 2] := ⟨_, Tryz.func250, by kernel_rfl, Tryz.ntmps250, by kernel_rfl⟩
noncomputable def F_spec_l1CopyTerms_l1 (list : (List (List Int))) : ((List (List Int)) × Int) → Option (((List (List Int)) × Int) ⊕ (List (List Int)))
 | (out, i) =>
  if (decide (i < (list.length : Int))) = true then
   if 0 ≤ i ∧ i < (list.length : Int) then
    (F_spec_l1Copy (list.getD i.toNat default)).bind fun r =>
    if (out.length + 1) * 24 ≤ 140737488355328 then
     some (.inl ((out ++ [r]), (IntKind.i64.wrap (i + 1))))
    else none
   else none
  else
   Option.map Sum.inr (
    some out)
noncomputable def F_spec_l1CopyTerms (list : (List (List Int))) : Option (List (List Int)) :=
 loopC (F_spec_l1CopyTerms_l1 list) ([], 0)
instance c_spec_l1CopyTerms {list : (List (List Int))} : HasC (F_spec_l1CopyTerms list) fun rr => PFun Tryz.prog 250 [(slD 1 (slD 1 iD)) list] ((slD 1 (slD 1 iD)) rr) := ⟨@fun rr h => by
  delta F_spec_l1CopyTerms at h
  refine fn250.pureL (vcm_sound ?_)
  delta mc250
  refine stp ?_
  refine m_lW h [3, 4, 6, 7, 8, 9, 10, 11, 12, 13, 14, 15, 16, 17, 18, 19] (fun pp => [(3, .own 1 5 (List.map (slD 1 iD) pp.1)), (4, .d (iD pp.2))]) (fun pp => [(5, .tok 22 1 pp.1.length)]) ?_
  rintro ⟨out, i⟩ t1 h hb1
  unfold F_spec_l1CopyTerms_l1 at h
  try dsimp only at h
  refine vcm_sound (stp ?_)
  refine iT h fun hc h => ?_
  refine ndI h fun hp h => ?_
  refine rCo [] [(3, 17)] h fun r hr h => ?_
  refine ndI h fun hp h => ?_
  cases h
  refine ⟨_, rfl, ?_⟩
  refine (Weak.drop 17 (by omega)).trans ?_
  refine (Weak.drop 18 (by omega)).trans ?_
  exact wk⟩
def mc207 : MCode :=
 (.seq (.reg (sq 1 [bo 1 125 0, .alloc 2 125 [.lit (.int .i64 0), .sl 0 (some true) [], .sl 0 (some true) [], .sl 0 (some true) []]])) (.seq (.draw (sq 3 [fa 0 1, ld 3, fa 1 1, ld 5, cf 91 [6], fa 2 1, ld 8, cf 250 [9], fa 3 1, ld 11, cf 91 [12], .build [.lit (.int .i64 0), .sl 0 (some true) [], .sl 0 (some true) [], .sl 0 (some true) []] [(0, 1, (t0 4)), (1, 1, (t0 7)), (2, 1, (t0 10)), (3, 1, (t0 13))]] ++ s0 (sr 4 2 14)) [[], [0], [], [2], [3], [], [5], [6, 4], [], [8], [9, 7], [1, 4, 7, 10], [11, 10, 0, 1, 2, 3, 4, 5, 6, 7, 8, 9, 10, 11]]) .ret))
theorem fn207 : MFn Tryz.prog 207 mc207 15 [.cell 2 4 true] := ⟨_, Tryz.func207, by kernel_rfl, Tryz.ntmps207, by kernel_rfl⟩
noncomputable def F_spec_l29CopyNode (n : (Int × (List Int) × (List (List Int)) × (List Int))) : Option (Int × (List Int) × (List (List Int)) × (List Int)) :=
 (F_spec_l1Copy n.2.1).bind fun r =>
 (F_spec_l1CopyTerms n.2.2.1).bind fun r_1 =>
 (F_spec_l1Copy n.2.2.2).bind fun r_2 =>
 some (n.1, r, r_1, r_2)
instance c_spec_l29CopyNode {n : (Int × (List Int) × (List (List Int)) × (List Int))} : HasC (F_spec_l29CopyNode n) fun rr => PFun Tryz.prog 207 [D_impl_Node n] (D_impl_Node rr) := ⟨@fun rr h => by
  delta F_spec_l29CopyNode at h
  refine fn207.pureL (vcm_sound ?_)
  delta mc207
  refine stp ?_
  refine dCo [] [(3, 7)] h fun r hr h => ?_
  refine dC h fun r_1 hr_1 h => ?_
  refine dCo [] [(3, 13)] h fun r_2 hr_2 h => ?_
  exact aut⟩
def mc206 : MCode :=
 (.seq (.reg (sq 1 [bo 1 61 0, .alloc 2 61 [.sl 0 (some true) []]])) (.seq (.reg (sq 5 [.build [.sl 0 (some true) []] []] ++ sq 3 [.alloc 3 61 [.sl 0 (some true) []]] ++ s0 (sr 1 3 5))) (.seq (.seq (.reg (sq 4 [mi 0])) (.block 0 (.loop (.seq (.seq (.reg (sq 6 [mv 4, fa 0 1, ld 7, ln 8, bn .lss 6 9])) (.cond (t0 10) .skip (.exit 0))) (.seq (.block 1 (.draw (sq 13 [fa 0 3, ld 13, fa 0 1, ld 15, mv 4, ix 4 16 17, la 4 18, cf 207 [19], .bsl 21 125 4 [(t0 20)], ap 22 125 4 80 14 21, fa 0 3] ++ s0 (sr 1 23 22)) [[], [0], [], [2], [], [3, 4], [5], [6], [7], [1, 8, 7], [0, 1, 2, 3, 4, 5, 6, 7, 8, 9], [10, 9, 9, 0, 1, 2, 3, 4, 5, 6, 7, 8, 9]])) (.reg (sq 11 [mv 4, bi .add 11 1] ++ sq 4 [mv 12]))))))) (.seq (.reg (sq 24 [la 1 3] ++ s0 (sr 1 2 24))) .ret))))
theorem fn206 : MFn Tryz.prog 206 mc206 25 [.cell 2 1 true] := ⟨_, Tryz.func206, by kernel_rfl, Tryz.ntmps206, by kernel_rfl⟩
noncomputable def F_spec_l29Copy_l1 (p : (List (Int × (List Int) × (List (List Int)) × (List Int)))) : (Int × (List (Int × (List Int) × (List (List Int)) × (List Int)))) → Option ((Int × (List (Int × (List Int) × (List (List Int)) × (List Int)))) ⊕ (List (Int × (List Int) × (List (List Int)) × (List Int))))
 | (i, out) =>
  if (decide (i < (p.length : Int))) = true then
   if 0 ≤ i ∧ i < (p.length : Int) then
    (F_spec_l29CopyNode ((p.getD i.toNat default).1, (p.getD i.toNat default).2.1, (p.getD i.toNat default).2.2.1, (p.getD i.toNat default).2.2.2)).bind fun r =>
    if (out.length + 1) * 80 ≤ 140737488355328 then
     some (.inl ((IntKind.i64.wrap (i + 1)), (out ++ [r])))
    else none
   else none
  else
   Option.map Sum.inr (
    some out)
noncomputable def F_spec_l29Copy (p : (List (Int × (List Int) × (List (List Int)) × (List Int)))) : Option (List (Int × (List Int) × (List (List Int)) × (List Int))) :=
 loopC (F_spec_l29Copy_l1 p) (0, [])
instance c_spec_l29Copy {p : (List (Int × (List Int) × (List (List Int)) × (List Int)))} : HasC (F_spec_l29Copy p) fun rr => PFun Tryz.prog 206 [D_impl_Proof p] (D_impl_Proof rr) := ⟨@fun rr h => by
  delta F_spec_l29Copy at h
  refine fn206.pureL (vcm_sound ?_)
  delta mc206
  refine stp ?_
  refine m_loopF h [4, 6, 7, 8, 9, 10, 11, 12, 13, 14, 15, 16, 17, 18, 19, 20, 21, 22, 23] (fun pp => [(4, .d (iD pp.1))]) (fun pp => [(1, .obj 61 [.d (slD 4 D_impl_Node p)]), (2, .obj 61 [.d (.sl 0 (some true) [])]), (3, .obj 61 [.own 4 22 (List.map D_impl_Node pp.2)]), (22, .tok 125 4 pp.2.length)]) ?_ ?_
  · try dsimp only
    refine (Weak.thawCell 3 0 22 125 4 rfl rfl rfl).trans ?_
    exact wk
  rintro ⟨i, out⟩ t1 h hb1
  unfold F_spec_l29Copy_l1 at h
  try dsimp only at h
  refine vcm_sound (stp ?_)
  refine iT h fun hc h => ?_
  refine ndI h fun hp h => ?_
  refine dC h fun r hr h => ?_
  refine ndI h fun hp h => ?_
  refine drQ_of (by kernel_rfl) (stp ?_)
  cases h
  refine ⟨_, rfl, ?_⟩
  refine (Weak.drop 21 (by omega)).trans ?_
  exact wk⟩
def mc206_spec_l29Copy_s1 : MCode :=
 (.seq (.reg (sq 1 [bo 1 61 0, .alloc 2 61 [.sl 0 (some true) []]])) (.seq (.reg (sq 5 [.build [.sl 0 (some true) []] []] ++ sq 3 [.alloc 3 61 [.sl 0 (some true) []]] ++ s0 (sr 1 3 5))) (.seq (.seq (.reg (sq 4 [mi 0])) (.block 0 (.loop (.seq (.seq (.reg (sq 6 [mv 4, fa 0 1, ld 7, ln 8, bn .lss 6 9])) (.cond (t0 10) .skip (.exit 0))) (.seq (.block 1 (.draw (sq 13 [fa 0 3, ld 13, fa 0 1, ld 15, mv 4, ix 4 16 17, la 4 18, cf 207 [19], .bsl 21 125 4 [(t0 20)], .appg 22 125 4 80 (t0 14) (t0 21), fa 0 3] ++ s0 (sr 1 23 22)) [[], [0], [], [2], [], [3, 4], [5], [6], [7], [1, 8, 7], [0, 1, 2, 3, 4, 5, 6, 7, 8, 9], [10, 9, 9, 0, 1, 2, 3, 4, 5, 6, 7, 8, 9]])) (.reg (sq 11 [mv 4, bi .add 11 1] ++ sq 4 [mv 12]))))))) (.seq (.reg (sq 24 [la 1 3] ++ s0 (sr 1 2 24))) .ret))))
theorem fn206_spec_l29Copy_s1 : MFn Tryz.prog 206 mc206_spec_l29Copy_s1 25 [.cell 2 1 true] := ⟨_, Tryz.func206, by kernel_rfl, Tryz.ntmps206, by kernel_rfl⟩
noncomputable def F_spec_l29Copy_s1_l1 (p : (List (Int × (List Int) × (List (List Int)) × (List Int)))) : (Int × (List (Int × (List Int) × (List (List Int)) × (List Int)))) → Option ((Int × (List (Int × (List Int) × (List (List Int)) × (List Int)))) ⊕ (List (Int × (List Int) × (List (List Int)) × (List Int))))
 | (i, g22) =>
  if (decide (i < (p.length : Int))) = true then
   if 0 ≤ i ∧ i < (p.length : Int) then
    (F_spec_l29CopyNode ((p.getD i.toNat default).1, (p.getD i.toNat default).2.1, (p.getD i.toNat default).2.2.1, (p.getD i.toNat default).2.2.2)).bind fun r =>
    if (g22.length + 1) * 80 ≤ 140737488355328 then
     some (.inl ((IntKind.i64.wrap (i + 1)), (g22 ++ [r])))
    else none
   else none
  else
   Option.map Sum.inr (
    some g22)
noncomputable def F_spec_l29Copy_s1 (p : (List (Int × (List Int) × (List (List Int)) × (List Int)))) : Option (List (Int × (List Int) × (List (List Int)) × (List Int))) :=
 loopC (F_spec_l29Copy_s1_l1 p) (0, [])
instance c_spec_l29Copy_s1 {p : (List (Int × (List Int) × (List (List Int)) × (List Int)))} : HasC (F_spec_l29Copy_s1 p) fun rr => ACalls Tryz.prog 206 [.d (.agg [slD 4 D_impl_Node p])] [] 0 fun xx ss => xx = .agg [.gow 4 900000 rr.length] ∧ ss = [(900000, .gro 125 4 rr.length (groL D_impl_Node rr))] := ⟨@fun rr h => by
  delta F_spec_l29Copy_s1 at h
  refine fn206_spec_l29Copy_s1.callsD (vcm_sound ?_)
  delta mc206_spec_l29Copy_s1
  refine stp ?_
  refine m_loopF h [4, 6, 7, 8, 9, 10, 11, 12, 13, 14, 15, 16, 17, 18, 19, 20, 21, 22, 23] (fun pp => [(4, .d (iD pp.1))]) (fun pp => [(1, .obj 61 [.d (slD 4 D_impl_Node p)]), (2, .obj 61 [.d (.sl 0 (some true) [])]), (3, .obj 61 [.gow 4 22 pp.2.length]), (22, .gro 125 4 pp.2.length (groL D_impl_Node pp.2))]) ?_ ?_
  · try dsimp only
    refine (Weak.thawCellG 3 0 22 125 4 rfl rfl rfl).trans ?_
    exact wk
  rintro ⟨i, g22⟩ t1 h hb1
  unfold F_spec_l29Copy_s1_l1 at h
  try dsimp only at h
  refine vcm_sound (stp ?_)
  refine it h (fun hc h => ?_) fun hc h => ?_
  · refine ndI h fun hp h => ?_
    refine dC h fun r hr h => ?_
    refine ndI h fun hp h => ?_
    refine drQ_of (by kernel_rfl) (stp ?_)
    cases h
    refine ⟨_, rfl, ?_⟩
    refine (Weak.leS (s' := [(1, .obj 61 [.d (slD 4 D_impl_Node p)]), (2, .obj 61 [.d (.sl 0 (some true) [])]), (3, .obj 61 [.gow 4 22 ((g22 ++ [r]).length)]), (21, .tok 125 4 1), (22, .gro 125 4 ((g22 ++ [r]).length) (groL D_impl_Node (g22 ++ [r])))]) (EnvLe.refl _) (by exact (stoC (ObLe.refl _) (stoC (ObLe.refl _) (stoC ⟨rfl, don⟩ (stoC (ObLe.refl _) (stoC ⟨rfl, rfl, by simp, gro_snoc don⟩ stoN))))))).trans ?_
    refine (Weak.drop 21 (by omega)).trans ?_
    exact wk
  replace h := inr_some h hb1
  cases h
  exact Done.trans ((Done.trans (Done.move 22 900000 (ob := .gro 125 4 rr.length (groL D_impl_Node rr)) (by omega) (by omega) (by omega) rfl (by first | rfl | (simp; done) | (simp [sat, smove, sset, skill, sdel, sdels, Ob.ren, Ob.kill, rens_tolds]; done))) (Done.drops [1, 2, 3] (by simp)))) (Done.told frd don)⟩
def mc136 : MCode :=
 (.seq (.reg (sq 2 [bo 2 61 0, bo 3 125 1, .alloc 4 61 [.sl 0 (some true) []], mb false])) (.seq (.seq (.reg (sq 7 [fa 0 2, ld 7, ln 8, bi .geq 9 64, mv 10] ++ sg 11 false 12 [la 1 2, cf 204 [12], nt 13] ++ sq 15 [po 11 14, mv 15] ++ sg 16 false 17 [la 4 3, fa 0 2, ld 18, ln 19, cf 205 [17, 20], nt 21] ++ sq 23 [po 16 22])) (.cond (t0 23) (.seq (.reg (sq 24 [.build [.sl 0 (some true) []] []] ++ s0 (sr 1 4 24) ++ sq 5 [mb false])) .ret) .skip)) (.seq (.reg (sq 25 [la 1 2, cf 206 [25]] ++ sq 6 [.alloc 6 61 [.sl 0 (some true) []]] ++ s0 (sr 1 6 26))) (.seq (.draw (sq 27 [fa 0 6, ld 27, la 4 3, cf 207 [29], .bsl 31 125 4 [(t0 30)], ap 32 125 4 80 28 31, fa 0 6] ++ s0 (sr 1 33 32)) [[], [0], [], [2], [3], [1, 4, 3], [0, 1, 2, 3, 4, 5], [6, 5, 5, 0, 1, 2, 3, 4, 5]]) (.seq (.reg (sq 34 [la 1 6] ++ s0 (sr 1 4 34) ++ sq 5 [mb true])) .ret)))))
theorem fn136 : MFn Tryz.prog 136 mc136 35 [.cell 4 1 true, .tmp 5] := ⟨_, Tryz.func136, by kernel_rfl, Tryz.ntmps136, by kernel_rfl⟩
noncomputable def F_spec_AddedNode (p : (List (Int × (List Int) × (List (List Int)) × (List Int)))) (n : (Int × (List Int) × (List (List Int)) × (List Int))) : Option ((List (Int × (List Int) × (List (List Int)) × (List Int))) × Bool) :=
 if (decide (64 ≤ (p.length : Int))) = true then
  some ([], false)
 else
  (F_spec_l29Nodes p).bind fun r =>
  if r = true then
   (F_spec_NodeOk n (p.length : Int)).bind fun r_1 =>
   if r_1 = true then
    (F_spec_l29Copy_s1 p).bind fun r_2 =>
    (F_spec_l29CopyNode n).bind fun r_3 =>
    if (r_2.length + 1) * 80 ≤ 140737488355328 then
     some ((r_2 ++ [r_3]), true)
    else none
   else
    some ([], false)
  else
   some ([], false)
instance c_spec_AddedNode {p : (List (Int × (List Int) × (List (List Int)) × (List Int)))} {n : (Int × (List Int) × (List (List Int)) × (List Int))} : HasC (F_spec_AddedNode p n) fun rr => PFunN Tryz.prog 136 [D_impl_Proof p, D_impl_Node n] [D_impl_Proof rr.1, bD rr.2] := ⟨@fun rr h => by
  delta F_spec_AddedNode at h
  refine fn136.pureDN (vcm_sound ?_)
  delta mc136
  refine stp ?_
  refine it h (fun hc h => ?_) fun hc h => ?_
  · cases h
    exact ⟨_, _, Done.refl, frd⟩
  refine rC h fun r hr h => ?_
  refine it h (fun hc h => ?_) fun hc h => ?_
  · refine rC h fun r_1 hr_1 h => ?_
    refine it h (fun hc h => ?_) fun hc h => ?_
    · refine rCo [] [(900000, 26)] h fun r_2 hr_2 h => ?_
      refine dC h fun r_3 hr_3 h => ?_
      refine ndI h fun hp h => ?_
      refine drQ_of (by kernel_rfl) (stp ?_)
      cases h
      exact ⟨_, _, (Done.trans (Done.told (t := [(2, .obj 61 [.d (slD 4 D_impl_Node p)]), (3, .obj 125 [.d (iD n.1), .d (slD 1 iD n.2.1), .d (slD 1 (slD 1 iD) n.2.2.1), .d (slD 1 iD n.2.2.2)]), (4, .obj 61 [.gow 4 26 ((r_2 ++ [r_3]).length)]), (6, .obj 61 [.gow 4 26 ((r_2 ++ [r_3]).length)]), (26, .gro 125 4 ((r_2 ++ [r_3]).length) (groL D_impl_Node (r_2 ++ [r_3]))), (31, .tok 125 4 1)]) (AV.le_refl _) (by exact (stoC (ObLe.refl _) (stoC (ObLe.refl _) (stoC ⟨rfl, don⟩ (stoC ⟨rfl, don⟩ (stoC ⟨rfl, rfl, by simp, gro_snoc don⟩ (stoC (ObLe.refl _) stoN)))))))) (Done.fz 26 D_impl_Node rfl (r_2 ++ [r_3]))), frd⟩
    cases h
    exact ⟨_, _, Done.refl, frd⟩
  cases h
  exact ⟨_, _, Done.refl, frd⟩⟩
def mc74 : MCode :=
 (.seq (.reg (sq 1 [bo 1 125 0, .alloc 2 61 [.sl 0 (some true) []], mb false])) (.seq (.reg (sq 4 [.build [.sl 0 (some true) []] [], la 4 1, cf 136 [4, 5], ex 6 0, ex 6 1] ++ s0 (sr 1 2 7) ++ sq 3 [mv 8])) .ret))
theorem fn74 : MFn Tryz.prog 74 mc74 9 [.cell 2 1 true, .tmp 3] := ⟨_, Tryz.func74, by kernel_rfl, Tryz.ntmps74, by kernel_rfl⟩
noncomputable def F_spec_l31One (n : (Int × (List Int) × (List (List Int)) × (List Int))) : Option ((List (Int × (List Int) × (List (List Int)) × (List Int))) × Bool) :=
 (F_spec_AddedNode [] n).bind fun r =>
 some r
instance c_spec_l31One {n : (Int × (List Int) × (List (List Int)) × (List Int))} : HasC (F_spec_l31One n) fun rr => PFunN Tryz.prog 74 [D_impl_Node n] [D_impl_Proof rr.1, bD rr.2] := ⟨@fun rr h => by
  delta F_spec_l31One at h
  refine fn74.pureLN (vcm_sound ?_)
  delta mc74
  refine stp ?_
  exact aut⟩
def mc20 : MCode :=
 (.seq (.reg (sq 4 [bo 4 46 0] ++ sq 8 [.alloc 8 61 [.sl 0 (some true) []], mb false])) (.seq (.reg (sq 13 [la 2 4, mv 1, mv 2, mv 3, cf 73 [13, 14, 15, 16]] ++ sq 12 [mv 17] ++ sq 18 [ex 12 0, ex 12 1] ++ sq 10 [.alloc 10 120 [.sl 0 (some true) [], .sl 0 (some true) []]] ++ s0 (sr 2 10 18) ++ sq 11 [mv 19])) (.seq (.seq (.reg (sq 20 [la 2 4, cf 37 [20], nt 21, mv 22] ++ sg 23 false 24 [mv 11, nt 24] ++ sq 26 [po 23 25])) (.cond (t0 26) (.seq (.reg (sq 27 [.build [.sl 0 (some true) []] []] ++ s0 (sr 1 8 27) ++ sq 9 [mb false])) .ret) .skip)) (.seq (.reg (sq 28 [la 2 10, cf 75 [28], cf 74 [29], ex 30 0, ex 30 1] ++ s0 (sr 1 8 31) ++ sq 9 [mv 32])) .ret))))
theorem fn20 : MFn Tryz.prog 20 mc20 33 [.cell 8 1 true, .tmp 9] := ⟨_, Tryz.func20, by kernel_rfl, Tryz.ntmps20, by kernel_rfl⟩
noncomputable def F_spec_EqualProof (sys : ((List Int) × (List ((List Int) × (List Int))))) (a : (List Int)) (b : (List Int)) (fuel : Int) : Option ((List (Int × (List Int) × (List (List Int)) × (List Int))) × Bool) :=
 (F_spec_ShownBy sys a b fuel).bind fun r =>
 (F_spec_SystemOk sys).bind fun r_1 =>
 if r_1 = true then
  if r.2 = true then
   (F_spec_ChainNode r.1).bind fun r_2 =>
   (F_spec_l31One r_2).bind fun r_3 =>
   some r_3
  else
   some ([], false)
 else
  some ([], false)
instance c_spec_EqualProof {sys : ((List Int) × (List ((List Int) × (List Int))))} {a : (List Int)} {b : (List Int)} {fuel : Int} : HasC (F_spec_EqualProof sys a b fuel) fun rr => PFunN Tryz.prog 20 [D_impl_System sys, (slD 1 iD) a, (slD 1 iD) b, iD fuel] [D_impl_Proof rr.1, bD rr.2] := ⟨@fun rr h => by
  delta F_spec_EqualProof at h
  refine fn20.pureLN (vcm_sound ?_)
  delta mc20
  refine stp ?_
  exact aut⟩
end Go.Proofs.YtklfjpilhbkekaaGreat
