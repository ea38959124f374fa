/- Functions of the program and the equations that they compute, loops again, the reference and the program; nothing is assumed. -/
import Derived.Test.YtklfjpilhbkekaaGreatYe
set_option linter.unusedSimpArgs false
set_option linter.unusedVariables false
set_option linter.unusedSectionVars false
set_option linter.unnecessarySimpa false
namespace Go.Proofs.YtklfjpilhbkekaaGreat
open Go Abx
attribute [local irreducible] vcm vgo vdr vrun vdrun MWp GhostQ BrC BrO BrG BrD BrH AmbO callR callD drQ EnvLe StoLe
set_option maxHeartbeats 4000000
def D_impl_Loop (x : ((List Int) × (List (Int × Int × (List Int))) × Int × (List (List Int)))) : D := .agg [(slD 1 iD) x.1, (slD 3 D_impl_Step) x.2.1, iD x.2.2.1, (slD 1 (slD 1 iD)) x.2.2.2]
instance : Cel D_impl_Loop 4 := ⟨fun _ => rfl⟩
attribute [go_sem] D_impl_Loop
def mc109 : MCode :=
 (.seq (.reg (sq 2 [bo 2 43 0, bo 3 48 1, mb false])) (.seq (.seq (.reg (sq 6 [la 1 2, cf 96 [6], nt 7, mv 8] ++ sg 9 false 10 [fa 0 3, ld 10, ln 11, bi .gtr 12 24] ++ sq 14 [po 9 13])) (.cond (t0 14) (.seq (.reg (sq 4 [mb false])) .ret) .skip)) (.seq (.seq (.reg (sq 5 [mi 0])) (.block 0 (.loop (.seq (.seq (.reg (sq 15 [mv 5, fa 0 3, ld 16, ln 17, bn .lss 15 18])) (.cond (t0 19) .skip (.exit 0))) (.seq (.block 1 (.seq (.draw (sq 22 [fa 0 3, ld 22, mv 5, ix 1 23 24, ld 25, ln 26, bi .gtr 27 0, mv 28] ++ sg 29 true 30 [la 1 2, fa 0 3, ld 31, mv 5, ix 1 32 33, ld 34, cf 154 [30, 35], nt 36] ++ sq 38 [pa 29 37]) [[], [0], [], [1, 2], [3], [4], [5], [6], [7], [7], [9, 7], [7], [10, 11, 7], [12, 7], [8, 13, 7, 7], [14, 7], [7, 15]]) (.cond (t0 38) (.seq (.reg (sq 4 [mb false])) .ret) .skip))) (.reg (sq 20 [mv 5, bi .add 20 1] ++ sq 5 [mv 21]))))))) (.seq (.reg (sq 4 [mb true])) .ret))))
theorem fn109 : MFn Tryz.prog 109 mc109 39 [.tmp 4] := ⟨_, Tryz.func109, by kernel_rfl, Tryz.ntmps109, by kernel_rfl⟩
noncomputable def F_spec_SubstOk_l1 (sig : (List Int)) (s : (List (List Int))) : Int → Option (Int ⊕ Bool)
 | i =>
  if (decide (i < (s.length : Int))) = true then
   if 0 ≤ i ∧ i < (s.length : Int) then
    if (decide (0 < ((s.getD i.toNat default).length : Int))) = true then
     if 0 ≤ i ∧ i < (s.length : Int) then
      (F_spec_TermOk sig (s.getD i.toNat default)).bind fun r_1 =>
      if r_1 = true then
       some (.inl (IntKind.i64.wrap (i + 1)))
      else
       Option.map Sum.inr (
        some false)
     else none
    else
     some (.inl (IntKind.i64.wrap (i + 1)))
   else none
  else
   Option.map Sum.inr (
    some true)
noncomputable def F_spec_SubstOk (sig : (List Int)) (s : (List (List Int))) : Option Bool :=
 (F_spec_SigOk sig).bind fun r =>
 if r = true then
  if (decide (24 < (s.length : Int))) = true then
   some false
  else
   loopC (F_spec_SubstOk_l1 sig s) 0
 else
  some false
instance c_spec_SubstOk {sig : (List Int)} {s : (List (List Int))} : HasC (F_spec_SubstOk sig s) fun rr => PFun Tryz.prog 109 [D_impl_Sig sig, D_impl_Subst s] (bD rr) := ⟨@fun rr h => by
  delta F_spec_SubstOk at h
  refine fn109.pureL (vcm_sound ?_)
  delta mc109
  refine stp ?_
  refine rC h fun r hr h => ?_
  refine iT h fun hc h => ?_
  refine iF h fun hc h => ?_
  refine m_lW h [4, 5, 15, 16, 17, 18, 19, 20, 21, 22, 23, 24, 25, 26, 27, 28, 29, 30, 31, 32, 33, 34, 35, 36, 37, 38] (fun pp => [(5, .d (iD pp))]) (fun pp => [(2, .obj 43 [.d (slD 1 iD sig)]), (3, .obj 48 [.d (slD 1 (slD 1 iD) s)])]) ?_
  rintro i t1 h hb1
  unfold F_spec_SubstOk_l1 at h
  try dsimp only at h
  refine vcm_sound (stp ?_)
  exact aut⟩
def mc110 : MCode :=
 (.seq (.reg (sq 3 [bo 3 43 0, bo 4 48 1] ++ sq 6 [.mv (.const (.slice none 0 0)), mb false])) (.seq (.seq (.reg (sq 8 [la 1 3, la 1 4, cf 109 [8, 9], nt 10, mv 11] ++ sg 12 false 13 [la 1 3, mv 2, cf 154 [13, 14], nt 15] ++ sq 17 [po 12 16])) (.cond (t0 17) (.seq (.reg (sq 18 [.bsl 18 2 1 []] ++ sq 6 [mv 18, mb false])) .ret) .skip)) (.seq (.reg (sq 19 [la 1 4, mv 2, cf 113 [19, 20], ex 21 0, ex 21 1] ++ sq 6 [mv 22, mv 23])) .ret)))
theorem fn110 : MFn Tryz.prog 110 mc110 24 [.tmp 6, .tmp 7] := ⟨_, Tryz.func110, by kernel_rfl, Tryz.ntmps110, by kernel_rfl⟩
noncomputable def F_spec_Filled (sig : (List Int)) (s : (List (List Int))) (t : (List Int)) : Option ((List Int) × Bool) :=
 (F_spec_SubstOk sig s).bind fun r =>
 if r = true then
  (F_spec_TermOk sig t).bind fun r_1 =>
  if r_1 = true then
   (F_spec_l2Filled s t).bind fun r_2 =>
   some r_2
  else
   some ([], false)
 else
  some ([], false)
instance c_spec_Filled {sig : (List Int)} {s : (List (List Int))} {t : (List Int)} : HasC (F_spec_Filled sig s t) fun rr => PFunN Tryz.prog 110 [D_impl_Sig sig, D_impl_Subst s, (slD 1 iD) t] [(slD 1 iD) rr.1, bD rr.2] := ⟨@fun rr h => by
  delta F_spec_Filled at h
  refine fn110.pureLN (vcm_sound ?_)
  delta mc110
  refine stp ?_
  exact aut⟩
def mc111 : MCode :=
 (.seq (.reg (sq 3 [bo 3 43 0] ++ sq 6 [.mv (.const (.slice none 0 0))])) (.seq (.seq (.reg (sq 7 [la 1 3, mv 1, cf 154 [7, 8], nt 9, mv 10] ++ sg 11 false 12 [mv 1, mv 2, cf 86 [12, 13], nt 14] ++ sq 16 [po 11 15])) (.cond (t0 16) (.seq (.reg (sq 17 [.bsl 17 2 1 []] ++ sq 6 [mv 17])) .ret) .skip)) (.seq (.reg (sq 18 [la 1 3, mv 1, mv 2, cf 163 [18, 19, 20]] ++ sq 6 [mv 21])) .ret)))
theorem fn111 : MFn Tryz.prog 111 mc111 22 [.tmp 6] := ⟨_, Tryz.func111, by kernel_rfl, Tryz.ntmps111, by kernel_rfl⟩
noncomputable def F_spec_SubAt (sig : (List Int)) (t : (List Int)) (at' : Int) : Option (List Int) :=
 (F_spec_TermOk sig t).bind fun r =>
 if r = true then
  (F_spec_l1There t at').bind fun r_1 =>
  if r_1 = true then
   (F_spec_l1Sub sig t at').bind fun r_2 =>
   some r_2
  else
   some []
 else
  some []
instance c_spec_SubAt {sig : (List Int)} {t : (List Int)} {at' : Int} : HasC (F_spec_SubAt sig t at') fun rr => PFun Tryz.prog 111 [D_impl_Sig sig, (slD 1 iD) t, iD at'] ((slD 1 iD) rr) := ⟨@fun rr h => by
  delta F_spec_SubAt at h
  refine fn111.pureL (vcm_sound ?_)
  delta mc111
  refine stp ?_
  exact aut⟩
def mc48 : MCode :=
 (.seq (.reg (sq 2 [bo 2 46 0, bo 3 50 1, mb false])) (.seq (.seq (.reg (sq 8 [la 2 2, fa 0 3, la 2 9, cf 38 [8, 10], nt 11, mv 12] ++ sg 13 false 14 [fa 0 3, fa 1 14, ld 15, ln 16, bi .eql 17 0] ++ sq 19 [po 13 18, mv 19] ++ sg 20 false 21 [fa 0 2, la 1 21, fa 3 3, la 1 23, cf 109 [22, 24], nt 25] ++ sq 27 [po 20 26])) (.cond (t0 27) (.seq (.reg (sq 4 [mb false])) .ret) .skip)) (.seq (.reg (sq 28 [la 2 2, fa 0 3, la 2 29, cf 39 [28, 30]] ++ sq 5 [mv 31])) (.seq (.seq (.reg (sq 32 [fa 2 3, ld 32, mv 5, ln 34, bi .sub 35 1, .callf 49 [(t0 33), (i0 0), (t0 36)], nt 37])) (.cond (t0 38) (.seq (.reg (sq 4 [mb false])) .ret) .skip)) (.seq (.reg (sq 40 [fa 0 2, la 1 40, fa 3 3, la 1 42, fa 0 3, fa 0 44, ld 45, cf 110 [41, 43, 46]] ++ sq 39 [mv 47] ++ sq 48 [ex 39 0, ex 39 1] ++ sq 6 [mv 48, mv 49])) (.seq (.reg (sq 50 [mv 7, mv 50] ++ sg 51 true 52 [mv 6, fa 0 2, la 1 53, mv 5, fa 2 3, ld 56, cf 111 [54, 55, 57], cf 36 [52, 58]] ++ sq 60 [pa 51 59] ++ sq 4 [mv 60])) .ret))))))
theorem fn48 : MFn Tryz.prog 48 mc48 61 [.tmp 4] := ⟨_, Tryz.func48, by kernel_rfl, Tryz.ntmps48, by kernel_rfl⟩
noncomputable def F_spec_LoopOk (sys : ((List Int) × (List ((List Int) × (List Int))))) (l : ((List Int) × (List (Int × Int × (List Int))) × Int × (List (List Int)))) : Option Bool :=
 (F_spec_WalkOk sys (l.1, l.2.1)).bind fun r =>
 if r = true then
  if ((l.2.1.length : Int) == 0) = true then
   some false
  else
   (F_spec_SubstOk sys.1 l.2.2.2).bind fun r_1 =>
   if r_1 = true then
    (F_spec_EndTerm sys (l.1, l.2.1)).bind fun r_2 =>
    (F_spec_l1In l.2.2.1 0 (IntKind.i64.wrap ((r_2.length : Int) - 1))).bind fun r_3 =>
    if r_3 = true then
     (F_spec_Filled sys.1 l.2.2.2 l.1).bind fun r_4 =>
     if r_4.2 = true then
      (F_spec_SubAt sys.1 r_2 l.2.2.1).bind fun r_5 =>
      (F_spec_SameTerm r_4.1 r_5).bind fun r_6 =>
      some r_6
     else
      some false
    else
     some false
   else
    some false
 else
  some false
instance c_spec_LoopOk {sys : ((List Int) × (List ((List Int) × (List Int))))} {l : ((List Int) × (List (Int × Int × (List Int))) × Int × (List (List Int)))} : HasC (F_spec_LoopOk sys l) fun rr => PFun Tryz.prog 48 [D_impl_System sys, D_impl_Loop l] (bD rr) := ⟨@fun rr h => by
  delta F_spec_LoopOk at h
  refine fn48.pureL (vcm_sound ?_)
  delta mc48
  refine stp ?_
  exact aut⟩
def mc112 : MCode :=
 (.seq (.reg (sq 2 [.mv (.const (.slice none 0 0))])) (.seq (.reg (sq 5 [.bsl 5 151 3 []] ++ sq 3 [mv 5])) (.seq (.seq (.reg (sq 4 [mi 0])) (.block 0 (.loop (.seq (.seq (.reg (sq 6 [mv 4, mv 0, ln 7, bn .lss 6 8])) (.cond (t0 9) .skip (.exit 0))) (.seq (.block 1 (.draw (sq 12 [mv 3, mv 0, mv 4, ix 3 13 14, fa 0 15, ld 16, mv 0, mv 4, ix 3 18 19, fa 1 20, ld 21, mv 0, mv 4, ix 3 23 24, fa 2 25, ld 26, cf 91 [27], .build [.lit (.int .i64 0), .lit (.int .i64 0), .sl 0 (some true) []] [(0, 1, (t0 17)), (1, 1, (t0 22)), (2, 1, (t0 28))], .bsl 30 151 3 [(t0 29)], ap 31 151 3 40 12 30] ++ sq 3 [mv 31]) [[], [], [], [1, 2], [3], [4], [], [], [6, 7], [8], [9], [], [], [11, 12], [13], [14], [15], [5, 10, 16], [17], [0, 18, 16], [19, 19, 0, 1, 2, 3, 4, 5, 6, 7, 8, 9, 10, 11, 12, 13, 14, 15, 16, 17, 18, 19]])) (.reg (sq 10 [mv 4, bi .add 10 1] ++ sq 4 [mv 11]))))))) (.seq (.reg (sq 32 [mv 3] ++ sq 2 [mv 32])) .ret))))
theorem fn112 : MFn Tryz.prog 112 mc112 33 [.tmp 2] := ⟨_, Tryz.func112, by kernel_rfl, Tryz.ntmps112, by kernel_rfl⟩
noncomputable def F_spec_l7CopySteps_l1 (list : (List (Int × Int × (List Int)))) : ((List (Int × Int × (List Int))) × Int) → Option (((List (Int × Int × (List Int))) × Int) ⊕ (List (Int × Int × (List Int))))
 | (out, i) =>
  if (decide (i < (list.length : Int))) = true then
   if 0 ≤ i ∧ i < (list.length : Int) then
    if 0 ≤ i ∧ i < (list.length : Int) then
     if 0 ≤ i ∧ i < (list.length : Int) then
      (F_spec_l1Copy ((list.getD i.toNat default).2.2)).bind fun r =>
      if (out.length + 1) * 40 ≤ 140737488355328 then
       some (.inl ((out ++ [((list.getD i.toNat default).1, (list.getD i.toNat default).2.1, r)]), (IntKind.i64.wrap (i + 1))))
      else none
     else none
    else none
   else none
  else
   Option.map Sum.inr (
    some out)
noncomputable def F_spec_l7CopySteps (list : (List (Int × Int × (List Int)))) : Option (List (Int × Int × (List Int))) :=
 loopC (F_spec_l7CopySteps_l1 list) ([], 0)
instance c_spec_l7CopySteps {list : (List (Int × Int × (List Int)))} : HasC (F_spec_l7CopySteps list) fun rr => ACalls Tryz.prog 112 [.d (slD 3 D_impl_Step list)] [] 0 fun xx ss => xx = .own 3 5 (List.map D_impl_Step rr) ∧ ss = [(5, .tok 151 3 rr.length)] := ⟨@fun rr h => by
  delta F_spec_l7CopySteps at h
  refine fn112.callsO (vcm_sound ?_)
  delta mc112
  refine stp ?_
  refine m_lW h [3, 4, 6, 7, 8, 9, 10, 11, 12, 13, 14, 15, 16, 17, 18, 19, 20, 21, 22, 23, 24, 25, 26, 27, 28, 29, 30, 31] (fun pp => [(3, .own 3 5 (List.map D_impl_Step pp.1)), (4, .d (iD pp.2))]) (fun pp => [(5, .tok 151 3 pp.1.length)]) ?_
  rintro ⟨out, i⟩ t1 h hb1
  unfold F_spec_l7CopySteps_l1 at h
  try dsimp only at h
  refine vcm_sound (stp ?_)
  refine iT h fun hc h => ?_
  refine ndI h fun hp h => ?_
  refine ndI h fun hp h => ?_
  refine ndI h fun hp h => ?_
  refine dCo [] [(3, 28)] h fun r hr h => ?_
  refine ndI h fun hp h => ?_
  refine drQ_of (by kernel_rfl) (stp ?_)
  cases h
  refine ⟨_, rfl, ?_⟩
  refine (Weak.drop 28 (by omega)).trans ?_
  refine (Weak.drop 30 (by omega)).trans ?_
  exact wk⟩
def mc50 : MCode :=
 (.seq (.reg (sq 3 [bo 3 46 0, bo 4 40 1, bo 5 40 2, .alloc 6 40 [.sl 0 (some true) [], .sl 0 (some true) []], mb false])) (.seq (.seq (.draw (sq 8 [la 2 3, la 2 4, cf 38 [8, 9], nt 10, mv 11] ++ sg 12 false 13 [la 2 3, la 2 5, cf 38 [13, 14], nt 15] ++ sq 17 [po 12 16, mv 17] ++ sg 18 false 19 [la 2 4, cf 100 [19], fa 0 5, ld 21, cf 36 [20, 22], nt 23] ++ sq 25 [po 18 24, mv 25] ++ sg 26 false 27 [fa 1 4, ld 27, ln 28, fa 1 5, ld 30, ln 31, bn .add 29 32, bi .gtr 33 60] ++ sq 35 [po 26 34]) [[], [], [0, 1], [2], [3, 2], [4], [4], [5, 6, 4, 4], [7, 4], [4, 8], [9, 7], [10], [11, 10, 10], [10], [13, 10], [12, 14, 12, 10], [15, 10], [10, 16], [17, 15], [18], [19, 18], [20, 18], [18], [22, 18], [23, 18], [21, 24, 18], [25, 18], [18, 26]]) (.cond (t0 35) (.seq (.reg (sq 36 [.build [.sl 0 (some true) [], .sl 0 (some true) []] []] ++ s0 (sr 2 6 36) ++ sq 7 [mb false])) .ret) .skip)) (.seq (.draw (sq 37 [fa 0 4, ld 37, cf 91 [38], fa 1 4, ld 40, cf 112 [41], fa 1 5, ld 43, cf 112 [44], ap 46 151 3 40 42 45, .build [.sl 0 (some true) [], .sl 0 (some true) []] [(0, 1, (t0 39)), (1, 1, (t0 46))]] ++ s0 (sr 2 6 47) ++ sq 7 [mb true]) [[], [0], [1], [], [3], [4, 2], [], [6], [7, 5], [5, 8, 8], [2, 9], [10, 9, 0, 1, 2, 3, 4, 5, 6, 7, 8, 9, 10], [11, 0, 1, 2, 3, 4, 5, 6, 7, 8, 9, 10, 11]]) .ret)))
theorem fn50 : MFn Tryz.prog 50 mc50 48 [.cell 6 2 true, .tmp 7] := ⟨_, Tryz.func50, by kernel_rfl, Tryz.ntmps50, by kernel_rfl⟩
noncomputable def F_spec_JoinedWalk (sys : ((List Int) × (List ((List Int) × (List Int))))) (a : ((List Int) × (List (Int × Int × (List Int))))) (b : ((List Int) × (List (Int × Int × (List Int))))) : Option (((List Int) × (List (Int × Int × (List Int)))) × Bool) :=
 (F_spec_WalkOk sys a).bind fun r =>
 if r = true then
  (F_spec_WalkOk sys b).bind fun r_1 =>
  if r_1 = true then
   (F_spec_l7End a).bind fun r_2 =>
   (F_spec_SameTerm r_2 b.1).bind fun r_3 =>
   if r_3 = true then
    if (decide (60 < (IntKind.i64.wrap ((a.2.length : Int) + (b.2.length : Int))))) = true then
     some (([], []), false)
    else
     (F_spec_l1Copy a.1).bind fun r_4 =>
     (F_spec_l7CopySteps a.2).bind fun r_5 =>
     (F_spec_l7CopySteps b.2).bind fun r_6 =>
     if (r_5.length + r_6.length) * 40 ≤ 140737488355328 then
      some ((r_4, (r_5 ++ r_6)), true)
     else none
   else
    some (([], []), false)
  else
   some (([], []), false)
 else
  some (([], []), false)
instance c_spec_JoinedWalk {sys : ((List Int) × (List ((List Int) × (List Int))))} {a : ((List Int) × (List (Int × Int × (List Int))))} {b : ((List Int) × (List (Int × Int × (List Int))))} : HasC (F_spec_JoinedWalk sys a b) fun rr => PFunN Tryz.prog 50 [D_impl_System sys, D_impl_Walk a, D_impl_Walk b] [D_impl_Walk rr.1, bD rr.2] := ⟨@fun rr h => by
  delta F_spec_JoinedWalk at h
  refine fn50.pureLN (vcm_sound ?_)
  delta mc50
  refine stp ?_
  refine dC h fun r hr h => ?_
  refine iT h fun hc h => ?_
  refine dC h fun r_1 hr_1 h => ?_
  refine iT h fun hc h => ?_
  refine dC h fun r_2 hr_2 h => ?_
  refine dC h fun r_3 hr_3 h => ?_
  refine iT h fun hc h => ?_
  refine drQ_of (by kernel_rfl) (stp ?_)
  refine iF h fun hc h => ?_
  refine dCo [] [(3, 39)] h fun r_4 hr_4 h => ?_
  refine dCo [] [(5, 42)] h fun r_5 hr_5 h => ?_
  refine dCo [] [(5, 45)] h fun r_6 hr_6 h => ?_
  exact aut⟩
def mc114 : MCode :=
 (.seq (.reg (sq 3 [bo 3 48 0] ++ sq 6 [mi 0])) (.seq (.reg (sq 7 [mi 0])) (.seq (.seq (.reg (sq 8 [mi 0])) (.block 0 (.loop (.seq (.seq (.reg (sq 9 [mv 8, mv 2, bn .lss 9 10])) (.cond (t0 11) .skip (.exit 0))) (.seq (.block 1 (.seq (.reg (sq 14 [mv 1, mv 8, ix 1 14 15, ld 16, bi .lss 17 0])) (.cond (t0 18) (.draw (sq 19 [mv 7, la 1 3, mv 1, mv 8, ix 1 21 22, ld 23, .bin .sub (i0 (-1)) (t0 24), cf 186 [20, 25], ln 26, bn .add 19 27] ++ sq 7 [mv 28]) [[], [], [], [], [2, 3], [4], [5], [1, 6], [7], [0, 8], [9, 7, 0, 1, 2, 3, 4, 5, 6, 7, 8, 9]]) (.reg (sq 29 [mv 7, bi .add 29 1] ++ sq 7 [mv 30]))))) (.reg (sq 12 [mv 8, bi .add 12 1] ++ sq 8 [mv 13]))))))) (.seq (.reg (sq 31 [mv 7] ++ sq 6 [mv 31])) .ret))))
theorem fn114 : MFn Tryz.prog 114 mc114 32 [.tmp 6] := ⟨_, Tryz.func114, by kernel_rfl, Tryz.ntmps114, by kernel_rfl⟩
noncomputable def F_spec_l7Moved_l1 (s : (List (List Int))) (t : (List Int)) (at' : Int) : (Int × Int) → Option ((Int × Int) ⊕ Int)
 | (p, i) =>
  if (decide (i < at')) = true then
   if 0 ≤ i ∧ i < (t.length : Int) then
    if (decide ((t.getD i.toNat default) < 0)) = true then
     if 0 ≤ i ∧ i < (t.length : Int) then
      (F_spec_l2Gives s (IntKind.i64.wrap ((-1) - (t.getD i.toNat default)))).bind fun r =>
      some (.inl ((IntKind.i64.wrap (p + (r.length : Int))), (IntKind.i64.wrap (i + 1))))
     else none
    else
     some (.inl ((IntKind.i64.wrap (p + 1)), (IntKind.i64.wrap (i + 1))))
   else none
  else
   Option.map Sum.inr (
    some p)
noncomputable def F_spec_l7Moved (s : (List (List Int))) (t : (List Int)) (at' : Int) : Option Int :=
 loopC (F_spec_l7Moved_l1 s t at') (0, 0)
instance c_spec_l7Moved {s : (List (List Int))} {t : (List Int)} {at' : Int} : HasC (F_spec_l7Moved s t at') fun rr => PFun Tryz.prog 114 [D_impl_Subst s, (slD 1 iD) t, iD at'] (iD rr) := ⟨@fun rr h => by
  delta F_spec_l7Moved at h
  refine fn114.pureL (vcm_sound ?_)
  delta mc114
  refine stp ?_
  refine m_lW h [7, 8, 9, 10, 11, 12, 13, 14, 15, 16, 17, 18, 19, 20, 21, 22, 23, 24, 25, 26, 27, 28, 29, 30] (fun pp => [(7, .d (iD pp.1)), (8, .d (iD pp.2))]) (fun pp => [(3, .obj 48 [.d (slD 1 (slD 1 iD) s)])]) ?_
  rintro ⟨p, i⟩ t1 h hb1
  unfold F_spec_l7Moved_l1 at h
  try dsimp only at h
  refine vcm_sound (stp ?_)
  exact aut⟩
def mc51 : MCode :=
 (.seq (.reg (sq 3 [bo 3 46 0, bo 4 40 1, bo 5 48 2, .alloc 6 40 [.sl 0 (some true) [], .sl 0 (some true) []], mb false])) (.seq (.seq (.reg (sq 15 [la 2 3, la 2 4, cf 38 [15, 16], nt 17, mv 18] ++ sg 19 false 20 [fa 0 3, la 1 20, la 1 5, cf 109 [21, 22], nt 23] ++ sq 25 [po 19 24])) (.cond (t0 25) (.seq (.reg (sq 26 [.build [.sl 0 (some true) [], .sl 0 (some true) []] []] ++ s0 (sr 2 6 26) ++ sq 7 [mb false])) .ret) .skip)) (.seq (.reg (sq 28 [la 1 5, fa 0 4, ld 29, cf 113 [28, 30]] ++ sq 27 [mv 31] ++ sq 32 [ex 27 0, ex 27 1] ++ sq 8 [mv 32, mv 33])) (.seq (.seq (.reg (sq 34 [mv 9, nt 34])) (.cond (t0 35) (.seq (.reg (sq 36 [.build [.sl 0 (some true) [], .sl 0 (some true) []] []] ++ s0 (sr 2 6 36) ++ sq 7 [mb false])) .ret) .skip)) (.seq (.reg (sq 37 [mv 8, .build [.sl 0 (some true) [], .sl 0 (some true) []] [(0, 1, (t0 37))]] ++ sq 10 [.alloc 10 40 [.sl 0 (some true) [], .sl 0 (some true) []]] ++ s0 (sr 2 10 38))) (.seq (.reg (sq 39 [fa 0 4, ld 39] ++ sq 11 [mv 40])) (.seq (.seq (.reg (sq 12 [mi 0])) (.block 0 (.loop (.seq (.seq (.reg (sq 41 [mv 12, fa 1 4, ld 42, ln 43, bn .lss 41 44])) (.cond (t0 45) .skip (.exit 0))) (.seq (.block 1 (.seq (.draw (sq 49 [la 1 5, fa 1 4, ld 50, mv 12, ix 3 51 52, fa 2 53, ld 54, cf 113 [49, 55]] ++ sq 48 [mv 56] ++ sq 57 [ex 48 0, ex 48 1] ++ sq 13 [mv 57, mv 58]) [[], [], [1], [], [2, 3], [4], [5], [0, 6], [7], [8], [8], [9, 7, 0, 1, 2, 3, 4, 5, 6, 7, 8, 9], [10, 11, 0, 1, 2, 3, 4, 5, 6, 7, 8, 9, 10, 11]]) (.seq (.seq (.reg (sq 59 [mv 14, nt 59])) (.cond (t0 60) (.seq (.reg (sq 61 [.build [.sl 0 (some true) [], .sl 0 (some true) []] []] ++ s0 (sr 2 6 61) ++ sq 7 [mb false])) .ret) .skip)) (.seq (.draw (sq 62 [fa 1 10, ld 62, la 1 5, mv 11, fa 1 4, ld 66, mv 12, ix 3 67 68, fa 0 69, ld 70, cf 114 [64, 65, 71], fa 1 4, ld 73, mv 12, ix 3 74 75, fa 1 76, ld 77, mv 13, .build [.lit (.int .i64 0), .lit (.int .i64 0), .sl 0 (some true) []] [(0, 1, (t0 72)), (1, 1, (t0 78)), (2, 1, (t0 79))], .bsl 81 151 3 [(t0 80)], ap 82 151 3 40 63 81, fa 1 10] ++ s0 (sr 1 83 82)) [[], [0], [], [], [], [4], [], [5, 6], [7], [8], [2, 3, 9], [], [11], [], [12, 13], [14], [15], [], [10, 16, 17], [18], [1, 19, 10], [0, 1, 2, 3, 4, 5, 6, 7, 8, 9, 10, 11, 12, 13, 14, 15, 16, 17, 18, 19, 20], [21, 20, 20, 0, 1, 2, 3, 4, 5, 6, 7, 8, 9, 10, 11, 12, 13, 14, 15, 16, 17, 18, 19, 20]]) (.reg (sq 84 [fa 1 4, ld 84, mv 12, ix 3 85 86, fa 2 87, ld 88] ++ sq 11 [mv 89])))))) (.reg (sq 46 [mv 12, bi .add 46 1] ++ sq 12 [mv 47]))))))) (.seq (.reg (sq 90 [la 2 10] ++ s0 (sr 2 6 90) ++ sq 7 [mb true])) .ret))))))))
theorem fn51 : MFn Tryz.prog 51 mc51 91 [.cell 6 2 true, .tmp 7] := ⟨_, Tryz.func51, by kernel_rfl, Tryz.ntmps51, by kernel_rfl⟩
noncomputable def F_spec_WalkUnder_l1 (w : ((List Int) × (List (Int × Int × (List Int))))) (s : (List (List Int))) (r_2 : ((List Int) × Bool)) : ((List Int) × Int × (List (Int × Int × (List Int)))) → Option (((List Int) × Int × (List (Int × Int × (List Int)))) ⊕ (((List Int) × (List (Int × Int × (List Int)))) × Bool))
 | (now, i, out) =>
  if (decide (i < (w.2.length : Int))) = true then
   if 0 ≤ i ∧ i < (w.2.length : Int) then
    (F_spec_l2Filled s ((w.2.getD i.toNat default).2.2)).bind fun r_3 =>
    if r_3.2 = true then
     if 0 ≤ i ∧ i < (w.2.length : Int) then
      (F_spec_l7Moved s now ((w.2.getD i.toNat default).1)).bind fun r_4 =>
      if 0 ≤ i ∧ i < (w.2.length : Int) then
       if (out.length + 1) * 40 ≤ 140737488355328 then
        if 0 ≤ i ∧ i < (w.2.length : Int) then
         some (.inl ((w.2.getD i.toNat default).2.2, (IntKind.i64.wrap (i + 1)), (out ++ [(r_4, (w.2.getD i.toNat default).2.1, r_3.1)])))
        else none
       else none
      else none
     else none
    else
     Option.map Sum.inr (
      some (([], []), false))
   else none
  else
   Option.map Sum.inr (
    some ((r_2.1, out), true))
noncomputable def F_spec_WalkUnder (sys : ((List Int) × (List ((List Int) × (List Int))))) (w : ((List Int) × (List (Int × Int × (List Int))))) (s : (List (List Int))) : Option (((List Int) × (List (Int × Int × (List Int)))) × Bool) :=
 (F_spec_WalkOk sys w).bind fun r =>
 if r = true then
  (F_spec_SubstOk sys.1 s).bind fun r_1 =>
  if r_1 = true then
   (F_spec_l2Filled s w.1).bind fun r_2 =>
   if r_2.2 = true then
    loopC (F_spec_WalkUnder_l1 w s r_2) (w.1, 0, [])
   else
    some (([], []), false)
  else
   some (([], []), false)
 else
  some (([], []), false)
instance c_spec_WalkUnder {sys : ((List Int) × (List ((List Int) × (List Int))))} {w : ((List Int) × (List (Int × Int × (List Int))))} {s : (List (List Int))} : HasC (F_spec_WalkUnder sys w s) fun rr => PFunN Tryz.prog 51 [D_impl_System sys, D_impl_Walk w, D_impl_Subst s] [D_impl_Walk rr.1, bD rr.2] := ⟨@fun rr h => by
  delta F_spec_WalkUnder at h
  refine fn51.pureLN (vcm_sound ?_)
  delta mc51
  refine stp ?_
  refine rC h fun r hr h => ?_
  refine iT h fun hc h => ?_
  refine rC h fun r_1 hr_1 h => ?_
  refine iT h fun hc h => ?_
  refine rCN h fun r_2 hr_2 h => ?_
  refine iT h fun hc h => ?_
  refine m_loopF h [7, 11, 12, 13, 14, 41, 42, 43, 44, 45, 46, 47, 48, 49, 50, 51, 52, 53, 54, 55, 56, 57, 58, 59, 60, 61, 62, 63, 64, 65, 66, 67, 68, 69, 70, 71, 72, 73, 74, 75, 76, 77, 78, 79, 80, 81, 82, 83, 84, 85, 86, 87, 88, 89] (fun pp => [(11, .d (slD 1 iD pp.1)), (12, .d (iD pp.2.1))]) (fun pp => [(3, .obj 46 [.d (slD 1 iD sys.1), .d (slD 2 D_impl_Rule sys.2)]), (4, .obj 40 [.d (slD 1 iD w.1), .d (slD 3 D_impl_Step w.2)]), (5, .obj 48 [.d (slD 1 (slD 1 iD) s)]), (6, .obj 40 [.d (.sl 0 (some true) []), .d (.sl 0 (some true) [])]), (10, .obj 40 [.d (slD 1 iD r_2.1), .own 3 82 (List.map D_impl_Step pp.2.2)]), (82, .tok 151 3 pp.2.2.length)]) ?_ ?_
  · try dsimp only
    refine (Weak.thawCell 10 1 82 151 3 rfl rfl rfl).trans ?_
    exact wk
  rintro ⟨now, i, out⟩ t1 h hb1
  unfold F_spec_WalkUnder_l1 at h
  try dsimp only at h
  refine vcm_sound (stp ?_)
  refine iT h fun hc h => ?_
  refine ndI h fun hp h => ?_
  refine dCN h fun r_3 hr_3 h => ?_
  refine drQ_of (by kernel_rfl) (stp ?_)
  refine iT h fun hc h => ?_
  refine ndI h fun hp h => ?_
  refine dC h fun r_4 hr_4 h => ?_
  refine ndI h fun hp h => ?_
  refine ndI h fun hp h => ?_
  refine drQ_of (by kernel_rfl) (stp ?_)
  refine ndI h fun hp h => ?_
  cases h
  refine ⟨_, rfl, ?_⟩
  refine (Weak.drop 81 (by omega)).trans ?_
  exact wk⟩
def mc52 : MCode :=
 (.seq (.reg (sq 4 [bo 4 46 0, bo 5 40 1] ++ sq 8 [.alloc 8 40 [.sl 0 (some true) [], .sl 0 (some true) []], mb false])) (.seq (.seq (.reg (sq 16 [la 2 4, mv 2, cf 98 [16, 17], nt 18, mv 19] ++ sg 20 false 21 [la 2 4, la 2 5, cf 38 [21, 22], nt 23] ++ sq 25 [po 20 24, mv 25] ++ sg 26 false 27 [mv 2, mv 3, cf 86 [27, 28], nt 29] ++ sq 31 [po 26 30])) (.cond (t0 31) (.seq (.reg (sq 32 [.build [.sl 0 (some true) [], .sl 0 (some true) []] []] ++ s0 (sr 2 8 32) ++ sq 9 [mb false])) .ret) .skip)) (.seq (.reg (sq 34 [fa 0 4, la 1 34, mv 2, mv 3, fa 0 5, ld 38, cf 115 [35, 36, 37, 39]] ++ sq 33 [mv 40] ++ sq 41 [ex 33 0, ex 33 1] ++ sq 10 [mv 41, mv 42])) (.seq (.seq (.reg (sq 43 [mv 11, nt 43])) (.cond (t0 44) (.seq (.reg (sq 45 [.build [.sl 0 (some true) [], .sl 0 (some true) []] []] ++ s0 (sr 2 8 45) ++ sq 9 [mb false])) .ret) .skip)) (.seq (.reg (sq 46 [mv 10, .build [.sl 0 (some true) [], .sl 0 (some true) []] [(0, 1, (t0 46))]] ++ sq 12 [.alloc 12 40 [.sl 0 (some true) [], .sl 0 (some true) []]] ++ s0 (sr 2 12 47))) (.seq (.seq (.reg (sq 13 [mi 0])) (.block 0 (.loop (.seq (.seq (.reg (sq 48 [mv 13, fa 1 5, ld 49, ln 50, bn .lss 48 51])) (.cond (t0 52) .skip (.exit 0))) (.seq (.block 1 (.seq (.draw (sq 56 [fa 0 4, la 1 56, mv 2, mv 3, fa 1 5, ld 60, mv 13, ix 3 61 62, fa 2 63, ld 64, cf 115 [57, 58, 59, 65]] ++ sq 55 [mv 66] ++ sq 67 [ex 55 0, ex 55 1] ++ sq 14 [mv 67, mv 68]) [[], [0], [], [], [], [4], [], [5, 6], [7], [8], [1, 2, 3, 9], [10], [11], [11], [12, 10, 0, 1, 2, 3, 4, 5, 6, 7, 8, 9, 10, 11, 12], [13, 14, 0, 1, 2, 3, 4, 5, 6, 7, 8, 9, 10, 11, 12, 13, 14]]) (.seq (.seq (.reg (sq 69 [mv 15, nt 69])) (.cond (t0 70) (.seq (.reg (sq 71 [.build [.sl 0 (some true) [], .sl 0 (some true) []] []] ++ s0 (sr 2 8 71) ++ sq 9 [mb false])) .ret) .skip)) (.draw (sq 72 [fa 1 12, ld 72, mv 3, fa 1 5, ld 75, mv 13, ix 3 76 77, fa 0 78, ld 79, bn .add 74 80, fa 1 5, ld 82, mv 13, ix 3 83 84, fa 1 85, ld 86, mv 14, .build [.lit (.int .i64 0), .lit (.int .i64 0), .sl 0 (some true) []] [(0, 1, (t0 81)), (1, 1, (t0 87)), (2, 1, (t0 88))], .bsl 90 151 3 [(t0 89)], ap 91 151 3 40 73 90, fa 1 12] ++ s0 (sr 1 92 91)) [[], [0], [], [], [3], [], [4, 5], [6], [7], [2, 8], [], [10], [], [11, 12], [13], [14], [], [9, 15, 16], [17], [1, 18], [0, 1, 2, 3, 4, 5, 6, 7, 8, 9, 10, 11, 12, 13, 14, 15, 16, 17, 18, 19], [20, 19, 19, 0, 1, 2, 3, 4, 5, 6, 7, 8, 9, 10, 11, 12, 13, 14, 15, 16, 17, 18, 19]])))) (.reg (sq 53 [mv 13, bi .add 53 1] ++ sq 13 [mv 54]))))))) (.seq (.reg (sq 93 [la 2 12] ++ s0 (sr 2 8 93) ++ sq 9 [mb true])) .ret)))))))
theorem fn52 : MFn Tryz.prog 52 mc52 94 [.cell 8 2 true, .tmp 9] := ⟨_, Tryz.func52, by kernel_rfl, Tryz.ntmps52, by kernel_rfl⟩
noncomputable def F_spec_WalkInside_l1 (sys : ((List Int) × (List ((List Int) × (List Int))))) (w : ((List Int) × (List (Int × Int × (List Int))))) (t : (List Int)) (at' : Int) (r_3 : ((List Int) × Bool)) : (Int × (List (Int × Int × (List Int)))) → Option ((Int × (List (Int × Int × (List Int)))) ⊕ (((List Int) × (List (Int × Int × (List Int)))) × Bool))
 | (i, out) =>
  if (decide (i < (w.2.length : Int))) = true then
   if 0 ≤ i ∧ i < (w.2.length : Int) then
    (F_spec_l3Put sys.1 t at' ((w.2.getD i.toNat default).2.2)).bind fun r_4 =>
    if r_4.2 = true then
     if 0 ≤ i ∧ i < (w.2.length : Int) then
      if 0 ≤ i ∧ i < (w.2.length : Int) then
       if (out.length + 1) * 40 ≤ 140737488355328 then
        some (.inl ((IntKind.i64.wrap (i + 1)), (out ++ [((IntKind.i64.wrap (at' + (w.2.getD i.toNat default).1)), (w.2.getD i.toNat default).2.1, r_4.1)])))
       else none
      else none
     else none
    else
     Option.map Sum.inr (
      some (([], []), false))
   else none
  else
   Option.map Sum.inr (
    some ((r_3.1, out), true))
noncomputable def F_spec_WalkInside (sys : ((List Int) × (List ((List Int) × (List Int))))) (w : ((List Int) × (List (Int × Int × (List Int))))) (t : (List Int)) (at' : Int) : Option (((List Int) × (List (Int × Int × (List Int)))) × Bool) :=
 (F_spec_l7Right sys t).bind fun r =>
 if r = true then
  (F_spec_WalkOk sys w).bind fun r_1 =>
  if r_1 = true then
   (F_spec_l1There t at').bind fun r_2 =>
   if r_2 = true then
    (F_spec_l3Put sys.1 t at' w.1).bind fun r_3 =>
    if r_3.2 = true then
     loopC (F_spec_WalkInside_l1 sys w t at' r_3) (0, [])
    else
     some (([], []), false)
   else
    some (([], []), false)
  else
   some (([], []), false)
 else
  some (([], []), false)
instance c_spec_WalkInside {sys : ((List Int) × (List ((List Int) × (List Int))))} {w : ((List Int) × (List (Int × Int × (List Int))))} {t : (List Int)} {at' : Int} : HasC (F_spec_WalkInside sys w t at') fun rr => PFunN Tryz.prog 52 [D_impl_System sys, D_impl_Walk w, (slD 1 iD) t, iD at'] [D_impl_Walk rr.1, bD rr.2] := ⟨@fun rr h => by
  delta F_spec_WalkInside at h
  refine fn52.pureLN (vcm_sound ?_)
  delta mc52
  refine stp ?_
  refine rC h fun r hr h => ?_
  refine iT h fun hc h => ?_
  refine rC h fun r_1 hr_1 h => ?_
  refine iT h fun hc h => ?_
  refine rC h fun r_2 hr_2 h => ?_
  refine iT h fun hc h => ?_
  refine rCN h fun r_3 hr_3 h => ?_
  refine iT h fun hc h => ?_
  refine m_loopF h [9, 13, 14, 15, 48, 49, 50, 51, 52, 53, 54, 55, 56, 57, 58, 59, 60, 61, 62, 63, 64, 65, 66, 67, 68, 69, 70, 71, 72, 73, 74, 75, 76, 77, 78, 79, 80, 81, 82, 83, 84, 85, 86, 87, 88, 89, 90, 91, 92] (fun pp => [(13, .d (iD pp.1))]) (fun pp => [(4, .obj 46 [.d (slD 1 iD sys.1), .d (slD 2 D_impl_Rule sys.2)]), (5, .obj 40 [.d (slD 1 iD w.1), .d (slD 3 D_impl_Step w.2)]), (8, .obj 40 [.d (.sl 0 (some true) []), .d (.sl 0 (some true) [])]), (12, .obj 40 [.d (slD 1 iD r_3.1), .own 3 91 (List.map D_impl_Step pp.2)]), (91, .tok 151 3 pp.2.length)]) ?_ ?_
  · try dsimp only
    refine (Weak.thawCell 12 1 91 151 3 rfl rfl rfl).trans ?_
    exact wk
  rintro ⟨i, out⟩ t1 h hb1
  unfold F_spec_WalkInside_l1 at h
  try dsimp only at h
  refine vcm_sound (stp ?_)
  refine iT h fun hc h => ?_
  refine ndI h fun hp h => ?_
  refine dCN h fun r_4 hr_4 h => ?_
  refine drQ_of (by kernel_rfl) (stp ?_)
  refine iT h fun hc h => ?_
  refine ndI h fun hp h => ?_
  refine ndI h fun hp h => ?_
  refine ndI h fun hp h => ?_
  refine drQ_of (by kernel_rfl) (stp ?_)
  cases h
  refine ⟨_, rfl, ?_⟩
  refine (Weak.drop 90 (by omega)).trans ?_
  exact wk⟩
def mc9 : MCode :=
 (.seq (.reg (sq 3 [bo 3 46 0, bo 4 50 1] ++ sq 6 [.alloc 6 40 [.sl 0 (some true) [], .sl 0 (some true) []], mb false])) (.seq (.seq (.reg (sq 18 [la 2 3, la 4 4, cf 48 [18, 19], nt 20, mv 21] ++ sg 22 false 23 [mv 2, .callf 49 [(t0 23), (i0 1), (i0 60)], nt 24] ++ sq 26 [po 22 25])) (.cond (t0 26) (.seq (.reg (sq 27 [.build [.sl 0 (some true) [], .sl 0 (some true) []] []] ++ s0 (sr 2 6 27) ++ sq 7 [mb false])) .ret) .skip)) (.seq (.reg (sq 28 [la 2 3, fa 0 4, la 2 29, cf 39 [28, 30]] ++ sq 8 [mv 31])) (.seq (.reg (sq 33 [la 2 3, fa 0 4, la 2 34, mv 8, .build [.sl 0 (some true) [], .sl 0 (some true) []] [(0, 1, (t0 36))], cf 50 [33, 35, 37]] ++ sq 32 [mv 38] ++ sq 39 [ex 32 0, ex 32 1] ++ sq 9 [.alloc 9 40 [.sl 0 (some true) [], .sl 0 (some true) []]] ++ s0 (sr 2 9 39) ++ sq 10 [mv 40])) (.seq (.seq (.reg (sq 11 [mi 1])) (.block 0 (.loop (.seq (.seq (.reg (sq 41 [mv 11, mv 2, bn .lss 41 42, mv 43] ++ sg 44 true 45 [mv 10] ++ sq 46 [pa 44 45])) (.cond (t0 46) .skip (.exit 0))) (.seq (.block 1 (.seq (.reg (sq 50 [la 2 3, la 2 9, fa 3 4, la 1 52, cf 51 [50, 51, 53]] ++ sq 49 [mv 54] ++ sq 55 [ex 49 0, ex 49 1] ++ sq 12 [.alloc 12 40 [.sl 0 (some true) [], .sl 0 (some true) []]] ++ s0 (sr 2 12 55) ++ sq 13 [mv 56])) (.seq (.reg (sq 58 [la 2 3, la 2 12, mv 8, fa 2 4, ld 61, cf 52 [58, 59, 60, 62]] ++ sq 57 [mv 63] ++ sq 64 [ex 57 0, ex 57 1] ++ sq 14 [.alloc 14 40 [.sl 0 (some true) [], .sl 0 (some true) []]] ++ s0 (sr 2 14 64) ++ sq 15 [mv 65])) (.seq (.seq (.reg (sq 66 [mv 13, nt 66, mv 67] ++ sg 68 false 69 [mv 15, nt 69] ++ sq 71 [po 68 70])) (.cond (t0 71) (.seq (.reg (sq 72 [.build [.sl 0 (some true) [], .sl 0 (some true) []] []] ++ s0 (sr 2 6 72) ++ sq 7 [mb false])) .ret) .skip)) (.seq (.reg (sq 74 [la 2 3, fa 0 4, la 2 75, la 2 14, cf 50 [74, 76, 77]] ++ sq 73 [mv 78] ++ sq 79 [ex 73 0, ex 73 1] ++ sq 16 [.alloc 16 40 [.sl 0 (some true) [], .sl 0 (some true) []]] ++ s0 (sr 2 16 79) ++ sq 17 [mv 80])) (.seq (.reg (sq 81 [la 2 16] ++ s0 (sr 2 9 81))) (.reg (sq 82 [mv 17] ++ sq 10 [mv 82])))))))) (.reg (sq 47 [mv 11, bi .add 47 1] ++ sq 11 [mv 48]))))))) (.seq (.seq (.reg (sq 83 [mv 10, nt 83])) (.cond (t0 84) (.seq (.reg (sq 85 [.build [.sl 0 (some true) [], .sl 0 (some true) []] []] ++ s0 (sr 2 6 85) ++ sq 7 [mb false])) .ret) .skip)) (.seq (.reg (sq 86 [la 2 9] ++ s0 (sr 2 6 86) ++ sq 7 [mb true])) .ret)))))))
theorem fn9 : MFn Tryz.prog 9 mc9 87 [.cell 6 2 true, .tmp 7] := ⟨_, Tryz.func9, by kernel_rfl, Tryz.ntmps9, by kernel_rfl⟩
noncomputable def F_spec_LoopAgain_l1 (sys : ((List Int) × (List ((List Int) × (List Int))))) (l : ((List Int) × (List (Int × Int × (List Int))) × Int × (List (List Int)))) (many : Int) (r_2 : (List Int)) : (Bool × Int × (List Int) × (List (Int × Int × (List Int)))) → Option ((Bool × Int × (List Int) × (List (Int × Int × (List Int)))) ⊕ (((List Int) × (List (Int × Int × (List Int)))) × Bool))
 | (is, k, w, w_1) =>
  if (decide (k < many)) = true then
   if is = true then
    (F_spec_WalkUnder sys (w, w_1) l.2.2.2).bind fun r_4 =>
    (F_spec_WalkInside sys r_4.1 r_2 l.2.2.1).bind fun r_5 =>
    if r_4.2 = true then
     if r_5.2 = true then
      (F_spec_JoinedWalk sys (l.1, l.2.1) r_5.1).bind fun r_6 =>
      some (.inl (r_6.2, (IntKind.i64.wrap (k + 1)), r_6.1.1, r_6.1.2))
     else
      Option.map Sum.inr (
       some (([], []), false))
    else
     Option.map Sum.inr (
      some (([], []), false))
   else
    Option.map Sum.inr (
     some (([], []), false))
  else
   Option.map Sum.inr (
    if is = true then
     some ((w, w_1), true)
    else
     some (([], []), false))
noncomputable def F_spec_LoopAgain (sys : ((List Int) × (List ((List Int) × (List Int))))) (l : ((List Int) × (List (Int × Int × (List Int))) × Int × (List (List Int)))) (many : Int) : Option (((List Int) × (List (Int × Int × (List Int)))) × Bool) :=
 (F_spec_LoopOk sys l).bind fun r =>
 if r = true then
  (F_spec_l1In many 1 60).bind fun r_1 =>
  if r_1 = true then
   (F_spec_EndTerm sys (l.1, l.2.1)).bind fun r_2 =>
   (F_spec_JoinedWalk sys (l.1, l.2.1) (r_2, [])).bind fun r_3 =>
   loopC (F_spec_LoopAgain_l1 sys l many r_2) (r_3.2, 1, r_3.1.1, r_3.1.2)
  else
   some (([], []), false)
 else
  some (([], []), false)
instance c_spec_LoopAgain {sys : ((List Int) × (List ((List Int) × (List Int))))} {l : ((List Int) × (List (Int × Int × (List Int))) × Int × (List (List Int)))} {many : Int} : HasC (F_spec_LoopAgain sys l many) fun rr => PFunN Tryz.prog 9 [D_impl_System sys, D_impl_Loop l, iD many] [D_impl_Walk rr.1, bD rr.2] := ⟨@fun rr h => by
  delta F_spec_LoopAgain at h
  refine fn9.pureLN (vcm_sound ?_)
  delta mc9
  refine stp ?_
  refine rC h fun r hr h => ?_
  refine iT h fun hc h => ?_
  refine rC h fun r_1 hr_1 h => ?_
  refine iT h fun hc h => ?_
  refine rC h fun r_2 hr_2 h => ?_
  refine rCN h fun r_3 hr_3 h => ?_
  refine m_lW h [7, 10, 11, 12, 13, 14, 15, 16, 17, 41, 42, 43, 44, 45, 46, 47, 48, 49, 50, 51, 52, 53, 54, 55, 56, 57, 58, 59, 60, 61, 62, 63, 64, 65, 66, 67, 68, 69, 70, 71, 72, 73, 74, 75, 76, 77, 78, 79, 80, 81, 82] (fun pp => [(10, .d (bD pp.1)), (11, .d (iD pp.2.1))]) (fun pp => [(3, .obj 46 [.d (slD 1 iD sys.1), .d (slD 2 D_impl_Rule sys.2)]), (4, .obj 50 [.d (slD 1 iD l.1), .d (slD 3 D_impl_Step l.2.1), .d (iD l.2.2.1), .d (slD 1 (slD 1 iD) l.2.2.2)]), (6, .obj 40 [.d (.sl 0 (some true) []), .d (.sl 0 (some true) [])]), (9, .obj 40 [.d (slD 1 iD pp.2.2.1), .d (slD 3 D_impl_Step pp.2.2.2)])]) ?_
  rintro ⟨is, k, w, w_1⟩ t1 h hb1
  unfold F_spec_LoopAgain_l1 at h
  try dsimp only at h
  refine vcm_sound (stp ?_)
  refine iT h fun hc h => ?_
  refine iT h fun hc h => ?_
  refine rCN h fun r_4 hr_4 h => ?_
  refine rCN h fun r_5 hr_5 h => ?_
  refine iT h fun hc h => ?_
  refine iT h fun hc h => ?_
  refine rCN h fun r_6 hr_6 h => ?_
  cases h
  refine ⟨_, rfl, ?_⟩
  refine (Weak.drop 12 (by omega)).trans ?_
  refine (Weak.drop 14 (by omega)).trans ?_
  refine (Weak.drop 16 (by omega)).trans ?_
  exact wk⟩
end Go.Proofs.YtklfjpilhbkekaaGreat
namespace Go.Proofs.YtklfjpilhbkekaaGreat
open Go Abx
attribute [local irreducible] vcm vgo vdr vrun vdrun MWp GhostQ BrC BrO BrG BrD BrH AmbO callR callD drQ EnvLe StoLe
set_option maxHeartbeats 4000000
instance : Cl D_impl_Step := Cl.agg _ (fun _ => rfl) (fun _ => rfl)
instance : Cl D_impl_Walk := Cl.agg _ (fun _ => rfl) (fun _ => rfl)
instance : Cl D_impl_Sig := Cl.agg _ (fun _ => rfl) (fun _ => rfl)
instance : Cl D_impl_System := Cl.agg _ (fun _ => rfl) (fun _ => rfl)
instance : Cl D_impl_Subst := Cl.agg _ (fun _ => rfl) (fun _ => rfl)
instance : Cl D_impl_Loop := Cl.agg _ (fun _ => rfl) (fun _ => rfl)
def mc124 : MCode :=
 (.seq (.reg (sq 2 [bo 2 43 0, bo 3 48 1, mb false])) (.seq (.seq (.reg (sq 7 [la 1 2, cf 172 [7], nt 8, mv 9] ++ sg 10 false 11 [fa 0 3, ld 11, ln 12, bi .gtr 13 24] ++ sq 15 [po 10 14])) (.cond (t0 15) (.seq (.reg (sq 4 [mb false])) .ret) .skip)) (.seq (.seq (.reg (sq 16 [fa 0 3, ld 16, ln 17, mi 0])) (.block 0 (.loop (.seq (.reg (sq 20 [bn .lss 19 18])) (.seq (.cond (t0 20) .skip (.exit 0)) (.seq (.block 1 (.seq (.reg (sq 21 [ix 1 17 19, ld 21] ++ sq 6 [mv 22])) (.seq (.reg (sq 23 [mv 6, ln 23, bi .gtr 24 0, mv 25] ++ sg 26 true 27 [la 1 2, mv 6, cf 157 [27, 28], nt 29] ++ sq 31 [pa 26 30])) (.cond (t0 31) (.seq (.reg (sq 4 [mb false])) .ret) .skip)))) (.reg (sq 32 [bi .add 19 1] ++ sq 19 [mv 32])))))))) (.seq (.reg (sq 4 [mb true])) .ret))))
theorem fn124 : MFn Tryz.prog 124 mc124 33 [.tmp 4] := ⟨_, Tryz.func124, by kernel_rfl, Tryz.ntmps124, by kernel_rfl⟩
noncomputable def F_impl_SubstOk_l1 (sig : (List Int)) (s : (List (List Int))) : Int → Option (Int ⊕ Bool)
 | v19 =>
  if (decide (v19 < (s.length : Int))) = true then
   if 0 ≤ v19 ∧ v19 < (s.length : Int) then
    if (decide (0 < ((s.getD v19.toNat default).length : Int))) = true then
     (F_impl_TermOk sig (s.getD v19.toNat default)).bind fun r_1 =>
     if r_1 = true then
      some (.inl (IntKind.i64.wrap (v19 + 1)))
     else
      Option.map Sum.inr (
       some false)
    else
     some (.inl (IntKind.i64.wrap (v19 + 1)))
   else none
  else
   Option.map Sum.inr (
    some true)
noncomputable def F_impl_SubstOk (sig : (List Int)) (s : (List (List Int))) : Option Bool :=
 (F_impl_SigOk sig).bind fun r =>
 if r = true then
  if (decide (24 < (s.length : Int))) = true then
   some false
  else
   loopC (F_impl_SubstOk_l1 sig s) 0
 else
  some false
instance c_impl_SubstOk {sig : (List Int)} {s : (List (List Int))} : HasC (F_impl_SubstOk sig s) fun rr => PFun Tryz.prog 124 [D_impl_Sig sig, D_impl_Subst s] (bD rr) := ⟨@fun rr h => by
  delta F_impl_SubstOk at h
  refine fn124.pureL (vcm_sound ?_)
  delta mc124
  refine stp ?_
  refine rC h fun r hr h => ?_
  refine iT h fun hc h => ?_
  refine iF h fun hc h => ?_
  refine m_lW h [4, 6, 19, 20, 21, 22, 23, 24, 25, 26, 27, 28, 29, 30, 31, 32] (fun pp => [(19, .d (iD pp))]) (fun pp => [(2, .obj 43 [.d (slD 1 iD sig)]), (3, .obj 48 [.d (slD 1 (slD 1 iD) s)])]) ?_
  rintro v19 t1 h hb1
  unfold F_impl_SubstOk_l1 at h
  try dsimp only at h
  refine vcm_sound (stp ?_)
  exact aut⟩
def mc120 : MCode :=
 (.seq (.reg (sq 2 [bo 2 46 0, bo 3 50 1, mb false])) (.seq (.seq (.draw (sq 7 [fa 0 3, fa 1 7, ld 8, ln 9, bi .eql 10 0, mv 11] ++ sg 12 false 13 [la 2 2, fa 0 3, la 2 14, cf 190 [13, 15], nt 16] ++ sq 18 [po 12 17, mv 18] ++ sg 19 false 20 [fa 0 2, la 1 20, fa 0 3, la 2 22, cf 61 [23], fa 2 3, ld 25, cf 191 [21, 24, 26], nt 27] ++ sq 29 [po 19 28, mv 29] ++ sg 30 false 31 [fa 0 2, la 1 31, fa 3 3, la 1 33, cf 124 [32, 34], nt 35] ++ sq 37 [po 30 36]) [[], [0], [1], [2], [3], [4], [5], [5], [7, 5], [6, 8, 5, 5], [9, 5], [5, 10], [11, 9], [12], [13, 12], [12], [15, 12], [16, 12, 12], [12], [18, 12], [14, 17, 19, 17, 12], [20, 12], [12, 21], [22, 20], [23], [24, 23], [23], [26, 23], [25, 27, 23, 23], [28, 23], [23, 29]]) (.cond (t0 37) (.seq (.reg (sq 4 [mb false])) .ret) .skip)) (.seq (.reg (sq 39 [fa 3 3, la 1 39, fa 0 3, fa 0 41, ld 42, cf 125 [40, 43]] ++ sq 38 [mv 44] ++ sq 45 [ex 38 0, ex 38 1] ++ sq 5 [mv 45, mv 46])) (.seq (.draw (sq 47 [mv 6, mv 47] ++ sg 48 true 49 [mv 5, fa 0 2, la 1 50, fa 0 3, la 2 52, cf 61 [53], fa 2 3, ld 55, cf 159 [51, 54, 56], cf 128 [49, 57]] ++ sq 59 [pa 48 58] ++ sq 4 [mv 59]) [[], [0], [1], [1], [3, 1], [1], [5, 1], [6, 1, 1], [1], [8, 1], [4, 7, 9, 7, 1], [2, 10, 10, 1], [1, 11], [12, 11, 0, 1, 2, 3, 4, 5, 6, 7, 8, 9, 10, 11, 12]]) .ret))))
theorem fn120 : MFn Tryz.prog 120 mc120 60 [.tmp 4] := ⟨_, Tryz.func120, by kernel_rfl, Tryz.ntmps120, by kernel_rfl⟩
noncomputable def F_impl_loopOk (sys : ((List Int) × (List ((List Int) × (List Int))))) (l : ((List Int) × (List (Int × Int × (List Int))) × Int × (List (List Int)))) : Option Bool :=
 if ((l.2.1.length : Int) == 0) = true then
  some false
 else
  (F_impl_walkOk sys (l.1, l.2.1)).bind fun r =>
  if r = true then
   (F_impl_Walk_end (l.1, l.2.1)).bind fun r_1 =>
   (F_impl_posOk sys.1 r_1 l.2.2.1).bind fun r_2 =>
   if r_2 = true then
    (F_impl_SubstOk sys.1 l.2.2.2).bind fun r_3 =>
    if r_3 = true then
     (F_impl_fill l.2.2.2 l.1).bind fun r_4 =>
     if r_4.2 = true then
      (F_impl_Walk_end (l.1, l.2.1)).bind fun r_5 =>
      (F_impl_subAt sys.1 r_5 l.2.2.1).bind fun r_6 =>
      (F_slices_Equal_int64_int64 r_4.1 r_6).bind fun r_7 =>
      some r_7
     else
      some false
    else
     some false
   else
    some false
  else
   some false
instance c_impl_loopOk {sys : ((List Int) × (List ((List Int) × (List Int))))} {l : ((List Int) × (List (Int × Int × (List Int))) × Int × (List (List Int)))} : HasC (F_impl_loopOk sys l) fun rr => PFun Tryz.prog 120 [D_impl_System sys, D_impl_Loop l] (bD rr) := ⟨@fun rr h => by
  delta F_impl_loopOk at h
  refine fn120.pureL (vcm_sound ?_)
  delta mc120
  refine stp ?_
  exact aut⟩
def mc57 : MCode :=
 (.seq (.reg (sq 2 [bo 2 46 0, bo 3 50 1, mb false])) (.seq (.reg (sq 5 [la 2 2, cf 119 [5], mv 6] ++ sg 7 true 8 [la 2 2, la 4 3, cf 120 [8, 9]] ++ sq 11 [pa 7 10] ++ sq 4 [mv 11])) .ret))
theorem fn57 : MFn Tryz.prog 57 mc57 12 [.tmp 4] := ⟨_, Tryz.func57, by kernel_rfl, Tryz.ntmps57, by kernel_rfl⟩
noncomputable def F_impl_LoopOk (sys : ((List Int) × (List ((List Int) × (List Int))))) (l : ((List Int) × (List (Int × Int × (List Int))) × Int × (List (List Int)))) : Option Bool :=
 (F_impl_SystemOk sys).bind fun r =>
 if r = true then
  (F_impl_loopOk sys l).bind fun r_1 =>
  some r_1
 else
  some false
instance c_impl_LoopOk {sys : ((List Int) × (List ((List Int) × (List Int))))} {l : ((List Int) × (List (Int × Int × (List Int))) × Int × (List (List Int)))} : HasC (F_impl_LoopOk sys l) fun rr => PFun Tryz.prog 57 [D_impl_System sys, D_impl_Loop l] (bD rr) := ⟨@fun rr h => by
  delta F_impl_LoopOk at h
  refine fn57.pureL (vcm_sound ?_)
  delta mc57
  refine stp ?_
  exact aut⟩
def mc122 : MCode :=
 (.seq (.reg (sq 3 [bo 3 151 1])) (.draw (sq 4 [mv 0, mv 0, .nilc (t0 5), fa 1 6, ld 7, fa 0 3, ld 9, fa 1 3, ld 11, fa 2 3, ld 13, cf 121 [14], .build [.lit (.int .i64 0), .lit (.int .i64 0), .sl 0 (some true) []] [(0, 1, (t0 10)), (1, 1, (t0 12)), (2, 1, (t0 15))], .bsl 17 151 3 [(t0 16)], ap 18 151 3 40 8 17, .nilc (t0 4), fa 1 19] ++ s0 (sr 1 20 18)) [[], [], [1], [2], [3], [], [5], [], [7], [], [9], [10], [6, 8, 11], [12], [4, 13, 11], [0, 0, 1, 2, 3, 4, 5, 6, 7, 8, 9, 10, 11, 12, 13, 14], [15, 0, 1, 2, 3, 4, 5, 6, 7, 8, 9, 10, 11, 12, 13, 14], [16, 14, 14, 0, 1, 2, 3, 4, 5, 6, 7, 8, 9, 10, 11, 12, 13, 14]]))
theorem fn122 : MFn Tryz.prog 122 mc122 21 [] := ⟨_, Tryz.func122, by kernel_rfl, Tryz.ntmps122, by kernel_rfl⟩
noncomputable def F_impl_Walk_add (s : (Int × Int × (List Int))) (w0 : (List Int)) (w1 : (List (Int × Int × (List Int)))) : Option (List (Int × Int × (List Int))) :=
 (F_slices_Clone_int64_int64 s.2.2).bind fun r =>
 if (w1.length + 1) * 40 ≤ 140737488355328 then
  some (w1 ++ [(s.1, s.2.1, r)])
 else none
instance c_impl_Walk_add {s : (Int × Int × (List Int))} {w0 : (List Int)} {w1 : (List (Int × Int × (List Int)))} : HasC (F_impl_Walk_add s w0 w1) fun rr => ACalls Tryz.prog 122 [.ptr 0 0, .d (.agg [iD s.1, iD s.2.1, slD 1 iD s.2.2])] [(0, .obj 40 [.d (slD 1 iD w0), .own 3 1 (List.map D_impl_Step w1)]), (1, .tok 151 3 w1.length)] 2 fun xx ss => xx = .tup [] ∧ ss = [(0, .obj 40 [.d (slD 1 iD w0), .own 3 1 (List.map D_impl_Step rr)]), (1, .tok 151 3 rr.length)] := ⟨@fun rr h => by
  delta F_impl_Walk_add at h
  refine fn122.callsO (vcm_sound ?_)
  delta mc122
  refine stp ?_
  refine dC h fun r hr h => ?_
  refine ndI h fun hp h => ?_
  refine drQ_of (by kernel_rfl) (stp ?_)
  cases h
  exact ⟨[3, 17], by simp, don, don⟩⟩
def mc58 : MCode :=
 (.seq (.reg (sq 1 [bo 1 40 0, .alloc 2 40 [.sl 0 (some true) [], .sl 0 (some true) []]])) (.seq (.reg (sq 6 [fa 0 1, ld 6, cf 121 [7], .build [.sl 0 (some true) [], .sl 0 (some true) []] [(0, 1, (t0 8))]] ++ sq 3 [.alloc 3 40 [.sl 0 (some true) [], .sl 0 (some true) []]] ++ s0 (sr 2 3 9))) (.seq (.seq (.reg (sq 10 [fa 1 1, ld 10, ln 11, mi 0])) (.block 0 (.loop (.seq (.reg (sq 14 [bn .lss 13 12])) (.seq (.cond (t0 14) .skip (.exit 0)) (.seq (.block 1 (.seq (.reg (sq 15 [ix 3 11 13, la 3 15] ++ sq 5 [.alloc 5 151 [.lit (.int .i64 0), .lit (.int .i64 0), .sl 0 (some true) []]] ++ s0 (sr 3 5 16))) (.reg (sq 17 [la 3 5, cf 122 [3, 17]])))) (.reg (sq 19 [bi .add 13 1] ++ sq 13 [mv 19])))))))) (.seq (.reg (sq 20 [la 2 3] ++ s0 (sr 2 2 20))) .ret))))
theorem fn58 : MFn Tryz.prog 58 mc58 21 [.cell 2 2 true] := ⟨_, Tryz.func58, by kernel_rfl, Tryz.ntmps58, by kernel_rfl⟩
noncomputable def F_impl_cloneWalk_l1 (w : ((List Int) × (List (Int × Int × (List Int))))) (r : (List Int)) : (Int × (List (Int × Int × (List Int)))) → Option ((Int × (List (Int × Int × (List Int)))) ⊕ ((List Int) × (List (Int × Int × (List Int)))))
 | (v13, out) =>
  if (decide (v13 < (w.2.length : Int))) = true then
   if 0 ≤ v13 ∧ v13 < (w.2.length : Int) then
    (F_impl_Walk_add ((w.2.getD v13.toNat default).1, (w.2.getD v13.toNat default).2.1, (w.2.getD v13.toNat default).2.2) r out).bind fun r_1 =>
    some (.inl ((IntKind.i64.wrap (v13 + 1)), r_1))
   else none
  else
   Option.map Sum.inr (
    some (r, out))
noncomputable def F_impl_cloneWalk (w : ((List Int) × (List (Int × Int × (List Int))))) : Option ((List Int) × (List (Int × Int × (List Int)))) :=
 (F_slices_Clone_int64_int64 w.1).bind fun r =>
 loopC (F_impl_cloneWalk_l1 w r) (0, [])
instance c_impl_cloneWalk {w : ((List Int) × (List (Int × Int × (List Int))))} : HasC (F_impl_cloneWalk w) fun rr => PFun Tryz.prog 58 [D_impl_Walk w] (D_impl_Walk rr) := ⟨@fun rr h => by
  delta F_impl_cloneWalk at h
  refine fn58.pureL (vcm_sound ?_)
  delta mc58
  refine stp ?_
  refine rC h fun r hr h => ?_
  refine m_loopF h [5, 13, 14, 15, 16, 17, 18, 19] (fun pp => [(13, .d (iD pp.1))]) (fun pp => [(1, .obj 40 [.d (slD 1 iD w.1), .d (slD 3 D_impl_Step w.2)]), (2, .obj 40 [.d (.sl 0 (some true) []), .d (.sl 0 (some true) [])]), (3, .obj 40 [.d (slD 1 iD r), .own 3 300000 (List.map D_impl_Step pp.2)]), (300000, .tok 151 3 pp.2.length)]) ?_ ?_
  · try dsimp only
    refine (Weak.thawCell 3 1 300000 151 3 rfl rfl rfl).trans ?_
    exact wk
  rintro ⟨v13, out⟩ t1 h hb1
  unfold F_impl_cloneWalk_l1 at h
  try dsimp only at h
  refine vcm_sound (stp ?_)
  refine iT h fun hc h => ?_
  refine ndI h fun hp h => ?_
  refine rCo [(0, 3), (1, 300000)] [] h fun r_1 hr_1 h => ?_
  cases h
  refine ⟨_, rfl, ?_⟩
  refine (Weak.drop 5 (by omega)).trans ?_
  exact wk⟩
def mc126 : MCode :=
 (.seq (.reg (sq 3 [bo 3 48 0] ++ sq 6 [mi 0])) (.seq (.reg (sq 7 [mi 0])) (.seq (.seq (.reg (sq 11 [mv 1, mv 2, .slc (t0 11) 1 none (some (t0 12)) none, ln 13, mi 0])) (.block 0 (.loop (.seq (.reg (sq 16 [bn .lss 15 14])) (.seq (.cond (t0 16) .skip (.exit 0)) (.seq (.block 1 (.seq (.reg (sq 17 [ix 1 13 15, ld 17] ++ sq 9 [mv 18])) (.seq (.reg (sq 19 [mv 7, bi .add 19 1] ++ sq 7 [mv 20])) (.seq (.seq (.reg (sq 21 [mv 9, bi .geq 21 0])) (.cond (t0 22) (.exit 1) .skip)) (.seq (.reg (sq 23 [la 1 3, mv 9, .bin .sub (i0 (-1)) (t0 24), cf 193 [23, 25]] ++ sq 10 [mv 26])) (.seq (.reg (sq 27 [mv 10, .eqnil true (t0 27)])) (.cond (t0 28) (.reg (sq 29 [mv 7, mv 10, ln 30, bi .sub 31 1, bn .add 29 32] ++ sq 7 [mv 33])) .skip))))))) (.reg (sq 34 [bi .add 15 1] ++ sq 15 [mv 34])))))))) (.seq (.reg (sq 35 [mv 7] ++ sq 6 [mv 35])) .ret))))
theorem fn126 : MFn Tryz.prog 126 mc126 36 [.tmp 6] := ⟨_, Tryz.func126, by kernel_rfl, Tryz.ntmps126, by kernel_rfl⟩
noncomputable def F_impl_placeUnder_l1 (s : (List (List Int))) (t : (List Int)) (at' : Int) : (Int × Int) → Option ((Int × Int) ⊕ Int)
 | (out, v15) =>
  if (decide (v15 < ((t.take at'.toNat).length : Int))) = true then
   if 0 ≤ v15 ∧ v15 < ((t.take at'.toNat).length : Int) then
    if (decide (0 ≤ ((t.take at'.toNat).getD v15.toNat default))) = true then
     some (.inl ((IntKind.i64.wrap (out + 1)), (IntKind.i64.wrap (v15 + 1))))
    else
     (F_impl_Subst_byVar s (IntKind.i64.wrap ((-1) - ((t.take at'.toNat).getD v15.toNat default)))).bind fun r =>
     if r.isEmpty = true then
      some (.inl ((IntKind.i64.wrap (out + 1)), (IntKind.i64.wrap (v15 + 1))))
     else
      some (.inl ((IntKind.i64.wrap ((IntKind.i64.wrap (out + 1)) + (IntKind.i64.wrap ((r.length : Int) - 1)))), (IntKind.i64.wrap (v15 + 1))))
   else none
  else
   Option.map Sum.inr (
    some out)
noncomputable def F_impl_placeUnder (s : (List (List Int))) (t : (List Int)) (at' : Int) : Option Int :=
 if 0 ≤ at' ∧ at' ≤ (t.length : Int) then
  loopC (F_impl_placeUnder_l1 s t at') (0, 0)
 else none
instance c_impl_placeUnder {s : (List (List Int))} {t : (List Int)} {at' : Int} : HasC (F_impl_placeUnder s t at') fun rr => PFun Tryz.prog 126 [D_impl_Subst s, (slD 1 iD) t, iD at'] (iD rr) := ⟨@fun rr h => by
  delta F_impl_placeUnder at h
  refine fn126.pureL (vcm_sound ?_)
  delta mc126
  refine stp ?_
  refine ndI h fun hp h => ?_
  refine m_lW h [7, 9, 10, 15, 16, 17, 18, 19, 20, 21, 22, 23, 24, 25, 26, 27, 28, 29, 30, 31, 32, 33, 34] (fun pp => [(7, .d (iD pp.1)), (15, .d (iD pp.2))]) (fun pp => [(3, .obj 48 [.d (slD 1 (slD 1 iD) s)])]) ?_
  rintro ⟨out, v15⟩ t1 h hb1
  unfold F_impl_placeUnder_l1 at h
  try dsimp only at h
  refine vcm_sound (stp ?_)
  exact aut⟩
def mc59 : MCode :=
 (.seq (.reg (sq 3 [bo 3 46 0, bo 4 40 1, bo 5 48 2, .alloc 6 40 [.sl 0 (some true) [], .sl 0 (some true) []], mb false])) (.seq (.seq (.reg (sq 16 [la 2 3, la 2 4, cf 123 [16, 17], nt 18, mv 19] ++ sg 20 false 21 [fa 0 3, la 1 21, la 1 5, cf 124 [22, 23], nt 24] ++ sq 26 [po 20 25])) (.cond (t0 26) (.seq (.reg (sq 27 [.build [.sl 0 (some true) [], .sl 0 (some true) []] []] ++ s0 (sr 2 6 27) ++ sq 7 [mb false])) .ret) .skip)) (.seq (.reg (sq 29 [la 1 5, fa 0 4, ld 30, cf 125 [29, 31]] ++ sq 28 [mv 32] ++ sq 33 [ex 28 0, ex 28 1] ++ sq 8 [mv 33, mv 34])) (.seq (.seq (.reg (sq 35 [mv 9, nt 35])) (.cond (t0 36) (.seq (.reg (sq 37 [.build [.sl 0 (some true) [], .sl 0 (some true) []] []] ++ s0 (sr 2 6 37) ++ sq 7 [mb false])) .ret) .skip)) (.seq (.reg (sq 38 [mv 8, .build [.sl 0 (some true) [], .sl 0 (some true) []] [(0, 1, (t0 38))]] ++ sq 10 [.alloc 10 40 [.sl 0 (some true) [], .sl 0 (some true) []]] ++ s0 (sr 2 10 39))) (.seq (.reg (sq 40 [fa 0 4, ld 40] ++ sq 11 [mv 41])) (.seq (.seq (.reg (sq 42 [fa 1 4, ld 42, ln 43, mi 0])) (.block 0 (.loop (.seq (.reg (sq 46 [bn .lss 45 44])) (.seq (.cond (t0 46) .skip (.exit 0)) (.seq (.block 1 (.seq (.reg (sq 47 [ix 3 43 45, la 3 47] ++ sq 13 [.alloc 13 151 [.lit (.int .i64 0), .lit (.int .i64 0), .sl 0 (some true) []]] ++ s0 (sr 3 13 48))) (.seq (.reg (sq 50 [la 1 5, fa 2 13, ld 51, cf 125 [50, 52]] ++ sq 49 [mv 53] ++ sq 54 [ex 49 0, ex 49 1] ++ sq 14 [mv 54, mv 55])) (.seq (.seq (.reg (sq 56 [mv 15, nt 56])) (.cond (t0 57) (.seq (.reg (sq 58 [.build [.sl 0 (some true) [], .sl 0 (some true) []] []] ++ s0 (sr 2 6 58) ++ sq 7 [mb false])) .ret) .skip)) (.seq (.draw (sq 59 [fa 1 10, ld 59, la 1 5, mv 11, fa 0 13, ld 63, cf 126 [61, 62, 64], fa 1 13, ld 66, mv 14, .build [.lit (.int .i64 0), .lit (.int .i64 0), .sl 0 (some true) []] [(0, 1, (t0 65)), (1, 1, (t0 67)), (2, 1, (t0 68))], .bsl 70 151 3 [(t0 69)], ap 71 151 3 40 60 70, fa 1 10] ++ s0 (sr 1 72 71)) [[], [0], [], [], [], [4], [2, 3, 5], [], [7], [], [6, 8, 9], [10], [1, 11, 6], [0, 1, 2, 3, 4, 5, 6, 7, 8, 9, 10, 11, 12], [13, 12, 12, 0, 1, 2, 3, 4, 5, 6, 7, 8, 9, 10, 11, 12]]) (.reg (sq 73 [fa 2 13, ld 73] ++ sq 11 [mv 74]))))))) (.reg (sq 75 [bi .add 45 1] ++ sq 45 [mv 75])))))))) (.seq (.reg (sq 76 [la 2 10] ++ s0 (sr 2 6 76) ++ sq 7 [mb true])) .ret))))))))
theorem fn59 : MFn Tryz.prog 59 mc59 77 [.cell 6 2 true, .tmp 7] := ⟨_, Tryz.func59, by kernel_rfl, Tryz.ntmps59, by kernel_rfl⟩
noncomputable def F_impl_WalkUnder_l1 (w : ((List Int) × (List (Int × Int × (List Int))))) (s : (List (List Int))) (r_2 : ((List Int) × Bool)) : ((List Int) × Int × (List (Int × Int × (List Int)))) → Option (((List Int) × Int × (List (Int × Int × (List Int)))) ⊕ (((List Int) × (List (Int × Int × (List Int)))) × Bool))
 | (t, v45, out) =>
  if (decide (v45 < (w.2.length : Int))) = true then
   if 0 ≤ v45 ∧ v45 < (w.2.length : Int) then
    (F_impl_fill s ((w.2.getD v45.toNat default).2.2)).bind fun r_3 =>
    if r_3.2 = true then
     (F_impl_placeUnder s t ((w.2.getD v45.toNat default).1)).bind fun r_4 =>
     if (out.length + 1) * 40 ≤ 140737488355328 then
      some (.inl ((w.2.getD v45.toNat default).2.2, (IntKind.i64.wrap (v45 + 1)), (out ++ [(r_4, (w.2.getD v45.toNat default).2.1, r_3.1)])))
     else none
    else
     Option.map Sum.inr (
      some (([], []), false))
   else none
  else
   Option.map Sum.inr (
    some ((r_2.1, out), true))
noncomputable def F_impl_WalkUnder (sys : ((List Int) × (List ((List Int) × (List Int))))) (w : ((List Int) × (List (Int × Int × (List Int))))) (s : (List (List Int))) : Option (((List Int) × (List (Int × Int × (List Int)))) × Bool) :=
 (F_impl_WalkOk sys w).bind fun r =>
 if r = true then
  (F_impl_SubstOk sys.1 s).bind fun r_1 =>
  if r_1 = true then
   (F_impl_fill s w.1).bind fun r_2 =>
   if r_2.2 = true then
    loopC (F_impl_WalkUnder_l1 w s r_2) (w.1, 0, [])
   else
    some (([], []), false)
  else
   some (([], []), false)
 else
  some (([], []), false)
instance c_impl_WalkUnder {sys : ((List Int) × (List ((List Int) × (List Int))))} {w : ((List Int) × (List (Int × Int × (List Int))))} {s : (List (List Int))} : HasC (F_impl_WalkUnder sys w s) fun rr => PFunN Tryz.prog 59 [D_impl_System sys, D_impl_Walk w, D_impl_Subst s] [D_impl_Walk rr.1, bD rr.2] := ⟨@fun rr h => by
  delta F_impl_WalkUnder at h
  refine fn59.pureLN (vcm_sound ?_)
  delta mc59
  refine stp ?_
  refine rC h fun r hr h => ?_
  refine iT h fun hc h => ?_
  refine rC h fun r_1 hr_1 h => ?_
  refine iT h fun hc h => ?_
  refine rCN h fun r_2 hr_2 h => ?_
  refine iT h fun hc h => ?_
  refine m_loopF h [7, 11, 13, 14, 15, 45, 46, 47, 48, 49, 50, 51, 52, 53, 54, 55, 56, 57, 58, 59, 60, 61, 62, 63, 64, 65, 66, 67, 68, 69, 70, 71, 72, 73, 74, 75] (fun pp => [(11, .d (slD 1 iD pp.1)), (45, .d (iD pp.2.1))]) (fun pp => [(3, .obj 46 [.d (slD 1 iD sys.1), .d (slD 2 D_impl_Rule sys.2)]), (4, .obj 40 [.d (slD 1 iD w.1), .d (slD 3 D_impl_Step w.2)]), (5, .obj 48 [.d (slD 1 (slD 1 iD) s)]), (6, .obj 40 [.d (.sl 0 (some true) []), .d (.sl 0 (some true) [])]), (10, .obj 40 [.d (slD 1 iD r_2.1), .own 3 71 (List.map D_impl_Step pp.2.2)]), (71, .tok 151 3 pp.2.2.length)]) ?_ ?_
  · try dsimp only
    refine (Weak.thawCell 10 1 71 151 3 rfl rfl rfl).trans ?_
    exact wk
  rintro ⟨t, v45, out⟩ t1 h hb1
  unfold F_impl_WalkUnder_l1 at h
  try dsimp only at h
  refine vcm_sound (stp ?_)
  refine iT h fun hc h => ?_
  refine ndI h fun hp h => ?_
  refine rCN h fun r_3 hr_3 h => ?_
  refine iT h fun hc h => ?_
  refine dC h fun r_4 hr_4 h => ?_
  refine ndI h fun hp h => ?_
  refine drQ_of (by kernel_rfl) (stp ?_)
  cases h
  refine ⟨_, rfl, ?_⟩
  refine (Weak.drop 13 (by omega)).trans ?_
  refine (Weak.drop 70 (by omega)).trans ?_
  exact wk⟩
def mc60 : MCode :=
 (.seq (.reg (sq 4 [bo 4 43 0, bo 5 40 1] ++ sq 8 [.alloc 8 40 [.sl 0 (some true) [], .sl 0 (some true) []], mb false])) (.seq (.reg (sq 18 [la 1 4, mv 2, mv 3, fa 0 5, ld 21, cf 127 [18, 19, 20, 22]] ++ sq 17 [mv 23] ++ sq 24 [ex 17 0, ex 17 1] ++ sq 10 [mv 24, mv 25])) (.seq (.seq (.reg (sq 26 [mv 11, nt 26])) (.cond (t0 27) (.seq (.reg (sq 28 [.build [.sl 0 (some true) [], .sl 0 (some true) []] []] ++ s0 (sr 2 8 28) ++ sq 9 [mb false])) .ret) .skip)) (.seq (.reg (sq 29 [mv 10, .build [.sl 0 (some true) [], .sl 0 (some true) []] [(0, 1, (t0 29))]] ++ sq 12 [.alloc 12 40 [.sl 0 (some true) [], .sl 0 (some true) []]] ++ s0 (sr 2 12 30))) (.seq (.seq (.reg (sq 31 [fa 1 5, ld 31, ln 32, mi 0])) (.block 0 (.loop (.seq (.reg (sq 35 [bn .lss 34 33])) (.seq (.cond (t0 35) .skip (.exit 0)) (.seq (.block 1 (.seq (.reg (sq 36 [ix 3 32 34, la 3 36] ++ sq 14 [.alloc 14 151 [.lit (.int .i64 0), .lit (.int .i64 0), .sl 0 (some true) []]] ++ s0 (sr 3 14 37))) (.seq (.reg (sq 39 [la 1 4, mv 2, mv 3, fa 2 14, ld 42, cf 127 [39, 40, 41, 43]] ++ sq 38 [mv 44] ++ sq 45 [ex 38 0, ex 38 1] ++ sq 15 [mv 45, mv 46])) (.seq (.seq (.reg (sq 47 [mv 16, nt 47])) (.cond (t0 48) (.seq (.reg (sq 49 [.build [.sl 0 (some true) [], .sl 0 (some true) []] []] ++ s0 (sr 2 8 49) ++ sq 9 [mb false])) .ret) .skip)) (.reg (sq 50 [fa 1 12, ld 50, fa 0 14, ld 52, mv 3, bn .add 53 54, fa 1 14, ld 56, mv 15, .build [.lit (.int .i64 0), .lit (.int .i64 0), .sl 0 (some true) []] [(0, 1, (t0 55)), (1, 1, (t0 57)), (2, 1, (t0 58))], .bsl 60 151 3 [(t0 59)], ap 61 151 3 40 51 60, fa 1 12] ++ s0 (sr 1 62 61))))))) (.reg (sq 63 [bi .add 34 1] ++ sq 34 [mv 63])))))))) (.seq (.reg (sq 64 [la 2 12] ++ s0 (sr 2 8 64) ++ sq 9 [mb true])) .ret))))))
theorem fn60 : MFn Tryz.prog 60 mc60 65 [.cell 8 2 true, .tmp 9] := ⟨_, Tryz.func60, by kernel_rfl, Tryz.ntmps60, by kernel_rfl⟩
noncomputable def F_impl_walkInside_l1 (sig : (List Int)) (w : ((List Int) × (List (Int × Int × (List Int))))) (t : (List Int)) (at' : Int) (r : ((List Int) × Bool)) : (Int × (List (Int × Int × (List Int)))) → Option ((Int × (List (Int × Int × (List Int)))) ⊕ (((List Int) × (List (Int × Int × (List Int)))) × Bool))
 | (v34, out) =>
  if (decide (v34 < (w.2.length : Int))) = true then
   if 0 ≤ v34 ∧ v34 < (w.2.length : Int) then
    (F_impl_put sig t at' ((w.2.getD v34.toNat default).2.2)).bind fun r_1 =>
    if r_1.2 = true then
     if (out.length + 1) * 40 ≤ 140737488355328 then
      some (.inl ((IntKind.i64.wrap (v34 + 1)), (out ++ [((IntKind.i64.wrap ((w.2.getD v34.toNat default).1 + at')), (w.2.getD v34.toNat default).2.1, r_1.1)])))
     else none
    else
     Option.map Sum.inr (
      some (([], []), false))
   else none
  else
   Option.map Sum.inr (
    some ((r.1, out), true))
noncomputable def F_impl_walkInside (sig : (List Int)) (w : ((List Int) × (List (Int × Int × (List Int))))) (t : (List Int)) (at' : Int) : Option (((List Int) × (List (Int × Int × (List Int)))) × Bool) :=
 (F_impl_put sig t at' w.1).bind fun r =>
 if r.2 = true then
  loopC (F_impl_walkInside_l1 sig w t at' r) (0, [])
 else
  some (([], []), false)
instance c_impl_walkInside {sig : (List Int)} {w : ((List Int) × (List (Int × Int × (List Int))))} {t : (List Int)} {at' : Int} : HasC (F_impl_walkInside sig w t at') fun rr => PFunN Tryz.prog 60 [D_impl_Sig sig, D_impl_Walk w, (slD 1 iD) t, iD at'] [D_impl_Walk rr.1, bD rr.2] := ⟨@fun rr h => by
  delta F_impl_walkInside at h
  refine fn60.pureLN (vcm_sound ?_)
  delta mc60
  refine stp ?_
  refine rCN h fun r hr h => ?_
  refine iT h fun hc h => ?_
  refine m_loopF h [9, 14, 15, 16, 34, 35, 36, 37, 38, 39, 40, 41, 42, 43, 44, 45, 46, 47, 48, 49, 50, 51, 52, 53, 54, 55, 56, 57, 58, 59, 60, 61, 62, 63] (fun pp => [(34, .d (iD pp.1))]) (fun pp => [(4, .obj 43 [.d (slD 1 iD sig)]), (5, .obj 40 [.d (slD 1 iD w.1), .d (slD 3 D_impl_Step w.2)]), (8, .obj 40 [.d (.sl 0 (some true) []), .d (.sl 0 (some true) [])]), (12, .obj 40 [.d (slD 1 iD r.1), .own 3 61 (List.map D_impl_Step pp.2)]), (61, .tok 151 3 pp.2.length)]) ?_ ?_
  · try dsimp only
    refine (Weak.thawCell 12 1 61 151 3 rfl rfl rfl).trans ?_
    exact wk
  rintro ⟨v34, out⟩ t1 h hb1
  unfold F_impl_walkInside_l1 at h
  try dsimp only at h
  refine vcm_sound (stp ?_)
  refine iT h fun hc h => ?_
  refine ndI h fun hp h => ?_
  refine rCN h fun r_1 hr_1 h => ?_
  refine iT h fun hc h => ?_
  refine ndI h fun hp h => ?_
  cases h
  refine ⟨_, rfl, ?_⟩
  refine (Weak.drop 14 (by omega)).trans ?_
  refine (Weak.drop 60 (by omega)).trans ?_
  exact wk⟩
def mc62 : MCode :=
 (.seq (.reg (sq 2 [bo 2 40 0, bo 3 40 1, .alloc 4 40 [.sl 0 (some true) [], .sl 0 (some true) []], mb false])) (.seq (.seq (.draw (sq 9 [la 2 2, cf 61 [9], fa 0 3, ld 11, cf 128 [10, 12], nt 13, mv 14] ++ sg 15 false 16 [fa 1 2, ld 16, ln 17, fa 1 3, ld 19, ln 20, bn .add 18 21, bi .gtr 22 60] ++ sq 24 [po 15 23]) [[], [0], [], [2], [1, 3, 1], [4], [5, 4], [6], [7, 6], [8, 6], [6], [10, 6], [11, 6], [9, 12, 6], [13, 6], [6, 14]]) (.cond (t0 24) (.seq (.reg (sq 25 [.build [.sl 0 (some true) [], .sl 0 (some true) []] []] ++ s0 (sr 2 4 25) ++ sq 5 [mb false])) .ret) .skip)) (.seq (.reg (sq 26 [la 2 2, cf 58 [26]] ++ sq 6 [.alloc 6 40 [.sl 0 (some true) [], .sl 0 (some true) []]] ++ s0 (sr 2 6 27))) (.seq (.seq (.reg (sq 28 [fa 1 3, ld 28, ln 29, mi 0])) (.block 0 (.loop (.seq (.reg (sq 32 [bn .lss 31 30])) (.seq (.cond (t0 32) .skip (.exit 0)) (.seq (.block 1 (.seq (.reg (sq 33 [ix 3 29 31, la 3 33] ++ sq 8 [.alloc 8 151 [.lit (.int .i64 0), .lit (.int .i64 0), .sl 0 (some true) []]] ++ s0 (sr 3 8 34))) (.reg (sq 35 [la 3 8, cf 122 [6, 35]])))) (.reg (sq 37 [bi .add 31 1] ++ sq 31 [mv 37])))))))) (.seq (.reg (sq 38 [la 2 6] ++ s0 (sr 2 4 38) ++ sq 5 [mb true])) .ret)))))
theorem fn62 : MFn Tryz.prog 62 mc62 39 [.cell 4 2 true, .tmp 5] := ⟨_, Tryz.func62, by kernel_rfl, Tryz.ntmps62, by kernel_rfl⟩
noncomputable def F_impl_joinWalks_l1 (b : ((List Int) × (List (Int × Int × (List Int))))) (r_2 : ((List Int) × (List (Int × Int × (List Int))))) : Unit → Option (Unit ⊕ (((List Int) × (List (Int × Int × (List Int)))) × Bool))
 | _ =>
  if (decide (0 < (b.2.length : Int))) = true then
   if 0 ≤ 0 ∧ 0 < (b.2.length : Int) then
    none
   else none
  else
   Option.map Sum.inr (
    some (r_2, true))
noncomputable def F_impl_joinWalks (a : ((List Int) × (List (Int × Int × (List Int))))) (b : ((List Int) × (List (Int × Int × (List Int))))) : Option (((List Int) × (List (Int × Int × (List Int)))) × Bool) :=
 (F_impl_Walk_end a).bind fun r =>
 (F_slices_Equal_int64_int64 r b.1).bind fun r_1 =>
 if r_1 = true then
  if (decide (60 < (IntKind.i64.wrap ((a.2.length : Int) + (b.2.length : Int))))) = true then
   some (([], []), false)
  else
   (F_impl_cloneWalk a).bind fun r_2 =>
   loopC (F_impl_joinWalks_l1 b r_2) ()
 else
  some (([], []), false)
instance c_impl_joinWalks {a : ((List Int) × (List (Int × Int × (List Int))))} {b : ((List Int) × (List (Int × Int × (List Int))))} : HasC (F_impl_joinWalks a b) fun rr => PFunN Tryz.prog 62 [D_impl_Walk a, D_impl_Walk b] [D_impl_Walk rr.1, bD rr.2] := ⟨@fun rr h => by
  delta F_impl_joinWalks at h
  refine fn62.pureLN (vcm_sound ?_)
  delta mc62
  refine stp ?_
  refine dC h fun r hr h => ?_
  refine dC h fun r_1 hr_1 h => ?_
  refine iT h fun hc h => ?_
  refine drQ_of (by kernel_rfl) (stp ?_)
  refine iF h fun hc h => ?_
  refine rC h fun r_2 hr_2 h => ?_
  refine m_lW h [8, 31, 32, 33, 34, 35, 36, 37] (fun pp => [(31, .d (iD 0))]) (fun pp => [(2, .obj 40 [.d (slD 1 iD a.1), .d (slD 3 D_impl_Step a.2)]), (3, .obj 40 [.d (slD 1 iD b.1), .d (slD 3 D_impl_Step b.2)]), (4, .obj 40 [.d (.sl 0 (some true) []), .d (.sl 0 (some true) [])]), (6, .obj 40 [.d (slD 1 iD r_2.1), .d (slD 3 D_impl_Step r_2.2)])]) ?_
  rintro _ t1 h hb1
  unfold F_impl_joinWalks_l1 at h
  try dsimp only at h
  refine vcm_sound (stp ?_)
  exact aut⟩
noncomputable def F_impl_Walk_add_s1 (s : (Int × Int × (List Int))) (w0 : (List Int)) (w1 : (List (Int × Int × (List Int)))) : Option (List (Int × Int × (List Int))) :=
 (F_slices_Clone_int64_int64 s.2.2).bind fun r =>
 if (w1.length + 1) * 40 ≤ 140737488355328 then
  some (w1 ++ [(s.1, s.2.1, r)])
 else none
instance c_impl_Walk_add_s1 {s : (Int × Int × (List Int))} {w0 : (List Int)} {w1 : (List (Int × Int × (List Int)))} : HasC (F_impl_Walk_add_s1 s w0 w1) fun rr => ACalls Tryz.prog 122 [.ptr 0 0, .d (.agg [iD s.1, iD s.2.1, slD 1 iD s.2.2])] [(0, .obj 40 [.own 1 1 (List.map iD w0), .own 3 2 (List.map D_impl_Step w1)]), (1, .tok 2 1 w0.length), (2, .tok 151 3 w1.length)] 3 fun xx ss => xx = .tup [] ∧ ss = [(0, .obj 40 [.own 1 1 (List.map iD w0), .own 3 2 (List.map D_impl_Step rr)]), (1, .tok 2 1 w0.length), (2, .tok 151 3 rr.length)] := ⟨@fun rr h => by
  delta F_impl_Walk_add_s1 at h
  refine fn122.callsO (vcm_sound ?_)
  delta mc122
  refine stp ?_
  refine dC h fun r hr h => ?_
  refine ndI h fun hp h => ?_
  refine drQ_of (by kernel_rfl) (stp ?_)
  cases h
  exact ⟨[3, 17], by simp, don, don⟩⟩
def mc122_impl_Walk_add_s2 : MCode :=
 (.seq (.reg (sq 3 [bo 3 151 1])) (.draw (sq 4 [mv 0, mv 0, .nilc (t0 5), fa 1 6, ld 7, fa 0 3, ld 9, fa 1 3, ld 11, fa 2 3, ld 13, cf 121 [14], .build [.lit (.int .i64 0), .lit (.int .i64 0), .sl 0 (some true) []] [(0, 1, (t0 10)), (1, 1, (t0 12)), (2, 1, (t0 15))], .bsln 17 151 3 [(t0 16)], .appn 18 151 3 40 (t0 8) (t0 17), .nilc (t0 4), fa 1 19] ++ s0 (sr 1 20 18)) [[], [], [1], [2], [3], [], [5], [], [7], [], [9], [10], [6, 8, 11], [12], [4, 13, 11], [0, 0, 1, 2, 3, 4, 5, 6, 7, 8, 9, 10, 11, 12, 13, 14], [15, 0, 1, 2, 3, 4, 5, 6, 7, 8, 9, 10, 11, 12, 13, 14], [16, 14, 14, 0, 1, 2, 3, 4, 5, 6, 7, 8, 9, 10, 11, 12, 13, 14]]))
theorem fn122_impl_Walk_add_s2 : MFn Tryz.prog 122 mc122_impl_Walk_add_s2 21 [] := ⟨_, Tryz.func122, by kernel_rfl, Tryz.ntmps122, by kernel_rfl⟩
noncomputable def F_impl_Walk_add_s2 (s : (Int × Int × (List Int))) (w0 : (List Int)) (w1 : (List (Int × Int × (List Int)))) : Option (List (Int × Int × (List Int))) :=
 (F_slices_Clone_int64_int64_s1 s.2.2).bind fun r =>
 if (w1.length + 1) * 40 ≤ 140737488355328 then
  some (w1 ++ [(s.1, s.2.1, r)])
 else none
instance c_impl_Walk_add_s2 {s : (Int × Int × (List Int))} {w0 : (List Int)} {w1 : (List (Int × Int × (List Int)))} : HasC (F_impl_Walk_add_s2 s w0 w1) fun rr => ACalls Tryz.prog 122 [.ptr 0 0, .d (.agg [iD s.1, iD s.2.1, slD 1 iD s.2.2])] [(0, .obj 40 [.own 1 1 (List.map iD w0), .own 3 2 (List.map D_impl_Step w1)]), (1, .tok 2 1 w0.length), (2, .nst 151 3 w1.length (tolds (List.map D_impl_Step w1)))] 3 fun xx ss => xx = .tup [] ∧ ss = [(0, .obj 40 [.own 1 1 (List.map iD w0), .own 3 2 (List.map D_impl_Step rr)]), (1, .tok 2 1 w0.length), (2, .nst 151 3 rr.length (tolds (List.map D_impl_Step rr)))] := ⟨@fun rr h => by
  delta F_impl_Walk_add_s2 at h
  refine fn122_impl_Walk_add_s2.callsD (vcm_sound ?_)
  delta mc122_impl_Walk_add_s2
  refine stp ?_
  refine dCo [] [(900000, 15)] h fun r hr h => ?_
  refine nds ?_
  refine ndI h fun hp h => ?_
  refine drQ_of (by kernel_rfl) (stp ?_)
  cases h
  exact Done.trans ((Done.trans (Done.absorbA 2 15 2 rfl rfl (by omega) (by decide) (Whole.flat (t := 2) (n := r.length) (by first | rfl | (simp [sat, smove, sset, skill, sdel, sdels, Ob.ren, Ob.kill, rens_tolds]; done)) (by simp))) (Done.trans (Done.drops [15] (by simp)) (Done.trans (Done.nstE 2 (tolds (List.map D_impl_Step (w1 ++ [(s.1, s.2.1, r)]))) rfl (by first | rfl | (rw [List.map_append, tolds_append]; rfl) | (simp only [go_sem, AV.rens, AV.ren, List.map_append, tolds_append]; first | done | rfl))) (Done.drops [3, 17] (by simp)))))) (Done.told frd don)⟩
def mc58_impl_cloneWalk_s1 : MCode :=
 (.seq (.reg (sq 1 [bo 1 40 0, .alloc 2 40 [.sl 0 (some true) [], .sl 0 (some true) []]])) (.seq (.reg (sq 6 [fa 0 1, ld 6, cf 121 [7], .build [.sl 0 (some true) [], .sl 0 (some true) []] [(0, 1, (t0 8))]] ++ sq 3 [.alloc 3 40 [.sl 0 (some true) [], .sl 0 (some true) []]] ++ s0 (sr 2 3 9))) (.seq (.seq (.reg (sq 10 [fa 1 1, ld 10, ln 11, mi 0])) (.block 0 (.loop (.seq (.reg (sq 14 [bn .lss 13 12])) (.seq (.cond (t0 14) .skip (.exit 0)) (.seq (.block 1 (.seq (.reg (sq 15 [ix 3 11 13, la 3 15] ++ sq 5 [.alloc 5 151 [.lit (.int .i64 0), .lit (.int .i64 0), .sl 0 (some true) []]] ++ s0 (sr 3 5 16))) (.reg (sq 17 [la 3 5, cf 122 [3, 17]])))) (.reg (sq 19 [bi .add 13 1] ++ sq 13 [mv 19])))))))) (.seq (.reg (sq 20 [la 2 3] ++ s0 (sr 2 2 20))) .ret))))
theorem fn58_impl_cloneWalk_s1 : MFn Tryz.prog 58 mc58_impl_cloneWalk_s1 21 [.cell 2 2 true] := ⟨_, Tryz.func58, by kernel_rfl, Tryz.ntmps58, by kernel_rfl⟩
noncomputable def F_impl_cloneWalk_s1_l1 (w : ((List Int) × (List (Int × Int × (List Int))))) (r : (List Int)) : (Int × (List (Int × Int × (List Int)))) → Option ((Int × (List (Int × Int × (List Int)))) ⊕ ((List Int) × (List (Int × Int × (List Int)))))
 | (v13, out) =>
  if (decide (v13 < (w.2.length : Int))) = true then
   if 0 ≤ v13 ∧ v13 < (w.2.length : Int) then
    (F_impl_Walk_add_s2 ((w.2.getD v13.toNat default).1, (w.2.getD v13.toNat default).2.1, (w.2.getD v13.toNat default).2.2) r out).bind fun r_1 =>
    some (.inl ((IntKind.i64.wrap (v13 + 1)), r_1))
   else none
  else
   Option.map Sum.inr (
    some (r, out))
noncomputable def F_impl_cloneWalk_s1 (w : ((List Int) × (List (Int × Int × (List Int))))) : Option ((List Int) × (List (Int × Int × (List Int)))) :=
 (F_slices_Clone_int64_int64_s1 w.1).bind fun r =>
 loopC (F_impl_cloneWalk_s1_l1 w r) (0, [])
instance c_impl_cloneWalk_s1 {w : ((List Int) × (List (Int × Int × (List Int))))} : HasC (F_impl_cloneWalk_s1 w) fun rr => ACalls Tryz.prog 58 [.d (.agg [slD 1 iD w.1, slD 3 D_impl_Step w.2])] [] 0 fun xx ss => xx = .agg [.own 1 900000 (List.map iD rr.1), .own 3 900001 (List.map D_impl_Step rr.2)] ∧ ss = [(900000, .tok 2 1 rr.1.length), (900001, .nst 151 3 rr.2.length (tolds (List.map D_impl_Step rr.2)))] := ⟨@fun rr h => by
  delta F_impl_cloneWalk_s1 at h
  refine fn58_impl_cloneWalk_s1.callsD (vcm_sound ?_)
  delta mc58_impl_cloneWalk_s1
  refine stp ?_
  refine rCo [] [(900000, 8)] h fun r hr h => ?_
  refine m_loopF h [5, 8, 9, 13, 14, 15, 16, 17, 18, 19] (fun pp => [(13, .d (iD pp.1))]) (fun pp => [(1, .obj 40 [.d (slD 1 iD w.1), .d (slD 3 D_impl_Step w.2)]), (2, .obj 40 [.d (.sl 0 (some true) []), .d (.sl 0 (some true) [])]), (3, .obj 40 [.own 1 8 (List.map iD r), .own 3 300000 (List.map D_impl_Step pp.2)]), (8, .tok 2 1 r.length), (300000, .nst 151 3 pp.2.length (tolds (List.map D_impl_Step pp.2)))]) ?_ ?_
  · try dsimp only
    refine (Weak.thawNcell 3 1 300000 151 3 rfl rfl rfl).trans ?_
    exact wk
  rintro ⟨v13, out⟩ t1 h hb1
  unfold F_impl_cloneWalk_s1_l1 at h
  try dsimp only at h
  refine vcm_sound (stp ?_)
  refine it h (fun hc h => ?_) fun hc h => ?_
  · refine ndI h fun hp h => ?_
    refine rCo [(0, 3), (1, 8), (2, 300000)] [] h fun r_1 hr_1 h => ?_
    cases h
    refine ⟨_, rfl, ?_⟩
    refine (Weak.drop 5 (by omega)).trans ?_
    exact wk
  replace h := inr_some h hb1
  cases h
  exact Done.trans ((Done.trans (Done.move 8 900000 (ob := .tok 2 1 r.length) (by omega) (by omega) (by omega) rfl (by first | rfl | (simp; done) | (simp [sat, smove, sset, skill, sdel, sdels, Ob.ren, Ob.kill, rens_tolds]; done))) (Done.trans (Done.move 300000 900001 (ob := .nst 151 3 out.length (tolds (List.map D_impl_Step out))) (by omega) (by omega) (by omega) rfl (by first | rfl | (simp; done) | (simp [sat, smove, sset, skill, sdel, sdels, Ob.ren, Ob.kill, rens_tolds]; done))) (Done.drops [1, 2, 3] (by simp))))) (Done.told frd don)⟩
noncomputable def F_impl_joinWalks_s1_l1 (b : ((List Int) × (List (Int × Int × (List Int))))) (r_2 : ((List Int) × (List (Int × Int × (List Int))))) : (Int × (List (Int × Int × (List Int)))) → Option ((Int × (List (Int × Int × (List Int)))) ⊕ ((List Int) × (List (Int × Int × (List Int))) × Bool))
 | (v31, out) =>
  if (decide (v31 < (b.2.length : Int))) = true then
   if 0 ≤ v31 ∧ v31 < (b.2.length : Int) then
    (F_impl_Walk_add_s2 ((b.2.getD v31.toNat default).1, (b.2.getD v31.toNat default).2.1, (b.2.getD v31.toNat default).2.2) r_2.1 out).bind fun r_3 =>
    some (.inl ((IntKind.i64.wrap (v31 + 1)), r_3))
   else none
  else
   Option.map Sum.inr (
    some (r_2.1, out, true))
noncomputable def F_impl_joinWalks_s1 (a : ((List Int) × (List (Int × Int × (List Int))))) (b : ((List Int) × (List (Int × Int × (List Int))))) : Option ((List Int) × (List (Int × Int × (List Int))) × Bool) :=
 (F_impl_Walk_end a).bind fun r =>
 (F_slices_Equal_int64_int64 r b.1).bind fun r_1 =>
 if r_1 = true then
  if (decide (60 < (IntKind.i64.wrap ((a.2.length : Int) + (b.2.length : Int))))) = true then
   some ([], [], false)
  else
   (F_impl_cloneWalk_s1 a).bind fun r_2 =>
   loopC (F_impl_joinWalks_s1_l1 b r_2) (0, r_2.2)
 else
  some ([], [], false)
instance c_impl_joinWalks_s1 {a : ((List Int) × (List (Int × Int × (List Int))))} {b : ((List Int) × (List (Int × Int × (List Int))))} : HasC (F_impl_joinWalks_s1 a b) fun rr => ACalls Tryz.prog 62 [.d (.agg [slD 1 iD a.1, slD 3 D_impl_Step a.2]), .d (.agg [slD 1 iD b.1, slD 3 D_impl_Step b.2])] [] 0 fun xx ss => xx = .tup [.agg [.own 1 900000 (List.map iD rr.1), .own 3 900001 (List.map D_impl_Step rr.2.1)], .d (bD rr.2.2)] ∧ ss = [(900000, .tok 2 1 rr.1.length), (900001, .nst 151 3 rr.2.1.length (tolds (List.map D_impl_Step rr.2.1)))] := ⟨@fun rr h => by
  delta F_impl_joinWalks_s1 at h
  refine fn62.callsD (vcm_sound ?_)
  delta mc62
  refine stp ?_
  refine dC h fun r hr h => ?_
  refine dC h fun r_1 hr_1 h => ?_
  refine it h (fun hc h => ?_) fun hc h => ?_
  · refine drQ_of (by kernel_rfl) (stp ?_)
    refine it h (fun hc h => ?_) fun hc h => ?_
    · cases h
      exact Done.trans ((Done.trans (Done.thawT 900000 2 1 (.tup [.agg [.own 1 900000 (List.map iD []), .d (.sl 0 (some true) [])], .d (bD false)]) (by first | rfl | simp [sat]) (by repeat' (first | exact TW.nil | refine TW.tup ?_ | refine TW.aggD ?_ | refine TW.agg ?_ | refine TWs.cons ?_ ?_ | exact TWs.nil | exact TW.refl))) (Done.trans (Done.thawD 900001 151 3 (.tup [.agg [.own 1 900000 (List.map iD []), .own 3 900001 (List.map D_impl_Step [])], .d (bD false)]) (by first | rfl | simp [sat]) (by repeat' (first | exact TW.nil | refine TW.tup ?_ | refine TW.aggD ?_ | refine TW.agg ?_ | refine TWs.cons ?_ ?_ | exact TWs.nil | exact TW.refl))) (Done.drops [2, 3, 4] (by simp))))) (Done.told frd don)
    refine rCo [] [(900000, 27), (900001, 200000)] h fun r_2 hr_2 h => ?_
    refine m_lW h [8, 27, 31, 32, 33, 34, 35, 36, 37] (fun pp => [(31, .d (iD pp.1))]) (fun pp => [(2, .obj 40 [.d (slD 1 iD a.1), .d (slD 3 D_impl_Step a.2)]), (3, .obj 40 [.d (slD 1 iD b.1), .d (slD 3 D_impl_Step b.2)]), (4, .obj 40 [.d (.sl 0 (some true) []), .d (.sl 0 (some true) [])]), (6, .obj 40 [.own 1 27 (List.map iD r_2.1), .own 3 200000 (List.map D_impl_Step pp.2)]), (27, .tok 2 1 r_2.1.length), (200000, .nst 151 3 pp.2.length (tolds (List.map D_impl_Step pp.2)))]) ?_
    rintro ⟨v31, out⟩ t1 h hb1
    unfold F_impl_joinWalks_s1_l1 at h
    try dsimp only at h
    refine vcm_sound (stp ?_)
    refine it h (fun hc h => ?_) fun hc h => ?_
    · refine ndI h fun hp h => ?_
      refine rCo [(0, 6), (1, 27), (2, 200000)] [] h fun r_3 hr_3 h => ?_
      cases h
      refine ⟨_, rfl, ?_⟩
      refine (Weak.drop 8 (by omega)).trans ?_
      exact wk
    replace h := inr_some h hb1
    cases h
    exact Done.trans ((Done.trans (Done.move 27 900000 (ob := .tok 2 1 r_2.1.length) (by omega) (by omega) (by omega) rfl (by first | rfl | (simp; done) | (simp [sat, smove, sset, skill, sdel, sdels, Ob.ren, Ob.kill, rens_tolds]; done))) (Done.trans (Done.move 200000 900001 (ob := .nst 151 3 out.length (tolds (List.map D_impl_Step out))) (by omega) (by omega) (by omega) rfl (by first | rfl | (simp; done) | (simp [sat, smove, sset, skill, sdel, sdels, Ob.ren, Ob.kill, rens_tolds]; done))) (Done.drops [2, 3, 4, 6] (by simp))))) (Done.told frd don)
  refine drQ_of (by kernel_rfl) (stp ?_)
  cases h
  exact Done.trans ((Done.trans (Done.thawT 900000 2 1 (.tup [.agg [.own 1 900000 (List.map iD []), .d (.sl 0 (some true) [])], .d (bD false)]) (by first | rfl | simp [sat]) (by repeat' (first | exact TW.nil | refine TW.tup ?_ | refine TW.aggD ?_ | refine TW.agg ?_ | refine TWs.cons ?_ ?_ | exact TWs.nil | exact TW.refl))) (Done.trans (Done.thawD 900001 151 3 (.tup [.agg [.own 1 900000 (List.map iD []), .own 3 900001 (List.map D_impl_Step [])], .d (bD false)]) (by first | rfl | simp [sat]) (by repeat' (first | exact TW.nil | refine TW.tup ?_ | refine TW.aggD ?_ | refine TW.agg ?_ | refine TWs.cons ?_ ?_ | exact TWs.nil | exact TW.refl))) (Done.drops [2, 3, 4] (by simp))))) (Done.told frd don)⟩
def mc12 : MCode :=
 (.seq (.reg (sq 3 [bo 3 46 0, bo 4 50 1] ++ sq 6 [.alloc 6 40 [.sl 0 (some true) [], .sl 0 (some true) []], mb false])) (.seq (.seq (.reg (sq 12 [la 2 3, la 4 4, cf 57 [12, 13], nt 14, mv 15] ++ sg 16 false 17 [mv 2, bi .lss 17 1] ++ sq 19 [po 16 18, mv 19] ++ sg 20 false 21 [mv 2, bi .gtr 21 60] ++ sq 23 [po 20 22, mv 23] ++ sg 24 false 25 [mv 2, fa 0 4, fa 1 26, ld 27, ln 28, bn .mul 25 29, bi .gtr 30 60] ++ sq 32 [po 24 31])) (.cond (t0 32) (.seq (.reg (sq 33 [.build [.sl 0 (some true) [], .sl 0 (some true) []] []] ++ s0 (sr 2 6 33) ++ sq 7 [mb false])) .ret) .skip)) (.seq (.reg (sq 34 [fa 0 4, la 2 34, cf 58 [35]] ++ sq 8 [.alloc 8 40 [.sl 0 (some true) [], .sl 0 (some true) []]] ++ s0 (sr 2 8 36))) (.seq (.seq (.reg (sq 37 [mv 2, bi .sub 37 1, mi 0])) (.block 0 (.loop (.seq (.reg (sq 40 [bn .lss 39 38])) (.seq (.cond (t0 40) .skip (.exit 0)) (.seq (.block 1 (.seq (.reg (sq 42 [la 2 3, la 2 8, fa 3 4, la 1 44, cf 59 [42, 43, 45]] ++ sq 41 [mv 46] ++ sq 47 [ex 41 0, ex 41 1] ++ sq 9 [.alloc 9 40 [.sl 0 (some true) [], .sl 0 (some true) []]] ++ s0 (sr 2 9 47) ++ sq 10 [mv 48])) (.seq (.seq (.reg (sq 49 [mv 10, nt 49])) (.cond (t0 50) (.seq (.reg (sq 51 [.build [.sl 0 (some true) [], .sl 0 (some true) []] []] ++ s0 (sr 2 6 51) ++ sq 7 [mb false])) .ret) .skip)) (.seq (.draw (sq 53 [fa 0 3, la 1 53, la 2 9, fa 0 4, la 2 56, cf 61 [57], fa 2 4, ld 59, cf 60 [54, 55, 58, 60]] ++ sq 52 [mv 61] ++ sq 62 [ex 52 0, ex 52 1] ++ sq 11 [.alloc 11 40 [.sl 0 (some true) [], .sl 0 (some true) []]] ++ s0 (sr 2 11 62) ++ sq 10 [mv 63]) [[], [0], [], [], [3], [4], [], [6], [1, 2, 5, 7, 5], [8], [9], [9], [], [12, 10, 8, 0, 1, 2, 3, 4, 5, 6, 7, 8, 9, 10, 12], [11, 13, 0, 1, 2, 3, 4, 5, 6, 7, 8, 9, 10, 11, 12, 13]]) (.seq (.seq (.reg (sq 64 [mv 10, nt 64])) (.cond (t0 65) (.seq (.reg (sq 66 [.build [.sl 0 (some true) [], .sl 0 (some true) []] []] ++ s0 (sr 2 6 66) ++ sq 7 [mb false])) .ret) .skip)) (.seq (.reg (sq 68 [fa 0 4, la 2 68, la 2 11, cf 62 [69, 70]] ++ sq 67 [mv 71] ++ sq 72 [ex 67 0, ex 67 1] ++ s0 (sr 2 8 72) ++ sq 10 [mv 73])) (.seq (.reg (sq 74 [mv 10, nt 74])) (.cond (t0 75) (.seq (.reg (sq 76 [.build [.sl 0 (some true) [], .sl 0 (some true) []] []] ++ s0 (sr 2 6 76) ++ sq 7 [mb false])) .ret) .skip)))))))) (.reg (sq 77 [bi .add 39 1] ++ sq 39 [mv 77])))))))) (.seq (.reg (sq 78 [la 2 8] ++ s0 (sr 2 6 78) ++ sq 7 [mb true])) .ret)))))
theorem fn12 : MFn Tryz.prog 12 mc12 79 [.cell 6 2 true, .tmp 7] := ⟨_, Tryz.func12, by kernel_rfl, Tryz.ntmps12, by kernel_rfl⟩
noncomputable def F_impl_LoopAgain_l1 (sys : ((List Int) × (List ((List Int) × (List Int))))) (l : ((List Int) × (List (Int × Int × (List Int))) × Int × (List (List Int)))) (many : Int) : (Int × (List Int) × (List (Int × Int × (List Int)))) → Option ((Int × (List Int) × (List (Int × Int × (List Int)))) ⊕ ((List Int) × (List (Int × Int × (List Int))) × Bool))
 | (v39, out, out_1) =>
  if (decide (v39 < (IntKind.i64.wrap (many - 1)))) = true then
   (F_impl_WalkUnder sys (out, out_1) l.2.2.2).bind fun r_2 =>
   if r_2.2 = true then
    (F_impl_Walk_end (l.1, l.2.1)).bind fun r_3 =>
    (F_impl_walkInside sys.1 r_2.1 r_3 l.2.2.1).bind fun r_4 =>
    if r_4.2 = true then
     (F_impl_joinWalks_s1 (l.1, l.2.1) r_4.1).bind fun r_5 =>
     if r_5.2.2 = true then
      some (.inl ((IntKind.i64.wrap (v39 + 1)), r_5.1, r_5.2.1))
     else
      Option.map Sum.inr (
       some ([], [], false))
    else
     Option.map Sum.inr (
      some ([], [], false))
   else
    Option.map Sum.inr (
     some ([], [], false))
  else
   Option.map Sum.inr (
    some (out, out_1, true))
noncomputable def F_impl_LoopAgain (sys : ((List Int) × (List ((List Int) × (List Int))))) (l : ((List Int) × (List (Int × Int × (List Int))) × Int × (List (List Int)))) (many : Int) : Option ((List Int) × (List (Int × Int × (List Int))) × Bool) :=
 (F_impl_LoopOk sys l).bind fun r =>
 if r = true then
  if (decide (many < 1)) = true then
   some ([], [], false)
  else
   if (decide (60 < many)) = true then
    some ([], [], false)
   else
    if (decide (60 < (IntKind.i64.wrap (many * (l.2.1.length : Int))))) = true then
     some ([], [], false)
    else
     (F_impl_cloneWalk_s1 (l.1, l.2.1)).bind fun r_1 =>
     loopC (F_impl_LoopAgain_l1 sys l many) (0, r_1.1, r_1.2)
 else
  some ([], [], false)
instance c_impl_LoopAgain {sys : ((List Int) × (List ((List Int) × (List Int))))} {l : ((List Int) × (List (Int × Int × (List Int))) × Int × (List (List Int)))} {many : Int} : HasC (F_impl_LoopAgain sys l many) fun rr => ACalls Tryz.prog 12 [.d (.agg [slD 1 iD sys.1, slD 2 D_impl_Rule sys.2]), .d (.agg [slD 1 iD l.1, slD 3 D_impl_Step l.2.1, iD l.2.2.1, slD 1 (slD 1 iD) l.2.2.2]), .d (iD many)] [] 0 fun xx ss => xx = .tup [.agg [.own 1 900000 (List.map iD rr.1), .own 3 900001 (List.map D_impl_Step rr.2.1)], .d (bD rr.2.2)] ∧ ss = [(900000, .tok 2 1 rr.1.length), (900001, .nst 151 3 rr.2.1.length (tolds (List.map D_impl_Step rr.2.1)))] := ⟨@fun rr h => by
  delta F_impl_LoopAgain at h
  refine fn12.callsD (vcm_sound ?_)
  delta mc12
  refine stp ?_
  refine rC h fun r hr h => ?_
  refine it h (fun hc h => ?_) fun hc h => ?_
  · refine it h (fun hc h => ?_) fun hc h => ?_
    · cases h
      exact Done.trans ((Done.trans (Done.thawT 900000 2 1 (.tup [.agg [.own 1 900000 (List.map iD []), .d (.sl 0 (some true) [])], .d (bD false)]) (by first | rfl | simp [sat]) (by repeat' (first | exact TW.nil | refine TW.tup ?_ | refine TW.aggD ?_ | refine TW.agg ?_ | refine TWs.cons ?_ ?_ | exact TWs.nil | exact TW.refl))) (Done.trans (Done.thawD 900001 151 3 (.tup [.agg [.own 1 900000 (List.map iD []), .own 3 900001 (List.map D_impl_Step [])], .d (bD false)]) (by first | rfl | simp [sat]) (by repeat' (first | exact TW.nil | refine TW.tup ?_ | refine TW.aggD ?_ | refine TW.agg ?_ | refine TWs.cons ?_ ?_ | exact TWs.nil | exact TW.refl))) (Done.drops [3, 4, 6] (by simp))))) (Done.told frd don)
    refine it h (fun hc h => ?_) fun hc h => ?_
    · cases h
      exact Done.trans ((Done.trans (Done.thawT 900000 2 1 (.tup [.agg [.own 1 900000 (List.map iD []), .d (.sl 0 (some true) [])], .d (bD false)]) (by first | rfl | simp [sat]) (by repeat' (first | exact TW.nil | refine TW.tup ?_ | refine TW.aggD ?_ | refine TW.agg ?_ | refine TWs.cons ?_ ?_ | exact TWs.nil | exact TW.refl))) (Done.trans (Done.thawD 900001 151 3 (.tup [.agg [.own 1 900000 (List.map iD []), .own 3 900001 (List.map D_impl_Step [])], .d (bD false)]) (by first | rfl | simp [sat]) (by repeat' (first | exact TW.nil | refine TW.tup ?_ | refine TW.aggD ?_ | refine TW.agg ?_ | refine TWs.cons ?_ ?_ | exact TWs.nil | exact TW.refl))) (Done.drops [3, 4, 6] (by simp))))) (Done.told frd don)
    refine it h (fun hc h => ?_) fun hc h => ?_
    · cases h
      exact Done.trans ((Done.trans (Done.thawT 900000 2 1 (.tup [.agg [.own 1 900000 (List.map iD []), .d (.sl 0 (some true) [])], .d (bD false)]) (by first | rfl | simp [sat]) (by repeat' (first | exact TW.nil | refine TW.tup ?_ | refine TW.aggD ?_ | refine TW.agg ?_ | refine TWs.cons ?_ ?_ | exact TWs.nil | exact TW.refl))) (Done.trans (Done.thawD 900001 151 3 (.tup [.agg [.own 1 900000 (List.map iD []), .own 3 900001 (List.map D_impl_Step [])], .d (bD false)]) (by first | rfl | simp [sat]) (by repeat' (first | exact TW.nil | refine TW.tup ?_ | refine TW.aggD ?_ | refine TW.agg ?_ | refine TWs.cons ?_ ?_ | exact TWs.nil | exact TW.refl))) (Done.drops [3, 4, 6] (by simp))))) (Done.told frd don)
    refine rCo [] [(900000, 36), (900001, 200000)] h fun r_1 hr_1 h => ?_
    refine m_lW h [7, 9, 10, 11, 36, 39, 40, 41, 42, 43, 44, 45, 46, 47, 48, 49, 50, 51, 52, 53, 54, 55, 56, 57, 58, 59, 60, 61, 62, 63, 64, 65, 66, 67, 68, 69, 70, 71, 72, 73, 74, 75, 76, 77] (fun pp => [(39, .d (iD pp.1))]) (fun pp => [(3, .obj 46 [.d (slD 1 iD sys.1), .d (slD 2 D_impl_Rule sys.2)]), (4, .obj 50 [.d (slD 1 iD l.1), .d (slD 3 D_impl_Step l.2.1), .d (iD l.2.2.1), .d (slD 1 (slD 1 iD) l.2.2.2)]), (6, .obj 40 [.d (.sl 0 (some true) []), .d (.sl 0 (some true) [])]), (8, .obj 40 [.own 1 36 (List.map iD pp.2.1), .own 3 200000 (List.map D_impl_Step pp.2.2)]), (36, .tok 2 1 pp.2.1.length), (200000, .nst 151 3 pp.2.2.length (tolds (List.map D_impl_Step pp.2.2)))]) ?_
    rintro ⟨v39, out, out_1⟩ t1 h hb1
    unfold F_impl_LoopAgain_l1 at h
    try dsimp only at h
    refine vcm_sound (stp ?_)
    refine it h (fun hc h => ?_) fun hc h => ?_
    · refine rCN h fun r_2 hr_2 h => ?_
      refine it h (fun hc h => ?_) fun hc h => ?_
      · refine dC h fun r_3 hr_3 h => ?_
        refine dCN h fun r_4 hr_4 h => ?_
        refine drQ_of (by kernel_rfl) (stp ?_)
        refine it h (fun hc h => ?_) fun hc h => ?_
        · refine rCo [] [(900000, 71), (900001, 200001)] h fun r_5 hr_5 h => ?_
          refine it h (fun hc h => ?_) fun hc h => ?_
          · cases h
            refine ⟨_, rfl, ?_⟩
            refine (Weak.drop 36 (by omega)).trans ?_
            refine (Weak.move 71 36 (ob := .tok 2 1 r_5.1.length) (by omega) (by omega) (by omega) rfl (by first | rfl | (simp [sat, smove, sset, skill, sdel, sdels, Ob.ren, Ob.kill, rens_tolds]; done))).trans ?_
            refine (Weak.drop 200000 (by omega)).trans ?_
            refine (Weak.move 200001 200000 (ob := .nst 151 3 r_5.2.1.length (tolds (List.map D_impl_Step r_5.2.1))) (by omega) (by omega) (by omega) rfl (by first | rfl | (simp [sat, smove, sset, skill, sdel, sdels, Ob.ren, Ob.kill, rens_tolds]; done))).trans ?_
            refine (Weak.drop 9 (by omega)).trans ?_
            refine (Weak.drop 11 (by omega)).trans ?_
            exact wk
          replace h := inr_some h hb1
          cases h
          exact Done.trans ((Done.trans (Done.thawT 900000 2 1 (.tup [.agg [.own 1 900000 (List.map iD []), .d (.sl 0 (some true) [])], .d (bD false)]) (by first | rfl | simp [sat]) (by repeat' (first | exact TW.nil | refine TW.tup ?_ | refine TW.aggD ?_ | refine TW.agg ?_ | refine TWs.cons ?_ ?_ | exact TWs.nil | exact TW.refl))) (Done.trans (Done.thawD 900001 151 3 (.tup [.agg [.own 1 900000 (List.map iD []), .own 3 900001 (List.map D_impl_Step [])], .d (bD false)]) (by first | rfl | simp [sat]) (by repeat' (first | exact TW.nil | refine TW.tup ?_ | refine TW.aggD ?_ | refine TW.agg ?_ | refine TWs.cons ?_ ?_ | exact TWs.nil | exact TW.refl))) (Done.drops [3, 4, 6, 8, 9, 11, 36, 71, 200000, 200001] (by simp))))) (Done.told frd don)
        replace h := inr_some h hb1
        cases h
        exact Done.trans ((Done.trans (Done.thawT 900000 2 1 (.tup [.agg [.own 1 900000 (List.map iD []), .d (.sl 0 (some true) [])], .d (bD false)]) (by first | rfl | simp [sat]) (by repeat' (first | exact TW.nil | refine TW.tup ?_ | refine TW.aggD ?_ | refine TW.agg ?_ | refine TWs.cons ?_ ?_ | exact TWs.nil | exact TW.refl))) (Done.trans (Done.thawD 900001 151 3 (.tup [.agg [.own 1 900000 (List.map iD []), .own 3 900001 (List.map D_impl_Step [])], .d (bD false)]) (by first | rfl | simp [sat]) (by repeat' (first | exact TW.nil | refine TW.tup ?_ | refine TW.aggD ?_ | refine TW.agg ?_ | refine TWs.cons ?_ ?_ | exact TWs.nil | exact TW.refl))) (Done.drops [3, 4, 6, 8, 9, 11, 36, 200000] (by simp))))) (Done.told frd don)
      replace h := inr_some h hb1
      cases h
      exact Done.trans ((Done.trans (Done.thawT 900000 2 1 (.tup [.agg [.own 1 900000 (List.map iD []), .d (.sl 0 (some true) [])], .d (bD false)]) (by first | rfl | simp [sat]) (by repeat' (first | exact TW.nil | refine TW.tup ?_ | refine TW.aggD ?_ | refine TW.agg ?_ | refine TWs.cons ?_ ?_ | exact TWs.nil | exact TW.refl))) (Done.trans (Done.thawD 900001 151 3 (.tup [.agg [.own 1 900000 (List.map iD []), .own 3 900001 (List.map D_impl_Step [])], .d (bD false)]) (by first | rfl | simp [sat]) (by repeat' (first | exact TW.nil | refine TW.tup ?_ | refine TW.aggD ?_ | refine TW.agg ?_ | refine TWs.cons ?_ ?_ | exact TWs.nil | exact TW.refl))) (Done.drops [3, 4, 6, 8, 9, 36, 200000] (by simp))))) (Done.told frd don)
    replace h := inr_some h hb1
    cases h
    exact Done.trans ((Done.trans (Done.move 36 900000 (ob := .tok 2 1 out.length) (by omega) (by omega) (by omega) rfl (by first | rfl | (simp; done) | (simp [sat, smove, sset, skill, sdel, sdels, Ob.ren, Ob.kill, rens_tolds]; done))) (Done.trans (Done.move 200000 900001 (ob := .nst 151 3 out_1.length (tolds (List.map D_impl_Step out_1))) (by omega) (by omega) (by omega) rfl (by first | rfl | (simp; done) | (simp [sat, smove, sset, skill, sdel, sdels, Ob.ren, Ob.kill, rens_tolds]; done))) (Done.drops [3, 4, 6, 8] (by simp))))) (Done.told frd don)
  cases h
  exact Done.trans ((Done.trans (Done.thawT 900000 2 1 (.tup [.agg [.own 1 900000 (List.map iD []), .d (.sl 0 (some true) [])], .d (bD false)]) (by first | rfl | simp [sat]) (by repeat' (first | exact TW.nil | refine TW.tup ?_ | refine TW.aggD ?_ | refine TW.agg ?_ | refine TWs.cons ?_ ?_ | exact TWs.nil | exact TW.refl))) (Done.trans (Done.thawD 900001 151 3 (.tup [.agg [.own 1 900000 (List.map iD []), .own 3 900001 (List.map D_impl_Step [])], .d (bD false)]) (by first | rfl | simp [sat]) (by repeat' (first | exact TW.nil | refine TW.tup ?_ | refine TW.aggD ?_ | refine TW.agg ?_ | refine TWs.cons ?_ ?_ | exact TWs.nil | exact TW.refl))) (Done.drops [3, 4, 6] (by simp))))) (Done.told frd don)⟩
end Go.Proofs.YtklfjpilhbkekaaGreat
