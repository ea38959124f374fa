/- Functions of the program and the equations that they compute, second part; nothing is assumed. -/
import Derived.Test.YtklfjpilhbkekaaGreatYa
set_option linter.unusedSimpArgs false
set_option linter.unusedVariables false
set_option linter.unusedSectionVars false
set_option linter.unnecessarySimpa false
namespace Go.Proofs.YtklfjpilhbkekaaGreat
open Go Abx
attribute [local irreducible] vcm vgo vdr vrun vdrun MWp GhostQ BrC BrO BrG BrD BrH AmbO callR callD drQ EnvLe StoLe
set_option maxHeartbeats 4000000
def D_impl_Step (x : (Int × Int × (List Int))) : D := .agg [iD x.1, iD x.2.1, (slD 1 iD) x.2.2]
def D_impl_Walk (x : ((List Int) × (List (Int × Int × (List Int))))) : D := .agg [(slD 1 iD) x.1, (slD 3 D_impl_Step) x.2]
instance : Cel D_impl_Step 3 := ⟨fun _ => rfl⟩
instance : Cel D_impl_Walk 2 := ⟨fun _ => rfl⟩
attribute [go_sem] D_impl_Step D_impl_Walk
def mc191 : MCode :=
 (.seq (.reg (sq 3 [bo 3 43 0] ++ sq 6 [mb false])) (.seq (.reg (sq 7 [la 1 3, mv 1, cf 157 [7, 8], mv 9] ++ sg 10 true 11 [mv 2, bi .geq 11 0] ++ sq 13 [pa 10 12, mv 13] ++ sg 14 true 15 [mv 2, mv 1, ln 16, bn .lss 15 17] ++ sq 19 [pa 14 18] ++ sq 6 [mv 19])) .ret))
theorem fn191 : MFn Tryz.prog 191 mc191 20 [.tmp 6] := ⟨_, Tryz.func191, by kernel_rfl, Tryz.ntmps191, by kernel_rfl⟩
noncomputable def F_impl_posOk (sig : (List Int)) (t : (List Int)) (at' : Int) : Option Bool :=
 (F_impl_TermOk sig t).bind fun r =>
 if r = true then
  if (decide (0 ≤ at')) = true then
   some (decide (at' < (t.length : Int)))
  else
   some false
 else
  some false
instance c_impl_posOk {sig : (List Int)} {t : (List Int)} {at' : Int} : HasC (F_impl_posOk sig t at') fun rr => PFun Tryz.prog 191 [D_impl_Sig sig, (slD 1 iD) t, iD at'] (bD rr) := ⟨@fun rr h => by
  delta F_impl_posOk at h
  refine fn191.pureL (vcm_sound ?_)
  delta mc191
  refine stp ?_
  exact aut⟩
def mc273 : MCode :=
 (.seq (.reg (sq 4 [bo 4 46 0] ++ sq 8 [mb false])) (.seq (.reg (sq 9 [la 2 4, cf 119 [9], mv 10] ++ sg 11 true 12 [fa 0 4, la 1 12, mv 1, mv 2, cf 191 [13, 14, 15]] ++ sq 17 [pa 11 16, mv 17] ++ sg 18 true 19 [mv 3, bi .geq 19 0] ++ sq 21 [pa 18 20, mv 21] ++ sg 22 true 23 [mv 3, fa 1 4, ld 24, ln 25, bn .lss 23 26] ++ sq 28 [pa 22 27] ++ sq 8 [mv 28])) .ret))
theorem fn273 : MFn Tryz.prog 273 mc273 29 [.tmp 8] := ⟨_, Tryz.func273, by kernel_rfl, Tryz.ntmps273, by kernel_rfl⟩
noncomputable def F_impl_stepArgs (sys : ((List Int) × (List ((List Int) × (List Int))))) (t : (List Int)) (at' : Int) (rule : Int) : Option Bool :=
 (F_impl_SystemOk sys).bind fun r =>
 if r = true then
  (F_impl_posOk sys.1 t at').bind fun r_1 =>
  if r_1 = true then
   if (decide (0 ≤ rule)) = true then
    some (decide (rule < (sys.2.length : Int)))
   else
    some false
  else
   some false
 else
  some false
instance c_impl_stepArgs {sys : ((List Int) × (List ((List Int) × (List Int))))} {t : (List Int)} {at' : Int} {rule : Int} : HasC (F_impl_stepArgs sys t at' rule) fun rr => PFun Tryz.prog 273 [D_impl_System sys, (slD 1 iD) t, iD at', iD rule] (bD rr) := ⟨@fun rr h => by
  delta F_impl_stepArgs at h
  refine fn273.pureL (vcm_sound ?_)
  delta mc273
  refine stp ?_
  exact aut⟩
noncomputable def F_slices_Grow_int64_int64 (n : Int) : Option (List Int) := if 0 ≤ n ∧ n * 8 ≤ 140737488355328 then some [] else none
instance c_slices_Grow_int64_int64 {n : Int} : HasC (F_slices_Grow_int64_int64 n) fun rr => ACalls Tryz.prog 243 [.d (.sl 0 (some true) []), .d (iD n)] [] 0 fun xx ss => xx = .own 1 0 (List.map iD rr) ∧ ss = [(0, .tok 2 1 rr.length)] := ⟨fun h => by
  obtain ⟨hp, h⟩ := need_some h
  cases h
  exact grow_nil (i0 := Tryz.t2) (z := _) Tryz.grow243 (by kernel_rfl) rfl (by decide) (by decide) (by decide) (by decide) hp.1 hp.2⟩
def mc194 : MCode :=
 (.seq (.reg (sq 2 [.mv (.const (.slice none 0 0))])) (.seq (.reg (sq 3 [mi 0])) (.seq (.seq (.reg (sq 9 [mv 0, ln 9, mi 0])) (.block 0 (.loop (.seq (.reg (sq 12 [bn .lss 11 10])) (.seq (.cond (t0 12) .skip (.exit 0)) (.seq (.block 1 (.seq (.reg (sq 13 [ix 1 9 11, ld 13] ++ sq 5 [mv 14])) (.seq (.reg (sq 15 [mv 3, mv 5, ln 16, bn .add 15 17] ++ sq 3 [mv 18])) (.seq (.reg (sq 19 [mv 3, bi .lss 19 0])) (.cond (t0 20) (.reg (sq 21 [.dead] ++ s0 .dead)) .skip))))) (.reg (sq 22 [bi .add 11 1] ++ sq 11 [mv 22])))))))) (.seq (.reg (sq 23 [mv 3, .callf 243 [(.const (.slice none 0 0)), (t0 23)]] ++ sq 6 [mv 24])) (.seq (.seq (.reg (sq 25 [mv 0, ln 25, mi 0])) (.block 2 (.loop (.seq (.reg (sq 28 [bn .lss 27 26])) (.seq (.cond (t0 28) .skip (.exit 2)) (.seq (.block 3 (.seq (.reg (sq 29 [ix 1 25 27, ld 29] ++ sq 8 [mv 30])) (.reg (sq 31 [mv 6, mv 8, ap 33 2 1 8 31 32] ++ sq 6 [mv 33])))) (.reg (sq 34 [bi .add 27 1] ++ sq 27 [mv 34])))))))) (.seq (.reg (sq 35 [mv 6] ++ sq 2 [mv 35])) .ret))))))
theorem fn194 : MFn Tryz.prog 194 mc194 36 [.tmp 2] := ⟨_, Tryz.func194, by kernel_rfl, Tryz.ntmps194, by kernel_rfl⟩
noncomputable def F_slices_Concat_int64_int64_l2 (slices : (List (List Int))) : ((List Int) × Int) → Option (((List Int) × Int) ⊕ (List Int))
 | (newslice, v27) =>
  if (decide (v27 < (slices.length : Int))) = true then
   if 0 ≤ v27 ∧ v27 < (slices.length : Int) then
    if (newslice.length + (slices.getD v27.toNat default).length) * 8 ≤ 140737488355328 then
     some (.inl ((newslice ++ (slices.getD v27.toNat default)), (IntKind.i64.wrap (v27 + 1))))
    else none
   else none
  else
   Option.map Sum.inr (
    some newslice)
noncomputable def F_slices_Concat_int64_int64_l1 (slices : (List (List Int))) : (Int × Int) → Option ((Int × Int) ⊕ (List Int))
 | (size, v11) =>
  if (decide (v11 < (slices.length : Int))) = true then
   if 0 ≤ v11 ∧ v11 < (slices.length : Int) then
    if (decide ((IntKind.i64.wrap (size + ((slices.getD v11.toNat default).length : Int))) < 0)) = true then
     none
    else
     some (.inl ((IntKind.i64.wrap (size + ((slices.getD v11.toNat default).length : Int))), (IntKind.i64.wrap (v11 + 1))))
   else none
  else
   Option.map Sum.inr (
    (F_slices_Grow_int64_int64 size).bind fun r =>
    loopC (F_slices_Concat_int64_int64_l2 slices) (r, 0))
noncomputable def F_slices_Concat_int64_int64 (slices : (List (List Int))) : Option (List Int) :=
 loopC (F_slices_Concat_int64_int64_l1 slices) (0, 0)
instance c_slices_Concat_int64_int64 {slices : (List (List Int))} : HasC (F_slices_Concat_int64_int64 slices) fun rr => ACalls Tryz.prog 194 [.d (slD 1 (slD 1 iD) slices)] [] 0 fun xx ss => xx = .own 1 24 (List.map iD rr) ∧ ss = [(24, .tok 2 1 rr.length)] := ⟨@fun rr h => by
  delta F_slices_Concat_int64_int64 at h
  refine fn194.callsO (vcm_sound ?_)
  delta mc194
  refine stp ?_
  refine m_lW h [3, 5, 11, 12, 13, 14, 15, 16, 17, 18, 19, 20, 21, 22] (fun pp => [(3, .d (iD pp.1)), (11, .d (iD pp.2))]) (fun pp => []) ?_
  rintro ⟨size, v11⟩ t1 h hb1
  unfold F_slices_Concat_int64_int64_l1 at h
  try dsimp only at h
  refine vcm_sound (stp ?_)
  refine iF h fun hc h => ?_
  replace h := inr_some h hb1
  refine rCo [] [(0, 24)] h fun r hr h => ?_
  refine m_lW h [6, 8, 27, 28, 29, 30, 31, 32, 33, 34] (fun pp => [(6, .own 1 24 (List.map iD pp.1)), (27, .d (iD pp.2))]) (fun pp => [(24, .tok 2 1 pp.1.length)]) ?_
  rintro ⟨newslice, v27⟩ t1 h hb1
  unfold F_slices_Concat_int64_int64_l2 at h
  try dsimp only at h
  refine vcm_sound (stp ?_)
  exact aut⟩
def mc127 : MCode :=
 (.seq (.reg (sq 4 [bo 4 43 0] ++ sq 8 [.mv (.const (.slice none 0 0)), mb false])) (.seq (.draw (sq 11 [mv 1, mv 2, .slc (t0 11) 1 none (some (t0 12)) none, mv 3, mv 1, la 1 4, mv 1, mv 2, cf 195 [16, 17, 18], .slc (t0 15) 1 (some (t0 19)) none none, .bsl 21 22 1 [(t0 13), (t0 14), (t0 20)], cf 194 [21]] ++ sq 10 [mv 22]) [[], [], [0, 1], [], [], [], [], [], [5, 6, 7], [4, 8], [2, 3, 9], [10, 8], [11, 11, 0, 1, 2, 3, 4, 5, 6, 7, 8, 9, 10, 11]]) (.seq (.seq (.reg (sq 23 [mv 10, ln 23, bi .gtr 24 60])) (.cond (t0 25) (.seq (.reg (sq 8 [.mv (.const (.slice none 0 0)), mb false])) .ret) .skip)) (.seq (.reg (sq 26 [mv 10] ++ sq 8 [mv 26, mb true])) .ret))))
theorem fn127 : MFn Tryz.prog 127 mc127 27 [.tmp 8, .tmp 9] := ⟨_, Tryz.func127, by kernel_rfl, Tryz.ntmps127, by kernel_rfl⟩
noncomputable def F_impl_put (sig : (List Int)) (t : (List Int)) (at' : Int) (u : (List Int)) : Option ((List Int) × Bool) :=
 if 0 ≤ at' ∧ at' ≤ (t.length : Int) then
  (F_impl_endAt sig t at').bind fun r =>
  if 0 ≤ r ∧ r ≤ (t.length : Int) then
   (F_slices_Concat_int64_int64 [(t.take at'.toNat), u, (t.drop r.toNat)]).bind fun r_1 =>
   if (decide (60 < (r_1.length : Int))) = true then
    some ([], false)
   else
    some (r_1, true)
  else none
 else none
instance c_impl_put {sig : (List Int)} {t : (List Int)} {at' : Int} {u : (List Int)} : HasC (F_impl_put sig t at' u) fun rr => PFunN Tryz.prog 127 [D_impl_Sig sig, (slD 1 iD) t, iD at', (slD 1 iD) u] [(slD 1 iD) rr.1, bD rr.2] := ⟨@fun rr h => by
  delta F_impl_put at h
  refine fn127.pureLN (vcm_sound ?_)
  delta mc127
  refine stp ?_
  refine ndI h fun hp h => ?_
  refine dC h fun r hr h => ?_
  refine ndI h fun hp h => ?_
  refine dCo [] [(24, 22)] h fun r_1 hr_1 h => ?_
  exact aut⟩
def mc212 : MCode :=
 (.seq (.reg (sq 4 [bo 4 46 0] ++ sq 8 [.mv (.const (.slice none 0 0)), mb false])) (.seq (.draw (sq 14 [fa 0 4, la 1 14, fa 1 4, ld 16, mv 3, ix 2 17 18, fa 0 19, ld 20, fa 0 4, la 1 22, mv 1, mv 2, cf 159 [23, 24, 25], cf 261 [15, 21, 26]] ++ sq 13 [mv 27] ++ sq 28 [ex 13 0, ex 13 1] ++ sq 10 [.alloc 10 48 [.sl 0 (some true) []]] ++ s0 (sr 1 10 28) ++ sq 11 [mv 29]) [[], [0], [], [2], [], [3, 4], [5], [6], [], [8], [], [], [9, 10, 11], [1, 7, 12, 12], [13], [14], [14], [], [17, 15, 13, 0, 1, 2, 3, 4, 5, 6, 7, 8, 9, 10, 11, 12, 13, 14, 15, 17], [16, 18, 0, 1, 2, 3, 4, 5, 6, 7, 8, 9, 10, 11, 12, 13, 14, 15, 16, 17, 18]]) (.seq (.seq (.reg (sq 30 [mv 11, nt 30])) (.cond (t0 31) (.seq (.reg (sq 8 [.mv (.const (.slice none 0 0)), mb false])) .ret) .skip)) (.seq (.draw (sq 33 [la 1 10, fa 1 4, ld 34, mv 3, ix 2 35 36, fa 1 37, ld 38, cf 125 [33, 39]] ++ sq 32 [mv 40] ++ sq 41 [ex 32 0, ex 32 1] ++ sq 12 [mv 41] ++ sq 11 [mv 42]) [[], [], [1], [], [2, 3], [4], [5], [0, 6], [7], [8], [8], [9, 7, 0, 1, 2, 3, 4, 5, 6, 7, 8, 9], [10, 11, 0, 1, 2, 3, 4, 5, 6, 7, 8, 9, 10, 11]]) (.seq (.seq (.reg (sq 43 [mv 11, nt 43])) (.cond (t0 44) (.seq (.reg (sq 8 [.mv (.const (.slice none 0 0)), mb false])) .ret) .skip)) (.seq (.reg (sq 45 [fa 0 4, la 1 45, mv 1, mv 2, mv 12, cf 127 [46, 47, 48, 49], ex 50 0, ex 50 1] ++ sq 8 [mv 51, mv 52])) .ret))))))
theorem fn212 : MFn Tryz.prog 212 mc212 53 [.tmp 8, .tmp 9] := ⟨_, Tryz.func212, by kernel_rfl, Tryz.ntmps212, by kernel_rfl⟩
noncomputable def F_impl_step (sys : ((List Int) × (List ((List Int) × (List Int))))) (t : (List Int)) (at' : Int) (rule : Int) : Option ((List Int) × Bool) :=
 if 0 ≤ rule ∧ rule < (sys.2.length : Int) then
  (F_impl_subAt sys.1 t at').bind fun r =>
  (F_impl_match sys.1 ((sys.2.getD rule.toNat default).1) r).bind fun r_1 =>
  if r_1.2 = true then
   if 0 ≤ rule ∧ rule < (sys.2.length : Int) then
    (F_impl_fill r_1.1 ((sys.2.getD rule.toNat default).2)).bind fun r_2 =>
    if r_2.2 = true then
     (F_impl_put sys.1 t at' r_2.1).bind fun r_3 =>
     some r_3
    else
     some ([], false)
   else none
  else
   some ([], false)
 else none
instance c_impl_step {sys : ((List Int) × (List ((List Int) × (List Int))))} {t : (List Int)} {at' : Int} {rule : Int} : HasC (F_impl_step sys t at' rule) fun rr => PFunN Tryz.prog 212 [D_impl_System sys, (slD 1 iD) t, iD at', iD rule] [(slD 1 iD) rr.1, bD rr.2] := ⟨@fun rr h => by
  delta F_impl_step at h
  refine fn212.pureLN (vcm_sound ?_)
  delta mc212
  refine stp ?_
  exact aut⟩
def mc241 : MCode :=
 (.seq (.reg (sq 4 [bo 4 46 0] ++ sq 8 [.mv (.const (.slice none 0 0)), mb false])) (.seq (.seq (.reg (sq 10 [la 2 4, mv 1, mv 2, mv 3, cf 273 [10, 11, 12, 13], nt 14])) (.cond (t0 15) (.seq (.reg (sq 8 [.mv (.const (.slice none 0 0)), mb false])) .ret) .skip)) (.seq (.reg (sq 16 [la 2 4, mv 1, mv 2, mv 3, cf 212 [16, 17, 18, 19], ex 20 0, ex 20 1] ++ sq 8 [mv 21, mv 22])) .ret)))
theorem fn241 : MFn Tryz.prog 241 mc241 23 [.tmp 8, .tmp 9] := ⟨_, Tryz.func241, by kernel_rfl, Tryz.ntmps241, by kernel_rfl⟩
noncomputable def F_impl_StepAt (sys : ((List Int) × (List ((List Int) × (List Int))))) (t : (List Int)) (at' : Int) (rule : Int) : Option ((List Int) × Bool) :=
 (F_impl_stepArgs sys t at' rule).bind fun r =>
 if r = true then
  (F_impl_step sys t at' rule).bind fun r_1 =>
  some r_1
 else
  some ([], false)
instance c_impl_StepAt {sys : ((List Int) × (List ((List Int) × (List Int))))} {t : (List Int)} {at' : Int} {rule : Int} : HasC (F_impl_StepAt sys t at' rule) fun rr => PFunN Tryz.prog 241 [D_impl_System sys, (slD 1 iD) t, iD at', iD rule] [(slD 1 iD) rr.1, bD rr.2] := ⟨@fun rr h => by
  delta F_impl_StepAt at h
  refine fn241.pureLN (vcm_sound ?_)
  delta mc241
  refine stp ?_
  exact aut⟩
def mc190 : MCode :=
 (.seq (.reg (sq 2 [bo 2 46 0, bo 3 40 1, mb false])) (.seq (.seq (.reg (sq 10 [fa 0 2, la 1 10, fa 0 3, ld 12, cf 157 [11, 13], nt 14, mv 15] ++ sg 16 false 17 [fa 1 3, ld 17, ln 18, bi .gtr 19 60] ++ sq 21 [po 16 20])) (.cond (t0 21) (.seq (.reg (sq 4 [mb false])) .ret) .skip)) (.seq (.reg (sq 22 [fa 0 3, ld 22] ++ sq 5 [mv 23])) (.seq (.seq (.reg (sq 24 [fa 1 3, ld 24, ln 25, mi 0])) (.block 0 (.loop (.seq (.reg (sq 28 [bn .lss 27 26])) (.seq (.cond (t0 28) .skip (.exit 0)) (.seq (.block 1 (.seq (.reg (sq 29 [ix 3 25 27, la 3 29] ++ sq 7 [.alloc 7 151 [.lit (.int .i64 0), .lit (.int .i64 0), .sl 0 (some true) []]] ++ s0 (sr 3 7 30))) (.seq (.reg (sq 32 [la 2 2, mv 5, fa 0 7, ld 34, fa 1 7, ld 36, cf 241 [32, 33, 35, 37]] ++ sq 31 [mv 38] ++ sq 39 [ex 31 0, ex 31 1] ++ sq 8 [mv 39, mv 40])) (.seq (.seq (.reg (sq 41 [mv 9, nt 41, mv 42] ++ sg 43 false 44 [mv 8, fa 2 7, ld 45, cf 128 [44, 46], nt 47] ++ sq 49 [po 43 48])) (.cond (t0 49) (.seq (.reg (sq 4 [mb false])) .ret) .skip)) (.reg (sq 50 [mv 8] ++ sq 5 [mv 50])))))) (.reg (sq 51 [bi .add 27 1] ++ sq 27 [mv 51])))))))) (.seq (.reg (sq 4 [mb true])) .ret)))))
theorem fn190 : MFn Tryz.prog 190 mc190 52 [.tmp 4] := ⟨_, Tryz.func190, by kernel_rfl, Tryz.ntmps190, by kernel_rfl⟩
noncomputable def F_impl_walkOk_l1 (sys : ((List Int) × (List ((List Int) × (List Int))))) (w : ((List Int) × (List (Int × Int × (List Int))))) : ((List Int) × Int) → Option (((List Int) × Int) ⊕ Bool)
 | (t, v27) =>
  if (decide (v27 < (w.2.length : Int))) = true then
   if 0 ≤ v27 ∧ v27 < (w.2.length : Int) then
    (F_impl_StepAt sys t ((w.2.getD v27.toNat default).1) ((w.2.getD v27.toNat default).2.1)).bind fun r_1 =>
    if r_1.2 = true then
     (F_slices_Equal_int64_int64 r_1.1 ((w.2.getD v27.toNat default).2.2)).bind fun r_2 =>
     if r_2 = true then
      some (.inl (r_1.1, (IntKind.i64.wrap (v27 + 1))))
     else
      Option.map Sum.inr (
       some false)
    else
     Option.map Sum.inr (
      some false)
   else none
  else
   Option.map Sum.inr (
    some true)
noncomputable def F_impl_walkOk (sys : ((List Int) × (List ((List Int) × (List Int))))) (w : ((List Int) × (List (Int × Int × (List Int))))) : Option Bool :=
 (F_impl_TermOk sys.1 w.1).bind fun r =>
 if r = true then
  if (decide (60 < (w.2.length : Int))) = true then
   some false
  else
   loopC (F_impl_walkOk_l1 sys w) (w.1, 0)
 else
  some false
instance c_impl_walkOk {sys : ((List Int) × (List ((List Int) × (List Int))))} {w : ((List Int) × (List (Int × Int × (List Int))))} : HasC (F_impl_walkOk sys w) fun rr => PFun Tryz.prog 190 [D_impl_System sys, D_impl_Walk w] (bD rr) := ⟨@fun rr h => by
  delta F_impl_walkOk at h
  refine fn190.pureL (vcm_sound ?_)
  delta mc190
  refine stp ?_
  refine rC h fun r hr h => ?_
  refine iT h fun hc h => ?_
  refine iF h fun hc h => ?_
  refine m_lW h [4, 5, 7, 8, 9, 27, 28, 29, 30, 31, 32, 33, 34, 35, 36, 37, 38, 39, 40, 41, 42, 43, 44, 45, 46, 47, 48, 49, 50, 51] (fun pp => [(5, .d (slD 1 iD pp.1)), (27, .d (iD pp.2))]) (fun pp => [(2, .obj 46 [.d (slD 1 iD sys.1), .d (slD 2 D_impl_Rule sys.2)]), (3, .obj 40 [.d (slD 1 iD w.1), .d (slD 3 D_impl_Step w.2)])]) ?_
  rintro ⟨t, v27⟩ t1 h hb1
  unfold F_impl_walkOk_l1 at h
  try dsimp only at h
  refine vcm_sound (stp ?_)
  refine iT h fun hc h => ?_
  refine ndI h fun hp h => ?_
  refine rCN h fun r_1 hr_1 h => ?_
  refine iT h fun hc h => ?_
  refine rC h fun r_2 hr_2 h => ?_
  refine iT h fun hc h => ?_
  cases h
  refine ⟨_, rfl, ?_⟩
  refine (Weak.drop 7 (by omega)).trans ?_
  exact wk⟩
def mc123 : MCode :=
 (.seq (.reg (sq 2 [bo 2 46 0, bo 3 40 1, mb false])) (.seq (.reg (sq 5 [la 2 2, cf 119 [5], mv 6] ++ sg 7 true 8 [la 2 2, la 2 3, cf 190 [8, 9]] ++ sq 11 [pa 7 10] ++ sq 4 [mv 11])) .ret))
theorem fn123 : MFn Tryz.prog 123 mc123 12 [.tmp 4] := ⟨_, Tryz.func123, by kernel_rfl, Tryz.ntmps123, by kernel_rfl⟩
noncomputable def F_impl_WalkOk (sys : ((List Int) × (List ((List Int) × (List Int))))) (w : ((List Int) × (List (Int × Int × (List Int))))) : Option Bool :=
 (F_impl_SystemOk sys).bind fun r =>
 if r = true then
  (F_impl_walkOk sys w).bind fun r_1 =>
  some r_1
 else
  some false
instance c_impl_WalkOk {sys : ((List Int) × (List ((List Int) × (List Int))))} {w : ((List Int) × (List (Int × Int × (List Int))))} : HasC (F_impl_WalkOk sys w) fun rr => PFun Tryz.prog 123 [D_impl_System sys, D_impl_Walk w] (bD rr) := ⟨@fun rr h => by
  delta F_impl_WalkOk at h
  refine fn123.pureL (vcm_sound ?_)
  delta mc123
  refine stp ?_
  exact aut⟩
def mc98 : MCode :=
 (.seq (.reg (sq 2 [bo 2 46 0] ++ sq 4 [mb false])) (.seq (.reg (sq 5 [la 2 2, cf 37 [5], mv 6] ++ sg 7 true 8 [fa 0 2, la 1 8, mv 1, cf 154 [9, 10]] ++ sq 12 [pa 7 11] ++ sq 4 [mv 12])) .ret))
theorem fn98 : MFn Tryz.prog 98 mc98 13 [.tmp 4] := ⟨_, Tryz.func98, by kernel_rfl, Tryz.ntmps98, by kernel_rfl⟩
noncomputable def F_spec_l7Right (sys : ((List Int) × (List ((List Int) × (List Int))))) (t : (List Int)) : Option Bool :=
 (F_spec_SystemOk sys).bind fun r =>
 if r = true then
  (F_spec_TermOk sys.1 t).bind fun r_1 =>
  some r_1
 else
  some false
instance c_spec_l7Right {sys : ((List Int) × (List ((List Int) × (List Int))))} {t : (List Int)} : HasC (F_spec_l7Right sys t) fun rr => PFun Tryz.prog 98 [D_impl_System sys, (slD 1 iD) t] (bD rr) := ⟨@fun rr h => by
  delta F_spec_l7Right at h
  refine fn98.pureL (vcm_sound ?_)
  delta mc98
  refine stp ?_
  exact aut⟩
def mc86 : MCode :=
 (.seq (.reg (sq 4 [mb false])) (.seq (.reg (sq 5 [mv 1, mv 0, ln 6, bi .sub 7 1, .callf 49 [(t0 5), (i0 0), (t0 8)]] ++ sq 4 [mv 9])) .ret))
theorem fn86 : MFn Tryz.prog 86 mc86 10 [.tmp 4] := ⟨_, Tryz.func86, by kernel_rfl, Tryz.ntmps86, by kernel_rfl⟩
noncomputable def F_spec_l1There (t : (List Int)) (at' : Int) : Option Bool :=
 (F_spec_l1In at' 0 (IntKind.i64.wrap ((t.length : Int) - 1))).bind fun r =>
 some r
instance c_spec_l1There {t : (List Int)} {at' : Int} : HasC (F_spec_l1There t at') fun rr => PFun Tryz.prog 86 [(slD 1 iD) t, iD at'] (bD rr) := ⟨@fun rr h => by
  delta F_spec_l1There at h
  refine fn86.pureL (vcm_sound ?_)
  delta mc86
  refine stp ?_
  exact aut⟩
def mc115 : MCode :=
 (.seq (.reg (sq 4 [bo 4 43 0] ++ sq 8 [.mv (.const (.slice none 0 0)), mb false])) (.seq (.reg (sq 11 [mv 1, mv 2, .slc (t0 11) 1 none (some (t0 12)) none, cf 91 [13], mv 3, ap 16 2 1 8 14 15] ++ sq 10 [mv 16])) (.seq (.reg (sq 17 [mv 10, mv 1, la 1 4, mv 1, mv 2, cf 187 [19, 20, 21], .slc (t0 18) 1 (some (t0 22)) none none, ap 24 2 1 8 17 23] ++ sq 10 [mv 24])) (.seq (.seq (.reg (sq 25 [mv 10, ln 25, bi .gtr 26 60])) (.cond (t0 27) (.seq (.reg (sq 28 [.bsl 28 2 1 []] ++ sq 8 [mv 28, mb false])) .ret) .skip)) (.seq (.reg (sq 29 [mv 10] ++ sq 8 [mv 29, mb true])) .ret)))))
theorem fn115 : MFn Tryz.prog 115 mc115 30 [.tmp 8, .tmp 9] := ⟨_, Tryz.func115, by kernel_rfl, Tryz.ntmps115, by kernel_rfl⟩
noncomputable def F_spec_l3Put (sig : (List Int)) (t : (List Int)) (at' : Int) (u : (List Int)) : Option ((List Int) × Bool) :=
 if 0 ≤ at' ∧ at' ≤ (t.length : Int) then
  (F_spec_l1Copy (t.take at'.toNat)).bind fun r =>
  if (r.length + u.length) * 8 ≤ 140737488355328 then
   (F_spec_l1End sig t at').bind fun r_1 =>
   if 0 ≤ r_1 ∧ r_1 ≤ (t.length : Int) then
    if ((r ++ u).length + (t.drop r_1.toNat).length) * 8 ≤ 140737488355328 then
     if (decide (60 < (((r ++ u) ++ (t.drop r_1.toNat)).length : Int))) = true then
      some ([], false)
     else
      some (((r ++ u) ++ (t.drop r_1.toNat)), true)
    else none
   else none
  else none
 else none
instance c_spec_l3Put {sig : (List Int)} {t : (List Int)} {at' : Int} {u : (List Int)} : HasC (F_spec_l3Put sig t at' u) fun rr => PFunN Tryz.prog 115 [D_impl_Sig sig, (slD 1 iD) t, iD at', (slD 1 iD) u] [(slD 1 iD) rr.1, bD rr.2] := ⟨@fun rr h => by
  delta F_spec_l3Put at h
  refine fn115.pureLN (vcm_sound ?_)
  delta mc115
  refine stp ?_
  refine ndI h fun hp h => ?_
  refine rCo [] [(3, 14)] h fun r hr h => ?_
  exact aut⟩
def mc180 : MCode :=
 (.seq (.reg (sq 4 [bo 4 46 0] ++ sq 8 [.mv (.const (.slice none 0 0)), mb false])) (.seq (.reg (sq 15 [fa 1 4, ld 15, mv 3, ix 2 16 17, la 2 18] ++ sq 10 [.alloc 10 147 [.sl 0 (some true) [], .sl 0 (some true) []]] ++ s0 (sr 2 10 19))) (.seq (.draw (sq 21 [fa 0 4, la 1 21, fa 0 10, ld 23, fa 0 4, la 1 25, mv 1, mv 2, cf 163 [26, 27, 28], cf 236 [22, 24, 29]] ++ sq 20 [mv 30] ++ sq 31 [ex 20 0, ex 20 1] ++ sq 11 [.alloc 11 48 [.sl 0 (some true) []]] ++ s0 (sr 1 11 31) ++ sq 12 [mv 32]) [[], [0], [], [2], [], [4], [], [], [5, 6, 7], [1, 3, 8, 8], [9], [10], [10], [], [13, 11, 9, 0, 1, 2, 3, 4, 5, 6, 7, 8, 9, 10, 11, 13], [12, 14, 0, 1, 2, 3, 4, 5, 6, 7, 8, 9, 10, 11, 12, 13, 14]]) (.seq (.seq (.reg (sq 33 [mv 12, nt 33])) (.cond (t0 34) (.seq (.reg (sq 35 [.bsl 35 2 1 []] ++ sq 8 [mv 35, mb false])) .ret) .skip)) (.seq (.reg (sq 37 [la 1 11, fa 1 10, ld 38, cf 113 [37, 39]] ++ sq 36 [mv 40] ++ sq 41 [ex 36 0, ex 36 1] ++ sq 13 [mv 41, mv 42])) (.seq (.seq (.reg (sq 43 [mv 14, nt 43])) (.cond (t0 44) (.seq (.reg (sq 45 [.bsl 45 2 1 []] ++ sq 8 [mv 45, mb false])) .ret) .skip)) (.seq (.reg (sq 46 [fa 0 4, la 1 46, mv 1, mv 2, mv 13, cf 115 [47, 48, 49, 50], ex 51 0, ex 51 1] ++ sq 8 [mv 52, mv 53])) .ret)))))))
theorem fn180 : MFn Tryz.prog 180 mc180 54 [.tmp 8, .tmp 9] := ⟨_, Tryz.func180, by kernel_rfl, Tryz.ntmps180, by kernel_rfl⟩
noncomputable def F_spec_l7Step (sys : ((List Int) × (List ((List Int) × (List Int))))) (t : (List Int)) (at' : Int) (rule : Int) : Option ((List Int) × Bool) :=
 if 0 ≤ rule ∧ rule < (sys.2.length : Int) then
  (F_spec_l1Sub sys.1 t at').bind fun r =>
  (F_spec_l4Match sys.1 ((sys.2.getD rule.toNat default).1) r).bind fun r_1 =>
  if r_1.2 = true then
   (F_spec_l2Filled r_1.1 ((sys.2.getD rule.toNat default).2)).bind fun r_2 =>
   if r_2.2 = true then
    (F_spec_l3Put sys.1 t at' r_2.1).bind fun r_3 =>
    some r_3
   else
    some ([], false)
  else
   some ([], false)
 else none
instance c_spec_l7Step {sys : ((List Int) × (List ((List Int) × (List Int))))} {t : (List Int)} {at' : Int} {rule : Int} : HasC (F_spec_l7Step sys t at' rule) fun rr => PFunN Tryz.prog 180 [D_impl_System sys, (slD 1 iD) t, iD at', iD rule] [(slD 1 iD) rr.1, bD rr.2] := ⟨@fun rr h => by
  delta F_spec_l7Step at h
  refine fn180.pureLN (vcm_sound ?_)
  delta mc180
  refine stp ?_
  exact aut⟩
def mc99 : MCode :=
 (.seq (.reg (sq 4 [bo 4 46 0] ++ sq 8 [.mv (.const (.slice none 0 0)), mb false])) (.seq (.seq (.reg (sq 10 [la 2 4, mv 1, cf 98 [10, 11], nt 12, mv 13] ++ sg 14 false 15 [mv 1, mv 2, cf 86 [15, 16], nt 17] ++ sq 19 [po 14 18, mv 19] ++ sg 20 false 21 [mv 3, fa 1 4, ld 22, ln 23, bi .sub 24 1, .callf 49 [(t0 21), (i0 0), (t0 25)], nt 26] ++ sq 28 [po 20 27])) (.cond (t0 28) (.seq (.reg (sq 29 [.bsl 29 2 1 []] ++ sq 8 [mv 29, mb false])) .ret) .skip)) (.seq (.reg (sq 30 [la 2 4, mv 1, mv 2, mv 3, cf 180 [30, 31, 32, 33], ex 34 0, ex 34 1] ++ sq 8 [mv 35, mv 36])) .ret)))
theorem fn99 : MFn Tryz.prog 99 mc99 37 [.tmp 8, .tmp 9] := ⟨_, Tryz.func99, by kernel_rfl, Tryz.ntmps99, by kernel_rfl⟩
noncomputable def F_spec_StepAt (sys : ((List Int) × (List ((List Int) × (List Int))))) (t : (List Int)) (at' : Int) (rule : Int) : Option ((List Int) × Bool) :=
 (F_spec_l7Right sys t).bind fun r =>
 if r = true then
  (F_spec_l1There t at').bind fun r_1 =>
  if r_1 = true then
   (F_spec_l1In rule 0 (IntKind.i64.wrap ((sys.2.length : Int) - 1))).bind fun r_2 =>
   if r_2 = true then
    (F_spec_l7Step sys t at' rule).bind fun r_3 =>
    some r_3
   else
    some ([], false)
  else
   some ([], false)
 else
  some ([], false)
instance c_spec_StepAt {sys : ((List Int) × (List ((List Int) × (List Int))))} {t : (List Int)} {at' : Int} {rule : Int} : HasC (F_spec_StepAt sys t at' rule) fun rr => PFunN Tryz.prog 99 [D_impl_System sys, (slD 1 iD) t, iD at', iD rule] [(slD 1 iD) rr.1, bD rr.2] := ⟨@fun rr h => by
  delta F_spec_StepAt at h
  refine fn99.pureLN (vcm_sound ?_)
  delta mc99
  refine stp ?_
  exact aut⟩
def mc38 : MCode :=
 (.seq (.reg (sq 2 [bo 2 46 0, bo 3 40 1, mb false])) (.seq (.seq (.reg (sq 9 [la 2 2, fa 0 3, ld 10, cf 98 [9, 11], nt 12, mv 13] ++ sg 14 false 15 [fa 1 3, ld 15, ln 16, bi .gtr 17 60] ++ sq 19 [po 14 18])) (.cond (t0 19) (.seq (.reg (sq 4 [mb false])) .ret) .skip)) (.seq (.reg (sq 20 [fa 0 3, ld 20] ++ sq 5 [mv 21])) (.seq (.seq (.reg (sq 6 [mi 0])) (.block 0 (.loop (.seq (.seq (.reg (sq 22 [mv 6, fa 1 3, ld 23, ln 24, bn .lss 22 25])) (.cond (t0 26) .skip (.exit 0))) (.seq (.block 1 (.seq (.draw (sq 30 [la 2 2, mv 5, fa 1 3, ld 32, mv 6, ix 3 33 34, fa 0 35, ld 36, fa 1 3, ld 38, mv 6, ix 3 39 40, fa 1 41, ld 42, cf 99 [30, 31, 37, 43]] ++ sq 29 [mv 44] ++ sq 45 [ex 29 0, ex 29 1] ++ sq 7 [mv 45, mv 46]) [[], [], [], [2], [], [3, 4], [5], [6], [], [8], [], [9, 10], [11], [12], [0, 1, 7, 13], [14], [15], [15], [16, 14, 0, 1, 2, 3, 4, 5, 6, 7, 8, 9, 10, 11, 12, 13, 14, 15, 16], [17, 18, 0, 1, 2, 3, 4, 5, 6, 7, 8, 9, 10, 11, 12, 13, 14, 15, 16, 17, 18]]) (.seq (.seq (.reg (sq 47 [mv 8, nt 47, mv 48] ++ sg 49 false 50 [mv 7, fa 1 3, ld 51, mv 6, ix 3 52 53, fa 2 54, ld 55, cf 36 [50, 56], nt 57] ++ sq 59 [po 49 58])) (.cond (t0 59) (.seq (.reg (sq 4 [mb false])) .ret) .skip)) (.reg (sq 60 [mv 7] ++ sq 5 [mv 60]))))) (.reg (sq 27 [mv 6, bi .add 27 1] ++ sq 6 [mv 28]))))))) (.seq (.reg (sq 4 [mb true])) .ret)))))
theorem fn38 : MFn Tryz.prog 38 mc38 61 [.tmp 4] := ⟨_, Tryz.func38, by kernel_rfl, Tryz.ntmps38, by kernel_rfl⟩
noncomputable def F_spec_WalkOk_l1 (sys : ((List Int) × (List ((List Int) × (List Int))))) (w : ((List Int) × (List (Int × Int × (List Int))))) : ((List Int) × Int) → Option (((List Int) × Int) ⊕ Bool)
 | (now, i) =>
  if (decide (i < (w.2.length : Int))) = true then
   if 0 ≤ i ∧ i < (w.2.length : Int) then
    if 0 ≤ i ∧ i < (w.2.length : Int) then
     (F_spec_StepAt sys now ((w.2.getD i.toNat default).1) ((w.2.getD i.toNat default).2.1)).bind fun r_1 =>
     if r_1.2 = true then
      if 0 ≤ i ∧ i < (w.2.length : Int) then
       (F_spec_SameTerm r_1.1 ((w.2.getD i.toNat default).2.2)).bind fun r_2 =>
       if r_2 = true then
        some (.inl (r_1.1, (IntKind.i64.wrap (i + 1))))
       else
        Option.map Sum.inr (
         some false)
      else none
     else
      Option.map Sum.inr (
       some false)
    else none
   else none
  else
   Option.map Sum.inr (
    some true)
noncomputable def F_spec_WalkOk (sys : ((List Int) × (List ((List Int) × (List Int))))) (w : ((List Int) × (List (Int × Int × (List Int))))) : Option Bool :=
 (F_spec_l7Right sys w.1).bind fun r =>
 if r = true then
  if (decide (60 < (w.2.length : Int))) = true then
   some false
  else
   loopC (F_spec_WalkOk_l1 sys w) (w.1, 0)
 else
  some false
instance c_spec_WalkOk {sys : ((List Int) × (List ((List Int) × (List Int))))} {w : ((List Int) × (List (Int × Int × (List Int))))} : HasC (F_spec_WalkOk sys w) fun rr => PFun Tryz.prog 38 [D_impl_System sys, D_impl_Walk w] (bD rr) := ⟨@fun rr h => by
  delta F_spec_WalkOk at h
  refine fn38.pureL (vcm_sound ?_)
  delta mc38
  refine stp ?_
  refine rC h fun r hr h => ?_
  refine iT h fun hc h => ?_
  refine iF h fun hc h => ?_
  refine m_lW h [4, 5, 6, 7, 8, 22, 23, 24, 25, 26, 27, 28, 29, 30, 31, 32, 33, 34, 35, 36, 37, 38, 39, 40, 41, 42, 43, 44, 45, 46, 47, 48, 49, 50, 51, 52, 53, 54, 55, 56, 57, 58, 59, 60] (fun pp => [(5, .d (slD 1 iD pp.1)), (6, .d (iD pp.2))]) (fun pp => [(2, .obj 46 [.d (slD 1 iD sys.1), .d (slD 2 D_impl_Rule sys.2)]), (3, .obj 40 [.d (slD 1 iD w.1), .d (slD 3 D_impl_Step w.2)])]) ?_
  rintro ⟨now, i⟩ t1 h hb1
  unfold F_spec_WalkOk_l1 at h
  try dsimp only at h
  refine vcm_sound (stp ?_)
  exact aut⟩
end Go.Proofs.YtklfjpilhbkekaaGreat
namespace Go.Proofs.YtklfjpilhbkekaaGreat
open Go Abx
attribute [local irreducible] vcm vgo vdr vrun vdrun MWp GhostQ BrC BrO BrG BrD BrH AmbO callR callD drQ EnvLe StoLe
set_option maxHeartbeats 4000000
def D_impl_Move (x : (Int × Int × Bool × (List Int))) : D := .agg [iD x.1, iD x.2.1, bD x.2.2.1, (slD 1 iD) x.2.2.2]
def D_impl_Chain (x : ((List Int) × (List (Int × Int × Bool × (List Int))))) : D := .agg [(slD 1 iD) x.1, (slD 4 D_impl_Move) x.2]
def D_impl_choice (x : ((List Int) × (List ((List Int) × (List Int))) × (List Int) × (List Int))) : D := .agg [(slD 1 iD) x.1, (slD 2 D_impl_Rule) x.2.1, (slD 1 iD) x.2.2.1, (slD 1 iD) x.2.2.2]
instance : Cel D_impl_Move 4 := ⟨fun _ => rfl⟩
instance : Cel D_impl_Chain 2 := ⟨fun _ => rfl⟩
instance : Cel D_impl_choice 4 := ⟨fun _ => rfl⟩
attribute [go_sem] D_impl_Move D_impl_Chain D_impl_choice
def mc61 : MCode :=
 (.seq (.reg (sq 1 [bo 1 40 0, .mv (.const (.slice none 0 0))])) (.seq (.seq (.reg (sq 4 [fa 1 1, ld 4, ln 5] ++ sq 3 [mv 6])) (.seq (.reg (sq 7 [mv 3, bi .gtr 7 0])) (.cond (t0 8) (.seq (.reg (sq 9 [fa 1 1, ld 9, mv 3, bi .sub 11 1, ix 3 10 12, fa 2 13, ld 14] ++ sq 2 [mv 15])) .ret) .skip))) (.seq (.reg (sq 16 [fa 0 1, ld 16] ++ sq 2 [mv 17])) .ret)))
theorem fn61 : MFn Tryz.prog 61 mc61 18 [.tmp 2] := ⟨_, Tryz.func61, by kernel_rfl, Tryz.ntmps61, by kernel_rfl⟩
noncomputable def F_impl_Walk_end (w : ((List Int) × (List (Int × Int × (List Int))))) : Option (List Int) :=
 if (decide (0 < (w.2.length : Int))) = true then
  if 0 ≤ (IntKind.i64.wrap ((w.2.length : Int) - 1)) ∧ (IntKind.i64.wrap ((w.2.length : Int) - 1)) < (w.2.length : Int) then
   some ((w.2.getD (IntKind.i64.wrap ((w.2.length : Int) - 1)).toNat default).2.2)
  else none
 else
  some w.1
instance c_impl_Walk_end {w : ((List Int) × (List (Int × Int × (List Int))))} : HasC (F_impl_Walk_end w) fun rr => PFun Tryz.prog 61 [D_impl_Walk w] ((slD 1 iD) rr) := ⟨@fun rr h => by
  delta F_impl_Walk_end at h
  refine fn61.pureL (vcm_sound ?_)
  delta mc61
  refine stp ?_
  exact aut⟩
noncomputable def F_impl_Chain_add (m : (Int × Int × Bool × (List Int))) (c0 : (List Int)) (c1 : (List (Int × Int × Bool × (List Int)))) : Option (List (Int × Int × Bool × (List Int))) :=
 (F_slices_Clone_int64_int64 m.2.2.2).bind fun r =>
 if (c1.length + 1) * 48 ≤ 140737488355328 then
  some (c1 ++ [(m.1, m.2.1, m.2.2.1, r)])
 else none
noncomputable def F_impl_chainOfWalk_l1 (w : ((List Int) × (List (Int × Int × (List Int))))) (r : (List Int)) : (Int × (List (Int × Int × Bool × (List Int)))) → Option ((Int × (List (Int × Int × Bool × (List Int)))) ⊕ ((List Int) × (List (Int × Int × Bool × (List Int)))))
 | (v13, out) =>
  if (decide (v13 < (w.2.length : Int))) = true then
   if 0 ≤ v13 ∧ v13 < (w.2.length : Int) then
    (F_impl_Chain_add ((w.2.getD v13.toNat default).2.1, (w.2.getD v13.toNat default).1, false, (w.2.getD v13.toNat default).2.2) r out).bind fun r_1 =>
    some (.inl ((IntKind.i64.wrap (v13 + 1)), r_1))
   else none
  else
   Option.map Sum.inr (
    some (r, out))
noncomputable def F_impl_chainOfWalk (w : ((List Int) × (List (Int × Int × (List Int))))) : Option ((List Int) × (List (Int × Int × Bool × (List Int)))) :=
 (F_slices_Clone_int64_int64 w.1).bind fun r =>
 loopC (F_impl_chainOfWalk_l1 w r) (0, [])
end Go.Proofs.YtklfjpilhbkekaaGreat
namespace Go.Proofs.YtklfjpilhbkekaaGreat
open Go Abx
attribute [local irreducible] vcm vgo vdr vrun vdrun MWp GhostQ BrC BrO BrG BrD BrH AmbO callR callD drQ EnvLe StoLe
set_option maxHeartbeats 4000000
def D_impl_Node (x : (Int × (List Int) × (List (List Int)) × (List Int))) : D := .agg [iD x.1, (slD 1 iD) x.2.1, (slD 1 (slD 1 iD)) x.2.2.1, (slD 1 iD) x.2.2.2]
def D_impl_Proof (x : (List (Int × (List Int) × (List (List Int)) × (List Int)))) : D := .agg [(slD 4 D_impl_Node) x]
instance : Cel D_impl_Node 4 := ⟨fun _ => rfl⟩
instance : Cel D_impl_Proof 1 := ⟨fun _ => rfl⟩
attribute [go_sem] D_impl_Node D_impl_Proof
def mc100 : MCode :=
 (.seq (.reg (sq 1 [bo 1 40 0, .mv (.const (.slice none 0 0))])) (.seq (.seq (.reg (sq 3 [fa 1 1, ld 3, ln 4, bi .eql 5 0])) (.cond (t0 6) (.seq (.reg (sq 7 [fa 0 1, ld 7, cf 91 [8]] ++ sq 2 [mv 9])) .ret) .skip)) (.seq (.reg (sq 10 [fa 1 1, ld 10, fa 1 1, ld 12, ln 13, bi .sub 14 1, ix 3 11 15, fa 2 16, ld 17, cf 91 [18]] ++ sq 2 [mv 19])) .ret)))
theorem fn100 : MFn Tryz.prog 100 mc100 20 [.tmp 2] := ⟨_, Tryz.func100, by kernel_rfl, Tryz.ntmps100, by kernel_rfl⟩
noncomputable def F_spec_l7End (w : ((List Int) × (List (Int × Int × (List Int))))) : Option (List Int) :=
 if ((w.2.length : Int) == 0) = true then
  (F_spec_l1Copy w.1).bind fun r =>
  some r
 else
  if 0 ≤ (IntKind.i64.wrap ((w.2.length : Int) - 1)) ∧ (IntKind.i64.wrap ((w.2.length : Int) - 1)) < (w.2.length : Int) then
   (F_spec_l1Copy ((w.2.getD (IntKind.i64.wrap ((w.2.length : Int) - 1)).toNat default).2.2)).bind fun r_1 =>
   some r_1
  else none
instance c_spec_l7End {w : ((List Int) × (List (Int × Int × (List Int))))} : HasC (F_spec_l7End w) fun rr => PFun Tryz.prog 100 [D_impl_Walk w] ((slD 1 iD) rr) := ⟨@fun rr h => by
  delta F_spec_l7End at h
  refine fn100.pureL (vcm_sound ?_)
  delta mc100
  refine stp ?_
  refine it h (fun hc h => ?_) fun hc h => ?_
  · refine rCo [] [(3, 9)] h fun r hr h => ?_
    exact aut
  refine ndI h fun hp h => ?_
  refine rCo [] [(3, 19)] h fun r_1 hr_1 h => ?_
  exact aut⟩
def mc39 : MCode :=
 (.seq (.reg (sq 2 [bo 2 46 0, bo 3 40 1, .mv (.const (.slice none 0 0))])) (.seq (.seq (.reg (sq 5 [la 2 2, la 2 3, cf 38 [5, 6], nt 7])) (.cond (t0 8) (.seq (.reg (sq 9 [.bsl 9 2 1 []] ++ sq 4 [mv 9])) .ret) .skip)) (.seq (.reg (sq 10 [la 2 3, cf 100 [10]] ++ sq 4 [mv 11])) .ret)))
theorem fn39 : MFn Tryz.prog 39 mc39 12 [.tmp 4] := ⟨_, Tryz.func39, by kernel_rfl, Tryz.ntmps39, by kernel_rfl⟩
noncomputable def F_spec_EndTerm (sys : ((List Int) × (List ((List Int) × (List Int))))) (w : ((List Int) × (List (Int × Int × (List Int))))) : Option (List Int) :=
 (F_spec_WalkOk sys w).bind fun r =>
 if r = true then
  (F_spec_l7End w).bind fun r_1 =>
  some r_1
 else
  some []
instance c_spec_EndTerm {sys : ((List Int) × (List ((List Int) × (List Int))))} {w : ((List Int) × (List (Int × Int × (List Int))))} : HasC (F_spec_EndTerm sys w) fun rr => PFun Tryz.prog 39 [D_impl_System sys, D_impl_Walk w] ((slD 1 iD) rr) := ⟨@fun rr h => by
  delta F_spec_EndTerm at h
  refine fn39.pureL (vcm_sound ?_)
  delta mc39
  refine stp ?_
  exact aut⟩
end Go.Proofs.YtklfjpilhbkekaaGreat
