/- Functions of the program and the equations that they compute, second part; nothing is assumed. -/
import Derived.Test.YtklfjpilhbkekaaGreatXa
set_option linter.unusedSimpArgs false
set_option linter.unusedVariables false
set_option linter.unusedSectionVars false
set_option linter.unnecessarySimpa false
namespace Go.Proofs.YtklfjpilhbkekaaGreat
open Go Abx
attribute [local irreducible] vcm vgo vdr vrun vdrun MWp GhostQ BrC BrO BrG BrD BrH AmbO callR callD drQ EnvLe StoLe
set_option maxHeartbeats 4000000
def D_impl_Step (x : (Int × Int × (List Int))) : D := .agg [iD x.1, iD x.2.1, (slD 1 iD) x.2.2]
def D_impl_Walk (x : ((List Int) × (List (Int × Int × (List Int))))) : D := .agg [(slD 1 iD) x.1, (slD 3 D_impl_Step) x.2]
instance : Cel D_impl_Step 3 := ⟨fun _ => rfl⟩
instance : Cel D_impl_Walk 2 := ⟨fun _ => rfl⟩
attribute [go_sem] D_impl_Step D_impl_Walk
def mc191 : MCode :=
 (.seq (.reg (sq 3 [bo 3 43 0] ++ sq 6 [mb false])) (.seq (.reg (sq 7 [la 1 3, mv 1, cf 157 [7, 8], mv 9] ++ sg 10 true 11 [mv 2, bi .geq 11 0] ++ sq 13 [pa 10 12, mv 13] ++ sg 14 true 15 [mv 2, mv 1, ln 16, bn .lss 15 17] ++ sq 19 [pa 14 18] ++ sq 6 [mv 19])) .ret))
theorem fn191 : MFn Tryz.prog 191 mc191 20 [.tmp 6] := ⟨_, Tryz.func191, by kernel_rfl, Tryz.ntmps191, by kernel_rfl⟩
noncomputable def F_impl_posOk (sig : (List Int)) (t : (List Int)) (at' : Int) : Option Bool :=
 (F_impl_TermOk sig t).bind fun r =>
 if r = true then
  if (decide (0 ≤ at')) = true then
   some (decide (at' < (t.length : Int)))
  else
   some false
 else
  some false
instance c_impl_posOk {sig : (List Int)} {t : (List Int)} {at' : Int} : HasC (F_impl_posOk sig t at') fun rr => PFun Tryz.prog 191 [D_impl_Sig sig, (slD 1 iD) t, iD at'] (bD rr) := ⟨@fun rr h => by
  delta F_impl_posOk at h
  refine fn191.pureL (vcm_sound ?_)
  delta mc191
  refine stp ?_
  exact aut⟩
def mc273 : MCode :=
 (.seq (.reg (sq 4 [bo 4 46 0] ++ sq 8 [mb false])) (.seq (.reg (sq 9 [la 2 4, cf 119 [9], mv 10] ++ sg 11 true 12 [fa 0 4, la 1 12, mv 1, mv 2, cf 191 [13, 14, 15]] ++ sq 17 [pa 11 16, mv 17] ++ sg 18 true 19 [mv 3, bi .geq 19 0] ++ sq 21 [pa 18 20, mv 21] ++ sg 22 true 23 [mv 3, fa 1 4, ld 24, ln 25, bn .lss 23 26] ++ sq 28 [pa 22 27] ++ sq 8 [mv 28])) .ret))
theorem fn273 : MFn Tryz.prog 273 mc273 29 [.tmp 8] := ⟨_, Tryz.func273, by kernel_rfl, Tryz.ntmps273, by kernel_rfl⟩
noncomputable def F_impl_stepArgs (sys : ((List Int) × (List ((List Int) × (List Int))))) (t : (List Int)) (at' : Int) (rule : Int) : Option Bool :=
 (F_impl_SystemOk sys).bind fun r =>
 if r = true then
  (F_impl_posOk sys.1 t at').bind fun r_1 =>
  if r_1 = true then
   if (decide (0 ≤ rule)) = true then
    some (decide (rule < (sys.2.length : Int)))
   else
    some false
  else
   some false
 else
  some false
instance c_impl_stepArgs {sys : ((List Int) × (List ((List Int) × (List Int))))} {t : (List Int)} {at' : Int} {rule : Int} : HasC (F_impl_stepArgs sys t at' rule) fun rr => PFun Tryz.prog 273 [D_impl_System sys, (slD 1 iD) t, iD at', iD rule] (bD rr) := ⟨@fun rr h => by
  delta F_impl_stepArgs at h
  refine fn273.pureL (vcm_sound ?_)
  delta mc273
  refine stp ?_
  exact aut⟩
noncomputable def F_slices_Grow_int64_int64 (n : Int) : Option (List Int) := if 0 ≤ n ∧ n * 8 ≤ 140737488355328 then some [] else none
instance c_slices_Grow_int64_int64 {n : Int} : HasC (F_slices_Grow_int64_int64 n) fun rr => ACalls Tryz.prog 243 [.d (.sl 0 (some true) []), .d (iD n)] [] 0 fun xx ss => xx = .own 1 0 (List.map iD rr) ∧ ss = [(0, .tok 2 1 rr.length)] := ⟨fun h => by
  obtain ⟨hp, h⟩ := need_some h
  cases h
  exact grow_nil (i0 := Tryz.t2) (z := _) Tryz.grow243 (by kernel_rfl) rfl (by decide) (by decide) (by decide) (by decide) hp.1 hp.2⟩
def mc194 : MCode :=
 (.seq (.reg (sq 2 [.mv (.const (.slice none 0 0))])) (.seq (.reg (sq 3 [mi 0])) (.seq (.seq (.reg (sq 9 [mv 0, ln 9, mi 0])) (.block 0 (.loop (.seq (.reg (sq 12 [bn .lss 11 10])) (.seq (.cond (t0 12) .skip (.exit 0)) (.seq (.block 1 (.seq (.reg (sq 13 [ix 1 9 11, ld 13] ++ sq 5 [mv 14])) (.seq (.reg (sq 15 [mv 3, mv 5, ln 16, bn .add 15 17] ++ sq 3 [mv 18])) (.seq (.reg (sq 19 [mv 3, bi .lss 19 0])) (.cond (t0 20) (.reg (sq 21 [.dead] ++ s0 .dead)) .skip))))) (.reg (sq 22 [bi .add 11 1] ++ sq 11 [mv 22])))))))) (.seq (.reg (sq 23 [mv 3, .callf 243 [(.const (.slice none 0 0)), (t0 23)]] ++ sq 6 [mv 24])) (.seq (.seq (.reg (sq 25 [mv 0, ln 25, mi 0])) (.block 2 (.loop (.seq (.reg (sq 28 [bn .lss 27 26])) (.seq (.cond (t0 28) .skip (.exit 2)) (.seq (.block 3 (.seq (.reg (sq 29 [ix 1 25 27, ld 29] ++ sq 8 [mv 30])) (.reg (sq 31 [mv 6, mv 8, ap 33 2 1 8 31 32] ++ sq 6 [mv 33])))) (.reg (sq 34 [bi .add 27 1] ++ sq 27 [mv 34])))))))) (.seq (.reg (sq 35 [mv 6] ++ sq 2 [mv 35])) .ret))))))
theorem fn194 : MFn Tryz.prog 194 mc194 36 [.tmp 2] := ⟨_, Tryz.func194, by kernel_rfl, Tryz.ntmps194, by kernel_rfl⟩
noncomputable def F_slices_Concat_int64_int64_l2 (slices : (List (List Int))) : ((List Int) × Int) → Option (((List Int) × Int) ⊕ (List Int))
 | (newslice, v27) =>
  if (decide (v27 < (slices.length : Int))) = true then
   if 0 ≤ v27 ∧ v27 < (slices.length : Int) then
    if (newslice.length + (slices.getD v27.toNat default).length) * 8 ≤ 140737488355328 then
     some (.inl ((newslice ++ (slices.getD v27.toNat default)), (IntKind.i64.wrap (v27 + 1))))
    else none
   else none
  else
   Option.map Sum.inr (
    some newslice)
noncomputable def F_slices_Concat_int64_int64_l1 (slices : (List (List Int))) : (Int × Int) → Option ((Int × Int) ⊕ (List Int))
 | (size, v11) =>
  if (decide (v11 < (slices.length : Int))) = true then
   if 0 ≤ v11 ∧ v11 < (slices.length : Int) then
    if (decide ((IntKind.i64.wrap (size + ((slices.getD v11.toNat default).length : Int))) < 0)) = true then
     none
    else
     some (.inl ((IntKind.i64.wrap (size + ((slices.getD v11.toNat default).length : Int))), (IntKind.i64.wrap (v11 + 1))))
   else none
  else
   Option.map Sum.inr (
    (F_slices_Grow_int64_int64 size).bind fun r =>
    loopC (F_slices_Concat_int64_int64_l2 slices) (r, 0))
noncomputable def F_slices_Concat_int64_int64 (slices : (List (List Int))) : Option (List Int) :=
 loopC (F_slices_Concat_int64_int64_l1 slices) (0, 0)
instance c_slices_Concat_int64_int64 {slices : (List (List Int))} : HasC (F_slices_Concat_int64_int64 slices) fun rr => ACalls Tryz.prog 194 [.d (slD 1 (slD 1 iD) slices)] [] 0 fun xx ss => xx = .own 1 24 (List.map iD rr) ∧ ss = [(24, .tok 2 1 rr.length)] := ⟨@fun rr h => by
  delta F_slices_Concat_int64_int64 at h
  refine fn194.callsO (vcm_sound ?_)
  delta mc194
  refine stp ?_
  refine m_lW h [3, 5, 11, 12, 13, 14, 15, 16, 17, 18, 19, 20, 21, 22] (fun pp => [(3, .d (iD pp.1)), (11, .d (iD pp.2))]) (fun pp => []) ?_
  rintro ⟨size, v11⟩ t1 h hb1
  unfold F_slices_Concat_int64_int64_l1 at h
  try dsimp only at h
  refine vcm_sound (stp ?_)
  refine iF h fun hc h => ?_
  replace h := inr_some h hb1
  refine rCo [] [(0, 24)] h fun r hr h => ?_
  refine m_lW h [6, 8, 27, 28, 29, 30, 31, 32, 33, 34] (fun pp => [(6, .own 1 24 (List.map iD pp.1)), (27, .d (iD pp.2))]) (fun pp => [(24, .tok 2 1 pp.1.length)]) ?_
  rintro ⟨newslice, v27⟩ t1 h hb1
  unfold F_slices_Concat_int64_int64_l2 at h
  try dsimp only at h
  refine vcm_sound (stp ?_)
  exact aut⟩
def mc127 : MCode :=
 (.seq (.reg (sq 4 [bo 4 43 0] ++ sq 8 [.mv (.const (.slice none 0 0)), mb false])) (.seq (.draw (sq 11 [mv 1, mv 2, .slc (t0 11) 1 none (some (t0 12)) none, mv 3, mv 1, la 1 4, mv 1, mv 2, cf 195 [16, 17, 18], .slc (t0 15) 1 (some (t0 19)) none none, .bsl 21 22 1 [(t0 13), (t0 14), (t0 20)], cf 194 [21]] ++ sq 10 [mv 22]) [[], [], [0, 1], [], [], [], [], [], [5, 6, 7], [4, 8], [2, 3, 9], [10, 8], [11, 11, 0, 1, 2, 3, 4, 5, 6, 7, 8, 9, 10, 11]]) (.seq (.seq (.reg (sq 23 [mv 10, ln 23, bi .gtr 24 60])) (.cond (t0 25) (.seq (.reg (sq 8 [.mv (.const (.slice none 0 0)), mb false])) .ret) .skip)) (.seq (.reg (sq 26 [mv 10] ++ sq 8 [mv 26, mb true])) .ret))))
theorem fn127 : MFn Tryz.prog 127 mc127 27 [.tmp 8, .tmp 9] := ⟨_, Tryz.func127, by kernel_rfl, Tryz.ntmps127, by kernel_rfl⟩
noncomputable def F_impl_put (sig : (List Int)) (t : (List Int)) (at' : Int) (u : (List Int)) : Option ((List Int) × Bool) :=
 if 0 ≤ at' ∧ at' ≤ (t.length : Int) then
  (F_impl_endAt sig t at').bind fun r =>
  if 0 ≤ r ∧ r ≤ (t.length : Int) then
   (F_slices_Concat_int64_int64 [(t.take at'.toNat), u, (t.drop r.toNat)]).bind fun r_1 =>
   if (decide (60 < (r_1.length : Int))) = true then
    some ([], false)
   else
    some (r_1, true)
  else none
 else none
instance c_impl_put {sig : (List Int)} {t : (List Int)} {at' : Int} {u : (List Int)} : HasC (F_impl_put sig t at' u) fun rr => PFunN Tryz.prog 127 [D_impl_Sig sig, (slD 1 iD) t, iD at', (slD 1 iD) u] [(slD 1 iD) rr.1, bD rr.2] := ⟨@fun rr h => by
  delta F_impl_put at h
  refine fn127.pureLN (vcm_sound ?_)
  delta mc127
  refine stp ?_
  refine ndI h fun hp h => ?_
  refine dC h fun r hr h => ?_
  refine ndI h fun hp h => ?_
  refine dCo [] [(24, 22)] h fun r_1 hr_1 h => ?_
  exact aut⟩
def mc212 : MCode :=
 (.seq (.reg (sq 4 [bo 4 46 0] ++ sq 8 [.mv (.const (.slice none 0 0)), mb false])) (.seq (.draw (sq 14 [fa 0 4, la 1 14, fa 1 4, ld 16, mv 3, ix 2 17 18, fa 0 19, ld 20, fa 0 4, la 1 22, mv 1, mv 2, cf 159 [23, 24, 25], cf 261 [15, 21, 26]] ++ sq 13 [mv 27] ++ sq 28 [ex 13 0, ex 13 1] ++ sq 10 [.alloc 10 48 [.sl 0 (some true) []]] ++ s0 (sr 1 10 28) ++ sq 11 [mv 29]) [[], [0], [], [2], [], [3, 4], [5], [6], [], [8], [], [], [9, 10, 11], [1, 7, 12, 12], [13], [14], [14], [], [17, 15, 13, 0, 1, 2, 3, 4, 5, 6, 7, 8, 9, 10, 11, 12, 13, 14, 15, 17], [16, 18, 0, 1, 2, 3, 4, 5, 6, 7, 8, 9, 10, 11, 12, 13, 14, 15, 16, 17, 18]]) (.seq (.seq (.reg (sq 30 [mv 11, nt 30])) (.cond (t0 31) (.seq (.reg (sq 8 [.mv (.const (.slice none 0 0)), mb false])) .ret) .skip)) (.seq (.draw (sq 33 [la 1 10, fa 1 4, ld 34, mv 3, ix 2 35 36, fa 1 37, ld 38, cf 125 [33, 39]] ++ sq 32 [mv 40] ++ sq 41 [ex 32 0, ex 32 1] ++ sq 12 [mv 41] ++ sq 11 [mv 42]) [[], [], [1], [], [2, 3], [4], [5], [0, 6], [7], [8], [8], [9, 7, 0, 1, 2, 3, 4, 5, 6, 7, 8, 9], [10, 11, 0, 1, 2, 3, 4, 5, 6, 7, 8, 9, 10, 11]]) (.seq (.seq (.reg (sq 43 [mv 11, nt 43])) (.cond (t0 44) (.seq (.reg (sq 8 [.mv (.const (.slice none 0 0)), mb false])) .ret) .skip)) (.seq (.reg (sq 45 [fa 0 4, la 1 45, mv 1, mv 2, mv 12, cf 127 [46, 47, 48, 49], ex 50 0, ex 50 1] ++ sq 8 [mv 51, mv 52])) .ret))))))
theorem fn212 : MFn Tryz.prog 212 mc212 53 [.tmp 8, .tmp 9] := ⟨_, Tryz.func212, by kernel_rfl, Tryz.ntmps212, by kernel_rfl⟩
noncomputable def F_impl_step (sys : ((List Int) × (List ((List Int) × (List Int))))) (t : (List Int)) (at' : Int) (rule : Int) : Option ((List Int) × Bool) :=
 if 0 ≤ rule ∧ rule < (sys.2.length : Int) then
  (F_impl_subAt sys.1 t at').bind fun r =>
  (F_impl_match sys.1 ((sys.2.getD rule.toNat default).1) r).bind fun r_1 =>
  if r_1.2 = true then
   if 0 ≤ rule ∧ rule < (sys.2.length : Int) then
    (F_impl_fill r_1.1 ((sys.2.getD rule.toNat default).2)).bind fun r_2 =>
    if r_2.2 = true then
     (F_impl_put sys.1 t at' r_2.1).bind fun r_3 =>
     some r_3
    else
     some ([], false)
   else none
  else
   some ([], false)
 else none
instance c_impl_step {sys : ((List Int) × (List ((List Int) × (List Int))))} {t : (List Int)} {at' : Int} {rule : Int} : HasC (F_impl_step sys t at' rule) fun rr => PFunN Tryz.prog 212 [D_impl_System sys, (slD 1 iD) t, iD at', iD rule] [(slD 1 iD) rr.1, bD rr.2] := ⟨@fun rr h => by
  delta F_impl_step at h
  refine fn212.pureLN (vcm_sound ?_)
  delta mc212
  refine stp ?_
  exact aut⟩
def mc241 : MCode :=
 (.seq (.reg (sq 4 [bo 4 46 0] ++ sq 8 [.mv (.const (.slice none 0 0)), mb false])) (.seq (.seq (.reg (sq 10 [la 2 4, mv 1, mv 2, mv 3, cf 273 [10, 11, 12, 13], nt 14])) (.cond (t0 15) (.seq (.reg (sq 8 [.mv (.const (.slice none 0 0)), mb false])) .ret) .skip)) (.seq (.reg (sq 16 [la 2 4, mv 1, mv 2, mv 3, cf 212 [16, 17, 18, 19], ex 20 0, ex 20 1] ++ sq 8 [mv 21, mv 22])) .ret)))
theorem fn241 : MFn Tryz.prog 241 mc241 23 [.tmp 8, .tmp 9] := ⟨_, Tryz.func241, by kernel_rfl, Tryz.ntmps241, by kernel_rfl⟩
noncomputable def F_impl_StepAt (sys : ((List Int) × (List ((List Int) × (List Int))))) (t : (List Int)) (at' : Int) (rule : Int) : Option ((List Int) × Bool) :=
 (F_impl_stepArgs sys t at' rule).bind fun r =>
 if r = true then
  (F_impl_step sys t at' rule).bind fun r_1 =>
  some r_1
 else
  some ([], false)
instance c_impl_StepAt {sys : ((List Int) × (List ((List Int) × (List Int))))} {t : (List Int)} {at' : Int} {rule : Int} : HasC (F_impl_StepAt sys t at' rule) fun rr => PFunN Tryz.prog 241 [D_impl_System sys, (slD 1 iD) t, iD at', iD rule] [(slD 1 iD) rr.1, bD rr.2] := ⟨@fun rr h => by
  delta F_impl_StepAt at h
  refine fn241.pureLN (vcm_sound ?_)
  delta mc241
  refine stp ?_
  exact aut⟩
def mc190 : MCode :=
 (.seq (.reg (sq 2 [bo 2 46 0, bo 3 40 1, mb false])) (.seq (.seq (.reg (sq 10 [fa 0 2, la 1 10, fa 0 3, ld 12, cf 157 [11, 13], nt 14, mv 15] ++ sg 16 false 17 [fa 1 3, ld 17, ln 18, bi .gtr 19 60] ++ sq 21 [po 16 20])) (.cond (t0 21) (.seq (.reg (sq 4 [mb false])) .ret) .skip)) (.seq (.reg (sq 22 [fa 0 3, ld 22] ++ sq 5 [mv 23])) (.seq (.seq (.reg (sq 24 [fa 1 3, ld 24, ln 25, mi 0])) (.block 0 (.loop (.seq (.reg (sq 28 [bn .lss 27 26])) (.seq (.cond (t0 28) .skip (.exit 0)) (.seq (.block 1 (.seq (.reg (sq 29 [ix 3 25 27, la 3 29] ++ sq 7 [.alloc 7 151 [.lit (.int .i64 0), .lit (.int .i64 0), .sl 0 (some true) []]] ++ s0 (sr 3 7 30))) (.seq (.reg (sq 32 [la 2 2, mv 5, fa 0 7, ld 34, fa 1 7, ld 36, cf 241 [32, 33, 35, 37]] ++ sq 31 [mv 38] ++ sq 39 [ex 31 0, ex 31 1] ++ sq 8 [mv 39, mv 40])) (.seq (.seq (.reg (sq 41 [mv 9, nt 41, mv 42] ++ sg 43 false 44 [mv 8, fa 2 7, ld 45, cf 128 [44, 46], nt 47] ++ sq 49 [po 43 48])) (.cond (t0 49) (.seq (.reg (sq 4 [mb false])) .ret) .skip)) (.reg (sq 50 [mv 8] ++ sq 5 [mv 50])))))) (.reg (sq 51 [bi .add 27 1] ++ sq 27 [mv 51])))))))) (.seq (.reg (sq 4 [mb true])) .ret)))))
theorem fn190 : MFn Tryz.prog 190 mc190 52 [.tmp 4] := ⟨_, Tryz.func190, by kernel_rfl, Tryz.ntmps190, by kernel_rfl⟩
noncomputable def F_impl_walkOk_l1 (sys : ((List Int) × (List ((List Int) × (List Int))))) (w : ((List Int) × (List (Int × Int × (List Int))))) : ((List Int) × Int) → Option (((List Int) × Int) ⊕ Bool)
 | (t, v27) =>
  if (decide (v27 < (w.2.length : Int))) = true then
   if 0 ≤ v27 ∧ v27 < (w.2.length : Int) then
    (F_impl_StepAt sys t ((w.2.getD v27.toNat default).1) ((w.2.getD v27.toNat default).2.1)).bind fun r_1 =>
    if r_1.2 = true then
     (F_slices_Equal_int64_int64 r_1.1 ((w.2.getD v27.toNat default).2.2)).bind fun r_2 =>
     if r_2 = true then
      some (.inl (r_1.1, (IntKind.i64.wrap (v27 + 1))))
     else
      Option.map Sum.inr (
       some false)
    else
     Option.map Sum.inr (
      some false)
   else none
  else
   Option.map Sum.inr (
    some true)
noncomputable def F_impl_walkOk (sys : ((List Int) × (List ((List Int) × (List Int))))) (w : ((List Int) × (List (Int × Int × (List Int))))) : Option Bool :=
 (F_impl_TermOk sys.1 w.1).bind fun r =>
 if r = true then
  if (decide (60 < (w.2.length : Int))) = true then
   some false
  else
   loopC (F_impl_walkOk_l1 sys w) (w.1, 0)
 else
  some false
instance c_impl_walkOk {sys : ((List Int) × (List ((List Int) × (List Int))))} {w : ((List Int) × (List (Int × Int × (List Int))))} : HasC (F_impl_walkOk sys w) fun rr => PFun Tryz.prog 190 [D_impl_System sys, D_impl_Walk w] (bD rr) := ⟨@fun rr h => by
  delta F_impl_walkOk at h
  refine fn190.pureL (vcm_sound ?_)
  delta mc190
  refine stp ?_
  refine rC h fun r hr h => ?_
  refine iT h fun hc h => ?_
  refine iF h fun hc h => ?_
  refine m_lW h [4, 5, 7, 8, 9, 27, 28, 29, 30, 31, 32, 33, 34, 35, 36, 37, 38, 39, 40, 41, 42, 43, 44, 45, 46, 47, 48, 49, 50, 51] (fun pp => [(5, .d (slD 1 iD pp.1)), (27, .d (iD pp.2))]) (fun pp => [(2, .obj 46 [.d (slD 1 iD sys.1), .d (slD 2 D_impl_Rule sys.2)]), (3, .obj 40 [.d (slD 1 iD w.1), .d (slD 3 D_impl_Step w.2)])]) ?_
  rintro ⟨t, v27⟩ t1 h hb1
  unfold F_impl_walkOk_l1 at h
  try dsimp only at h
  refine vcm_sound (stp ?_)
  refine iT h fun hc h => ?_
  refine ndI h fun hp h => ?_
  refine rCN h fun r_1 hr_1 h => ?_
  refine iT h fun hc h => ?_
  refine rC h fun r_2 hr_2 h => ?_
  refine iT h fun hc h => ?_
  cases h
  refine ⟨_, rfl, ?_⟩
  refine (Weak.drop 7 (by omega)).trans ?_
  exact wk⟩
noncomputable def F_impl_WalkOk (sys : ((List Int) × (List ((List Int) × (List Int))))) (w : ((List Int) × (List (Int × Int × (List Int))))) : Option Bool :=
 (F_impl_SystemOk sys).bind fun r =>
 if r = true then
  (F_impl_walkOk sys w).bind fun r_1 =>
  some r_1
 else
  some false
def mc98 : MCode :=
 (.seq (.reg (sq 2 [bo 2 46 0] ++ sq 4 [mb false])) (.seq (.reg (sq 5 [la 2 2, cf 37 [5], mv 6] ++ sg 7 true 8 [fa 0 2, la 1 8, mv 1, cf 154 [9, 10]] ++ sq 12 [pa 7 11] ++ sq 4 [mv 12])) .ret))
theorem fn98 : MFn Tryz.prog 98 mc98 13 [.tmp 4] := ⟨_, Tryz.func98, by kernel_rfl, Tryz.ntmps98, by kernel_rfl⟩
noncomputable def F_spec_l7Right (sys : ((List Int) × (List ((List Int) × (List Int))))) (t : (List Int)) : Option Bool :=
 (F_spec_SystemOk sys).bind fun r =>
 if r = true then
  (F_spec_TermOk sys.1 t).bind fun r_1 =>
  some r_1
 else
  some false
instance c_spec_l7Right {sys : ((List Int) × (List ((List Int) × (List Int))))} {t : (List Int)} : HasC (F_spec_l7Right sys t) fun rr => PFun Tryz.prog 98 [D_impl_System sys, (slD 1 iD) t] (bD rr) := ⟨@fun rr h => by
  delta F_spec_l7Right at h
  refine fn98.pureL (vcm_sound ?_)
  delta mc98
  refine stp ?_
  exact aut⟩
def mc86 : MCode :=
 (.seq (.reg (sq 4 [mb false])) (.seq (.reg (sq 5 [mv 1, mv 0, ln 6, bi .sub 7 1, .callf 49 [(t0 5), (i0 0), (t0 8)]] ++ sq 4 [mv 9])) .ret))
theorem fn86 : MFn Tryz.prog 86 mc86 10 [.tmp 4] := ⟨_, Tryz.func86, by kernel_rfl, Tryz.ntmps86, by kernel_rfl⟩
noncomputable def F_spec_l1There (t : (List Int)) (at' : Int) : Option Bool :=
 (F_spec_l1In at' 0 (IntKind.i64.wrap ((t.length : Int) - 1))).bind fun r =>
 some r
instance c_spec_l1There {t : (List Int)} {at' : Int} : HasC (F_spec_l1There t at') fun rr => PFun Tryz.prog 86 [(slD 1 iD) t, iD at'] (bD rr) := ⟨@fun rr h => by
  delta F_spec_l1There at h
  refine fn86.pureL (vcm_sound ?_)
  delta mc86
  refine stp ?_
  exact aut⟩
def mc115 : MCode :=
 (.seq (.reg (sq 4 [bo 4 43 0] ++ sq 8 [.mv (.const (.slice none 0 0)), mb false])) (.seq (.reg (sq 11 [mv 1, mv 2, .slc (t0 11) 1 none (some (t0 12)) none, cf 91 [13], mv 3, ap 16 2 1 8 14 15] ++ sq 10 [mv 16])) (.seq (.reg (sq 17 [mv 10, mv 1, la 1 4, mv 1, mv 2, cf 187 [19, 20, 21], .slc (t0 18) 1 (some (t0 22)) none none, ap 24 2 1 8 17 23] ++ sq 10 [mv 24])) (.seq (.seq (.reg (sq 25 [mv 10, ln 25, bi .gtr 26 60])) (.cond (t0 27) (.seq (.reg (sq 28 [.bsl 28 2 1 []] ++ sq 8 [mv 28, mb false])) .ret) .skip)) (.seq (.reg (sq 29 [mv 10] ++ sq 8 [mv 29, mb true])) .ret)))))
theorem fn115 : MFn Tryz.prog 115 mc115 30 [.tmp 8, .tmp 9] := ⟨_, Tryz.func115, by kernel_rfl, Tryz.ntmps115, by kernel_rfl⟩
noncomputable def F_spec_l3Put (sig : (List Int)) (t : (List Int)) (at' : Int) (u : (List Int)) : Option ((List Int) × Bool) :=
 if 0 ≤ at' ∧ at' ≤ (t.length : Int) then
  (F_spec_l1Copy (t.take at'.toNat)).bind fun r =>
  if (r.length + u.length) * 8 ≤ 140737488355328 then
   (F_spec_l1End sig t at').bind fun r_1 =>
   if 0 ≤ r_1 ∧ r_1 ≤ (t.length : Int) then
    if ((r ++ u).length + (t.drop r_1.toNat).length) * 8 ≤ 140737488355328 then
     if (decide (60 < (((r ++ u) ++ (t.drop r_1.toNat)).length : Int))) = true then
      some ([], false)
     else
      some (((r ++ u) ++ (t.drop r_1.toNat)), true)
    else none
   else none
  else none
 else none
instance c_spec_l3Put {sig : (List Int)} {t : (List Int)} {at' : Int} {u : (List Int)} : HasC (F_spec_l3Put sig t at' u) fun rr => PFunN Tryz.prog 115 [D_impl_Sig sig, (slD 1 iD) t, iD at', (slD 1 iD) u] [(slD 1 iD) rr.1, bD rr.2] := ⟨@fun rr h => by
  delta F_spec_l3Put at h
  refine fn115.pureLN (vcm_sound ?_)
  delta mc115
  refine stp ?_
  refine ndI h fun hp h => ?_
  refine rCo [] [(3, 14)] h fun r hr h => ?_
  exact aut⟩
def mc180 : MCode :=
 (.seq (.reg (sq 4 [bo 4 46 0] ++ sq 8 [.mv (.const (.slice none 0 0)), mb false])) (.seq (.reg (sq 15 [fa 1 4, ld 15, mv 3, ix 2 16 17, la 2 18] ++ sq 10 [.alloc 10 147 [.sl 0 (some true) [], .sl 0 (some true) []]] ++ s0 (sr 2 10 19))) (.seq (.draw (sq 21 [fa 0 4, la 1 21, fa 0 10, ld 23, fa 0 4, la 1 25, mv 1, mv 2, cf 163 [26, 27, 28], cf 236 [22, 24, 29]] ++ sq 20 [mv 30] ++ sq 31 [ex 20 0, ex 20 1] ++ sq 11 [.alloc 11 48 [.sl 0 (some true) []]] ++ s0 (sr 1 11 31) ++ sq 12 [mv 32]) [[], [0], [], [2], [], [4], [], [], [5, 6, 7], [1, 3, 8, 8], [9], [10], [10], [], [13, 11, 9, 0, 1, 2, 3, 4, 5, 6, 7, 8, 9, 10, 11, 13], [12, 14, 0, 1, 2, 3, 4, 5, 6, 7, 8, 9, 10, 11, 12, 13, 14]]) (.seq (.seq (.reg (sq 33 [mv 12, nt 33])) (.cond (t0 34) (.seq (.reg (sq 35 [.bsl 35 2 1 []] ++ sq 8 [mv 35, mb false])) .ret) .skip)) (.seq (.reg (sq 37 [la 1 11, fa 1 10, ld 38, cf 113 [37, 39]] ++ sq 36 [mv 40] ++ sq 41 [ex 36 0, ex 36 1] ++ sq 13 [mv 41, mv 42])) (.seq (.seq (.reg (sq 43 [mv 14, nt 43])) (.cond (t0 44) (.seq (.reg (sq 45 [.bsl 45 2 1 []] ++ sq 8 [mv 45, mb false])) .ret) .skip)) (.seq (.reg (sq 46 [fa 0 4, la 1 46, mv 1, mv 2, mv 13, cf 115 [47, 48, 49, 50], ex 51 0, ex 51 1] ++ sq 8 [mv 52, mv 53])) .ret)))))))
theorem fn180 : MFn Tryz.prog 180 mc180 54 [.tmp 8, .tmp 9] := ⟨_, Tryz.func180, by kernel_rfl, Tryz.ntmps180, by kernel_rfl⟩
noncomputable def F_spec_l7Step (sys : ((List Int) × (List ((List Int) × (List Int))))) (t : (List Int)) (at' : Int) (rule : Int) : Option ((List Int) × Bool) :=
 if 0 ≤ rule ∧ rule < (sys.2.length : Int) then
  (F_spec_l1Sub sys.1 t at').bind fun r =>
  (F_spec_l4Match sys.1 ((sys.2.getD rule.toNat default).1) r).bind fun r_1 =>
  if r_1.2 = true then
   (F_spec_l2Filled r_1.1 ((sys.2.getD rule.toNat default).2)).bind fun r_2 =>
   if r_2.2 = true then
    (F_spec_l3Put sys.1 t at' r_2.1).bind fun r_3 =>
    some r_3
   else
    some ([], false)
  else
   some ([], false)
 else none
instance c_spec_l7Step {sys : ((List Int) × (List ((List Int) × (List Int))))} {t : (List Int)} {at' : Int} {rule : Int} : HasC (F_spec_l7Step sys t at' rule) fun rr => PFunN Tryz.prog 180 [D_impl_System sys, (slD 1 iD) t, iD at', iD rule] [(slD 1 iD) rr.1, bD rr.2] := ⟨@fun rr h => by
  delta F_spec_l7Step at h
  refine fn180.pureLN (vcm_sound ?_)
  delta mc180
  refine stp ?_
  exact aut⟩
def mc99 : MCode :=
 (.seq (.reg (sq 4 [bo 4 46 0] ++ sq 8 [.mv (.const (.slice none 0 0)), mb false])) (.seq (.seq (.reg (sq 10 [la 2 4, mv 1, cf 98 [10, 11], nt 12, mv 13] ++ sg 14 false 15 [mv 1, mv 2, cf 86 [15, 16], nt 17] ++ sq 19 [po 14 18, mv 19] ++ sg 20 false 21 [mv 3, fa 1 4, ld 22, ln 23, bi .sub 24 1, .callf 49 [(t0 21), (i0 0), (t0 25)], nt 26] ++ sq 28 [po 20 27])) (.cond (t0 28) (.seq (.reg (sq 29 [.bsl 29 2 1 []] ++ sq 8 [mv 29, mb false])) .ret) .skip)) (.seq (.reg (sq 30 [la 2 4, mv 1, mv 2, mv 3, cf 180 [30, 31, 32, 33], ex 34 0, ex 34 1] ++ sq 8 [mv 35, mv 36])) .ret)))
theorem fn99 : MFn Tryz.prog 99 mc99 37 [.tmp 8, .tmp 9] := ⟨_, Tryz.func99, by kernel_rfl, Tryz.ntmps99, by kernel_rfl⟩
noncomputable def F_spec_StepAt (sys : ((List Int) × (List ((List Int) × (List Int))))) (t : (List Int)) (at' : Int) (rule : Int) : Option ((List Int) × Bool) :=
 (F_spec_l7Right sys t).bind fun r =>
 if r = true then
  (F_spec_l1There t at').bind fun r_1 =>
  if r_1 = true then
   (F_spec_l1In rule 0 (IntKind.i64.wrap ((sys.2.length : Int) - 1))).bind fun r_2 =>
   if r_2 = true then
    (F_spec_l7Step sys t at' rule).bind fun r_3 =>
    some r_3
   else
    some ([], false)
  else
   some ([], false)
 else
  some ([], false)
instance c_spec_StepAt {sys : ((List Int) × (List ((List Int) × (List Int))))} {t : (List Int)} {at' : Int} {rule : Int} : HasC (F_spec_StepAt sys t at' rule) fun rr => PFunN Tryz.prog 99 [D_impl_System sys, (slD 1 iD) t, iD at', iD rule] [(slD 1 iD) rr.1, bD rr.2] := ⟨@fun rr h => by
  delta F_spec_StepAt at h
  refine fn99.pureLN (vcm_sound ?_)
  delta mc99
  refine stp ?_
  exact aut⟩
def mc38 : MCode :=
 (.seq (.reg (sq 2 [bo 2 46 0, bo 3 40 1, mb false])) (.seq (.seq (.reg (sq 9 [la 2 2, fa 0 3, ld 10, cf 98 [9, 11], nt 12, mv 13] ++ sg 14 false 15 [fa 1 3, ld 15, ln 16, bi .gtr 17 60] ++ sq 19 [po 14 18])) (.cond (t0 19) (.seq (.reg (sq 4 [mb false])) .ret) .skip)) (.seq (.reg (sq 20 [fa 0 3, ld 20] ++ sq 5 [mv 21])) (.seq (.seq (.reg (sq 6 [mi 0])) (.block 0 (.loop (.seq (.seq (.reg (sq 22 [mv 6, fa 1 3, ld 23, ln 24, bn .lss 22 25])) (.cond (t0 26) .skip (.exit 0))) (.seq (.block 1 (.seq (.draw (sq 30 [la 2 2, mv 5, fa 1 3, ld 32, mv 6, ix 3 33 34, fa 0 35, ld 36, fa 1 3, ld 38, mv 6, ix 3 39 40, fa 1 41, ld 42, cf 99 [30, 31, 37, 43]] ++ sq 29 [mv 44] ++ sq 45 [ex 29 0, ex 29 1] ++ sq 7 [mv 45, mv 46]) [[], [], [], [2], [], [3, 4], [5], [6], [], [8], [], [9, 10], [11], [12], [0, 1, 7, 13], [14], [15], [15], [16, 14, 0, 1, 2, 3, 4, 5, 6, 7, 8, 9, 10, 11, 12, 13, 14, 15, 16], [17, 18, 0, 1, 2, 3, 4, 5, 6, 7, 8, 9, 10, 11, 12, 13, 14, 15, 16, 17, 18]]) (.seq (.seq (.reg (sq 47 [mv 8, nt 47, mv 48] ++ sg 49 false 50 [mv 7, fa 1 3, ld 51, mv 6, ix 3 52 53, fa 2 54, ld 55, cf 36 [50, 56], nt 57] ++ sq 59 [po 49 58])) (.cond (t0 59) (.seq (.reg (sq 4 [mb false])) .ret) .skip)) (.reg (sq 60 [mv 7] ++ sq 5 [mv 60]))))) (.reg (sq 27 [mv 6, bi .add 27 1] ++ sq 6 [mv 28]))))))) (.seq (.reg (sq 4 [mb true])) .ret)))))
theorem fn38 : MFn Tryz.prog 38 mc38 61 [.tmp 4] := ⟨_, Tryz.func38, by kernel_rfl, Tryz.ntmps38, by kernel_rfl⟩
noncomputable def F_spec_WalkOk_l1 (sys : ((List Int) × (List ((List Int) × (List Int))))) (w : ((List Int) × (List (Int × Int × (List Int))))) : ((List Int) × Int) → Option (((List Int) × Int) ⊕ Bool)
 | (now, i) =>
  if (decide (i < (w.2.length : Int))) = true then
   if 0 ≤ i ∧ i < (w.2.length : Int) then
    if 0 ≤ i ∧ i < (w.2.length : Int) then
     (F_spec_StepAt sys now ((w.2.getD i.toNat default).1) ((w.2.getD i.toNat default).2.1)).bind fun r_1 =>
     if r_1.2 = true then
      if 0 ≤ i ∧ i < (w.2.length : Int) then
       (F_spec_SameTerm r_1.1 ((w.2.getD i.toNat default).2.2)).bind fun r_2 =>
       if r_2 = true then
        some (.inl (r_1.1, (IntKind.i64.wrap (i + 1))))
       else
        Option.map Sum.inr (
         some false)
      else none
     else
      Option.map Sum.inr (
       some false)
    else none
   else none
  else
   Option.map Sum.inr (
    some true)
noncomputable def F_spec_WalkOk (sys : ((List Int) × (List ((List Int) × (List Int))))) (w : ((List Int) × (List (Int × Int × (List Int))))) : Option Bool :=
 (F_spec_l7Right sys w.1).bind fun r =>
 if r = true then
  if (decide (60 < (w.2.length : Int))) = true then
   some false
  else
   loopC (F_spec_WalkOk_l1 sys w) (w.1, 0)
 else
  some false
instance c_spec_WalkOk {sys : ((List Int) × (List ((List Int) × (List Int))))} {w : ((List Int) × (List (Int × Int × (List Int))))} : HasC (F_spec_WalkOk sys w) fun rr => PFun Tryz.prog 38 [D_impl_System sys, D_impl_Walk w] (bD rr) := ⟨@fun rr h => by
  delta F_spec_WalkOk at h
  refine fn38.pureL (vcm_sound ?_)
  delta mc38
  refine stp ?_
  refine rC h fun r hr h => ?_
  refine iT h fun hc h => ?_
  refine iF h fun hc h => ?_
  refine m_lW h [4, 5, 6, 7, 8, 22, 23, 24, 25, 26, 27, 28, 29, 30, 31, 32, 33, 34, 35, 36, 37, 38, 39, 40, 41, 42, 43, 44, 45, 46, 47, 48, 49, 50, 51, 52, 53, 54, 55, 56, 57, 58, 59, 60] (fun pp => [(5, .d (slD 1 iD pp.1)), (6, .d (iD pp.2))]) (fun pp => [(2, .obj 46 [.d (slD 1 iD sys.1), .d (slD 2 D_impl_Rule sys.2)]), (3, .obj 40 [.d (slD 1 iD w.1), .d (slD 3 D_impl_Step w.2)])]) ?_
  rintro ⟨now, i⟩ t1 h hb1
  unfold F_spec_WalkOk_l1 at h
  try dsimp only at h
  refine vcm_sound (stp ?_)
  exact aut⟩
end Go.Proofs.YtklfjpilhbkekaaGreat
namespace Go.Proofs.YtklfjpilhbkekaaGreat
open Go Abx
attribute [local irreducible] vcm vgo vdr vrun vdrun MWp GhostQ BrC BrO BrG BrD BrH AmbO callR callD drQ EnvLe StoLe
set_option maxHeartbeats 4000000
def D_impl_Move (x : (Int × Int × Bool × (List Int))) : D := .agg [iD x.1, iD x.2.1, bD x.2.2.1, (slD 1 iD) x.2.2.2]
def D_impl_Chain (x : ((List Int) × (List (Int × Int × Bool × (List Int))))) : D := .agg [(slD 1 iD) x.1, (slD 4 D_impl_Move) x.2]
def D_impl_choice (x : ((List Int) × (List ((List Int) × (List Int))) × (List Int) × (List Int))) : D := .agg [(slD 1 iD) x.1, (slD 2 D_impl_Rule) x.2.1, (slD 1 iD) x.2.2.1, (slD 1 iD) x.2.2.2]
instance : Cel D_impl_Move 4 := ⟨fun _ => rfl⟩
instance : Cel D_impl_Chain 2 := ⟨fun _ => rfl⟩
instance : Cel D_impl_choice 4 := ⟨fun _ => rfl⟩
attribute [go_sem] D_impl_Move D_impl_Chain D_impl_choice
def mc252 : MCode :=
 (.seq (.reg (sq 3 [mb false])) (.seq (.reg (sq 4 [fa 0 1, la 1 4, mv 0, cf 157 [5, 6], nt 7] ++ sq 3 [mv 8])) .ret))
theorem fn252 : MFn Tryz.prog 252 mc252 9 [.tmp 3] := ⟨_, Tryz.func252, by kernel_rfl, Tryz.ntmps252, by kernel_rfl⟩
noncomputable def F_impl_wordOk_1 (t : (List Int)) (o00 : (List Int)) (o01 : (List ((List Int) × (List Int)))) : Option Bool :=
 (F_impl_TermOk o00 t).bind fun r =>
 some (!r)
instance c_impl_wordOk_1 {t : (List Int)} {o00 : (List Int)} {o01 : (List ((List Int) × (List Int)))} : HasC (F_impl_wordOk_1 t o00 o01) fun rr => ACalls Tryz.prog 252 [.d (slD 1 iD t), .ptr 0 0] [(0, .obj 46 [.d (slD 1 iD o00), .d (slD 2 D_impl_Rule o01)])] 1 fun xx ss => xx = .d (bD rr) ∧ ss = [(0, .obj 46 [.d (slD 1 iD o00), .d (slD 2 D_impl_Rule o01)])] := ⟨@fun rr h => by
  delta F_impl_wordOk_1 at h
  refine fn252.callsO (vcm_sound ?_)
  delta mc252
  refine stp ?_
  exact aut⟩
def mc277 : MCode :=
 (.seq (.reg (sq 4 [mi 0])) (.seq (.seq (.reg (sq 6 [mv 0, ln 6, mi 0])) (.block 0 (.loop (.seq (.reg (sq 9 [bn .lss 8 7])) (.seq (.cond (t0 9) .skip (.exit 0)) (.seq (.block 1 (.seq (.reg (sq 10 [mv 8] ++ sq 5 [mv 10])) (.seq (.reg (sq 11 [mv 1, mv 0, mv 5, ix 1 12 13, ld 14, .callv (t0 11) [(t0 15)]])) (.cond (t0 16) (.seq (.reg (sq 17 [mv 5] ++ sq 4 [mv 17])) .ret) .skip)))) (.reg (sq 18 [bi .add 8 1] ++ sq 8 [mv 18])))))))) (.seq (.reg (sq 4 [mi (-1)])) .ret)))
theorem fn277 : MFn Tryz.prog 277 mc277 19 [.tmp 4] := ⟨_, Tryz.func277, by kernel_rfl, Tryz.ntmps277, by kernel_rfl⟩
noncomputable def F_slices_IndexFunc_int64_int64_l1 (s : (List (List Int))) (o00 : (List Int)) (o01 : (List ((List Int) × (List Int)))) : Int → Option (Int ⊕ Int)
 | v8 =>
  if (decide (v8 < (s.length : Int))) = true then
   if 0 ≤ v8 ∧ v8 < (s.length : Int) then
    (F_impl_wordOk_1 (s.getD v8.toNat default) o00 o01).bind fun r =>
    if r = true then
     Option.map Sum.inr (
      some v8)
    else
     some (.inl (IntKind.i64.wrap (v8 + 1)))
   else none
  else
   Option.map Sum.inr (
    some (-1))
noncomputable def F_slices_IndexFunc_int64_int64 (s : (List (List Int))) (o00 : (List Int)) (o01 : (List ((List Int) × (List Int)))) : Option Int :=
 loopC (F_slices_IndexFunc_int64_int64_l1 s o00 o01) 0
instance c_slices_IndexFunc_int64_int64 {s : (List (List Int))} {o00 : (List Int)} {o01 : (List ((List Int) × (List Int)))} : HasC (F_slices_IndexFunc_int64_int64 s o00 o01) fun rr => ACalls Tryz.prog 277 [.d (slD 1 (slD 1 iD) s), .fn 252 [] [.ptr 0 0]] [(0, .obj 46 [.d (slD 1 iD o00), .d (slD 2 D_impl_Rule o01)])] 1 fun xx ss => xx = .d (iD rr) ∧ ss = [(0, .obj 46 [.d (slD 1 iD o00), .d (slD 2 D_impl_Rule o01)])] := ⟨@fun rr h => by
  delta F_slices_IndexFunc_int64_int64 at h
  refine fn277.callsO (vcm_sound ?_)
  delta mc277
  refine stp ?_
  refine m_lW h [4, 5, 8, 9, 10, 11, 12, 13, 14, 15, 16, 17, 18] (fun pp => [(8, .d (iD pp))]) (fun pp => [(0, .obj 46 [.d (slD 1 iD o00), .d (slD 2 D_impl_Rule o01)])]) ?_
  rintro v8 t1 h hb1
  unfold F_slices_IndexFunc_int64_int64_l1 at h
  try dsimp only at h
  refine vcm_sound (stp ?_)
  refine iT h fun hc h => ?_
  refine ndI h fun hp h => ?_
  refine need_i (by kernel_rfl) ?_
  refine rCo [(0, 0)] [] h fun r hr h => ?_
  exact aut⟩
def mc251 : MCode :=
 (.seq (.reg (sq 4 [mb false])) (.seq (.reg (sq 5 [mv 0, mv 1, cf 277 [5, 6], bi .geq 7 0] ++ sq 4 [mv 8])) .ret))
theorem fn251 : MFn Tryz.prog 251 mc251 9 [.tmp 4] := ⟨_, Tryz.func251, by kernel_rfl, Tryz.ntmps251, by kernel_rfl⟩
noncomputable def F_slices_ContainsFunc_int64_int64 (s : (List (List Int))) (o00 : (List Int)) (o01 : (List ((List Int) × (List Int)))) : Option Bool :=
 (F_slices_IndexFunc_int64_int64 s o00 o01).bind fun r =>
 some (decide (0 ≤ r))
instance c_slices_ContainsFunc_int64_int64 {s : (List (List Int))} {o00 : (List Int)} {o01 : (List ((List Int) × (List Int)))} : HasC (F_slices_ContainsFunc_int64_int64 s o00 o01) fun rr => ACalls Tryz.prog 251 [.d (slD 1 (slD 1 iD) s), .fn 252 [] [.ptr 0 0]] [(0, .obj 46 [.d (slD 1 iD o00), .d (slD 2 D_impl_Rule o01)])] 1 fun xx ss => xx = .d (bD rr) ∧ ss = [(0, .obj 46 [.d (slD 1 iD o00), .d (slD 2 D_impl_Rule o01)])] := ⟨@fun rr h => by
  delta F_slices_ContainsFunc_int64_int64 at h
  refine fn251.callsO (vcm_sound ?_)
  delta mc251
  refine stp ?_
  refine rCo [(0, 0)] [] h fun r hr h => ?_
  exact aut⟩
def mc208 : MCode :=
 (.seq (.reg (sq 3 [bo 3 46 0] ++ sq 6 [mb false])) (.seq (.seq (.reg (sq 7 [la 2 3, cf 119 [7], nt 8, mv 9] ++ sg 10 false 11 [mv 1, bi .lss 11 0] ++ sq 13 [po 10 12, mv 13] ++ sg 14 false 15 [mv 1, bi .gtr 15 60] ++ sq 17 [po 14 16])) (.cond (t0 17) (.seq (.reg (sq 6 [mb false])) .ret) .skip)) (.seq (.reg (sq 18 [mv 2, .mkfn 252 [] [(t0 3)], cf 251 [18, 19], nt 20] ++ sq 6 [mv 21])) .ret)))
theorem fn208 : MFn Tryz.prog 208 mc208 22 [.tmp 6] := ⟨_, Tryz.func208, by kernel_rfl, Tryz.ntmps208, by kernel_rfl⟩
noncomputable def F_impl_wordOk (sys : ((List Int) × (List ((List Int) × (List Int))))) (fuel : Int) (ts : (List (List Int))) : Option Bool :=
 (F_impl_SystemOk sys).bind fun r =>
 if r = true then
  if (decide (fuel < 0)) = true then
   some false
  else
   if (decide (60 < fuel)) = true then
    some false
   else
    (F_slices_ContainsFunc_int64_int64 ts sys.1 sys.2).bind fun r_1 =>
    some (!r_1)
 else
  some false
instance c_impl_wordOk {sys : ((List Int) × (List ((List Int) × (List Int))))} {fuel : Int} {ts : (List (List Int))} : HasC (F_impl_wordOk sys fuel ts) fun rr => PFun Tryz.prog 208 [D_impl_System sys, iD fuel, (slD 1 (slD 1 iD)) ts] (bD rr) := ⟨@fun rr h => by
  delta F_impl_wordOk at h
  refine fn208.pureL (vcm_sound ?_)
  delta mc208
  refine stp ?_
  refine rC h fun r hr h => ?_
  refine iT h fun hc h => ?_
  refine iF h fun hc h => ?_
  refine iF h fun hc h => ?_
  refine rCo [(0, 3)] [] h fun r_1 hr_1 h => ?_
  exact aut⟩
def mc279 : MCode :=
 (.seq (.reg (sq 3 [bo 3 43 0] ++ sq 6 [mb false])) (.seq (.reg (sq 10 [la 1 3, mv 1, mv 2, cf 261 [10, 11, 12]] ++ sq 9 [mv 13] ++ sq 14 [ex 9 0, ex 9 1] ++ sq 7 [.alloc 7 48 [.sl 0 (some true) []]] ++ s0 (sr 1 7 14) ++ sq 8 [mv 15])) (.seq (.reg (sq 16 [mv 8] ++ sq 6 [mv 16])) .ret)))
theorem fn279 : MFn Tryz.prog 279 mc279 17 [.tmp 6] := ⟨_, Tryz.func279, by kernel_rfl, Tryz.ntmps279, by kernel_rfl⟩
noncomputable def F_impl_instance (sig : (List Int)) (p : (List Int)) (t : (List Int)) : Option Bool :=
 (F_impl_match sig p t).bind fun r =>
 some r.2
instance c_impl_instance {sig : (List Int)} {p : (List Int)} {t : (List Int)} : HasC (F_impl_instance sig p t) fun rr => PFun Tryz.prog 279 [D_impl_Sig sig, (slD 1 iD) p, (slD 1 iD) t] (bD rr) := ⟨@fun rr h => by
  delta F_impl_instance at h
  refine fn279.pureL (vcm_sound ?_)
  delta mc279
  refine stp ?_
  exact aut⟩
def mc260 : MCode :=
 (.seq (.reg (sq 4 [bo 4 46 0] ++ sq 8 [mb false])) (.seq (.draw (sq 9 [fa 0 4, la 1 9, fa 1 4, ld 11, mv 3, ix 2 12 13, fa 0 14, ld 15, fa 0 4, la 1 17, mv 1, mv 2, cf 159 [18, 19, 20], cf 279 [10, 16, 21]] ++ sq 8 [mv 22]) [[], [0], [], [2], [], [3, 4], [5], [6], [], [8], [], [], [9, 10, 11], [1, 7, 12, 12], [13, 13, 0, 1, 2, 3, 4, 5, 6, 7, 8, 9, 10, 11, 12, 13]]) .ret))
theorem fn260 : MFn Tryz.prog 260 mc260 23 [.tmp 8] := ⟨_, Tryz.func260, by kernel_rfl, Tryz.ntmps260, by kernel_rfl⟩
noncomputable def F_impl_redex (sys : ((List Int) × (List ((List Int) × (List Int))))) (t : (List Int)) (at' : Int) (rule : Int) : Option Bool :=
 if 0 ≤ rule ∧ rule < (sys.2.length : Int) then
  (F_impl_subAt sys.1 t at').bind fun r =>
  (F_impl_instance sys.1 ((sys.2.getD rule.toNat default).1) r).bind fun r_1 =>
  some r_1
 else none
instance c_impl_redex {sys : ((List Int) × (List ((List Int) × (List Int))))} {t : (List Int)} {at' : Int} {rule : Int} : HasC (F_impl_redex sys t at' rule) fun rr => PFun Tryz.prog 260 [D_impl_System sys, (slD 1 iD) t, iD at', iD rule] (bD rr) := ⟨@fun rr h => by
  delta F_impl_redex at h
  refine fn260.pureL (vcm_sound ?_)
  delta mc260
  refine stp ?_
  exact aut⟩
def mc211 : MCode :=
 (.seq (.reg (sq 3 [bo 3 46 0] ++ sq 6 [mi 0])) (.seq (.seq (.reg (sq 8 [fa 1 3, ld 8, ln 9, mi 0])) (.block 0 (.loop (.seq (.reg (sq 12 [bn .lss 11 10])) (.seq (.cond (t0 12) .skip (.exit 0)) (.seq (.block 1 (.seq (.reg (sq 13 [mv 11] ++ sq 7 [mv 13])) (.seq (.reg (sq 14 [la 2 3, mv 1, mv 2, mv 7, cf 260 [14, 15, 16, 17]])) (.cond (t0 18) (.seq (.reg (sq 19 [mv 7] ++ sq 6 [mv 19])) .ret) .skip)))) (.reg (sq 20 [bi .add 11 1] ++ sq 11 [mv 20])))))))) (.seq (.reg (sq 6 [mi (-1)])) .ret)))
theorem fn211 : MFn Tryz.prog 211 mc211 21 [.tmp 6] := ⟨_, Tryz.func211, by kernel_rfl, Tryz.ntmps211, by kernel_rfl⟩
noncomputable def F_impl_ruleAt_l1 (sys : ((List Int) × (List ((List Int) × (List Int))))) (t : (List Int)) (at' : Int) : Int → Option (Int ⊕ Int)
 | v11 =>
  if (decide (v11 < (sys.2.length : Int))) = true then
   (F_impl_redex sys t at' v11).bind fun r =>
   if r = true then
    Option.map Sum.inr (
     some v11)
   else
    some (.inl (IntKind.i64.wrap (v11 + 1)))
  else
   Option.map Sum.inr (
    some (-1))
noncomputable def F_impl_ruleAt (sys : ((List Int) × (List ((List Int) × (List Int))))) (t : (List Int)) (at' : Int) : Option Int :=
 loopC (F_impl_ruleAt_l1 sys t at') 0
instance c_impl_ruleAt {sys : ((List Int) × (List ((List Int) × (List Int))))} {t : (List Int)} {at' : Int} : HasC (F_impl_ruleAt sys t at') fun rr => PFun Tryz.prog 211 [D_impl_System sys, (slD 1 iD) t, iD at'] (iD rr) := ⟨@fun rr h => by
  delta F_impl_ruleAt at h
  refine fn211.pureL (vcm_sound ?_)
  delta mc211
  refine stp ?_
  refine m_lW h [6, 7, 11, 12, 13, 14, 15, 16, 17, 18, 19, 20] (fun pp => [(11, .d (iD pp))]) (fun pp => [(3, .obj 46 [.d (slD 1 iD sys.1), .d (slD 2 D_impl_Rule sys.2)])]) ?_
  rintro v11 t1 h hb1
  unfold F_impl_ruleAt_l1 at h
  try dsimp only at h
  refine vcm_sound (stp ?_)
  exact aut⟩
def mc256 : MCode :=
 (.seq (.reg (sq 2 [bo 2 46 0] ++ sq 4 [.mv (.const (.slice none 0 0))])) (.seq (.reg (sq 5 [.mv (.const (.slice none 0 0))])) (.seq (.seq (.reg (sq 8 [mv 1, ln 8, mi 0])) (.block 0 (.loop (.seq (.reg (sq 11 [bn .lss 10 9])) (.seq (.cond (t0 11) .skip (.exit 0)) (.seq (.block 1 (.seq (.reg (sq 12 [mv 10, ix 1 8 10, ld 13] ++ sq 6 [mv 12, mv 14])) (.seq (.reg (sq 15 [mv 7, bi .geq 15 0, mv 16] ++ sg 17 true 18 [la 2 2, mv 1, mv 6, cf 211 [18, 19, 20], bi .geq 21 0] ++ sq 23 [pa 17 22])) (.cond (t0 23) (.reg (sq 24 [mv 5, mv 6, .bsl 26 3 1 [(t0 25)], ap 27 3 1 8 24 26] ++ sq 5 [mv 27])) .skip)))) (.reg (sq 28 [bi .add 10 1] ++ sq 10 [mv 28])))))))) (.seq (.reg (sq 29 [mv 5] ++ sq 4 [mv 29])) .ret))))
theorem fn256 : MFn Tryz.prog 256 mc256 30 [.tmp 4] := ⟨_, Tryz.func256, by kernel_rfl, Tryz.ntmps256, by kernel_rfl⟩
noncomputable def F_impl_redexes_l1 (sys : ((List Int) × (List ((List Int) × (List Int))))) (t : (List Int)) : ((List Int) × Int) → Option (((List Int) × Int) ⊕ (List Int))
 | (out, v10) =>
  if (decide (v10 < (t.length : Int))) = true then
   if 0 ≤ v10 ∧ v10 < (t.length : Int) then
    if (decide (0 ≤ (t.getD v10.toNat default))) = true then
     (F_impl_ruleAt sys t v10).bind fun r =>
     if (decide (0 ≤ r)) = true then
      if (out.length + 1) * 8 ≤ 140737488355328 then
       some (.inl ((out ++ [v10]), (IntKind.i64.wrap (v10 + 1))))
      else none
     else
      some (.inl (out, (IntKind.i64.wrap (v10 + 1))))
    else
     some (.inl (out, (IntKind.i64.wrap (v10 + 1))))
   else none
  else
   Option.map Sum.inr (
    some out)
noncomputable def F_impl_redexes (sys : ((List Int) × (List ((List Int) × (List Int))))) (t : (List Int)) : Option (List Int) :=
 loopC (F_impl_redexes_l1 sys t) ([], 0)
instance c_impl_redexes {sys : ((List Int) × (List ((List Int) × (List Int))))} {t : (List Int)} : HasC (F_impl_redexes sys t) fun rr => PFun Tryz.prog 256 [D_impl_System sys, (slD 1 iD) t] ((slD 1 iD) rr) := ⟨@fun rr h => by
  delta F_impl_redexes at h
  refine fn256.pureL (vcm_sound ?_)
  delta mc256
  refine stp ?_
  refine m_loopF h [5, 6, 7, 10, 11, 12, 13, 14, 15, 16, 17, 18, 19, 20, 21, 22, 23, 24, 25, 26, 27, 28] (fun pp => [(5, .own 1 27 (List.map iD pp.1)), (10, .d (iD pp.2))]) (fun pp => [(2, .obj 46 [.d (slD 1 iD sys.1), .d (slD 2 D_impl_Rule sys.2)]), (27, .tok 3 1 pp.1.length)]) ?_ ?_
  · try dsimp only
    refine (Weak.thaw 5 27 3 1 rfl rfl).trans ?_
    exact wk
  rintro ⟨out, v10⟩ t1 h hb1
  unfold F_impl_redexes_l1 at h
  try dsimp only at h
  refine vcm_sound (stp ?_)
  refine iT h fun hc h => ?_
  refine ndI h fun hp h => ?_
  refine iT h fun hc h => ?_
  refine rC h fun r hr h => ?_
  refine iT h fun hc h => ?_
  refine ndI h fun hp h => ?_
  cases h
  refine ⟨_, rfl, ?_⟩
  refine (Weak.drop 26 (by omega)).trans ?_
  exact wk⟩
def mc284 : MCode :=
 (.seq (.reg (sq 4 [bo 4 43 0] ++ sq 8 [mb false])) (.seq (.reg (sq 9 [mv 3, mv 2, bn .geq 9 10, mv 11] ++ sg 12 true 13 [mv 3, la 1 4, mv 1, mv 2, cf 195 [14, 15, 16], bn .lss 13 17] ++ sq 19 [pa 12 18] ++ sq 8 [mv 19])) .ret))
theorem fn284 : MFn Tryz.prog 284 mc284 20 [.tmp 8] := ⟨_, Tryz.func284, by kernel_rfl, Tryz.ntmps284, by kernel_rfl⟩
noncomputable def F_impl_inside (sig : (List Int)) (t : (List Int)) (at' : Int) (p : Int) : Option Bool :=
 if (decide (at' ≤ p)) = true then
  (F_impl_endAt sig t at').bind fun r =>
  some (decide (p < r))
 else
  some false
instance c_impl_inside {sig : (List Int)} {t : (List Int)} {at' : Int} {p : Int} : HasC (F_impl_inside sig t at' p) fun rr => PFun Tryz.prog 284 [D_impl_Sig sig, (slD 1 iD) t, iD at', iD p] (bD rr) := ⟨@fun rr h => by
  delta F_impl_inside at h
  refine fn284.pureL (vcm_sound ?_)
  delta mc284
  refine stp ?_
  exact aut⟩
def mc278 : MCode :=
 (.seq (.reg (sq 2 [bo 2 46 0] ++ sq 4 [.mv (.const (.slice none 0 0))])) (.seq (.reg (sq 9 [la 2 2, mv 1, cf 256 [9, 10]] ++ sq 5 [mv 11])) (.seq (.reg (sq 6 [.mv (.const (.slice none 0 0))])) (.seq (.seq (.reg (sq 12 [mv 5, ln 12, mi 0])) (.block 0 (.loop (.seq (.reg (sq 15 [bn .lss 14 13])) (.seq (.cond (t0 15) .skip (.exit 0)) (.seq (.block 1 (.seq (.reg (sq 16 [mv 14, ix 1 12 14, ld 17] ++ sq 7 [mv 16, mv 18])) (.seq (.draw (sq 19 [mv 7, bi .add 19 1, mv 5, ln 21, bn .eql 20 22, mv 23] ++ sg 24 false 25 [fa 0 2, la 1 25, mv 1, mv 8, mv 5, mv 7, bi .add 30 1, ix 1 29 31, ld 32, cf 284 [26, 27, 28, 33], nt 34] ++ sq 36 [po 24 35]) [[], [0], [], [2], [1, 3], [4], [5], [6, 5], [5], [5], [5], [5], [11, 5], [10, 12, 5], [13, 5], [7, 8, 9, 14, 5, 5], [15, 5], [5, 16]]) (.cond (t0 36) (.reg (sq 37 [mv 6, mv 8, .bsl 39 3 1 [(t0 38)], ap 40 3 1 8 37 39] ++ sq 6 [mv 40])) .skip)))) (.reg (sq 41 [bi .add 14 1] ++ sq 14 [mv 41])))))))) (.seq (.reg (sq 42 [mv 6] ++ sq 4 [mv 42])) .ret)))))
theorem fn278 : MFn Tryz.prog 278 mc278 43 [.tmp 4] := ⟨_, Tryz.func278, by kernel_rfl, Tryz.ntmps278, by kernel_rfl⟩
noncomputable def F_impl_inmost_l1 (sys : ((List Int) × (List ((List Int) × (List Int))))) (t : (List Int)) (r : (List Int)) : ((List Int) × Int) → Option (((List Int) × Int) ⊕ (List Int))
 | (out, v14) =>
  if (decide (v14 < (r.length : Int))) = true then
   if 0 ≤ v14 ∧ v14 < (r.length : Int) then
    if ((IntKind.i64.wrap (v14 + 1)) == (r.length : Int)) = true then
     if (out.length + 1) * 8 ≤ 140737488355328 then
      some (.inl ((out ++ [(r.getD v14.toNat default)]), (IntKind.i64.wrap (v14 + 1))))
     else none
    else
     if 0 ≤ (IntKind.i64.wrap (v14 + 1)) ∧ (IntKind.i64.wrap (v14 + 1)) < (r.length : Int) then
      (F_impl_inside sys.1 t (r.getD v14.toNat default) (r.getD (IntKind.i64.wrap (v14 + 1)).toNat default)).bind fun r_1 =>
      if r_1 = true then
       some (.inl (out, (IntKind.i64.wrap (v14 + 1))))
      else
       if (out.length + 1) * 8 ≤ 140737488355328 then
        some (.inl ((out ++ [(r.getD v14.toNat default)]), (IntKind.i64.wrap (v14 + 1))))
       else none
     else none
   else none
  else
   Option.map Sum.inr (
    some out)
noncomputable def F_impl_inmost (sys : ((List Int) × (List ((List Int) × (List Int))))) (t : (List Int)) : Option (List Int) :=
 (F_impl_redexes sys t).bind fun r =>
 loopC (F_impl_inmost_l1 sys t r) ([], 0)
instance c_impl_inmost {sys : ((List Int) × (List ((List Int) × (List Int))))} {t : (List Int)} : HasC (F_impl_inmost sys t) fun rr => PFun Tryz.prog 278 [D_impl_System sys, (slD 1 iD) t] ((slD 1 iD) rr) := ⟨@fun rr h => by
  delta F_impl_inmost at h
  refine fn278.pureL (vcm_sound ?_)
  delta mc278
  refine stp ?_
  refine rC h fun r hr h => ?_
  refine m_loopF h [6, 7, 8, 14, 15, 16, 17, 18, 19, 20, 21, 22, 23, 24, 25, 26, 27, 28, 29, 30, 31, 32, 33, 34, 35, 36, 37, 38, 39, 40, 41] (fun pp => [(6, .own 1 40 (List.map iD pp.1)), (14, .d (iD pp.2))]) (fun pp => [(2, .obj 46 [.d (slD 1 iD sys.1), .d (slD 2 D_impl_Rule sys.2)]), (40, .tok 3 1 pp.1.length)]) ?_ ?_
  · try dsimp only
    refine (Weak.thaw 6 40 3 1 rfl rfl).trans ?_
    exact wk
  rintro ⟨out, v14⟩ t1 h hb1
  unfold F_impl_inmost_l1 at h
  try dsimp only at h
  refine vcm_sound (stp ?_)
  refine iT h fun hc h => ?_
  refine ndI h fun hp h => ?_
  refine it h (fun hc h => ?_) fun hc h => ?_
  · refine drQ_of (by kernel_rfl) (stp ?_)
    refine ndI h fun hp h => ?_
    cases h
    refine ⟨_, rfl, ?_⟩
    refine (Weak.drop 39 (by omega)).trans ?_
    exact wk
  refine ndI h fun hp h => ?_
  refine dC h fun r_1 hr_1 h => ?_
  refine drQ_of (by kernel_rfl) (stp ?_)
  refine iF h fun hc h => ?_
  refine ndI h fun hp h => ?_
  cases h
  refine ⟨_, rfl, ?_⟩
  refine (Weak.drop 39 (by omega)).trans ?_
  exact wk⟩
def mc257 : MCode :=
 (.seq (.reg (sq 1 [bo 1 296 0, mi 0])) (.seq (.reg (sq 3 [fa 0 1, la 2 3, fa 2 1, ld 5, cf 278 [4, 6], .ixa 1 (t0 7) (i0 0), ld 8] ++ sq 2 [mv 9])) .ret))
theorem fn257 : MFn Tryz.prog 257 mc257 10 [.tmp 2] := ⟨_, Tryz.func257, by kernel_rfl, Tryz.ntmps257, by kernel_rfl⟩
noncomputable def F_impl_choice_inmost (c : ((List Int) × (List ((List Int) × (List Int))) × (List Int) × (List Int))) : Option Int :=
 (F_impl_inmost (c.1, c.2.1) c.2.2.1).bind fun r =>
 if 0 ≤ 0 ∧ 0 < (r.length : Int) then
  some (r.getD 0 default)
 else none
instance c_impl_choice_inmost {c : ((List Int) × (List ((List Int) × (List Int))) × (List Int) × (List Int))} : HasC (F_impl_choice_inmost c) fun rr => PFun Tryz.prog 257 [D_impl_choice c] (iD rr) := ⟨@fun rr h => by
  delta F_impl_choice_inmost at h
  refine fn257.pureL (vcm_sound ?_)
  delta mc257
  refine stp ?_
  exact aut⟩
def mc258 : MCode :=
 (.seq (.reg (sq 1 [bo 1 296 0, mi 0])) (.seq (.reg (sq 3 [fa 3 1, ld 3, .ixa 1 (t0 4) (i0 0), ld 5] ++ sq 2 [mv 6])) .ret))
theorem fn258 : MFn Tryz.prog 258 mc258 7 [.tmp 2] := ⟨_, Tryz.func258, by kernel_rfl, Tryz.ntmps258, by kernel_rfl⟩
noncomputable def F_impl_choice_outmost (c : ((List Int) × (List ((List Int) × (List Int))) × (List Int) × (List Int))) : Option Int :=
 if 0 ≤ 0 ∧ 0 < (c.2.2.2.length : Int) then
  some (c.2.2.2.getD 0 default)
 else none
instance c_impl_choice_outmost {c : ((List Int) × (List ((List Int) × (List Int))) × (List Int) × (List Int))} : HasC (F_impl_choice_outmost c) fun rr => PFun Tryz.prog 258 [D_impl_choice c] (iD rr) := ⟨@fun rr h => by
  delta F_impl_choice_outmost at h
  refine fn258.pureL (vcm_sound ?_)
  delta mc258
  refine stp ?_
  exact aut⟩
def mc259 : MCode :=
 (.seq (.reg (sq 1 [bo 1 296 0, mi 0])) (.seq (.reg (sq 3 [fa 3 1, ld 3, fa 3 1, ld 5, ln 6, bi .sub 7 1, ix 1 4 8, ld 9] ++ sq 2 [mv 10])) .ret))
theorem fn259 : MFn Tryz.prog 259 mc259 11 [.tmp 2] := ⟨_, Tryz.func259, by kernel_rfl, Tryz.ntmps259, by kernel_rfl⟩
noncomputable def F_impl_choice_last (c : ((List Int) × (List ((List Int) × (List Int))) × (List Int) × (List Int))) : Option Int :=
 if 0 ≤ (IntKind.i64.wrap ((c.2.2.2.length : Int) - 1)) ∧ (IntKind.i64.wrap ((c.2.2.2.length : Int) - 1)) < (c.2.2.2.length : Int) then
  some (c.2.2.2.getD (IntKind.i64.wrap ((c.2.2.2.length : Int) - 1)).toNat default)
 else none
instance c_impl_choice_last {c : ((List Int) × (List ((List Int) × (List Int))) × (List Int) × (List Int))} : HasC (F_impl_choice_last c) fun rr => PFun Tryz.prog 259 [D_impl_choice c] (iD rr) := ⟨@fun rr h => by
  delta F_impl_choice_last at h
  refine fn259.pureL (vcm_sound ?_)
  delta mc259
  refine stp ?_
  exact aut⟩
def mc210_impl_pick : MCode :=
 (.seq (.reg (sq 3 [bo 3 46 0] ++ sq 6 [mi 0])) (.seq (.draw (sq 9 [la 2 3, mv 1, la 2 3, mv 1, cf 256 [11, 12], .build [.sl 0 (some true) [], .sl 0 (some true) [], .sl 0 (some true) [], .sl 0 (some true) []] [(0, 2, (t0 9)), (2, 1, (t0 10)), (3, 1, (t0 13))]] ++ sq 7 [.alloc 7 296 [.sl 0 (some true) [], .sl 0 (some true) [], .sl 0 (some true) [], .sl 0 (some true) []]] ++ s0 (sr 4 7 14)) [[], [], [], [], [2, 3], [0, 1, 4], [], [6, 5, 4, 0, 1, 2, 3, 4, 5, 6]]) (.seq (.seq (.reg (sq 15 [fa 3 7, ld 15, ln 16, bi .eql 17 0])) (.cond (t0 18) (.seq (.reg (sq 6 [mi (-1)])) .ret) .skip)) (.seq (.reg (sq 19 [la 4 7, .mkfn 257 [(t0 19)] [], la 4 7, .mkfn 258 [(t0 21)] [], la 4 7, .mkfn 259 [(t0 23)] [], .bslo 25 297 1 [(t0 20), (t0 22), (t0 24)]] ++ sq 8 [mv 25])) (.seq (.reg (sq 26 [mv 8, mv 2, bi .sub 27 1, ix 1 26 28, ld 29, .callv (t0 30) []] ++ sq 6 [mv 31])) .ret)))))
theorem fn210_impl_pick : MFn Tryz.prog 210 mc210_impl_pick 32 [.tmp 6] := ⟨_, Tryz.func210, by kernel_rfl, Tryz.ntmps210, by kernel_rfl⟩
noncomputable def F_impl_pick (sys : ((List Int) × (List ((List Int) × (List Int))))) (t : (List Int)) (strategy : Int) : Option Int :=
 (F_impl_redexes sys t).bind fun r =>
 if ((r.length : Int) == 0) = true then
  some (-1)
 else
  if ((IntKind.i64.wrap (strategy - 1)) == 0) = true then
   (F_impl_choice_inmost (sys.1, sys.2, t, r)).bind fun r_1 =>
   some r_1
  else
   if ((IntKind.i64.wrap (strategy - 1)) == 1) = true then
    (F_impl_choice_outmost (sys.1, sys.2, t, r)).bind fun r_2 =>
    some r_2
   else
    if ((IntKind.i64.wrap (strategy - 1)) == 2) = true then
     (F_impl_choice_last (sys.1, sys.2, t, r)).bind fun r_3 =>
     some r_3
    else
     none
instance c_impl_pick {sys : ((List Int) × (List ((List Int) × (List Int))))} {t : (List Int)} {strategy : Int} : HasC (F_impl_pick sys t strategy) fun rr => PFun Tryz.prog 210 [D_impl_System sys, (slD 1 iD) t, iD strategy] (iD rr) := ⟨@fun rr h => by
  delta F_impl_pick at h
  refine fn210_impl_pick.pureL (vcm_sound ?_)
  delta mc210_impl_pick
  refine stp ?_
  refine dC h fun r hr h => ?_
  refine drQ_of (by kernel_rfl) (stp ?_)
  refine iF h fun hc h => ?_
  refine nds ?_
  rcases ite_some h with ⟨hc, h⟩ | ⟨hc, h⟩
  · have hq := eq_of_beq hc
    simp only [hq]
    refine stp ?_
    refine nds ?_
    refine need_i (by kernel_rfl) ?_
    exact aut
  · skip
    rcases ite_some h with ⟨hc, h⟩ | ⟨hc, h⟩
    · have hq := eq_of_beq hc
      simp only [hq]
      refine stp ?_
      refine nds ?_
      refine need_i (by kernel_rfl) ?_
      exact aut
    · skip
      rcases ite_some h with ⟨hc, h⟩ | ⟨hc, h⟩
      · have hq := eq_of_beq hc
        simp only [hq]
        refine stp ?_
        refine nds ?_
        refine need_i (by kernel_rfl) ?_
        exact aut
      · cases h⟩
def mc142 : MCode :=
 (.seq (.reg (sq 4 [bo 4 46 0] ++ sq 8 [.alloc 8 40 [.sl 0 (some true) [], .sl 0 (some true) []], mb false])) (.seq (.reg (sq 15 [mv 1, cf 121 [15], .build [.sl 0 (some true) [], .sl 0 (some true) []] [(0, 1, (t0 16))]] ++ sq 10 [.alloc 10 40 [.sl 0 (some true) [], .sl 0 (some true) []]] ++ s0 (sr 2 10 17))) (.block 0 (.loop (.block 1 (.seq (.reg (sq 18 [la 2 4, mv 1, mv 2, cf 210 [18, 19, 20]] ++ sq 11 [mv 21])) (.seq (.seq (.reg (sq 22 [mv 11, bi .lss 22 0])) (.cond (t0 23) (.seq (.reg (sq 24 [la 2 10] ++ s0 (sr 2 8 24) ++ sq 9 [mb true])) .ret) .skip)) (.seq (.seq (.reg (sq 25 [fa 1 10, ld 25, ln 26, mv 3, bn .eql 27 28])) (.cond (t0 29) (.seq (.reg (sq 30 [la 2 10] ++ s0 (sr 2 8 30) ++ sq 9 [mb false])) .ret) .skip)) (.seq (.reg (sq 31 [la 2 4, mv 1, mv 11, cf 211 [31, 32, 33]] ++ sq 12 [mv 34])) (.seq (.reg (sq 36 [la 2 4, mv 1, mv 11, mv 12, cf 212 [36, 37, 38, 39]] ++ sq 35 [mv 40] ++ sq 41 [ex 35 0, ex 35 1] ++ sq 13 [mv 41, mv 42])) (.seq (.seq (.reg (sq 43 [mv 14, nt 43])) (.cond (t0 44) (.seq (.reg (sq 45 [la 2 10] ++ s0 (sr 2 8 45) ++ sq 9 [mb false])) .ret) .skip)) (.seq (.reg (sq 46 [fa 1 10, ld 46, mv 11, mv 12, mv 13, .build [.lit (.int .i64 0), .lit (.int .i64 0), .sl 0 (some true) []] [(0, 1, (t0 48)), (1, 1, (t0 49)), (2, 1, (t0 50))], .bsl 52 151 3 [(t0 51)], ap 53 151 3 40 47 52, fa 1 10] ++ s0 (sr 1 54 53))) (.reg (sq 55 [mv 13] ++ sq 1 [mv 55]))))))))))))))
theorem fn142 : MFn Tryz.prog 142 mc142 56 [.cell 8 2 true, .tmp 9] := ⟨_, Tryz.func142, by kernel_rfl, Tryz.ntmps142, by kernel_rfl⟩
noncomputable def F_impl_walkBy_l1 (sys : ((List Int) × (List ((List Int) × (List Int))))) (strategy : Int) (fuel : Int) (r : (List Int)) : ((List Int) × (List (Int × Int × (List Int)))) → Option (((List Int) × (List (Int × Int × (List Int)))) ⊕ (((List Int) × (List (Int × Int × (List Int)))) × Bool))
 | (t_1, w) =>
  (F_impl_pick sys t_1 strategy).bind fun r_1 =>
  if (decide (r_1 < 0)) = true then
   Option.map Sum.inr (
    some ((r, w), true))
  else
   if ((w.length : Int) == fuel) = true then
    Option.map Sum.inr (
     some ((r, w), false))
   else
    (F_impl_ruleAt sys t_1 r_1).bind fun r_2 =>
    (F_impl_step sys t_1 r_1 r_2).bind fun r_3 =>
    if r_3.2 = true then
     if (w.length + 1) * 40 ≤ 140737488355328 then
      some (.inl (r_3.1, (w ++ [(r_1, r_2, r_3.1)])))
     else none
    else
     Option.map Sum.inr (
      some ((r, w), false))
noncomputable def F_impl_walkBy (sys : ((List Int) × (List ((List Int) × (List Int))))) (t : (List Int)) (strategy : Int) (fuel : Int) : Option (((List Int) × (List (Int × Int × (List Int)))) × Bool) :=
 (F_slices_Clone_int64_int64 t).bind fun r =>
 loopC (F_impl_walkBy_l1 sys strategy fuel r) (t, [])
instance c_impl_walkBy {sys : ((List Int) × (List ((List Int) × (List Int))))} {t : (List Int)} {strategy : Int} {fuel : Int} : HasC (F_impl_walkBy sys t strategy fuel) fun rr => PFunN Tryz.prog 142 [D_impl_System sys, (slD 1 iD) t, iD strategy, iD fuel] [D_impl_Walk rr.1, bD rr.2] := ⟨@fun rr h => by
  delta F_impl_walkBy at h
  refine fn142.pureLN (vcm_sound ?_)
  delta mc142
  refine stp ?_
  refine rC h fun r hr h => ?_
  refine m_loopF h [1, 9, 11, 12, 13, 14, 18, 19, 20, 21, 22, 23, 24, 25, 26, 27, 28, 29, 30, 31, 32, 33, 34, 35, 36, 37, 38, 39, 40, 41, 42, 43, 44, 45, 46, 47, 48, 49, 50, 51, 52, 53, 54, 55] (fun pp => [(1, .d (slD 1 iD pp.1))]) (fun pp => [(4, .obj 46 [.d (slD 1 iD sys.1), .d (slD 2 D_impl_Rule sys.2)]), (8, .obj 40 [.d (.sl 0 (some true) []), .d (.sl 0 (some true) [])]), (10, .obj 40 [.d (slD 1 iD r), .own 3 53 (List.map D_impl_Step pp.2)]), (53, .tok 151 3 pp.2.length)]) ?_ ?_
  · try dsimp only
    refine (Weak.thawCell 10 1 53 151 3 rfl rfl rfl).trans ?_
    exact wk
  rintro ⟨t_1, w⟩ t1 h hb1
  unfold F_impl_walkBy_l1 at h
  try dsimp only at h
  refine vcm_sound (stp ?_)
  refine rC h fun r_1 hr_1 h => ?_
  refine iF h fun hc h => ?_
  refine iF h fun hc h => ?_
  refine rC h fun r_2 hr_2 h => ?_
  refine rCN h fun r_3 hr_3 h => ?_
  refine iT h fun hc h => ?_
  refine ndI h fun hp h => ?_
  cases h
  refine ⟨_, rfl, ?_⟩
  refine (Weak.drop 52 (by omega)).trans ?_
  exact wk⟩
def mc61 : MCode :=
 (.seq (.reg (sq 1 [bo 1 40 0, .mv (.const (.slice none 0 0))])) (.seq (.seq (.reg (sq 4 [fa 1 1, ld 4, ln 5] ++ sq 3 [mv 6])) (.seq (.reg (sq 7 [mv 3, bi .gtr 7 0])) (.cond (t0 8) (.seq (.reg (sq 9 [fa 1 1, ld 9, mv 3, bi .sub 11 1, ix 3 10 12, fa 2 13, ld 14] ++ sq 2 [mv 15])) .ret) .skip))) (.seq (.reg (sq 16 [fa 0 1, ld 16] ++ sq 2 [mv 17])) .ret)))
theorem fn61 : MFn Tryz.prog 61 mc61 18 [.tmp 2] := ⟨_, Tryz.func61, by kernel_rfl, Tryz.ntmps61, by kernel_rfl⟩
noncomputable def F_impl_Walk_end (w : ((List Int) × (List (Int × Int × (List Int))))) : Option (List Int) :=
 if (decide (0 < (w.2.length : Int))) = true then
  if 0 ≤ (IntKind.i64.wrap ((w.2.length : Int) - 1)) ∧ (IntKind.i64.wrap ((w.2.length : Int) - 1)) < (w.2.length : Int) then
   some ((w.2.getD (IntKind.i64.wrap ((w.2.length : Int) - 1)).toNat default).2.2)
  else none
 else
  some w.1
instance c_impl_Walk_end {w : ((List Int) × (List (Int × Int × (List Int))))} : HasC (F_impl_Walk_end w) fun rr => PFun Tryz.prog 61 [D_impl_Walk w] ((slD 1 iD) rr) := ⟨@fun rr h => by
  delta F_impl_Walk_end at h
  refine fn61.pureL (vcm_sound ?_)
  delta mc61
  refine stp ?_
  exact aut⟩
def mc255 : MCode :=
 (.seq (.reg (sq 3 [bo 3 46 0] ++ sq 6 [.mv (.const (.slice none 0 0)), mb false])) (.seq (.reg (sq 11 [la 2 3, mv 1, mv 2, .callf 142 [(t0 11), (t0 12), (i0 1), (t0 13)]] ++ sq 10 [mv 14] ++ sq 15 [ex 10 0, ex 10 1] ++ sq 8 [.alloc 8 40 [.sl 0 (some true) [], .sl 0 (some true) []]] ++ s0 (sr 2 8 15) ++ sq 9 [mv 16])) (.seq (.reg (sq 17 [la 2 8, cf 61 [17], mv 9] ++ sq 6 [mv 18, mv 19])) .ret)))
theorem fn255 : MFn Tryz.prog 255 mc255 20 [.tmp 6, .tmp 7] := ⟨_, Tryz.func255, by kernel_rfl, Tryz.ntmps255, by kernel_rfl⟩
noncomputable def F_impl_normalOf (sys : ((List Int) × (List ((List Int) × (List Int))))) (t : (List Int)) (fuel : Int) : Option ((List Int) × Bool) :=
 (F_impl_walkBy sys t 1 fuel).bind fun r =>
 (F_impl_Walk_end r.1).bind fun r_1 =>
 some (r_1, r.2)
instance c_impl_normalOf {sys : ((List Int) × (List ((List Int) × (List Int))))} {t : (List Int)} {fuel : Int} : HasC (F_impl_normalOf sys t fuel) fun rr => PFunN Tryz.prog 255 [D_impl_System sys, (slD 1 iD) t, iD fuel] [(slD 1 iD) rr.1, bD rr.2] := ⟨@fun rr h => by
  delta F_impl_normalOf at h
  refine fn255.pureLN (vcm_sound ?_)
  delta mc255
  refine stp ?_
  exact aut⟩
def mc254 : MCode :=
 (.seq (.reg (sq 4 [.mv (.const (.slice none 0 0)), mb false])) (.seq (.reg (sq 6 [la 2 1, mv 0, ld 2, cf 255 [6, 7, 8], ex 9 0, ex 9 1] ++ sq 4 [mv 10, mv 11])) .ret))
theorem fn254 : MFn Tryz.prog 254 mc254 12 [.tmp 4, .tmp 5] := ⟨_, Tryz.func254, by kernel_rfl, Tryz.ntmps254, by kernel_rfl⟩
noncomputable def F_impl_equalBy_1 (t : (List Int)) (o00 : (List Int)) (o01 : (List ((List Int) × (List Int)))) (o1 : Int) : Option ((List Int) × Bool) :=
 (F_impl_normalOf (o00, o01) t o1).bind fun r =>
 some r
instance c_impl_equalBy_1 {t : (List Int)} {o00 : (List Int)} {o01 : (List ((List Int) × (List Int)))} {o1 : Int} : HasC (F_impl_equalBy_1 t o00 o01 o1) fun rr => ACalls Tryz.prog 254 [.d (slD 1 iD t), .ptr 0 0, .ptr 1 0] [(0, .obj 46 [.d (slD 1 iD o00), .d (slD 2 D_impl_Rule o01)]), (1, .obj 3 [.d (iD o1)])] 2 fun xx ss => xx = .tup [.d (slD 1 iD rr.1), .d (bD rr.2)] ∧ ss = [(0, .obj 46 [.d (slD 1 iD o00), .d (slD 2 D_impl_Rule o01)]), (1, .obj 3 [.d (iD o1)])] := ⟨@fun rr h => by
  delta F_impl_equalBy_1 at h
  refine fn254.callsO (vcm_sound ?_)
  delta mc254
  refine stp ?_
  exact aut⟩
def mc253 : MCode :=
 (.seq (.reg (sq 6 [.mv (.const (.slice none 0 0)), .mv (.const (.slice none 0 0)), mb false])) (.seq (.reg (sq 14 [mv 2, mv 0, .callv (t0 14) [(t0 15)]] ++ sq 13 [mv 16] ++ sq 17 [ex 13 0, ex 13 1] ++ sq 9 [mv 17, mv 18])) (.seq (.reg (sq 20 [mv 2, mv 1, .callv (t0 20) [(t0 21)]] ++ sq 19 [mv 22] ++ sq 23 [ex 19 0, ex 19 1] ++ sq 11 [mv 23, mv 24])) (.seq (.reg (sq 25 [mv 9, mv 11, mv 10, mv 27] ++ sg 28 true 29 [mv 12] ++ sq 30 [pa 28 29] ++ sq 6 [mv 25, mv 26, mv 30])) .ret))))
theorem fn253 : MFn Tryz.prog 253 mc253 31 [.tmp 6, .tmp 7, .tmp 8] := ⟨_, Tryz.func253, by kernel_rfl, Tryz.ntmps253, by kernel_rfl⟩
noncomputable def F_impl_both_int64 (a : (List Int)) (b : (List Int)) (o00 : (List Int)) (o01 : (List ((List Int) × (List Int)))) (o1 : Int) : Option ((List Int) × (List Int) × Bool) :=
 (F_impl_equalBy_1 a o00 o01 o1).bind fun r =>
 (F_impl_equalBy_1 b o00 o01 o1).bind fun r_1 =>
 if r.2 = true then
  some (r.1, r_1.1, r_1.2)
 else
  some (r.1, r_1.1, false)
instance c_impl_both_int64 {a : (List Int)} {b : (List Int)} {o00 : (List Int)} {o01 : (List ((List Int) × (List Int)))} {o1 : Int} : HasC (F_impl_both_int64 a b o00 o01 o1) fun rr => ACalls Tryz.prog 253 [.d (slD 1 iD a), .d (slD 1 iD b), .fn 254 [] [.ptr 0 0, .ptr 1 0]] [(0, .obj 46 [.d (slD 1 iD o00), .d (slD 2 D_impl_Rule o01)]), (1, .obj 3 [.d (iD o1)])] 2 fun xx ss => xx = .tup [.d (slD 1 iD rr.1), .d (slD 1 iD rr.2.1), .d (bD rr.2.2)] ∧ ss = [(0, .obj 46 [.d (slD 1 iD o00), .d (slD 2 D_impl_Rule o01)]), (1, .obj 3 [.d (iD o1)])] := ⟨@fun rr h => by
  delta F_impl_both_int64 at h
  refine fn253.callsO (vcm_sound ?_)
  delta mc253
  refine stp ?_
  refine need_i (by kernel_rfl) ?_
  refine rCo [(0, 0), (1, 1)] [] h fun r hr h => ?_
  refine need_i (by kernel_rfl) ?_
  refine rCo [(0, 0), (1, 1)] [] h fun r_1 hr_1 h => ?_
  exact aut⟩
def mc209 : MCode :=
 (.seq (.reg (sq 4 [bo 4 46 0] ++ sq 7 [bo 7 3 3, mi 0])) (.seq (.reg (sq 13 [mv 1, mv 2, .mkfn 254 [] [(t0 4), (t0 7)], cf 253 [13, 14, 15]] ++ sq 12 [mv 16] ++ sq 17 [ex 12 0, ex 12 1, ex 12 2] ++ sq 9 [mv 17, mv 18, mv 19])) (.seq (.block 0 (.seq (.reg (sq 21 [mv 11, nt 21] ++ sq 20 [mv 22])) (.cond (t0 20) (.seq (.reg (sq 8 [mi (-1)])) .ret) (.seq (.reg (sq 24 [mv 9, mv 10, cf 128 [24, 25]] ++ sq 23 [mv 26])) (.cond (t0 23) (.seq (.reg (sq 8 [mi 1])) .ret) .skip))))) (.seq (.reg (sq 8 [mi 0])) .ret))))
theorem fn209 : MFn Tryz.prog 209 mc209 27 [.tmp 8] := ⟨_, Tryz.func209, by kernel_rfl, Tryz.ntmps209, by kernel_rfl⟩
noncomputable def F_impl_equalBy (sys : ((List Int) × (List ((List Int) × (List Int))))) (a : (List Int)) (b : (List Int)) (fuel : Int) : Option Int :=
 (F_impl_both_int64 a b sys.1 sys.2 fuel).bind fun r =>
 if r.2.2 = true then
  (F_slices_Equal_int64_int64 r.1 r.2.1).bind fun r_1 =>
  if r_1 = true then
   some 1
  else
   some 0
 else
  some (-1)
instance c_impl_equalBy {sys : ((List Int) × (List ((List Int) × (List Int))))} {a : (List Int)} {b : (List Int)} {fuel : Int} : HasC (F_impl_equalBy sys a b fuel) fun rr => PFun Tryz.prog 209 [D_impl_System sys, (slD 1 iD) a, (slD 1 iD) b, iD fuel] (iD rr) := ⟨@fun rr h => by
  delta F_impl_equalBy at h
  refine fn209.pureL (vcm_sound ?_)
  delta mc209
  refine stp ?_
  refine rCo [(0, 4), (1, 7)] [] h fun r hr h => ?_
  exact aut⟩
def mc139 : MCode :=
 (.seq (.reg (sq 4 [bo 4 46 0] ++ sq 8 [mi 0])) (.seq (.seq (.reg (sq 9 [la 2 4, mv 3, mv 1, mv 2, .bsl 13 22 1 [(t0 11), (t0 12)], cf 208 [9, 10, 13], nt 14])) (.cond (t0 15) (.seq (.reg (sq 8 [mi (-1)])) .ret) .skip)) (.seq (.reg (sq 16 [la 2 4, mv 1, mv 2, mv 3, cf 209 [16, 17, 18, 19]] ++ sq 8 [mv 20])) .ret)))
theorem fn139 : MFn Tryz.prog 139 mc139 21 [.tmp 8] := ⟨_, Tryz.func139, by kernel_rfl, Tryz.ntmps139, by kernel_rfl⟩
noncomputable def F_impl_EqualBy (sys : ((List Int) × (List ((List Int) × (List Int))))) (a : (List Int)) (b : (List Int)) (fuel : Int) : Option Int :=
 (F_impl_wordOk sys fuel [a, b]).bind fun r =>
 if r = true then
  (F_impl_equalBy sys a b fuel).bind fun r_1 =>
  some r_1
 else
  some (-1)
instance c_impl_EqualBy {sys : ((List Int) × (List ((List Int) × (List Int))))} {a : (List Int)} {b : (List Int)} {fuel : Int} : HasC (F_impl_EqualBy sys a b fuel) fun rr => PFun Tryz.prog 139 [D_impl_System sys, (slD 1 iD) a, (slD 1 iD) b, iD fuel] (iD rr) := ⟨@fun rr h => by
  delta F_impl_EqualBy at h
  refine fn139.pureL (vcm_sound ?_)
  delta mc139
  refine stp ?_
  exact aut⟩
def mc141 : MCode :=
 (.seq (.reg (sq 4 [.alloc 4 40 [.sl 0 (some true) [], .sl 0 (some true) []], mb false])) (.seq (.reg (sq 6 [la 2 1, mv 0, ld 2, .callf 142 [(t0 6), (t0 7), (i0 1), (t0 8)], ex 9 0, ex 9 1] ++ s0 (sr 2 4 10) ++ sq 5 [mv 11])) .ret))
theorem fn141 : MFn Tryz.prog 141 mc141 12 [.cell 4 2 true, .tmp 5] := ⟨_, Tryz.func141, by kernel_rfl, Tryz.ntmps141, by kernel_rfl⟩
noncomputable def F_impl_ShownBy_1 (t : (List Int)) (o00 : (List Int)) (o01 : (List ((List Int) × (List Int)))) (o1 : Int) : Option (((List Int) × (List (Int × Int × (List Int)))) × Bool) :=
 (F_impl_walkBy (o00, o01) t 1 o1).bind fun r =>
 some r
instance c_impl_ShownBy_1 {t : (List Int)} {o00 : (List Int)} {o01 : (List ((List Int) × (List Int)))} {o1 : Int} : HasC (F_impl_ShownBy_1 t o00 o01 o1) fun rr => ACalls Tryz.prog 141 [.d (slD 1 iD t), .ptr 0 0, .ptr 1 0] [(0, .obj 46 [.d (slD 1 iD o00), .d (slD 2 D_impl_Rule o01)]), (1, .obj 2 [.d (iD o1)])] 2 fun xx ss => xx = .tup [.d (.agg [slD 1 iD rr.1.1, slD 3 D_impl_Step rr.1.2]), .d (bD rr.2)] ∧ ss = [(0, .obj 46 [.d (slD 1 iD o00), .d (slD 2 D_impl_Rule o01)]), (1, .obj 2 [.d (iD o1)])] := ⟨@fun rr h => by
  delta F_impl_ShownBy_1 at h
  refine fn141.callsO (vcm_sound ?_)
  delta mc141
  refine stp ?_
  refine rCN h fun r hr h => ?_
  cases h
  exact ⟨[4], by simp, don, don⟩⟩
def mc140 : MCode :=
 (.seq (.reg (sq 6 [.alloc 6 40 [.sl 0 (some true) [], .sl 0 (some true) []], .alloc 7 40 [.sl 0 (some true) [], .sl 0 (some true) []], mb false])) (.seq (.reg (sq 14 [mv 2, mv 0, .callv (t0 14) [(t0 15)]] ++ sq 13 [mv 16] ++ sq 17 [ex 13 0, ex 13 1] ++ sq 9 [.alloc 9 40 [.sl 0 (some true) [], .sl 0 (some true) []]] ++ s0 (sr 2 9 17) ++ sq 10 [mv 18])) (.seq (.reg (sq 20 [mv 2, mv 1, .callv (t0 20) [(t0 21)]] ++ sq 19 [mv 22] ++ sq 23 [ex 19 0, ex 19 1] ++ sq 11 [.alloc 11 40 [.sl 0 (some true) [], .sl 0 (some true) []]] ++ s0 (sr 2 11 23) ++ sq 12 [mv 24])) (.seq (.draw (sq 25 [la 2 9, la 2 11, mv 10, mv 27] ++ sg 28 true 29 [mv 12] ++ sq 30 [pa 28 29] ++ s0 (sr 2 6 25) ++ s0 (sr 2 7 26) ++ sq 8 [mv 30]) [[], [], [], [2], [3], [3, 4], [0, 3, 0], [1, 6, 0, 1, 6], [5, 7, 0, 1, 2, 3, 4, 5, 6, 7]]) .ret))))
theorem fn140 : MFn Tryz.prog 140 mc140 31 [.cell 6 2 true, .cell 7 2 true, .tmp 8] := ⟨_, Tryz.func140, by kernel_rfl, Tryz.ntmps140, by kernel_rfl⟩
noncomputable def F_impl_both_impl_Walk (a : (List Int)) (b : (List Int)) (o00 : (List Int)) (o01 : (List ((List Int) × (List Int)))) (o1 : Int) : Option (((List Int) × (List (Int × Int × (List Int)))) × ((List Int) × (List (Int × Int × (List Int)))) × Bool) :=
 (F_impl_ShownBy_1 a o00 o01 o1).bind fun r =>
 (F_impl_ShownBy_1 b o00 o01 o1).bind fun r_1 =>
 if r.2 = true then
  some (r.1, r_1.1, r_1.2)
 else
  some (r.1, r_1.1, false)
instance c_impl_both_impl_Walk {a : (List Int)} {b : (List Int)} {o00 : (List Int)} {o01 : (List ((List Int) × (List Int)))} {o1 : Int} : HasC (F_impl_both_impl_Walk a b o00 o01 o1) fun rr => ACalls Tryz.prog 140 [.d (slD 1 iD a), .d (slD 1 iD b), .fn 141 [] [.ptr 0 0, .ptr 1 0]] [(0, .obj 46 [.d (slD 1 iD o00), .d (slD 2 D_impl_Rule o01)]), (1, .obj 2 [.d (iD o1)])] 2 fun xx ss => xx = .tup [.d (.agg [slD 1 iD rr.1.1, slD 3 D_impl_Step rr.1.2]), .d (.agg [slD 1 iD rr.2.1.1, slD 3 D_impl_Step rr.2.1.2]), .d (bD rr.2.2)] ∧ ss = [(0, .obj 46 [.d (slD 1 iD o00), .d (slD 2 D_impl_Rule o01)]), (1, .obj 2 [.d (iD o1)])] := ⟨@fun rr h => by
  delta F_impl_both_impl_Walk at h
  refine fn140.callsO (vcm_sound ?_)
  delta mc140
  refine stp ?_
  refine need_i (by kernel_rfl) ?_
  refine rCo [(0, 0), (1, 1)] [] h fun r hr h => ?_
  refine need_i (by kernel_rfl) ?_
  refine rCo [(0, 0), (1, 1)] [] h fun r_1 hr_1 h => ?_
  refine it h (fun hc h => ?_) fun hc h => ?_
  · refine drQ_of (by kernel_rfl) (stp ?_)
    cases h
    exact ⟨[6, 7, 9, 11], by simp, don, don⟩
  refine drQ_of (by kernel_rfl) (stp ?_)
  cases h
  exact ⟨[6, 7, 9, 11], by simp, don, don⟩⟩
def mc214 : MCode :=
 (.seq (.reg (sq 3 [bo 3 183 1])) (.seq (.reg (sq 4 [fa 3 3, ld 4, cf 121 [5], fa 3 3] ++ s0 (sr 1 7 6))) (.draw (sq 8 [mv 0, mv 0, .nilc (t0 9), fa 1 10, ld 11, la 4 3, .bsl 14 183 4 [(t0 13)], ap 15 183 4 48 12 14, .nilc (t0 8), fa 1 16] ++ s0 (sr 1 17 15)) [[], [], [1], [2], [3], [], [5], [4, 6], [0, 0, 1, 2, 3, 4, 5, 6, 7], [8, 0, 1, 2, 3, 4, 5, 6, 7], [9, 7, 7, 0, 1, 2, 3, 4, 5, 6, 7]])))
theorem fn214 : MFn Tryz.prog 214 mc214 18 [] := ⟨_, Tryz.func214, by kernel_rfl, Tryz.ntmps214, by kernel_rfl⟩
noncomputable def F_impl_Chain_add (m : (Int × Int × Bool × (List Int))) (c0 : (List Int)) (c1 : (List (Int × Int × Bool × (List Int)))) : Option (List (Int × Int × Bool × (List Int))) :=
 (F_slices_Clone_int64_int64 m.2.2.2).bind fun r =>
 if (c1.length + 1) * 48 ≤ 140737488355328 then
  some (c1 ++ [(m.1, m.2.1, m.2.2.1, r)])
 else none
instance c_impl_Chain_add {m : (Int × Int × Bool × (List Int))} {c0 : (List Int)} {c1 : (List (Int × Int × Bool × (List Int)))} : HasC (F_impl_Chain_add m c0 c1) fun rr => ACalls Tryz.prog 214 [.ptr 0 0, .d (.agg [iD m.1, iD m.2.1, bD m.2.2.1, slD 1 iD m.2.2.2])] [(0, .obj 120 [.d (slD 1 iD c0), .own 4 1 (List.map D_impl_Move c1)]), (1, .tok 183 4 c1.length)] 2 fun xx ss => xx = .tup [] ∧ ss = [(0, .obj 120 [.d (slD 1 iD c0), .own 4 1 (List.map D_impl_Move rr)]), (1, .tok 183 4 rr.length)] := ⟨@fun rr h => by
  delta F_impl_Chain_add at h
  refine fn214.callsO (vcm_sound ?_)
  delta mc214
  refine stp ?_
  refine rC h fun r hr h => ?_
  refine ndI h fun hp h => ?_
  refine drQ_of (by kernel_rfl) (stp ?_)
  cases h
  exact ⟨[3, 14], by simp, don, don⟩⟩
def mc144 : MCode :=
 (.seq (.reg (sq 1 [bo 1 40 0, .alloc 2 120 [.sl 0 (some true) [], .sl 0 (some true) []]])) (.seq (.reg (sq 6 [fa 0 1, ld 6, cf 121 [7], .build [.sl 0 (some true) [], .sl 0 (some true) []] [(0, 1, (t0 8))]] ++ sq 3 [.alloc 3 120 [.sl 0 (some true) [], .sl 0 (some true) []]] ++ s0 (sr 2 3 9))) (.seq (.seq (.reg (sq 10 [fa 1 1, ld 10, ln 11, mi 0])) (.block 0 (.loop (.seq (.reg (sq 14 [bn .lss 13 12])) (.seq (.cond (t0 14) .skip (.exit 0)) (.seq (.block 1 (.seq (.reg (sq 15 [ix 3 11 13, la 3 15] ++ sq 5 [.alloc 5 151 [.lit (.int .i64 0), .lit (.int .i64 0), .sl 0 (some true) []]] ++ s0 (sr 3 5 16))) (.reg (sq 17 [fa 1 5, ld 17, fa 0 5, ld 19, fa 2 5, ld 21, .build [.lit (.int .i64 0), .lit (.int .i64 0), .lit (.bool false), .sl 0 (some true) []] [(0, 1, (t0 18)), (1, 1, (t0 20)), (3, 1, (t0 22))], cf 214 [3, 23]])))) (.reg (sq 25 [bi .add 13 1] ++ sq 13 [mv 25])))))))) (.seq (.reg (sq 26 [la 2 3] ++ s0 (sr 2 2 26))) .ret))))
theorem fn144 : MFn Tryz.prog 144 mc144 27 [.cell 2 2 true] := ⟨_, Tryz.func144, by kernel_rfl, Tryz.ntmps144, by kernel_rfl⟩
noncomputable def F_impl_chainOfWalk_l1 (w : ((List Int) × (List (Int × Int × (List Int))))) (r : (List Int)) : (Int × (List (Int × Int × Bool × (List Int)))) → Option ((Int × (List (Int × Int × Bool × (List Int)))) ⊕ ((List Int) × (List (Int × Int × Bool × (List Int)))))
 | (v13, out) =>
  if (decide (v13 < (w.2.length : Int))) = true then
   if 0 ≤ v13 ∧ v13 < (w.2.length : Int) then
    (F_impl_Chain_add ((w.2.getD v13.toNat default).2.1, (w.2.getD v13.toNat default).1, false, (w.2.getD v13.toNat default).2.2) r out).bind fun r_1 =>
    some (.inl ((IntKind.i64.wrap (v13 + 1)), r_1))
   else none
  else
   Option.map Sum.inr (
    some (r, out))
noncomputable def F_impl_chainOfWalk (w : ((List Int) × (List (Int × Int × (List Int))))) : Option ((List Int) × (List (Int × Int × Bool × (List Int)))) :=
 (F_slices_Clone_int64_int64 w.1).bind fun r =>
 loopC (F_impl_chainOfWalk_l1 w r) (0, [])
instance c_impl_chainOfWalk {w : ((List Int) × (List (Int × Int × (List Int))))} : HasC (F_impl_chainOfWalk w) fun rr => PFun Tryz.prog 144 [D_impl_Walk w] (D_impl_Chain rr) := ⟨@fun rr h => by
  delta F_impl_chainOfWalk at h
  refine fn144.pureL (vcm_sound ?_)
  delta mc144
  refine stp ?_
  refine rC h fun r hr h => ?_
  refine m_loopF h [5, 13, 14, 15, 16, 17, 18, 19, 20, 21, 22, 23, 24, 25] (fun pp => [(13, .d (iD pp.1))]) (fun pp => [(1, .obj 40 [.d (slD 1 iD w.1), .d (slD 3 D_impl_Step w.2)]), (2, .obj 120 [.d (.sl 0 (some true) []), .d (.sl 0 (some true) [])]), (3, .obj 120 [.d (slD 1 iD r), .own 4 300000 (List.map D_impl_Move pp.2)]), (300000, .tok 183 4 pp.2.length)]) ?_ ?_
  · try dsimp only
    refine (Weak.thawCell 3 1 300000 183 4 rfl rfl rfl).trans ?_
    exact wk
  rintro ⟨v13, out⟩ t1 h hb1
  unfold F_impl_chainOfWalk_l1 at h
  try dsimp only at h
  refine vcm_sound (stp ?_)
  refine iT h fun hc h => ?_
  refine ndI h fun hp h => ?_
  refine rCo [(0, 3), (1, 300000)] [] h fun r_1 hr_1 h => ?_
  cases h
  refine ⟨_, rfl, ?_⟩
  refine (Weak.drop 5 (by omega)).trans ?_
  exact wk⟩
def mc213 : MCode :=
 (.seq (.reg (sq 1 [bo 1 120 0, .mv (.const (.slice none 0 0))])) (.seq (.seq (.reg (sq 4 [fa 1 1, ld 4, ln 5] ++ sq 3 [mv 6])) (.seq (.reg (sq 7 [mv 3, bi .gtr 7 0])) (.cond (t0 8) (.seq (.reg (sq 9 [fa 1 1, ld 9, mv 3, bi .sub 11 1, ix 4 10 12, fa 3 13, ld 14] ++ sq 2 [mv 15])) .ret) .skip))) (.seq (.reg (sq 16 [fa 0 1, ld 16] ++ sq 2 [mv 17])) .ret)))
theorem fn213 : MFn Tryz.prog 213 mc213 18 [.tmp 2] := ⟨_, Tryz.func213, by kernel_rfl, Tryz.ntmps213, by kernel_rfl⟩
noncomputable def F_impl_Chain_end (c : ((List Int) × (List (Int × Int × Bool × (List Int))))) : Option (List Int) :=
 if (decide (0 < (c.2.length : Int))) = true then
  if 0 ≤ (IntKind.i64.wrap ((c.2.length : Int) - 1)) ∧ (IntKind.i64.wrap ((c.2.length : Int) - 1)) < (c.2.length : Int) then
   some ((c.2.getD (IntKind.i64.wrap ((c.2.length : Int) - 1)).toNat default).2.2.2)
  else none
 else
  some c.1
instance c_impl_Chain_end {c : ((List Int) × (List (Int × Int × Bool × (List Int))))} : HasC (F_impl_Chain_end c) fun rr => PFun Tryz.prog 213 [D_impl_Chain c] ((slD 1 iD) rr) := ⟨@fun rr h => by
  delta F_impl_Chain_end at h
  refine fn213.pureL (vcm_sound ?_)
  delta mc213
  refine stp ?_
  exact aut⟩
def F_slices_Backward_impl_Move_impl_Move (_ : (List (Int × Int × Bool × (List Int)))) : Option Unit := some ()
theorem fn215 : MFn Tryz.prog 215 (bkTop 262 118) 4 [.tmp 2] :=
  ⟨Tryz.f215, Tryz.func215, by kernel_rfl, Tryz.ntmps215, by kernel_rfl⟩
theorem fn262 : MFn Tryz.prog 262 (bkMc 4) 19 [] :=
  ⟨Tryz.f262, Tryz.func262, by kernel_rfl, Tryz.ntmps262, by kernel_rfl⟩
theorem bk262 (xs : (List (Int × Int × Bool × (List Int)))) : Iter Tryz.prog 262 [.pv [slD 4 D_impl_Move xs]] (bkEls D_impl_Move xs) := iter_back D_impl_Move (fun _ => ⟨_, rfl⟩) fn262 (by kernel_rfl) xs
instance c_slices_Backward_impl_Move_impl_Move {s : (List (Int × Int × Bool × (List Int)))} : HasC (F_slices_Backward_impl_Move_impl_Move s) fun _ => ACalls Tryz.prog 215 [.d (slD 4 D_impl_Move s)] [] 0 fun xx ss => xx = .fn 262 [] [.pv [slD 4 D_impl_Move s]] ∧ ss = [] := ⟨fun _ => back_calls D_impl_Move s fn215⟩
def mc145 : MCode :=
 (.seq (.reg (sq 1 [bo 1 120 0, .alloc 2 120 [.sl 0 (some true) [], .sl 0 (some true) []]])) (.seq (.reg (sq 7 [la 2 1, cf 213 [7], cf 121 [8], .build [.sl 0 (some true) [], .sl 0 (some true) []] [(0, 1, (t0 9))]] ++ sq 3 [.alloc 3 120 [.sl 0 (some true) [], .sl 0 (some true) []]] ++ s0 (sr 2 3 10))) (.seq (.seq (.reg (sq 11 [fa 1 1, ld 11, cf 215 [12]])) (.block 0 (.rng (t0 13) [14, 15] (.seq (.reg (sq 4 [mv 14])) (.reg (sq 5 [.alloc 5 183 [.lit (.int .i64 0), .lit (.int .i64 0), .lit (.bool false), .sl 0 (some true) []]] ++ s0 (sr 4 5 15)))) (.block 1 (.seq (.reg (sq 16 [fa 0 1, ld 16] ++ sq 6 [mv 17])) (.seq (.seq (.reg (sq 18 [mv 4, bi .gtr 18 0])) (.cond (t0 19) (.reg (sq 20 [fa 1 1, ld 20, mv 4, bi .sub 22 1, ix 4 21 23, fa 3 24, ld 25] ++ sq 6 [mv 26])) .skip)) (.reg (sq 27 [fa 0 5, ld 27, fa 1 5, ld 29, fa 2 5, ld 31, nt 32, mv 6, .build [.lit (.int .i64 0), .lit (.int .i64 0), .lit (.bool false), .sl 0 (some true) []] [(0, 1, (t0 28)), (1, 1, (t0 30)), (2, 1, (t0 33)), (3, 1, (t0 34))], cf 214 [3, 35]])))))))) (.seq (.reg (sq 37 [la 2 3] ++ s0 (sr 2 2 37))) .ret))))
theorem fn145 : MFn Tryz.prog 145 mc145 38 [.cell 2 2 true] := ⟨_, Tryz.func145, by kernel_rfl, Tryz.ntmps145, by kernel_rfl⟩
noncomputable def F_impl_turned_l1 (c : ((List Int) × (List (Int × Int × Bool × (List Int))))) (r_1 : (List Int)) : (Nat × (List (Int × Int × Bool × (List Int)))) → Option ((Nat × (List (Int × Int × Bool × (List Int)))) ⊕ ((List Int) × (List (Int × Int × Bool × (List Int)))))
 | (jj, out) =>
  if jj < c.2.length then
   if (decide (0 < ((c.2.length : Int) - 1 - (jj : Int)))) = true then
    if 0 ≤ (IntKind.i64.wrap (((c.2.length : Int) - 1 - (jj : Int)) - 1)) ∧ (IntKind.i64.wrap (((c.2.length : Int) - 1 - (jj : Int)) - 1)) < (c.2.length : Int) then
     (F_impl_Chain_add ((c.2.getD (c.2.length - 1 - jj) default).1, (c.2.getD (c.2.length - 1 - jj) default).2.1, (!(c.2.getD (c.2.length - 1 - jj) default).2.2.1), (c.2.getD (IntKind.i64.wrap (((c.2.length : Int) - 1 - (jj : Int)) - 1)).toNat default).2.2.2) r_1 out).bind fun r_3 =>
     some (.inl (jj + 1, r_3))
    else none
   else
    (F_impl_Chain_add ((c.2.getD (c.2.length - 1 - jj) default).1, (c.2.getD (c.2.length - 1 - jj) default).2.1, (!(c.2.getD (c.2.length - 1 - jj) default).2.2.1), c.1) r_1 out).bind fun r_4 =>
    some (.inl (jj + 1, r_4))
  else
   Option.map Sum.inr (
    some (r_1, out))
noncomputable def F_impl_turned (c : ((List Int) × (List (Int × Int × Bool × (List Int))))) : Option ((List Int) × (List (Int × Int × Bool × (List Int)))) :=
 (F_impl_Chain_end c).bind fun r =>
 (F_slices_Clone_int64_int64 r).bind fun r_1 =>
 (F_slices_Backward_impl_Move_impl_Move c.2).bind fun r_2 =>
 loopC (F_impl_turned_l1 c r_1) (0, [])
instance c_impl_turned {c : ((List Int) × (List (Int × Int × Bool × (List Int))))} : HasC (F_impl_turned c) fun rr => PFun Tryz.prog 145 [D_impl_Chain c] (D_impl_Chain rr) := ⟨@fun rr h => by
  delta F_impl_turned at h
  refine fn145.pureL (vcm_sound ?_)
  delta mc145
  refine stp ?_
  refine rC h fun r hr h => ?_
  refine rC h fun r_1 hr_1 h => ?_
  refine rCo [] [] h fun r_2 hr_2 h => ?_
  refine m_backF (enc := D_impl_Move) (e := 4) (xs := c.2) h (bk262 _) 4 (fun pp => [(1, .obj 120 [.d (slD 1 iD c.1), .d (slD 4 D_impl_Move c.2)]), (2, .obj 120 [.d (.sl 0 (some true) []), .d (.sl 0 (some true) [])]), (3, .obj 120 [.d (slD 1 iD r_1), .own 4 300000 (List.map D_impl_Move pp)]), (300000, .tok 183 4 pp.length)]) ?_ ?_ ?_
  · try dsimp only
    refine (Weak.thawCell 3 1 300000 183 4 rfl rfl rfl).trans ?_
    exact wk
  · rintro jj out t1 hj h hb1
    unfold F_impl_turned_l1 at h
    try dsimp only at h
    rw [if_pos hj] at h
    refine stp ?_
    refine it h (fun hc h => ?_) fun hc h => ?_
    · refine ndI h fun hp h => ?_
      refine rCo [(0, 3), (1, 300000)] [] h fun r_3 hr_3 h => ?_
      cases h
      refine ⟨_, rfl, ?_⟩
      exact ⟨_, (Weak.drop 5 (by omega)).trans (wk (EnvLe.refl _))⟩
    refine rCo [(0, 3), (1, 300000)] [] h fun r_4 hr_4 h => ?_
    cases h
    refine ⟨_, rfl, ?_⟩
    exact ⟨_, (Weak.drop 5 (by omega)).trans (wk (EnvLe.refl _))⟩
  · rintro out t1 h hb1
    unfold F_impl_turned_l1 at h
    try dsimp only at h
    rw [if_neg (Nat.lt_irrefl _)] at h
    refine stp ?_
    exact aut⟩
def mc143 : MCode :=
 (.seq (.reg (sq 2 [bo 2 120 0, bo 3 120 1, .alloc 4 120 [.sl 0 (some true) [], .sl 0 (some true) []], mb false])) (.seq (.seq (.draw (sq 10 [la 2 2, cf 213 [10], fa 0 3, ld 12, cf 128 [11, 13], nt 14, mv 15] ++ sg 16 false 17 [fa 1 2, ld 17, ln 18, fa 1 3, ld 20, ln 21, bn .add 19 22, bi .gtr 23 60] ++ sq 25 [po 16 24]) [[], [0], [], [2], [1, 3, 1], [4], [5, 4], [6], [7, 6], [8, 6], [6], [10, 6], [11, 6], [9, 12, 6], [13, 6], [6, 14]]) (.cond (t0 25) (.seq (.reg (sq 26 [.build [.sl 0 (some true) [], .sl 0 (some true) []] []] ++ s0 (sr 2 4 26) ++ sq 5 [mb false])) .ret) .skip)) (.seq (.reg (sq 27 [fa 0 2, ld 27, cf 121 [28], .build [.sl 0 (some true) [], .sl 0 (some true) []] [(0, 1, (t0 29))]] ++ sq 6 [.alloc 6 120 [.sl 0 (some true) [], .sl 0 (some true) []]] ++ s0 (sr 2 6 30))) (.seq (.reg (sq 31 [fa 1 2, ld 31, ln 32] ++ sq 7 [mv 33])) (.seq (.seq (.draw (sq 34 [fa 1 2, ld 34, mv 7, mv 7, .slc (t0 35) 4 none (some (t0 36)) (some (t0 37)), fa 1 3, ld 39, ap 41 183 4 48 38 40, ln 41, mi 0]) [[], [0], [], [], [1, 2, 3], [], [5], [4, 6], [7], []]) (.block 0 (.loop (.seq (.reg (sq 44 [bn .lss 43 42])) (.seq (.cond (t0 44) .skip (.exit 0)) (.seq (.block 1 (.seq (.reg (sq 45 [ix 4 41 43, la 4 45] ++ sq 9 [.alloc 9 183 [.lit (.int .i64 0), .lit (.int .i64 0), .lit (.bool false), .sl 0 (some true) []]] ++ s0 (sr 4 9 46))) (.reg (sq 47 [la 4 9, cf 214 [6, 47]])))) (.reg (sq 49 [bi .add 43 1] ++ sq 43 [mv 49])))))))) (.seq (.reg (sq 50 [la 2 6] ++ s0 (sr 2 4 50) ++ sq 5 [mb true])) .ret))))))
theorem fn143 : MFn Tryz.prog 143 mc143 51 [.cell 4 2 true, .tmp 5] := ⟨_, Tryz.func143, by kernel_rfl, Tryz.ntmps143, by kernel_rfl⟩
noncomputable def F_impl_joinChains_l1 (a : ((List Int) × (List (Int × Int × Bool × (List Int))))) (b : ((List Int) × (List (Int × Int × Bool × (List Int))))) (r_2 : (List Int)) : (Int × (List (Int × Int × Bool × (List Int)))) → Option ((Int × (List (Int × Int × Bool × (List Int)))) ⊕ (((List Int) × (List (Int × Int × Bool × (List Int)))) × Bool))
 | (v43, out) =>
  if (decide (v43 < ((a.2 ++ b.2).length : Int))) = true then
   if 0 ≤ v43 ∧ v43 < ((a.2 ++ b.2).length : Int) then
    (F_impl_Chain_add (((a.2 ++ b.2).getD v43.toNat default).1, ((a.2 ++ b.2).getD v43.toNat default).2.1, ((a.2 ++ b.2).getD v43.toNat default).2.2.1, ((a.2 ++ b.2).getD v43.toNat default).2.2.2) r_2 out).bind fun r_3 =>
    some (.inl ((IntKind.i64.wrap (v43 + 1)), r_3))
   else none
  else
   Option.map Sum.inr (
    some ((r_2, out), true))
noncomputable def F_impl_joinChains (a : ((List Int) × (List (Int × Int × Bool × (List Int))))) (b : ((List Int) × (List (Int × Int × Bool × (List Int))))) : Option (((List Int) × (List (Int × Int × Bool × (List Int)))) × Bool) :=
 (F_impl_Chain_end a).bind fun r =>
 (F_slices_Equal_int64_int64 r b.1).bind fun r_1 =>
 if r_1 = true then
  if (decide (60 < (IntKind.i64.wrap ((a.2.length : Int) + (b.2.length : Int))))) = true then
   some (([], []), false)
  else
   (F_slices_Clone_int64_int64 a.1).bind fun r_2 =>
   if 0 ≤ (a.2.length : Int) ∧ (a.2.length : Int) ≤ (a.2.length : Int) then
    if (a.2.length + b.2.length) * 48 ≤ 140737488355328 then
     loopC (F_impl_joinChains_l1 a b r_2) (0, [])
    else none
   else none
 else
  some (([], []), false)
instance c_impl_joinChains {a : ((List Int) × (List (Int × Int × Bool × (List Int))))} {b : ((List Int) × (List (Int × Int × Bool × (List Int))))} : HasC (F_impl_joinChains a b) fun rr => PFunN Tryz.prog 143 [D_impl_Chain a, D_impl_Chain b] [D_impl_Chain rr.1, bD rr.2] := ⟨@fun rr h => by
  delta F_impl_joinChains at h
  refine fn143.pureLN (vcm_sound ?_)
  delta mc143
  refine stp ?_
  refine dC h fun r hr h => ?_
  refine dC h fun r_1 hr_1 h => ?_
  refine iT h fun hc h => ?_
  refine drQ_of (by kernel_rfl) (stp ?_)
  refine iF h fun hc h => ?_
  refine rC h fun r_2 hr_2 h => ?_
  refine ndI h fun hp h => ?_
  refine ndI h fun hp h => ?_
  refine drQ_of (by kernel_rfl) (stp ?_)
  refine m_loopF h [9, 43, 44, 45, 46, 47, 48, 49] (fun pp => [(43, .d (iD pp.1))]) (fun pp => [(2, .obj 120 [.d (slD 1 iD a.1), .d (slD 4 D_impl_Move a.2)]), (3, .obj 120 [.d (slD 1 iD b.1), .d (slD 4 D_impl_Move b.2)]), (4, .obj 120 [.d (.sl 0 (some true) []), .d (.sl 0 (some true) [])]), (6, .obj 120 [.d (slD 1 iD r_2), .own 4 300000 (List.map D_impl_Move pp.2)]), (300000, .tok 183 4 pp.2.length)]) ?_ ?_
  · try dsimp only
    refine (Weak.thawCell 6 1 300000 183 4 rfl rfl rfl).trans ?_
    exact wk
  rintro ⟨v43, out⟩ t1 h hb1
  unfold F_impl_joinChains_l1 at h
  try dsimp only at h
  refine vcm_sound (stp ?_)
  refine iT h fun hc h => ?_
  refine ndI h fun hp h => ?_
  refine rCo [(0, 6), (1, 300000)] [] h fun r_3 hr_3 h => ?_
  cases h
  refine ⟨_, rfl, ?_⟩
  refine (Weak.drop 9 (by omega)).trans ?_
  exact wk⟩
def mc76 : MCode :=
 (.seq (.reg (sq 4 [bo 4 46 0] ++ sq 7 [bo 7 2 3, .alloc 8 120 [.sl 0 (some true) [], .sl 0 (some true) []], mb false])) (.seq (.seq (.reg (sq 13 [la 2 4, mv 1, mv 2, ld 7, cf 139 [13, 14, 15, 16], bi .neq 17 1])) (.cond (t0 18) (.seq (.reg (sq 19 [.build [.sl 0 (some true) [], .sl 0 (some true) []] []] ++ s0 (sr 2 8 19) ++ sq 9 [mb false])) .ret) .skip)) (.seq (.reg (sq 21 [mv 1, mv 2, .mkfn 141 [] [(t0 4), (t0 7)], cf 140 [21, 22, 23]] ++ sq 20 [mv 24] ++ sq 25 [ex 20 0, ex 20 1, ex 20 2] ++ sq 10 [.alloc 10 40 [.sl 0 (some true) [], .sl 0 (some true) []], .alloc 11 40 [.sl 0 (some true) [], .sl 0 (some true) []]] ++ s0 (sr 2 10 25) ++ s0 (sr 2 11 26) ++ sq 12 [mv 27])) (.seq (.draw (sq 28 [la 2 10, cf 144 [28], la 2 11, cf 144 [30], cf 145 [31], cf 143 [29, 32], ex 33 0, ex 33 1] ++ s0 (sr 2 8 34) ++ sq 9 [mv 35]) [[], [0], [], [2, 1], [3, 3], [1, 4, 4], [5], [5], [6, 5, 0, 1, 2, 3, 4, 5, 6, 7], [7, 8, 0, 1, 2, 3, 4, 5, 6, 7, 8]]) .ret))))
theorem fn76 : MFn Tryz.prog 76 mc76 36 [.cell 8 2 true, .tmp 9] := ⟨_, Tryz.func76, by kernel_rfl, Tryz.ntmps76, by kernel_rfl⟩
noncomputable def F_impl_ShownBy (sys : ((List Int) × (List ((List Int) × (List Int))))) (a : (List Int)) (b : (List Int)) (fuel : Int) : Option (((List Int) × (List (Int × Int × Bool × (List Int)))) × Bool) :=
 (F_impl_EqualBy sys a b fuel).bind fun r =>
 if (r != 1) = true then
  some (([], []), false)
 else
  (F_impl_both_impl_Walk a b sys.1 sys.2 fuel).bind fun r_1 =>
  (F_impl_chainOfWalk r_1.1).bind fun r_2 =>
  (F_impl_chainOfWalk r_1.2.1).bind fun r_3 =>
  (F_impl_turned r_3).bind fun r_4 =>
  (F_impl_joinChains r_2 r_4).bind fun r_5 =>
  some r_5
instance c_impl_ShownBy {sys : ((List Int) × (List ((List Int) × (List Int))))} {a : (List Int)} {b : (List Int)} {fuel : Int} : HasC (F_impl_ShownBy sys a b fuel) fun rr => PFunN Tryz.prog 76 [D_impl_System sys, (slD 1 iD) a, (slD 1 iD) b, iD fuel] [D_impl_Chain rr.1, bD rr.2] := ⟨@fun rr h => by
  delta F_impl_ShownBy at h
  refine fn76.pureLN (vcm_sound ?_)
  delta mc76
  refine stp ?_
  refine rC h fun r hr h => ?_
  refine iF h fun hc h => ?_
  refine rCo [(0, 4), (1, 7)] [] h fun r_1 hr_1 h => ?_
  exact aut⟩
end Go.Proofs.YtklfjpilhbkekaaGreat
