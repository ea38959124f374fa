/- Functions of the program and the equations that they compute; The layer of data and running functions, and its rules; Plain theory of terms and what the equations of the functions come to; nothing is assumed. -/
import Derived.Test.YtcbfefbocpikoaaGreatDoorThd
import Derived.Shelf.Strings.BuilderK
import Derived.WalkKit
import Derived.BigCall
import Derived.KernelRfl
import Derived.Maps.OwnSet
set_option linter.unusedSimpArgs false
set_option linter.unusedVariables false
set_option linter.unusedSectionVars false
set_option linter.unnecessarySimpa false
namespace Go.Proofs.YtcbfefbocpikoaaGreatDoor
open Go Abx
attribute [local irreducible] vcm vgo vdr vrun vdrun MWp BrC BrO BrG BrD BrH AmbO callR callD drQ EnvLe StoLe
set_option maxHeartbeats 4000000
def D_impl_Step (x : (Int × Int × (List Int))) : D := .agg [iD x.1, iD x.2.1, (slD 1 iD) x.2.2]
def D_impl_Walk (x : ((List Int) × (List (Int × Int × (List Int))))) : D := .agg [(slD 1 iD) x.1, (slD 3 D_impl_Step) x.2]
def D_impl_choice (x : ((List Int) × (List ((List Int) × (List Int))) × (List Int) × (List Int))) : D := .agg [(slD 1 iD) x.1, (slD 2 D_impl_Rule) x.2.1, (slD 1 iD) x.2.2.1, (slD 1 iD) x.2.2.2]
instance : Cel D_impl_Step 3 := ⟨fun _ => rfl⟩
instance : Cel D_impl_Walk 2 := ⟨fun _ => rfl⟩
instance : Cel D_impl_choice 4 := ⟨fun _ => rfl⟩
attribute [go_sem] D_impl_Step D_impl_Walk D_impl_choice
def mc54 : MCode :=
 (.seq (.reg (sq 3 [mb false])) (.seq (.reg (sq 4 [fa 0 1, la 1 4, mv 0, cf 55 [5, 6], nt 7] ++ sq 3 [mv 8])) .ret))
theorem fn54 : MFn Tryz.prog 54 mc54 9 [.tmp 3] := ⟨_, Tryz.func54, by kernel_rfl, Tryz.ntmps54, by kernel_rfl⟩
noncomputable def F_impl_wordOk_1 (t : (List Int)) (o00 : (List Int)) (o01 : (List ((List Int) × (List Int)))) : Option Bool :=
 (F_impl_TermOk o00 t).bind fun r =>
 some (!r)
instance c_impl_wordOk_1 {t : (List Int)} {o00 : (List Int)} {o01 : (List ((List Int) × (List Int)))} : HasC (F_impl_wordOk_1 t o00 o01) fun rr => ACalls Tryz.prog 54 [.d (slD 1 iD t), .ptr 0 0] [(0, .obj 37 [.d (slD 1 iD o00), .d (slD 2 D_impl_Rule o01)])] 1 fun xx ss => xx = .d (bD rr) ∧ ss = [(0, .obj 37 [.d (slD 1 iD o00), .d (slD 2 D_impl_Rule o01)])] := ⟨@fun rr h => by
  delta F_impl_wordOk_1 at h
  refine fn54.callsO (vcm_sound ?_)
  delta mc54
  refine stp ?_
  exact aut⟩
def mc77 : MCode :=
 (.seq (.reg (sq 4 [mi 0])) (.seq (.seq (.reg (sq 6 [mv 0, ln 6, mi 0])) (.block 0 (.loop (.seq (.reg (sq 9 [bn .lss 8 7])) (.seq (.cond (t0 9) .skip (.exit 0)) (.seq (.block 1 (.seq (.reg (sq 10 [mv 8] ++ sq 5 [mv 10])) (.seq (.reg (sq 11 [mv 1, mv 0, mv 5, ix 1 12 13, ld 14, .callv (t0 11) [(t0 15)]])) (.cond (t0 16) (.seq (.reg (sq 17 [mv 5] ++ sq 4 [mv 17])) .ret) .skip)))) (.reg (sq 18 [bi .add 8 1] ++ sq 8 [mv 18])))))))) (.seq (.reg (sq 4 [mi (-1)])) .ret)))
theorem fn77 : MFn Tryz.prog 77 mc77 19 [.tmp 4] := ⟨_, Tryz.func77, by kernel_rfl, Tryz.ntmps77, by kernel_rfl⟩
noncomputable def F_slices_IndexFunc_int64_int64_l1 (s : (List (List Int))) (o00 : (List Int)) (o01 : (List ((List Int) × (List Int)))) : Int → Option (Int ⊕ Int)
 | v8 =>
  if (decide (v8 < (s.length : Int))) = true then
   if 0 ≤ v8 ∧ v8 < (s.length : Int) then
    (F_impl_wordOk_1 (s.getD v8.toNat default) o00 o01).bind fun r =>
    if r = true then
     Option.map Sum.inr (
      some v8)
    else
     some (.inl (IntKind.i64.wrap (v8 + 1)))
   else none
  else
   Option.map Sum.inr (
    some (-1))
noncomputable def F_slices_IndexFunc_int64_int64 (s : (List (List Int))) (o00 : (List Int)) (o01 : (List ((List Int) × (List Int)))) : Option Int :=
 loopC (F_slices_IndexFunc_int64_int64_l1 s o00 o01) 0
instance c_slices_IndexFunc_int64_int64 {s : (List (List Int))} {o00 : (List Int)} {o01 : (List ((List Int) × (List Int)))} : HasC (F_slices_IndexFunc_int64_int64 s o00 o01) fun rr => ACalls Tryz.prog 77 [.d (slD 1 (slD 1 iD) s), .fn 54 [] [.ptr 0 0]] [(0, .obj 37 [.d (slD 1 iD o00), .d (slD 2 D_impl_Rule o01)])] 1 fun xx ss => xx = .d (iD rr) ∧ ss = [(0, .obj 37 [.d (slD 1 iD o00), .d (slD 2 D_impl_Rule o01)])] := ⟨@fun rr h => by
  delta F_slices_IndexFunc_int64_int64 at h
  refine fn77.callsO (vcm_sound ?_)
  delta mc77
  refine stp ?_
  refine m_lW h [4, 5, 8, 9, 10, 11, 12, 13, 14, 15, 16, 17, 18] (fun pp => [(8, .d (iD pp))]) (fun pp => [(0, .obj 37 [.d (slD 1 iD o00), .d (slD 2 D_impl_Rule o01)])]) ?_
  rintro v8 t1 h hb1
  unfold F_slices_IndexFunc_int64_int64_l1 at h
  try dsimp only at h
  refine vcm_sound (stp ?_)
  refine iT h fun hc h => ?_
  refine ndI h fun hp h => ?_
  refine need_i (by kernel_rfl) ?_
  refine rCo [(0, 0)] [] h fun r hr h => ?_
  exact aut⟩
def mc53 : MCode :=
 (.seq (.reg (sq 4 [mb false])) (.seq (.reg (sq 5 [mv 0, mv 1, cf 77 [5, 6], bi .geq 7 0] ++ sq 4 [mv 8])) .ret))
theorem fn53 : MFn Tryz.prog 53 mc53 9 [.tmp 4] := ⟨_, Tryz.func53, by kernel_rfl, Tryz.ntmps53, by kernel_rfl⟩
noncomputable def F_slices_ContainsFunc_int64_int64 (s : (List (List Int))) (o00 : (List Int)) (o01 : (List ((List Int) × (List Int)))) : Option Bool :=
 (F_slices_IndexFunc_int64_int64 s o00 o01).bind fun r =>
 some (decide (0 ≤ r))
instance c_slices_ContainsFunc_int64_int64 {s : (List (List Int))} {o00 : (List Int)} {o01 : (List ((List Int) × (List Int)))} : HasC (F_slices_ContainsFunc_int64_int64 s o00 o01) fun rr => ACalls Tryz.prog 53 [.d (slD 1 (slD 1 iD) s), .fn 54 [] [.ptr 0 0]] [(0, .obj 37 [.d (slD 1 iD o00), .d (slD 2 D_impl_Rule o01)])] 1 fun xx ss => xx = .d (bD rr) ∧ ss = [(0, .obj 37 [.d (slD 1 iD o00), .d (slD 2 D_impl_Rule o01)])] := ⟨@fun rr h => by
  delta F_slices_ContainsFunc_int64_int64 at h
  refine fn53.callsO (vcm_sound ?_)
  delta mc53
  refine stp ?_
  refine rCo [(0, 0)] [] h fun r hr h => ?_
  exact aut⟩
def mc38 : MCode :=
 (.seq (.reg (sq 3 [bo 3 37 0] ++ sq 6 [mb false])) (.seq (.seq (.reg (sq 7 [la 2 3, cf 52 [7], nt 8, mv 9] ++ sg 10 false 11 [mv 1, bi .lss 11 0] ++ sq 13 [po 10 12, mv 13] ++ sg 14 false 15 [mv 1, bi .gtr 15 60] ++ sq 17 [po 14 16])) (.cond (t0 17) (.seq (.reg (sq 6 [mb false])) .ret) .skip)) (.seq (.reg (sq 18 [mv 2, .mkfn 54 [] [(t0 3)], cf 53 [18, 19], nt 20] ++ sq 6 [mv 21])) .ret)))
theorem fn38 : MFn Tryz.prog 38 mc38 22 [.tmp 6] := ⟨_, Tryz.func38, by kernel_rfl, Tryz.ntmps38, by kernel_rfl⟩
noncomputable def F_impl_wordOk (sys : ((List Int) × (List ((List Int) × (List Int))))) (fuel : Int) (ts : (List (List Int))) : Option Bool :=
 (F_impl_SystemOk sys).bind fun r =>
 if r = true then
  if (decide (fuel < 0)) = true then
   some false
  else
   if (decide (60 < fuel)) = true then
    some false
   else
    (F_slices_ContainsFunc_int64_int64 ts sys.1 sys.2).bind fun r_1 =>
    some (!r_1)
 else
  some false
instance c_impl_wordOk {sys : ((List Int) × (List ((List Int) × (List Int))))} {fuel : Int} {ts : (List (List Int))} : HasC (F_impl_wordOk sys fuel ts) fun rr => PFun Tryz.prog 38 [D_impl_System sys, iD fuel, (slD 1 (slD 1 iD)) ts] (bD rr) := ⟨@fun rr h => by
  delta F_impl_wordOk at h
  refine fn38.pureL (vcm_sound ?_)
  delta mc38
  refine stp ?_
  refine rC h fun r hr h => ?_
  refine iT h fun hc h => ?_
  refine iF h fun hc h => ?_
  refine iF h fun hc h => ?_
  refine rCo [(0, 3)] [] h fun r_1 hr_1 h => ?_
  exact aut⟩
def mc130 : MCode :=
 (.seq (.reg (sq 3 [bo 3 34 0] ++ sq 6 [mb false])) (.seq (.reg (sq 10 [la 1 3, mv 1, mv 2, cf 121 [10, 11, 12]] ++ sq 9 [mv 13] ++ sq 14 [ex 9 0, ex 9 1] ++ sq 7 [.alloc 7 120 [.sl 0 (some true) []]] ++ s0 (sr 1 7 14) ++ sq 8 [mv 15])) (.seq (.reg (sq 16 [mv 8] ++ sq 6 [mv 16])) .ret)))
theorem fn130 : MFn Tryz.prog 130 mc130 17 [.tmp 6] := ⟨_, Tryz.func130, by kernel_rfl, Tryz.ntmps130, by kernel_rfl⟩
noncomputable def F_impl_instance (sig : (List Int)) (p : (List Int)) (t : (List Int)) : Option Bool :=
 (F_impl_match sig p t).bind fun r =>
 some r.2
instance c_impl_instance {sig : (List Int)} {p : (List Int)} {t : (List Int)} : HasC (F_impl_instance sig p t) fun rr => PFun Tryz.prog 130 [D_impl_Sig sig, (slD 1 iD) p, (slD 1 iD) t] (bD rr) := ⟨@fun rr h => by
  delta F_impl_instance at h
  refine fn130.pureL (vcm_sound ?_)
  delta mc130
  refine stp ?_
  exact aut⟩
def mc120 : MCode :=
 (.seq (.reg (sq 4 [bo 4 37 0] ++ sq 8 [mb false])) (.seq (.draw (sq 9 [fa 0 4, la 1 9, fa 1 4, ld 11, mv 3, ix 2 12 13, fa 0 14, ld 15, fa 0 4, la 1 17, mv 1, mv 2, cf 122 [18, 19, 20], cf 130 [10, 16, 21]] ++ sq 8 [mv 22]) [[], [0], [], [2], [], [3, 4], [5], [6], [], [8], [], [], [9, 10, 11], [1, 7, 12, 12], [13, 13, 0, 1, 2, 3, 4, 5, 6, 7, 8, 9, 10, 11, 12, 13]]) .ret))
theorem fn120 : MFn Tryz.prog 120 mc120 23 [.tmp 8] := ⟨_, Tryz.func120, by kernel_rfl, Tryz.ntmps120, by kernel_rfl⟩
noncomputable def F_impl_redex (sys : ((List Int) × (List ((List Int) × (List Int))))) (t : (List Int)) (at' : Int) (rule : Int) : Option Bool :=
 if 0 ≤ rule ∧ rule < (sys.2.length : Int) then
  (F_impl_subAt sys.1 t at').bind fun r =>
  (F_impl_instance sys.1 ((sys.2.getD rule.toNat default).1) r).bind fun r_1 =>
  some r_1
 else none
instance c_impl_redex {sys : ((List Int) × (List ((List Int) × (List Int))))} {t : (List Int)} {at' : Int} {rule : Int} : HasC (F_impl_redex sys t at' rule) fun rr => PFun Tryz.prog 120 [D_impl_System sys, (slD 1 iD) t, iD at', iD rule] (bD rr) := ⟨@fun rr h => by
  delta F_impl_redex at h
  refine fn120.pureL (vcm_sound ?_)
  delta mc120
  refine stp ?_
  exact aut⟩
def mc105 : MCode :=
 (.seq (.reg (sq 3 [bo 3 37 0] ++ sq 6 [mi 0])) (.seq (.seq (.reg (sq 8 [fa 1 3, ld 8, ln 9, mi 0])) (.block 0 (.loop (.seq (.reg (sq 12 [bn .lss 11 10])) (.seq (.cond (t0 12) .skip (.exit 0)) (.seq (.block 1 (.seq (.reg (sq 13 [mv 11] ++ sq 7 [mv 13])) (.seq (.reg (sq 14 [la 2 3, mv 1, mv 2, mv 7, cf 120 [14, 15, 16, 17]])) (.cond (t0 18) (.seq (.reg (sq 19 [mv 7] ++ sq 6 [mv 19])) .ret) .skip)))) (.reg (sq 20 [bi .add 11 1] ++ sq 11 [mv 20])))))))) (.seq (.reg (sq 6 [mi (-1)])) .ret)))
theorem fn105 : MFn Tryz.prog 105 mc105 21 [.tmp 6] := ⟨_, Tryz.func105, by kernel_rfl, Tryz.ntmps105, by kernel_rfl⟩
noncomputable def F_impl_ruleAt_l1 (sys : ((List Int) × (List ((List Int) × (List Int))))) (t : (List Int)) (at' : Int) : Int → Option (Int ⊕ Int)
 | v11 =>
  if (decide (v11 < (sys.2.length : Int))) = true then
   (F_impl_redex sys t at' v11).bind fun r =>
   if r = true then
    Option.map Sum.inr (
     some v11)
   else
    some (.inl (IntKind.i64.wrap (v11 + 1)))
  else
   Option.map Sum.inr (
    some (-1))
noncomputable def F_impl_ruleAt (sys : ((List Int) × (List ((List Int) × (List Int))))) (t : (List Int)) (at' : Int) : Option Int :=
 loopC (F_impl_ruleAt_l1 sys t at') 0
instance c_impl_ruleAt {sys : ((List Int) × (List ((List Int) × (List Int))))} {t : (List Int)} {at' : Int} : HasC (F_impl_ruleAt sys t at') fun rr => PFun Tryz.prog 105 [D_impl_System sys, (slD 1 iD) t, iD at'] (iD rr) := ⟨@fun rr h => by
  delta F_impl_ruleAt at h
  refine fn105.pureL (vcm_sound ?_)
  delta mc105
  refine stp ?_
  refine m_lW h [6, 7, 11, 12, 13, 14, 15, 16, 17, 18, 19, 20] (fun pp => [(11, .d (iD pp))]) (fun pp => [(3, .obj 37 [.d (slD 1 iD sys.1), .d (slD 2 D_impl_Rule sys.2)])]) ?_
  rintro v11 t1 h hb1
  unfold F_impl_ruleAt_l1 at h
  try dsimp only at h
  refine vcm_sound (stp ?_)
  exact aut⟩
def mc116 : MCode :=
 (.seq (.reg (sq 2 [bo 2 37 0] ++ sq 4 [.mv (.const (.slice none 0 0))])) (.seq (.reg (sq 5 [.mv (.const (.slice none 0 0))])) (.seq (.seq (.reg (sq 8 [mv 1, ln 8, mi 0])) (.block 0 (.loop (.seq (.reg (sq 11 [bn .lss 10 9])) (.seq (.cond (t0 11) .skip (.exit 0)) (.seq (.block 1 (.seq (.reg (sq 12 [mv 10, ix 1 8 10, ld 13] ++ sq 6 [mv 12, mv 14])) (.seq (.reg (sq 15 [mv 7, bi .geq 15 0, mv 16] ++ sg 17 true 18 [la 2 2, mv 1, mv 6, cf 105 [18, 19, 20], bi .geq 21 0] ++ sq 23 [pa 17 22])) (.cond (t0 23) (.reg (sq 24 [mv 5, mv 6, .bsl 26 3 1 [(t0 25)], ap 27 3 1 8 24 26] ++ sq 5 [mv 27])) .skip)))) (.reg (sq 28 [bi .add 10 1] ++ sq 10 [mv 28])))))))) (.seq (.reg (sq 29 [mv 5] ++ sq 4 [mv 29])) .ret))))
theorem fn116 : MFn Tryz.prog 116 mc116 30 [.tmp 4] := ⟨_, Tryz.func116, by kernel_rfl, Tryz.ntmps116, by kernel_rfl⟩
noncomputable def F_impl_redexes_l1 (sys : ((List Int) × (List ((List Int) × (List Int))))) (t : (List Int)) : ((List Int) × Int) → Option (((List Int) × Int) ⊕ (List Int))
 | (out, v10) =>
  if (decide (v10 < (t.length : Int))) = true then
   if 0 ≤ v10 ∧ v10 < (t.length : Int) then
    if (decide (0 ≤ (t.getD v10.toNat default))) = true then
     (F_impl_ruleAt sys t v10).bind fun r =>
     if (decide (0 ≤ r)) = true then
      if (out.length + 1) * 8 ≤ 140737488355328 then
       some (.inl ((out ++ [v10]), (IntKind.i64.wrap (v10 + 1))))
      else none
     else
      some (.inl (out, (IntKind.i64.wrap (v10 + 1))))
    else
     some (.inl (out, (IntKind.i64.wrap (v10 + 1))))
   else none
  else
   Option.map Sum.inr (
    some out)
noncomputable def F_impl_redexes (sys : ((List Int) × (List ((List Int) × (List Int))))) (t : (List Int)) : Option (List Int) :=
 loopC (F_impl_redexes_l1 sys t) ([], 0)
instance c_impl_redexes {sys : ((List Int) × (List ((List Int) × (List Int))))} {t : (List Int)} : HasC (F_impl_redexes sys t) fun rr => PFun Tryz.prog 116 [D_impl_System sys, (slD 1 iD) t] ((slD 1 iD) rr) := ⟨@fun rr h => by
  delta F_impl_redexes at h
  refine fn116.pureL (vcm_sound ?_)
  delta mc116
  refine stp ?_
  refine m_loopF h [5, 6, 7, 10, 11, 12, 13, 14, 15, 16, 17, 18, 19, 20, 21, 22, 23, 24, 25, 26, 27, 28] (fun pp => [(5, .own 1 27 (List.map iD pp.1)), (10, .d (iD pp.2))]) (fun pp => [(2, .obj 37 [.d (slD 1 iD sys.1), .d (slD 2 D_impl_Rule sys.2)]), (27, .tok 3 1 pp.1.length)]) ?_ ?_
  · try dsimp only
    refine (Weak.thaw 5 27 3 1 rfl rfl).trans ?_
    exact wk
  rintro ⟨out, v10⟩ t1 h hb1
  unfold F_impl_redexes_l1 at h
  try dsimp only at h
  refine vcm_sound (stp ?_)
  refine iT h fun hc h => ?_
  refine ndI h fun hp h => ?_
  refine iT h fun hc h => ?_
  refine rC h fun r hr h => ?_
  refine iT h fun hc h => ?_
  refine ndI h fun hp h => ?_
  cases h
  refine ⟨_, rfl, ?_⟩
  refine (Weak.drop 26 (by omega)).trans ?_
  exact wk⟩
def mc139 : MCode :=
 (.seq (.reg (sq 4 [bo 4 34 0] ++ sq 8 [mb false])) (.seq (.reg (sq 9 [mv 3, mv 2, bn .geq 9 10, mv 11] ++ sg 12 true 13 [mv 3, la 1 4, mv 1, mv 2, cf 79 [14, 15, 16], bn .lss 13 17] ++ sq 19 [pa 12 18] ++ sq 8 [mv 19])) .ret))
theorem fn139 : MFn Tryz.prog 139 mc139 20 [.tmp 8] := ⟨_, Tryz.func139, by kernel_rfl, Tryz.ntmps139, by kernel_rfl⟩
noncomputable def F_impl_inside (sig : (List Int)) (t : (List Int)) (at' : Int) (p : Int) : Option Bool :=
 if (decide (at' ≤ p)) = true then
  (F_impl_endAt sig t at').bind fun r =>
  some (decide (p < r))
 else
  some false
instance c_impl_inside {sig : (List Int)} {t : (List Int)} {at' : Int} {p : Int} : HasC (F_impl_inside sig t at' p) fun rr => PFun Tryz.prog 139 [D_impl_Sig sig, (slD 1 iD) t, iD at', iD p] (bD rr) := ⟨@fun rr h => by
  delta F_impl_inside at h
  refine fn139.pureL (vcm_sound ?_)
  delta mc139
  refine stp ?_
  exact aut⟩
def mc129 : MCode :=
 (.seq (.reg (sq 2 [bo 2 37 0] ++ sq 4 [.mv (.const (.slice none 0 0))])) (.seq (.reg (sq 9 [la 2 2, mv 1, cf 116 [9, 10]] ++ sq 5 [mv 11])) (.seq (.reg (sq 6 [.mv (.const (.slice none 0 0))])) (.seq (.seq (.reg (sq 12 [mv 5, ln 12, mi 0])) (.block 0 (.loop (.seq (.reg (sq 15 [bn .lss 14 13])) (.seq (.cond (t0 15) .skip (.exit 0)) (.seq (.block 1 (.seq (.reg (sq 16 [mv 14, ix 1 12 14, ld 17] ++ sq 7 [mv 16, mv 18])) (.seq (.draw (sq 19 [mv 7, bi .add 19 1, mv 5, ln 21, bn .eql 20 22, mv 23] ++ sg 24 false 25 [fa 0 2, la 1 25, mv 1, mv 8, mv 5, mv 7, bi .add 30 1, ix 1 29 31, ld 32, cf 139 [26, 27, 28, 33], nt 34] ++ sq 36 [po 24 35]) [[], [0], [], [2], [1, 3], [4], [5], [6, 5], [5], [5], [5], [5], [11, 5], [10, 12, 5], [13, 5], [7, 8, 9, 14, 5, 5], [15, 5], [5, 16]]) (.cond (t0 36) (.reg (sq 37 [mv 6, mv 8, .bsl 39 3 1 [(t0 38)], ap 40 3 1 8 37 39] ++ sq 6 [mv 40])) .skip)))) (.reg (sq 41 [bi .add 14 1] ++ sq 14 [mv 41])))))))) (.seq (.reg (sq 42 [mv 6] ++ sq 4 [mv 42])) .ret)))))
theorem fn129 : MFn Tryz.prog 129 mc129 43 [.tmp 4] := ⟨_, Tryz.func129, by kernel_rfl, Tryz.ntmps129, by kernel_rfl⟩
noncomputable def F_impl_inmost_l1 (sys : ((List Int) × (List ((List Int) × (List Int))))) (t : (List Int)) (r : (List Int)) : ((List Int) × Int) → Option (((List Int) × Int) ⊕ (List Int))
 | (out, v14) =>
  if (decide (v14 < (r.length : Int))) = true then
   if 0 ≤ v14 ∧ v14 < (r.length : Int) then
    if ((IntKind.i64.wrap (v14 + 1)) == (r.length : Int)) = true then
     if (out.length + 1) * 8 ≤ 140737488355328 then
      some (.inl ((out ++ [(r.getD v14.toNat default)]), (IntKind.i64.wrap (v14 + 1))))
     else none
    else
     if 0 ≤ (IntKind.i64.wrap (v14 + 1)) ∧ (IntKind.i64.wrap (v14 + 1)) < (r.length : Int) then
      (F_impl_inside sys.1 t (r.getD v14.toNat default) (r.getD (IntKind.i64.wrap (v14 + 1)).toNat default)).bind fun r_1 =>
      if r_1 = true then
       some (.inl (out, (IntKind.i64.wrap (v14 + 1))))
      else
       if (out.length + 1) * 8 ≤ 140737488355328 then
        some (.inl ((out ++ [(r.getD v14.toNat default)]), (IntKind.i64.wrap (v14 + 1))))
       else none
     else none
   else none
  else
   Option.map Sum.inr (
    some out)
noncomputable def F_impl_inmost (sys : ((List Int) × (List ((List Int) × (List Int))))) (t : (List Int)) : Option (List Int) :=
 (F_impl_redexes sys t).bind fun r =>
 loopC (F_impl_inmost_l1 sys t r) ([], 0)
instance c_impl_inmost {sys : ((List Int) × (List ((List Int) × (List Int))))} {t : (List Int)} : HasC (F_impl_inmost sys t) fun rr => PFun Tryz.prog 129 [D_impl_System sys, (slD 1 iD) t] ((slD 1 iD) rr) := ⟨@fun rr h => by
  delta F_impl_inmost at h
  refine fn129.pureL (vcm_sound ?_)
  delta mc129
  refine stp ?_
  refine rC h fun r hr h => ?_
  refine m_loopF h [6, 7, 8, 14, 15, 16, 17, 18, 19, 20, 21, 22, 23, 24, 25, 26, 27, 28, 29, 30, 31, 32, 33, 34, 35, 36, 37, 38, 39, 40, 41] (fun pp => [(6, .own 1 40 (List.map iD pp.1)), (14, .d (iD pp.2))]) (fun pp => [(2, .obj 37 [.d (slD 1 iD sys.1), .d (slD 2 D_impl_Rule sys.2)]), (40, .tok 3 1 pp.1.length)]) ?_ ?_
  · try dsimp only
    refine (Weak.thaw 6 40 3 1 rfl rfl).trans ?_
    exact wk
  rintro ⟨out, v14⟩ t1 h hb1
  unfold F_impl_inmost_l1 at h
  try dsimp only at h
  refine vcm_sound (stp ?_)
  refine iT h fun hc h => ?_
  refine ndI h fun hp h => ?_
  refine it h (fun hc h => ?_) fun hc h => ?_
  · refine drQ_of (by kernel_rfl) (stp ?_)
    refine ndI h fun hp h => ?_
    cases h
    refine ⟨_, rfl, ?_⟩
    refine (Weak.drop 39 (by omega)).trans ?_
    exact wk
  refine ndI h fun hp h => ?_
  refine dC h fun r_1 hr_1 h => ?_
  refine drQ_of (by kernel_rfl) (stp ?_)
  refine iF h fun hc h => ?_
  refine ndI h fun hp h => ?_
  cases h
  refine ⟨_, rfl, ?_⟩
  refine (Weak.drop 39 (by omega)).trans ?_
  exact wk⟩
def mc117 : MCode :=
 (.seq (.reg (sq 1 [bo 1 146 0, mi 0])) (.seq (.reg (sq 3 [fa 0 1, la 2 3, fa 2 1, ld 5, cf 129 [4, 6], .ixa 1 (t0 7) (i0 0), ld 8] ++ sq 2 [mv 9])) .ret))
theorem fn117 : MFn Tryz.prog 117 mc117 10 [.tmp 2] := ⟨_, Tryz.func117, by kernel_rfl, Tryz.ntmps117, by kernel_rfl⟩
noncomputable def F_impl_choice_inmost (c : ((List Int) × (List ((List Int) × (List Int))) × (List Int) × (List Int))) : Option Int :=
 (F_impl_inmost (c.1, c.2.1) c.2.2.1).bind fun r =>
 if 0 ≤ 0 ∧ 0 < (r.length : Int) then
  some (r.getD 0 default)
 else none
instance c_impl_choice_inmost {c : ((List Int) × (List ((List Int) × (List Int))) × (List Int) × (List Int))} : HasC (F_impl_choice_inmost c) fun rr => PFun Tryz.prog 117 [D_impl_choice c] (iD rr) := ⟨@fun rr h => by
  delta F_impl_choice_inmost at h
  refine fn117.pureL (vcm_sound ?_)
  delta mc117
  refine stp ?_
  exact aut⟩
def mc118 : MCode :=
 (.seq (.reg (sq 1 [bo 1 146 0, mi 0])) (.seq (.reg (sq 3 [fa 3 1, ld 3, .ixa 1 (t0 4) (i0 0), ld 5] ++ sq 2 [mv 6])) .ret))
theorem fn118 : MFn Tryz.prog 118 mc118 7 [.tmp 2] := ⟨_, Tryz.func118, by kernel_rfl, Tryz.ntmps118, by kernel_rfl⟩
noncomputable def F_impl_choice_outmost (c : ((List Int) × (List ((List Int) × (List Int))) × (List Int) × (List Int))) : Option Int :=
 if 0 ≤ 0 ∧ 0 < (c.2.2.2.length : Int) then
  some (c.2.2.2.getD 0 default)
 else none
instance c_impl_choice_outmost {c : ((List Int) × (List ((List Int) × (List Int))) × (List Int) × (List Int))} : HasC (F_impl_choice_outmost c) fun rr => PFun Tryz.prog 118 [D_impl_choice c] (iD rr) := ⟨@fun rr h => by
  delta F_impl_choice_outmost at h
  refine fn118.pureL (vcm_sound ?_)
  delta mc118
  refine stp ?_
  exact aut⟩
def mc119 : MCode :=
 (.seq (.reg (sq 1 [bo 1 146 0, mi 0])) (.seq (.reg (sq 3 [fa 3 1, ld 3, fa 3 1, ld 5, ln 6, bi .sub 7 1, ix 1 4 8, ld 9] ++ sq 2 [mv 10])) .ret))
theorem fn119 : MFn Tryz.prog 119 mc119 11 [.tmp 2] := ⟨_, Tryz.func119, by kernel_rfl, Tryz.ntmps119, by kernel_rfl⟩
noncomputable def F_impl_choice_last (c : ((List Int) × (List ((List Int) × (List Int))) × (List Int) × (List Int))) : Option Int :=
 if 0 ≤ (IntKind.i64.wrap ((c.2.2.2.length : Int) - 1)) ∧ (IntKind.i64.wrap ((c.2.2.2.length : Int) - 1)) < (c.2.2.2.length : Int) then
  some (c.2.2.2.getD (IntKind.i64.wrap ((c.2.2.2.length : Int) - 1)).toNat default)
 else none
instance c_impl_choice_last {c : ((List Int) × (List ((List Int) × (List Int))) × (List Int) × (List Int))} : HasC (F_impl_choice_last c) fun rr => PFun Tryz.prog 119 [D_impl_choice c] (iD rr) := ⟨@fun rr h => by
  delta F_impl_choice_last at h
  refine fn119.pureL (vcm_sound ?_)
  delta mc119
  refine stp ?_
  exact aut⟩
def mc104_impl_pick : MCode :=
 (.seq (.reg (sq 3 [bo 3 37 0] ++ sq 6 [mi 0])) (.seq (.draw (sq 9 [la 2 3, mv 1, la 2 3, mv 1, cf 116 [11, 12], .build [.sl 0 (some true) [], .sl 0 (some true) [], .sl 0 (some true) [], .sl 0 (some true) []] [(0, 2, (t0 9)), (2, 1, (t0 10)), (3, 1, (t0 13))]] ++ sq 7 [.alloc 7 146 [.sl 0 (some true) [], .sl 0 (some true) [], .sl 0 (some true) [], .sl 0 (some true) []]] ++ s0 (sr 4 7 14)) [[], [], [], [], [2, 3], [0, 1, 4], [], [6, 5, 4, 0, 1, 2, 3, 4, 5, 6]]) (.seq (.seq (.reg (sq 15 [fa 3 7, ld 15, ln 16, bi .eql 17 0])) (.cond (t0 18) (.seq (.reg (sq 6 [mi (-1)])) .ret) .skip)) (.seq (.reg (sq 19 [la 4 7, .mkfn 117 [(t0 19)] [], la 4 7, .mkfn 118 [(t0 21)] [], la 4 7, .mkfn 119 [(t0 23)] [], .bslo 25 142 1 [(t0 20), (t0 22), (t0 24)]] ++ sq 8 [mv 25])) (.seq (.reg (sq 26 [mv 8, mv 2, bi .sub 27 1, ix 1 26 28, ld 29, .callv (t0 30) []] ++ sq 6 [mv 31])) .ret)))))
theorem fn104_impl_pick : MFn Tryz.prog 104 mc104_impl_pick 32 [.tmp 6] := ⟨_, Tryz.func104, by kernel_rfl, Tryz.ntmps104, by kernel_rfl⟩
noncomputable def F_impl_pick (sys : ((List Int) × (List ((List Int) × (List Int))))) (t : (List Int)) (strategy : Int) : Option Int :=
 (F_impl_redexes sys t).bind fun r =>
 if ((r.length : Int) == 0) = true then
  some (-1)
 else
  if ((IntKind.i64.wrap (strategy - 1)) == 0) = true then
   (F_impl_choice_inmost (sys.1, sys.2, t, r)).bind fun r_1 =>
   some r_1
  else
   if ((IntKind.i64.wrap (strategy - 1)) == 1) = true then
    (F_impl_choice_outmost (sys.1, sys.2, t, r)).bind fun r_2 =>
    some r_2
   else
    if ((IntKind.i64.wrap (strategy - 1)) == 2) = true then
     (F_impl_choice_last (sys.1, sys.2, t, r)).bind fun r_3 =>
     some r_3
    else
     none
instance c_impl_pick {sys : ((List Int) × (List ((List Int) × (List Int))))} {t : (List Int)} {strategy : Int} : HasC (F_impl_pick sys t strategy) fun rr => PFun Tryz.prog 104 [D_impl_System sys, (slD 1 iD) t, iD strategy] (iD rr) := ⟨@fun rr h => by
  delta F_impl_pick at h
  refine fn104_impl_pick.pureL (vcm_sound ?_)
  delta mc104_impl_pick
  refine stp ?_
  refine dC h fun r hr h => ?_
  refine drQ_of (by kernel_rfl) (stp ?_)
  refine iF h fun hc h => ?_
  refine nds ?_
  rcases ite_some h with ⟨hc, h⟩ | ⟨hc, h⟩
  · have hq := eq_of_beq hc
    simp only [hq]
    refine stp ?_
    refine nds ?_
    refine need_i (by kernel_rfl) ?_
    exact aut
  · skip
    rcases ite_some h with ⟨hc, h⟩ | ⟨hc, h⟩
    · have hq := eq_of_beq hc
      simp only [hq]
      refine stp ?_
      refine nds ?_
      refine need_i (by kernel_rfl) ?_
      exact aut
    · skip
      rcases ite_some h with ⟨hc, h⟩ | ⟨hc, h⟩
      · have hq := eq_of_beq hc
        simp only [hq]
        refine stp ?_
        refine nds ?_
        refine need_i (by kernel_rfl) ?_
        exact aut
      · cases h⟩
noncomputable def F_slices_Grow_int64_int64 (n : Int) : Option (List Int) := if 0 ≤ n ∧ n * 8 ≤ 140737488355328 then some [] else none
instance c_slices_Grow_int64_int64 {n : Int} : HasC (F_slices_Grow_int64_int64 n) fun rr => ACalls Tryz.prog 143 [.d (.sl 0 (some true) []), .d (iD n)] [] 0 fun xx ss => xx = .own 1 0 (List.map iD rr) ∧ ss = [(0, .tok 2 1 rr.length)] := ⟨fun h => by
  obtain ⟨hp, h⟩ := need_some h
  cases h
  exact grow_nil (i0 := Tryz.t2) (z := _) Tryz.grow143 (by kernel_rfl) rfl (by decide) (by decide) (by decide) (by decide) hp.1 hp.2⟩
def mc135 : MCode :=
 (.seq (.reg (sq 2 [.mv (.const (.slice none 0 0))])) (.seq (.reg (sq 3 [mi 0])) (.seq (.seq (.reg (sq 9 [mv 0, ln 9, mi 0])) (.block 0 (.loop (.seq (.reg (sq 12 [bn .lss 11 10])) (.seq (.cond (t0 12) .skip (.exit 0)) (.seq (.block 1 (.seq (.reg (sq 13 [ix 1 9 11, ld 13] ++ sq 5 [mv 14])) (.seq (.reg (sq 15 [mv 3, mv 5, ln 16, bn .add 15 17] ++ sq 3 [mv 18])) (.seq (.reg (sq 19 [mv 3, bi .lss 19 0])) (.cond (t0 20) (.reg (sq 21 [.dead] ++ s0 .dead)) .skip))))) (.reg (sq 22 [bi .add 11 1] ++ sq 11 [mv 22])))))))) (.seq (.reg (sq 23 [mv 3, .callf 143 [(.const (.slice none 0 0)), (t0 23)]] ++ sq 6 [mv 24])) (.seq (.seq (.reg (sq 25 [mv 0, ln 25, mi 0])) (.block 2 (.loop (.seq (.reg (sq 28 [bn .lss 27 26])) (.seq (.cond (t0 28) .skip (.exit 2)) (.seq (.block 3 (.seq (.reg (sq 29 [ix 1 25 27, ld 29] ++ sq 8 [mv 30])) (.reg (sq 31 [mv 6, mv 8, ap 33 2 1 8 31 32] ++ sq 6 [mv 33])))) (.reg (sq 34 [bi .add 27 1] ++ sq 27 [mv 34])))))))) (.seq (.reg (sq 35 [mv 6] ++ sq 2 [mv 35])) .ret))))))
theorem fn135 : MFn Tryz.prog 135 mc135 36 [.tmp 2] := ⟨_, Tryz.func135, by kernel_rfl, Tryz.ntmps135, by kernel_rfl⟩
noncomputable def F_slices_Concat_int64_int64_l2 (slices : (List (List Int))) : ((List Int) × Int) → Option (((List Int) × Int) ⊕ (List Int))
 | (newslice, v27) =>
  if (decide (v27 < (slices.length : Int))) = true then
   if 0 ≤ v27 ∧ v27 < (slices.length : Int) then
    if (newslice.length + (slices.getD v27.toNat default).length) * 8 ≤ 140737488355328 then
     some (.inl ((newslice ++ (slices.getD v27.toNat default)), (IntKind.i64.wrap (v27 + 1))))
    else none
   else none
  else
   Option.map Sum.inr (
    some newslice)
noncomputable def F_slices_Concat_int64_int64_l1 (slices : (List (List Int))) : (Int × Int) → Option ((Int × Int) ⊕ (List Int))
 | (size, v11) =>
  if (decide (v11 < (slices.length : Int))) = true then
   if 0 ≤ v11 ∧ v11 < (slices.length : Int) then
    if (decide ((IntKind.i64.wrap (size + ((slices.getD v11.toNat default).length : Int))) < 0)) = true then
     none
    else
     some (.inl ((IntKind.i64.wrap (size + ((slices.getD v11.toNat default).length : Int))), (IntKind.i64.wrap (v11 + 1))))
   else none
  else
   Option.map Sum.inr (
    (F_slices_Grow_int64_int64 size).bind fun r =>
    loopC (F_slices_Concat_int64_int64_l2 slices) (r, 0))
noncomputable def F_slices_Concat_int64_int64 (slices : (List (List Int))) : Option (List Int) :=
 loopC (F_slices_Concat_int64_int64_l1 slices) (0, 0)
instance c_slices_Concat_int64_int64 {slices : (List (List Int))} : HasC (F_slices_Concat_int64_int64 slices) fun rr => ACalls Tryz.prog 135 [.d (slD 1 (slD 1 iD) slices)] [] 0 fun xx ss => xx = .own 1 24 (List.map iD rr) ∧ ss = [(24, .tok 2 1 rr.length)] := ⟨@fun rr h => by
  delta F_slices_Concat_int64_int64 at h
  refine fn135.callsO (vcm_sound ?_)
  delta mc135
  refine stp ?_
  refine m_lW h [3, 5, 11, 12, 13, 14, 15, 16, 17, 18, 19, 20, 21, 22] (fun pp => [(3, .d (iD pp.1)), (11, .d (iD pp.2))]) (fun pp => []) ?_
  rintro ⟨size, v11⟩ t1 h hb1
  unfold F_slices_Concat_int64_int64_l1 at h
  try dsimp only at h
  refine vcm_sound (stp ?_)
  refine iF h fun hc h => ?_
  replace h := inr_some h hb1
  refine rCo [] [(0, 24)] h fun r hr h => ?_
  refine m_lW h [6, 8, 27, 28, 29, 30, 31, 32, 33, 34] (fun pp => [(6, .own 1 24 (List.map iD pp.1)), (27, .d (iD pp.2))]) (fun pp => [(24, .tok 2 1 pp.1.length)]) ?_
  rintro ⟨newslice, v27⟩ t1 h hb1
  unfold F_slices_Concat_int64_int64_l2 at h
  try dsimp only at h
  refine vcm_sound (stp ?_)
  exact aut⟩
def mc124 : MCode :=
 (.seq (.reg (sq 4 [bo 4 34 0] ++ sq 8 [.mv (.const (.slice none 0 0)), mb false])) (.seq (.draw (sq 11 [mv 1, mv 2, .slc (t0 11) 1 none (some (t0 12)) none, mv 3, mv 1, la 1 4, mv 1, mv 2, cf 79 [16, 17, 18], .slc (t0 15) 1 (some (t0 19)) none none, .bsl 21 22 1 [(t0 13), (t0 14), (t0 20)], cf 135 [21]] ++ sq 10 [mv 22]) [[], [], [0, 1], [], [], [], [], [], [5, 6, 7], [4, 8], [2, 3, 9], [10, 8], [11, 11, 0, 1, 2, 3, 4, 5, 6, 7, 8, 9, 10, 11]]) (.seq (.seq (.reg (sq 23 [mv 10, ln 23, bi .gtr 24 60])) (.cond (t0 25) (.seq (.reg (sq 8 [.mv (.const (.slice none 0 0)), mb false])) .ret) .skip)) (.seq (.reg (sq 26 [mv 10] ++ sq 8 [mv 26, mb true])) .ret))))
theorem fn124 : MFn Tryz.prog 124 mc124 27 [.tmp 8, .tmp 9] := ⟨_, Tryz.func124, by kernel_rfl, Tryz.ntmps124, by kernel_rfl⟩
noncomputable def F_impl_put (sig : (List Int)) (t : (List Int)) (at' : Int) (u : (List Int)) : Option ((List Int) × Bool) :=
 if 0 ≤ at' ∧ at' ≤ (t.length : Int) then
  (F_impl_endAt sig t at').bind fun r =>
  if 0 ≤ r ∧ r ≤ (t.length : Int) then
   (F_slices_Concat_int64_int64 [(t.take at'.toNat), u, (t.drop r.toNat)]).bind fun r_1 =>
   if (decide (60 < (r_1.length : Int))) = true then
    some ([], false)
   else
    some (r_1, true)
  else none
 else none
instance c_impl_put {sig : (List Int)} {t : (List Int)} {at' : Int} {u : (List Int)} : HasC (F_impl_put sig t at' u) fun rr => PFunN Tryz.prog 124 [D_impl_Sig sig, (slD 1 iD) t, iD at', (slD 1 iD) u] [(slD 1 iD) rr.1, bD rr.2] := ⟨@fun rr h => by
  delta F_impl_put at h
  refine fn124.pureLN (vcm_sound ?_)
  delta mc124
  refine stp ?_
  refine ndI h fun hp h => ?_
  refine dC h fun r hr h => ?_
  refine ndI h fun hp h => ?_
  refine dCo [] [(24, 22)] h fun r_1 hr_1 h => ?_
  exact aut⟩
def mc106 : MCode :=
 (.seq (.reg (sq 4 [bo 4 37 0] ++ sq 8 [.mv (.const (.slice none 0 0)), mb false])) (.seq (.draw (sq 14 [fa 0 4, la 1 14, fa 1 4, ld 16, mv 3, ix 2 17 18, fa 0 19, ld 20, fa 0 4, la 1 22, mv 1, mv 2, cf 122 [23, 24, 25], cf 121 [15, 21, 26]] ++ sq 13 [mv 27] ++ sq 28 [ex 13 0, ex 13 1] ++ sq 10 [.alloc 10 120 [.sl 0 (some true) []]] ++ s0 (sr 1 10 28) ++ sq 11 [mv 29]) [[], [0], [], [2], [], [3, 4], [5], [6], [], [8], [], [], [9, 10, 11], [1, 7, 12, 12], [13], [14], [14], [], [17, 15, 13, 0, 1, 2, 3, 4, 5, 6, 7, 8, 9, 10, 11, 12, 13, 14, 15, 17], [16, 18, 0, 1, 2, 3, 4, 5, 6, 7, 8, 9, 10, 11, 12, 13, 14, 15, 16, 17, 18]]) (.seq (.seq (.reg (sq 30 [mv 11, nt 30])) (.cond (t0 31) (.seq (.reg (sq 8 [.mv (.const (.slice none 0 0)), mb false])) .ret) .skip)) (.seq (.draw (sq 33 [la 1 10, fa 1 4, ld 34, mv 3, ix 2 35 36, fa 1 37, ld 38, cf 123 [33, 39]] ++ sq 32 [mv 40] ++ sq 41 [ex 32 0, ex 32 1] ++ sq 12 [mv 41] ++ sq 11 [mv 42]) [[], [], [1], [], [2, 3], [4], [5], [0, 6], [7], [8], [8], [9, 7, 0, 1, 2, 3, 4, 5, 6, 7, 8, 9], [10, 11, 0, 1, 2, 3, 4, 5, 6, 7, 8, 9, 10, 11]]) (.seq (.seq (.reg (sq 43 [mv 11, nt 43])) (.cond (t0 44) (.seq (.reg (sq 8 [.mv (.const (.slice none 0 0)), mb false])) .ret) .skip)) (.seq (.reg (sq 45 [fa 0 4, la 1 45, mv 1, mv 2, mv 12, cf 124 [46, 47, 48, 49], ex 50 0, ex 50 1] ++ sq 8 [mv 51, mv 52])) .ret))))))
theorem fn106 : MFn Tryz.prog 106 mc106 53 [.tmp 8, .tmp 9] := ⟨_, Tryz.func106, by kernel_rfl, Tryz.ntmps106, by kernel_rfl⟩
noncomputable def F_impl_step (sys : ((List Int) × (List ((List Int) × (List Int))))) (t : (List Int)) (at' : Int) (rule : Int) : Option ((List Int) × Bool) :=
 if 0 ≤ rule ∧ rule < (sys.2.length : Int) then
  (F_impl_subAt sys.1 t at').bind fun r =>
  (F_impl_match sys.1 ((sys.2.getD rule.toNat default).1) r).bind fun r_1 =>
  if r_1.2 = true then
   if 0 ≤ rule ∧ rule < (sys.2.length : Int) then
    (F_impl_fill r_1.1 ((sys.2.getD rule.toNat default).2)).bind fun r_2 =>
    if r_2.2 = true then
     (F_impl_put sys.1 t at' r_2.1).bind fun r_3 =>
     some r_3
    else
     some ([], false)
   else none
  else
   some ([], false)
 else none
instance c_impl_step {sys : ((List Int) × (List ((List Int) × (List Int))))} {t : (List Int)} {at' : Int} {rule : Int} : HasC (F_impl_step sys t at' rule) fun rr => PFunN Tryz.prog 106 [D_impl_System sys, (slD 1 iD) t, iD at', iD rule] [(slD 1 iD) rr.1, bD rr.2] := ⟨@fun rr h => by
  delta F_impl_step at h
  refine fn106.pureLN (vcm_sound ?_)
  delta mc106
  refine stp ?_
  exact aut⟩
def mc80 : MCode :=
 (.seq (.reg (sq 4 [bo 4 37 0] ++ sq 8 [.alloc 8 80 [.sl 0 (some true) [], .sl 0 (some true) []], mb false])) (.seq (.reg (sq 15 [mv 1, cf 103 [15], .build [.sl 0 (some true) [], .sl 0 (some true) []] [(0, 1, (t0 16))]] ++ sq 10 [.alloc 10 80 [.sl 0 (some true) [], .sl 0 (some true) []]] ++ s0 (sr 2 10 17))) (.block 0 (.loop (.block 1 (.seq (.reg (sq 18 [la 2 4, mv 1, mv 2, cf 104 [18, 19, 20]] ++ sq 11 [mv 21])) (.seq (.seq (.reg (sq 22 [mv 11, bi .lss 22 0])) (.cond (t0 23) (.seq (.reg (sq 24 [la 2 10] ++ s0 (sr 2 8 24) ++ sq 9 [mb true])) .ret) .skip)) (.seq (.seq (.reg (sq 25 [fa 1 10, ld 25, ln 26, mv 3, bn .eql 27 28])) (.cond (t0 29) (.seq (.reg (sq 30 [la 2 10] ++ s0 (sr 2 8 30) ++ sq 9 [mb false])) .ret) .skip)) (.seq (.reg (sq 31 [la 2 4, mv 1, mv 11, cf 105 [31, 32, 33]] ++ sq 12 [mv 34])) (.seq (.reg (sq 36 [la 2 4, mv 1, mv 11, mv 12, cf 106 [36, 37, 38, 39]] ++ sq 35 [mv 40] ++ sq 41 [ex 35 0, ex 35 1] ++ sq 13 [mv 41, mv 42])) (.seq (.seq (.reg (sq 43 [mv 14, nt 43])) (.cond (t0 44) (.seq (.reg (sq 45 [la 2 10] ++ s0 (sr 2 8 45) ++ sq 9 [mb false])) .ret) .skip)) (.seq (.reg (sq 46 [fa 1 10, ld 46, mv 11, mv 12, mv 13, .build [.lit (.int .i64 0), .lit (.int .i64 0), .sl 0 (some true) []] [(0, 1, (t0 48)), (1, 1, (t0 49)), (2, 1, (t0 50))], .bsl 52 104 3 [(t0 51)], ap 53 104 3 40 47 52, fa 1 10] ++ s0 (sr 1 54 53))) (.reg (sq 55 [mv 13] ++ sq 1 [mv 55]))))))))))))))
theorem fn80 : MFn Tryz.prog 80 mc80 56 [.cell 8 2 true, .tmp 9] := ⟨_, Tryz.func80, by kernel_rfl, Tryz.ntmps80, by kernel_rfl⟩
noncomputable def F_impl_walkBy_l1 (sys : ((List Int) × (List ((List Int) × (List Int))))) (strategy : Int) (fuel : Int) (r : (List Int)) : ((List Int) × (List (Int × Int × (List Int)))) → Option (((List Int) × (List (Int × Int × (List Int)))) ⊕ (((List Int) × (List (Int × Int × (List Int)))) × Bool))
 | (t_1, w) =>
  (F_impl_pick sys t_1 strategy).bind fun r_1 =>
  if (decide (r_1 < 0)) = true then
   Option.map Sum.inr (
    some ((r, w), true))
  else
   if ((w.length : Int) == fuel) = true then
    Option.map Sum.inr (
     some ((r, w), false))
   else
    (F_impl_ruleAt sys t_1 r_1).bind fun r_2 =>
    (F_impl_step sys t_1 r_1 r_2).bind fun r_3 =>
    if r_3.2 = true then
     if (w.length + 1) * 40 ≤ 140737488355328 then
      some (.inl (r_3.1, (w ++ [(r_1, r_2, r_3.1)])))
     else none
    else
     Option.map Sum.inr (
      some ((r, w), false))
noncomputable def F_impl_walkBy (sys : ((List Int) × (List ((List Int) × (List Int))))) (t : (List Int)) (strategy : Int) (fuel : Int) : Option (((List Int) × (List (Int × Int × (List Int)))) × Bool) :=
 (F_slices_Clone_int64_int64 t).bind fun r =>
 loopC (F_impl_walkBy_l1 sys strategy fuel r) (t, [])
instance c_impl_walkBy {sys : ((List Int) × (List ((List Int) × (List Int))))} {t : (List Int)} {strategy : Int} {fuel : Int} : HasC (F_impl_walkBy sys t strategy fuel) fun rr => PFunN Tryz.prog 80 [D_impl_System sys, (slD 1 iD) t, iD strategy, iD fuel] [D_impl_Walk rr.1, bD rr.2] := ⟨@fun rr h => by
  delta F_impl_walkBy at h
  refine fn80.pureLN (vcm_sound ?_)
  delta mc80
  refine stp ?_
  refine rC h fun r hr h => ?_
  refine m_loopF h [1, 9, 11, 12, 13, 14, 18, 19, 20, 21, 22, 23, 24, 25, 26, 27, 28, 29, 30, 31, 32, 33, 34, 35, 36, 37, 38, 39, 40, 41, 42, 43, 44, 45, 46, 47, 48, 49, 50, 51, 52, 53, 54, 55] (fun pp => [(1, .d (slD 1 iD pp.1))]) (fun pp => [(4, .obj 37 [.d (slD 1 iD sys.1), .d (slD 2 D_impl_Rule sys.2)]), (8, .obj 80 [.d (.sl 0 (some true) []), .d (.sl 0 (some true) [])]), (10, .obj 80 [.d (slD 1 iD r), .own 3 53 (List.map D_impl_Step pp.2)]), (53, .tok 104 3 pp.2.length)]) ?_ ?_
  · try dsimp only
    refine (Weak.thawCell 10 1 53 104 3 rfl rfl rfl).trans ?_
    exact wk
  rintro ⟨t_1, w⟩ t1 h hb1
  unfold F_impl_walkBy_l1 at h
  try dsimp only at h
  refine vcm_sound (stp ?_)
  refine rC h fun r_1 hr_1 h => ?_
  refine iF h fun hc h => ?_
  refine iF h fun hc h => ?_
  refine rC h fun r_2 hr_2 h => ?_
  refine rCN h fun r_3 hr_3 h => ?_
  refine iT h fun hc h => ?_
  refine ndI h fun hp h => ?_
  cases h
  refine ⟨_, rfl, ?_⟩
  refine (Weak.drop 52 (by omega)).trans ?_
  exact wk⟩
def mc81 : MCode :=
 (.seq (.reg (sq 1 [bo 1 80 0, .mv (.const (.slice none 0 0))])) (.seq (.seq (.reg (sq 4 [fa 1 1, ld 4, ln 5] ++ sq 3 [mv 6])) (.seq (.reg (sq 7 [mv 3, bi .gtr 7 0])) (.cond (t0 8) (.seq (.reg (sq 9 [fa 1 1, ld 9, mv 3, bi .sub 11 1, ix 3 10 12, fa 2 13, ld 14] ++ sq 2 [mv 15])) .ret) .skip))) (.seq (.reg (sq 16 [fa 0 1, ld 16] ++ sq 2 [mv 17])) .ret)))
theorem fn81 : MFn Tryz.prog 81 mc81 18 [.tmp 2] := ⟨_, Tryz.func81, by kernel_rfl, Tryz.ntmps81, by kernel_rfl⟩
noncomputable def F_impl_Walk_end (w : ((List Int) × (List (Int × Int × (List Int))))) : Option (List Int) :=
 if (decide (0 < (w.2.length : Int))) = true then
  if 0 ≤ (IntKind.i64.wrap ((w.2.length : Int) - 1)) ∧ (IntKind.i64.wrap ((w.2.length : Int) - 1)) < (w.2.length : Int) then
   some ((w.2.getD (IntKind.i64.wrap ((w.2.length : Int) - 1)).toNat default).2.2)
  else none
 else
  some w.1
instance c_impl_Walk_end {w : ((List Int) × (List (Int × Int × (List Int))))} : HasC (F_impl_Walk_end w) fun rr => PFun Tryz.prog 81 [D_impl_Walk w] ((slD 1 iD) rr) := ⟨@fun rr h => by
  delta F_impl_Walk_end at h
  refine fn81.pureL (vcm_sound ?_)
  delta mc81
  refine stp ?_
  exact aut⟩
def mc58 : MCode :=
 (.seq (.reg (sq 3 [bo 3 37 0] ++ sq 6 [.mv (.const (.slice none 0 0)), mb false])) (.seq (.reg (sq 11 [la 2 3, mv 1, mv 2, .callf 80 [(t0 11), (t0 12), (i0 1), (t0 13)]] ++ sq 10 [mv 14] ++ sq 15 [ex 10 0, ex 10 1] ++ sq 8 [.alloc 8 80 [.sl 0 (some true) [], .sl 0 (some true) []]] ++ s0 (sr 2 8 15) ++ sq 9 [mv 16])) (.seq (.reg (sq 17 [la 2 8, cf 81 [17], mv 9] ++ sq 6 [mv 18, mv 19])) .ret)))
theorem fn58 : MFn Tryz.prog 58 mc58 20 [.tmp 6, .tmp 7] := ⟨_, Tryz.func58, by kernel_rfl, Tryz.ntmps58, by kernel_rfl⟩
noncomputable def F_impl_normalOf (sys : ((List Int) × (List ((List Int) × (List Int))))) (t : (List Int)) (fuel : Int) : Option ((List Int) × Bool) :=
 (F_impl_walkBy sys t 1 fuel).bind fun r =>
 (F_impl_Walk_end r.1).bind fun r_1 =>
 some (r_1, r.2)
instance c_impl_normalOf {sys : ((List Int) × (List ((List Int) × (List Int))))} {t : (List Int)} {fuel : Int} : HasC (F_impl_normalOf sys t fuel) fun rr => PFunN Tryz.prog 58 [D_impl_System sys, (slD 1 iD) t, iD fuel] [(slD 1 iD) rr.1, bD rr.2] := ⟨@fun rr h => by
  delta F_impl_normalOf at h
  refine fn58.pureLN (vcm_sound ?_)
  delta mc58
  refine stp ?_
  exact aut⟩
def mc57 : MCode :=
 (.seq (.reg (sq 4 [.mv (.const (.slice none 0 0)), mb false])) (.seq (.reg (sq 6 [la 2 1, mv 0, ld 2, cf 58 [6, 7, 8], ex 9 0, ex 9 1] ++ sq 4 [mv 10, mv 11])) .ret))
theorem fn57 : MFn Tryz.prog 57 mc57 12 [.tmp 4, .tmp 5] := ⟨_, Tryz.func57, by kernel_rfl, Tryz.ntmps57, by kernel_rfl⟩
noncomputable def F_impl_equalBy_1 (t : (List Int)) (o00 : (List Int)) (o01 : (List ((List Int) × (List Int)))) (o1 : Int) : Option ((List Int) × Bool) :=
 (F_impl_normalOf (o00, o01) t o1).bind fun r =>
 some r
instance c_impl_equalBy_1 {t : (List Int)} {o00 : (List Int)} {o01 : (List ((List Int) × (List Int)))} {o1 : Int} : HasC (F_impl_equalBy_1 t o00 o01 o1) fun rr => ACalls Tryz.prog 57 [.d (slD 1 iD t), .ptr 0 0, .ptr 1 0] [(0, .obj 37 [.d (slD 1 iD o00), .d (slD 2 D_impl_Rule o01)]), (1, .obj 3 [.d (iD o1)])] 2 fun xx ss => xx = .tup [.d (slD 1 iD rr.1), .d (bD rr.2)] ∧ ss = [(0, .obj 37 [.d (slD 1 iD o00), .d (slD 2 D_impl_Rule o01)]), (1, .obj 3 [.d (iD o1)])] := ⟨@fun rr h => by
  delta F_impl_equalBy_1 at h
  refine fn57.callsO (vcm_sound ?_)
  delta mc57
  refine stp ?_
  exact aut⟩
def mc56 : MCode :=
 (.seq (.reg (sq 6 [.mv (.const (.slice none 0 0)), .mv (.const (.slice none 0 0)), mb false])) (.seq (.reg (sq 14 [mv 2, mv 0, .callv (t0 14) [(t0 15)]] ++ sq 13 [mv 16] ++ sq 17 [ex 13 0, ex 13 1] ++ sq 9 [mv 17, mv 18])) (.seq (.reg (sq 20 [mv 2, mv 1, .callv (t0 20) [(t0 21)]] ++ sq 19 [mv 22] ++ sq 23 [ex 19 0, ex 19 1] ++ sq 11 [mv 23, mv 24])) (.seq (.reg (sq 25 [mv 9, mv 11, mv 10, mv 27] ++ sg 28 true 29 [mv 12] ++ sq 30 [pa 28 29] ++ sq 6 [mv 25, mv 26, mv 30])) .ret))))
theorem fn56 : MFn Tryz.prog 56 mc56 31 [.tmp 6, .tmp 7, .tmp 8] := ⟨_, Tryz.func56, by kernel_rfl, Tryz.ntmps56, by kernel_rfl⟩
noncomputable def F_impl_both_int64 (a : (List Int)) (b : (List Int)) (o00 : (List Int)) (o01 : (List ((List Int) × (List Int)))) (o1 : Int) : Option ((List Int) × (List Int) × Bool) :=
 (F_impl_equalBy_1 a o00 o01 o1).bind fun r =>
 (F_impl_equalBy_1 b o00 o01 o1).bind fun r_1 =>
 if r.2 = true then
  some (r.1, r_1.1, r_1.2)
 else
  some (r.1, r_1.1, false)
instance c_impl_both_int64 {a : (List Int)} {b : (List Int)} {o00 : (List Int)} {o01 : (List ((List Int) × (List Int)))} {o1 : Int} : HasC (F_impl_both_int64 a b o00 o01 o1) fun rr => ACalls Tryz.prog 56 [.d (slD 1 iD a), .d (slD 1 iD b), .fn 57 [] [.ptr 0 0, .ptr 1 0]] [(0, .obj 37 [.d (slD 1 iD o00), .d (slD 2 D_impl_Rule o01)]), (1, .obj 3 [.d (iD o1)])] 2 fun xx ss => xx = .tup [.d (slD 1 iD rr.1), .d (slD 1 iD rr.2.1), .d (bD rr.2.2)] ∧ ss = [(0, .obj 37 [.d (slD 1 iD o00), .d (slD 2 D_impl_Rule o01)]), (1, .obj 3 [.d (iD o1)])] := ⟨@fun rr h => by
  delta F_impl_both_int64 at h
  refine fn56.callsO (vcm_sound ?_)
  delta mc56
  refine stp ?_
  refine need_i (by kernel_rfl) ?_
  refine rCo [(0, 0), (1, 1)] [] h fun r hr h => ?_
  refine need_i (by kernel_rfl) ?_
  refine rCo [(0, 0), (1, 1)] [] h fun r_1 hr_1 h => ?_
  exact aut⟩
def mc39 : MCode :=
 (.seq (.reg (sq 4 [bo 4 37 0] ++ sq 7 [bo 7 3 3, mi 0])) (.seq (.reg (sq 13 [mv 1, mv 2, .mkfn 57 [] [(t0 4), (t0 7)], cf 56 [13, 14, 15]] ++ sq 12 [mv 16] ++ sq 17 [ex 12 0, ex 12 1, ex 12 2] ++ sq 9 [mv 17, mv 18, mv 19])) (.seq (.block 0 (.seq (.reg (sq 21 [mv 11, nt 21] ++ sq 20 [mv 22])) (.cond (t0 20) (.seq (.reg (sq 8 [mi (-1)])) .ret) (.seq (.reg (sq 24 [mv 9, mv 10, cf 59 [24, 25]] ++ sq 23 [mv 26])) (.cond (t0 23) (.seq (.reg (sq 8 [mi 1])) .ret) .skip))))) (.seq (.reg (sq 8 [mi 0])) .ret))))
theorem fn39 : MFn Tryz.prog 39 mc39 27 [.tmp 8] := ⟨_, Tryz.func39, by kernel_rfl, Tryz.ntmps39, by kernel_rfl⟩
noncomputable def F_impl_equalBy (sys : ((List Int) × (List ((List Int) × (List Int))))) (a : (List Int)) (b : (List Int)) (fuel : Int) : Option Int :=
 (F_impl_both_int64 a b sys.1 sys.2 fuel).bind fun r =>
 if r.2.2 = true then
  (F_slices_Equal_int64_int64 r.1 r.2.1).bind fun r_1 =>
  if r_1 = true then
   some 1
  else
   some 0
 else
  some (-1)
instance c_impl_equalBy {sys : ((List Int) × (List ((List Int) × (List Int))))} {a : (List Int)} {b : (List Int)} {fuel : Int} : HasC (F_impl_equalBy sys a b fuel) fun rr => PFun Tryz.prog 39 [D_impl_System sys, (slD 1 iD) a, (slD 1 iD) b, iD fuel] (iD rr) := ⟨@fun rr h => by
  delta F_impl_equalBy at h
  refine fn39.pureL (vcm_sound ?_)
  delta mc39
  refine stp ?_
  refine rCo [(0, 4), (1, 7)] [] h fun r hr h => ?_
  exact aut⟩
def mc18 : MCode :=
 (.seq (.reg (sq 4 [bo 4 37 0] ++ sq 8 [mi 0])) (.seq (.seq (.reg (sq 9 [la 2 4, mv 3, mv 1, mv 2, .bsl 13 22 1 [(t0 11), (t0 12)], cf 38 [9, 10, 13], nt 14])) (.cond (t0 15) (.seq (.reg (sq 8 [mi (-1)])) .ret) .skip)) (.seq (.reg (sq 16 [la 2 4, mv 1, mv 2, mv 3, cf 39 [16, 17, 18, 19]] ++ sq 8 [mv 20])) .ret)))
theorem fn18 : MFn Tryz.prog 18 mc18 21 [.tmp 8] := ⟨_, Tryz.func18, by kernel_rfl, Tryz.ntmps18, by kernel_rfl⟩
noncomputable def F_impl_EqualBy (sys : ((List Int) × (List ((List Int) × (List Int))))) (a : (List Int)) (b : (List Int)) (fuel : Int) : Option Int :=
 (F_impl_wordOk sys fuel [a, b]).bind fun r =>
 if r = true then
  (F_impl_equalBy sys a b fuel).bind fun r_1 =>
  some r_1
 else
  some (-1)
instance c_impl_EqualBy {sys : ((List Int) × (List ((List Int) × (List Int))))} {a : (List Int)} {b : (List Int)} {fuel : Int} : HasC (F_impl_EqualBy sys a b fuel) fun rr => PFun Tryz.prog 18 [D_impl_System sys, (slD 1 iD) a, (slD 1 iD) b, iD fuel] (iD rr) := ⟨@fun rr h => by
  delta F_impl_EqualBy at h
  refine fn18.pureL (vcm_sound ?_)
  delta mc18
  refine stp ?_
  exact aut⟩
def mc49 : MCode :=
 (.seq (.reg (sq 2 [bo 2 37 0] ++ sq 4 [mb false])) (.seq (.reg (sq 5 [la 2 2, cf 43 [5], mv 6] ++ sg 7 true 8 [fa 0 2, la 1 8, mv 1, cf 70 [9, 10]] ++ sq 12 [pa 7 11] ++ sq 4 [mv 12])) .ret))
theorem fn49 : MFn Tryz.prog 49 mc49 13 [.tmp 4] := ⟨_, Tryz.func49, by kernel_rfl, Tryz.ntmps49, by kernel_rfl⟩
noncomputable def F_spec_l7Right (sys : ((List Int) × (List ((List Int) × (List Int))))) (t : (List Int)) : Option Bool :=
 (F_spec_SystemOk sys).bind fun r =>
 if r = true then
  (F_spec_TermOk sys.1 t).bind fun r_1 =>
  some r_1
 else
  some false
instance c_spec_l7Right {sys : ((List Int) × (List ((List Int) × (List Int))))} {t : (List Int)} : HasC (F_spec_l7Right sys t) fun rr => PFun Tryz.prog 49 [D_impl_System sys, (slD 1 iD) t] (bD rr) := ⟨@fun rr h => by
  delta F_spec_l7Right at h
  refine fn49.pureL (vcm_sound ?_)
  delta mc49
  refine stp ?_
  exact aut⟩
def mc31 : MCode :=
 (.seq (.reg (sq 3 [bo 3 37 0] ++ sq 6 [mb false])) (.seq (.reg (sq 7 [la 2 3, mv 1, cf 49 [7, 8], mv 9] ++ sg 10 true 11 [mv 2, .callf 30 [(t0 11), (i0 0), (i0 60)]] ++ sq 13 [pa 10 12] ++ sq 6 [mv 13])) .ret))
theorem fn31 : MFn Tryz.prog 31 mc31 14 [.tmp 6] := ⟨_, Tryz.func31, by kernel_rfl, Tryz.ntmps31, by kernel_rfl⟩
noncomputable def F_spec_l22Right (sys : ((List Int) × (List ((List Int) × (List Int))))) (t : (List Int)) (fuel : Int) : Option Bool :=
 (F_spec_l7Right sys t).bind fun r =>
 if r = true then
  (F_spec_l1In fuel 0 60).bind fun r_1 =>
  some r_1
 else
  some false
instance c_spec_l22Right {sys : ((List Int) × (List ((List Int) × (List Int))))} {t : (List Int)} {fuel : Int} : HasC (F_spec_l22Right sys t fuel) fun rr => PFun Tryz.prog 31 [D_impl_System sys, (slD 1 iD) t, iD fuel] (bD rr) := ⟨@fun rr h => by
  delta F_spec_l22Right at h
  refine fn31.pureL (vcm_sound ?_)
  delta mc31
  refine stp ?_
  exact aut⟩
def mc71 : MCode :=
 (.seq (.reg (sq 3 [bo 3 37 0] ++ sq 6 [mb false])) (.seq (.reg (sq 7 [la 2 3, mv 1, cf 49 [7, 8], mv 9] ++ sg 10 true 11 [mv 2, .callf 30 [(t0 11), (i0 1), (i0 3)]] ++ sq 13 [pa 10 12] ++ sq 6 [mv 13])) .ret))
theorem fn71 : MFn Tryz.prog 71 mc71 14 [.tmp 6] := ⟨_, Tryz.func71, by kernel_rfl, Tryz.ntmps71, by kernel_rfl⟩
noncomputable def F_spec_l8Right (sys : ((List Int) × (List ((List Int) × (List Int))))) (t : (List Int)) (strategy : Int) : Option Bool :=
 (F_spec_l7Right sys t).bind fun r =>
 if r = true then
  (F_spec_l1In strategy 1 3).bind fun r_1 =>
  some r_1
 else
  some false
instance c_spec_l8Right {sys : ((List Int) × (List ((List Int) × (List Int))))} {t : (List Int)} {strategy : Int} : HasC (F_spec_l8Right sys t strategy) fun rr => PFun Tryz.prog 71 [D_impl_System sys, (slD 1 iD) t, iD strategy] (bD rr) := ⟨@fun rr h => by
  delta F_spec_l8Right at h
  refine fn71.pureL (vcm_sound ?_)
  delta mc71
  refine stp ?_
  exact aut⟩
def mc95 : MCode :=
 (.seq (.reg (sq 3 [bo 3 37 0] ++ sq 6 [mi 0])) (.seq (.reg (sq 11 [fa 0 3, la 1 11, mv 1, mv 2, cf 97 [12, 13, 14]] ++ sq 7 [mv 15])) (.seq (.seq (.reg (sq 8 [mi 0])) (.block 0 (.loop (.seq (.seq (.reg (sq 16 [mv 8, fa 1 3, ld 17, ln 18, bn .lss 16 19])) (.cond (t0 20) .skip (.exit 0))) (.seq (.block 1 (.seq (.draw (sq 24 [fa 0 3, la 1 24, fa 1 3, ld 26, mv 8, ix 2 27 28, fa 0 29, ld 30, mv 7, cf 96 [25, 31, 32]] ++ sq 23 [mv 33] ++ sq 34 [ex 23 0, ex 23 1] ++ sq 9 [.alloc 9 120 [.sl 0 (some true) []]] ++ s0 (sr 1 9 34) ++ sq 10 [mv 35]) [[], [0], [], [2], [], [3, 4], [5], [6], [], [1, 7, 8], [9], [10], [10], [], [13, 11, 9, 0, 1, 2, 3, 4, 5, 6, 7, 8, 9, 10, 11, 13], [12, 14, 0, 1, 2, 3, 4, 5, 6, 7, 8, 9, 10, 11, 12, 13, 14]]) (.seq (.reg (sq 36 [mv 10])) (.cond (t0 36) (.seq (.reg (sq 37 [mv 8] ++ sq 6 [mv 37])) .ret) .skip)))) (.reg (sq 21 [mv 8, bi .add 21 1] ++ sq 8 [mv 22]))))))) (.seq (.reg (sq 6 [mi (-1)])) .ret))))
theorem fn95 : MFn Tryz.prog 95 mc95 38 [.tmp 6] := ⟨_, Tryz.func95, by kernel_rfl, Tryz.ntmps95, by kernel_rfl⟩
noncomputable def F_spec_l8Redex_l1 (sys : ((List Int) × (List ((List Int) × (List Int))))) (r : (List Int)) : Int → Option (Int ⊕ Int)
 | rule =>
  if (decide (rule < (sys.2.length : Int))) = true then
   if 0 ≤ rule ∧ rule < (sys.2.length : Int) then
    (F_spec_l4Match sys.1 ((sys.2.getD rule.toNat default).1) r).bind fun r_1 =>
    if r_1.2 = true then
     Option.map Sum.inr (
      some rule)
    else
     some (.inl (IntKind.i64.wrap (rule + 1)))
   else none
  else
   Option.map Sum.inr (
    some (-1))
noncomputable def F_spec_l8Redex (sys : ((List Int) × (List ((List Int) × (List Int))))) (t : (List Int)) (at' : Int) : Option Int :=
 (F_spec_l1Sub sys.1 t at').bind fun r =>
 loopC (F_spec_l8Redex_l1 sys r) 0
instance c_spec_l8Redex {sys : ((List Int) × (List ((List Int) × (List Int))))} {t : (List Int)} {at' : Int} : HasC (F_spec_l8Redex sys t at') fun rr => PFun Tryz.prog 95 [D_impl_System sys, (slD 1 iD) t, iD at'] (iD rr) := ⟨@fun rr h => by
  delta F_spec_l8Redex at h
  refine fn95.pureL (vcm_sound ?_)
  delta mc95
  refine stp ?_
  refine rC h fun r hr h => ?_
  refine m_lW h [6, 8, 9, 10, 16, 17, 18, 19, 20, 21, 22, 23, 24, 25, 26, 27, 28, 29, 30, 31, 32, 33, 34, 35, 36, 37] (fun pp => [(8, .d (iD pp))]) (fun pp => [(3, .obj 37 [.d (slD 1 iD sys.1), .d (slD 2 D_impl_Rule sys.2)])]) ?_
  rintro rule t1 h hb1
  unfold F_spec_l8Redex_l1 at h
  try dsimp only at h
  refine vcm_sound (stp ?_)
  refine iT h fun hc h => ?_
  refine ndI h fun hp h => ?_
  refine dCN h fun r_1 hr_1 h => ?_
  refine drQ_of (by kernel_rfl) (stp ?_)
  refine iF h fun hc h => ?_
  cases h
  refine ⟨_, rfl, ?_⟩
  refine (Weak.drop 9 (by omega)).trans ?_
  exact wk⟩
def mc111 : MCode :=
 (.seq (.reg (sq 2 [bo 2 37 0] ++ sq 4 [.mv (.const (.slice none 0 0))])) (.seq (.reg (sq 7 [.bsl 7 2 1 []] ++ sq 5 [mv 7])) (.seq (.seq (.reg (sq 6 [mi 0])) (.block 0 (.loop (.seq (.seq (.reg (sq 8 [mv 6, mv 1, ln 9, bn .lss 8 10, mv 11] ++ sg 12 true 13 [la 2 2, mv 1, cf 49 [13, 14]] ++ sq 16 [pa 12 15])) (.cond (t0 16) .skip (.exit 0))) (.seq (.block 1 (.seq (.reg (sq 19 [la 2 2, mv 1, mv 6, cf 95 [19, 20, 21], bi .geq 22 0])) (.cond (t0 23) (.reg (sq 24 [mv 5, mv 6, .bsl 26 2 1 [(t0 25)], ap 27 2 1 8 24 26] ++ sq 5 [mv 27])) .skip))) (.reg (sq 17 [mv 6, bi .add 17 1] ++ sq 6 [mv 18]))))))) (.seq (.reg (sq 28 [mv 5] ++ sq 4 [mv 28])) .ret))))
theorem fn111 : MFn Tryz.prog 111 mc111 29 [.tmp 4] := ⟨_, Tryz.func111, by kernel_rfl, Tryz.ntmps111, by kernel_rfl⟩
noncomputable def F_spec_RedexesIn_l1 (sys : ((List Int) × (List ((List Int) × (List Int))))) (t : (List Int)) : ((List Int) × Int) → Option (((List Int) × Int) ⊕ (List Int))
 | (out, at') =>
  if (decide (at' < (t.length : Int))) = true then
   (F_spec_l7Right sys t).bind fun r =>
   if r = true then
    (F_spec_l8Redex sys t at').bind fun r_1 =>
    if (decide (0 ≤ r_1)) = true then
     if (out.length + 1) * 8 ≤ 140737488355328 then
      some (.inl ((out ++ [at']), (IntKind.i64.wrap (at' + 1))))
     else none
    else
     some (.inl (out, (IntKind.i64.wrap (at' + 1))))
   else
    Option.map Sum.inr (
     some out)
  else
   Option.map Sum.inr (
    some out)
noncomputable def F_spec_RedexesIn (sys : ((List Int) × (List ((List Int) × (List Int))))) (t : (List Int)) : Option (List Int) :=
 loopC (F_spec_RedexesIn_l1 sys t) ([], 0)
instance c_spec_RedexesIn {sys : ((List Int) × (List ((List Int) × (List Int))))} {t : (List Int)} : HasC (F_spec_RedexesIn sys t) fun rr => PFun Tryz.prog 111 [D_impl_System sys, (slD 1 iD) t] ((slD 1 iD) rr) := ⟨@fun rr h => by
  delta F_spec_RedexesIn at h
  refine fn111.pureL (vcm_sound ?_)
  delta mc111
  refine stp ?_
  refine m_lW h [5, 6, 8, 9, 10, 11, 12, 13, 14, 15, 16, 17, 18, 19, 20, 21, 22, 23, 24, 25, 26, 27] (fun pp => [(5, .own 1 7 (List.map iD pp.1)), (6, .d (iD pp.2))]) (fun pp => [(2, .obj 37 [.d (slD 1 iD sys.1), .d (slD 2 D_impl_Rule sys.2)]), (7, .tok 2 1 pp.1.length)]) ?_
  rintro ⟨out, at'⟩ t1 h hb1
  unfold F_spec_RedexesIn_l1 at h
  try dsimp only at h
  refine vcm_sound (stp ?_)
  refine iT h fun hc h => ?_
  refine rC h fun r hr h => ?_
  refine iT h fun hc h => ?_
  refine rC h fun r_1 hr_1 h => ?_
  refine iT h fun hc h => ?_
  refine ndI h fun hp h => ?_
  cases h
  refine ⟨_, rfl, ?_⟩
  refine (Weak.drop 26 (by omega)).trans ?_
  exact wk⟩
def mc110 : MCode :=
 (.seq (.reg (sq 2 [bo 2 37 0] ++ sq 4 [.mv (.const (.slice none 0 0))])) (.seq (.reg (sq 9 [.bsl 9 2 1 []] ++ sq 5 [mv 9])) (.seq (.reg (sq 10 [la 2 2, mv 1, cf 111 [10, 11]] ++ sq 6 [mv 12])) (.seq (.seq (.reg (sq 7 [mi 0])) (.block 0 (.loop (.seq (.seq (.reg (sq 13 [mv 7, mv 6, ln 14, bn .lss 13 15])) (.cond (t0 16) .skip (.exit 0))) (.seq (.block 1 (.seq (.draw (sq 19 [fa 0 2, la 1 19, mv 1, mv 6, mv 7, ix 1 22 23, ld 24, cf 93 [20, 21, 25]] ++ sq 8 [mv 26]) [[], [0], [], [], [], [3, 4], [5], [1, 2, 6], [7, 7, 0, 1, 2, 3, 4, 5, 6, 7]]) (.seq (.reg (sq 27 [mv 7, bi .add 27 1, mv 6, ln 29, bn .eql 28 30, mv 31] ++ sg 32 false 33 [mv 6, mv 7, bi .add 34 1, ix 1 33 35, ld 36, mv 8, bn .geq 37 38] ++ sq 40 [po 32 39])) (.cond (t0 40) (.reg (sq 41 [mv 5, mv 6, mv 7, ix 1 42 43, ld 44, .bsl 46 2 1 [(t0 45)], ap 47 2 1 8 41 46] ++ sq 5 [mv 47])) .skip)))) (.reg (sq 17 [mv 7, bi .add 17 1] ++ sq 7 [mv 18]))))))) (.seq (.reg (sq 48 [mv 5] ++ sq 4 [mv 48])) .ret)))))
theorem fn110 : MFn Tryz.prog 110 mc110 49 [.tmp 4] := ⟨_, Tryz.func110, by kernel_rfl, Tryz.ntmps110, by kernel_rfl⟩
noncomputable def F_spec_InmostIn_l1 (sys : ((List Int) × (List ((List Int) × (List Int))))) (t : (List Int)) (r : (List Int)) : ((List Int) × Int) → Option (((List Int) × Int) ⊕ (List Int))
 | (out, i) =>
  if (decide (i < (r.length : Int))) = true then
   if 0 ≤ i ∧ i < (r.length : Int) then
    (F_spec_l1End sys.1 t (r.getD i.toNat default)).bind fun r_1 =>
    if ((IntKind.i64.wrap (i + 1)) == (r.length : Int)) = true then
     if 0 ≤ i ∧ i < (r.length : Int) then
      if (out.length + 1) * 8 ≤ 140737488355328 then
       some (.inl ((out ++ [(r.getD i.toNat default)]), (IntKind.i64.wrap (i + 1))))
      else none
     else none
    else
     if 0 ≤ (IntKind.i64.wrap (i + 1)) ∧ (IntKind.i64.wrap (i + 1)) < (r.length : Int) then
      if (decide (r_1 ≤ (r.getD (IntKind.i64.wrap (i + 1)).toNat default))) = true then
       if 0 ≤ i ∧ i < (r.length : Int) then
        if (out.length + 1) * 8 ≤ 140737488355328 then
         some (.inl ((out ++ [(r.getD i.toNat default)]), (IntKind.i64.wrap (i + 1))))
        else none
       else none
      else
       some (.inl (out, (IntKind.i64.wrap (i + 1))))
     else none
   else none
  else
   Option.map Sum.inr (
    some out)
noncomputable def F_spec_InmostIn (sys : ((List Int) × (List ((List Int) × (List Int))))) (t : (List Int)) : Option (List Int) :=
 (F_spec_RedexesIn sys t).bind fun r =>
 loopC (F_spec_InmostIn_l1 sys t r) ([], 0)
instance c_spec_InmostIn {sys : ((List Int) × (List ((List Int) × (List Int))))} {t : (List Int)} : HasC (F_spec_InmostIn sys t) fun rr => PFun Tryz.prog 110 [D_impl_System sys, (slD 1 iD) t] ((slD 1 iD) rr) := ⟨@fun rr h => by
  delta F_spec_InmostIn at h
  refine fn110.pureL (vcm_sound ?_)
  delta mc110
  refine stp ?_
  refine rC h fun r hr h => ?_
  refine m_lW h [5, 7, 8, 13, 14, 15, 16, 17, 18, 19, 20, 21, 22, 23, 24, 25, 26, 27, 28, 29, 30, 31, 32, 33, 34, 35, 36, 37, 38, 39, 40, 41, 42, 43, 44, 45, 46, 47] (fun pp => [(5, .own 1 9 (List.map iD pp.1)), (7, .d (iD pp.2))]) (fun pp => [(2, .obj 37 [.d (slD 1 iD sys.1), .d (slD 2 D_impl_Rule sys.2)]), (9, .tok 2 1 pp.1.length)]) ?_
  rintro ⟨out, i⟩ t1 h hb1
  unfold F_spec_InmostIn_l1 at h
  try dsimp only at h
  refine vcm_sound (stp ?_)
  refine iT h fun hc h => ?_
  refine ndI h fun hp h => ?_
  refine dC h fun r_1 hr_1 h => ?_
  refine drQ_of (by kernel_rfl) (stp ?_)
  refine it h (fun hc h => ?_) fun hc h => ?_
  · refine ndI h fun hp h => ?_
    refine ndI h fun hp h => ?_
    cases h
    refine ⟨_, rfl, ?_⟩
    refine (Weak.drop 46 (by omega)).trans ?_
    exact wk
  refine ndI h fun hp h => ?_
  refine iT h fun hc h => ?_
  refine ndI h fun hp h => ?_
  refine ndI h fun hp h => ?_
  cases h
  refine ⟨_, rfl, ?_⟩
  refine (Weak.drop 46 (by omega)).trans ?_
  exact wk⟩
def mc94 : MCode :=
 (.seq (.reg (sq 3 [bo 3 37 0] ++ sq 6 [.mv (.const (.slice none 0 0))])) (.seq (.seq (.reg (sq 8 [mv 2])) (.block 0 (.seq (.reg (sq 10 [bi .eql 8 1] ++ sq 9 [mv 10])) (.cond (t0 9) (.seq (.reg (sq 11 [la 2 3, mv 1, cf 110 [11, 12]] ++ sq 6 [mv 13])) .ret) (.seq (.reg (sq 15 [bi .eql 8 2] ++ sq 14 [mv 15])) (.cond (t0 14) (.seq (.reg (sq 16 [la 2 3, mv 1, cf 111 [16, 17]] ++ sq 6 [mv 18])) .ret) .skip)))))) (.seq (.reg (sq 19 [la 2 3, mv 1, cf 111 [19, 20]] ++ sq 7 [mv 21])) (.seq (.seq (.reg (sq 22 [mv 7, ln 22, bi .gtr 23 0])) (.cond (t0 24) (.reg (sq 25 [mv 7, mv 7, ln 26, bi .sub 27 1, .slc (t0 25) 1 (some (t0 28)) none none] ++ sq 7 [mv 29])) .skip)) (.seq (.reg (sq 30 [mv 7] ++ sq 6 [mv 30])) .ret)))))
theorem fn94 : MFn Tryz.prog 94 mc94 31 [.tmp 6] := ⟨_, Tryz.func94, by kernel_rfl, Tryz.ntmps94, by kernel_rfl⟩
noncomputable def F_spec_l8Places (sys : ((List Int) × (List ((List Int) × (List Int))))) (t : (List Int)) (strategy : Int) : Option (List Int) :=
 if (strategy == 1) = true then
  (F_spec_InmostIn sys t).bind fun r =>
  some r
 else
  if (strategy == 2) = true then
   (F_spec_RedexesIn sys t).bind fun r_1 =>
   some r_1
  else
   (F_spec_RedexesIn sys t).bind fun r_2 =>
   if (decide (0 < (r_2.length : Int))) = true then
    if 0 ≤ (IntKind.i64.wrap ((r_2.length : Int) - 1)) ∧ (IntKind.i64.wrap ((r_2.length : Int) - 1)) ≤ (r_2.length : Int) then
     some (r_2.drop (IntKind.i64.wrap ((r_2.length : Int) - 1)).toNat)
    else none
   else
    some r_2
instance c_spec_l8Places {sys : ((List Int) × (List ((List Int) × (List Int))))} {t : (List Int)} {strategy : Int} : HasC (F_spec_l8Places sys t strategy) fun rr => PFun Tryz.prog 94 [D_impl_System sys, (slD 1 iD) t, iD strategy] ((slD 1 iD) rr) := ⟨@fun rr h => by
  delta F_spec_l8Places at h
  refine fn94.pureL (vcm_sound ?_)
  delta mc94
  refine stp ?_
  exact aut⟩
def mc73 : MCode :=
 (.seq (.reg (sq 3 [bo 3 37 0] ++ sq 6 [mi 0, mi 0, mb false])) (.seq (.seq (.reg (sq 10 [la 2 3, mv 1, mv 2, cf 71 [10, 11, 12], nt 13])) (.cond (t0 14) (.seq (.reg (sq 6 [mi 0, mi 0, mb false])) .ret) .skip)) (.seq (.reg (sq 15 [la 2 3, mv 1, mv 2, cf 94 [15, 16, 17]] ++ sq 9 [mv 18])) (.seq (.seq (.reg (sq 19 [mv 9, ln 19, bi .eql 20 0])) (.cond (t0 21) (.seq (.reg (sq 6 [mi 0, mi 0, mb false])) .ret) .skip)) (.seq (.draw (sq 22 [mv 9, .ixa 1 (t0 22) (i0 0), ld 23, la 2 3, mv 1, mv 9, .ixa 1 (t0 27) (i0 0), ld 28, cf 95 [25, 26, 29]] ++ sq 6 [mv 24, mv 30, mb true]) [[], [0], [1], [], [], [], [5], [6], [3, 4, 7], [2, 8, 0, 1, 2], [8, 9, 0, 1, 2, 3, 4, 5, 6, 7, 8, 9], [10, 0, 1, 2, 3, 4, 5, 6, 7, 8, 9, 10]]) .ret)))))
theorem fn73 : MFn Tryz.prog 73 mc73 31 [.tmp 6, .tmp 7, .tmp 8] := ⟨_, Tryz.func73, by kernel_rfl, Tryz.ntmps73, by kernel_rfl⟩
noncomputable def F_spec_PickBy (sys : ((List Int) × (List ((List Int) × (List Int))))) (t : (List Int)) (strategy : Int) : Option (Int × Int × Bool) :=
 (F_spec_l8Right sys t strategy).bind fun r =>
 if r = true then
  (F_spec_l8Places sys t strategy).bind fun r_1 =>
  if ((r_1.length : Int) == 0) = true then
   some (0, 0, false)
  else
   if 0 ≤ 0 ∧ 0 < (r_1.length : Int) then
    if 0 ≤ 0 ∧ 0 < (r_1.length : Int) then
     (F_spec_l8Redex sys t (r_1.getD 0 default)).bind fun r_2 =>
     some ((r_1.getD 0 default), r_2, true)
    else none
   else none
 else
  some (0, 0, false)
instance c_spec_PickBy {sys : ((List Int) × (List ((List Int) × (List Int))))} {t : (List Int)} {strategy : Int} : HasC (F_spec_PickBy sys t strategy) fun rr => PFunN Tryz.prog 73 [D_impl_System sys, (slD 1 iD) t, iD strategy] [iD rr.1, iD rr.2.1, bD rr.2.2] := ⟨@fun rr h => by
  delta F_spec_PickBy at h
  refine fn73.pureLN (vcm_sound ?_)
  delta mc73
  refine stp ?_
  exact aut⟩
def mc99 : MCode :=
 (.seq (.reg (sq 4 [bo 4 34 0] ++ sq 8 [.mv (.const (.slice none 0 0)), mb false])) (.seq (.reg (sq 11 [mv 1, mv 2, .slc (t0 11) 1 none (some (t0 12)) none, cf 72 [13], mv 3, ap 16 2 1 8 14 15] ++ sq 10 [mv 16])) (.seq (.reg (sq 17 [mv 10, mv 1, la 1 4, mv 1, mv 2, cf 93 [19, 20, 21], .slc (t0 18) 1 (some (t0 22)) none none, ap 24 2 1 8 17 23] ++ sq 10 [mv 24])) (.seq (.seq (.reg (sq 25 [mv 10, ln 25, bi .gtr 26 60])) (.cond (t0 27) (.seq (.reg (sq 28 [.bsl 28 2 1 []] ++ sq 8 [mv 28, mb false])) .ret) .skip)) (.seq (.reg (sq 29 [mv 10] ++ sq 8 [mv 29, mb true])) .ret)))))
theorem fn99 : MFn Tryz.prog 99 mc99 30 [.tmp 8, .tmp 9] := ⟨_, Tryz.func99, by kernel_rfl, Tryz.ntmps99, by kernel_rfl⟩
noncomputable def F_spec_l3Put (sig : (List Int)) (t : (List Int)) (at' : Int) (u : (List Int)) : Option ((List Int) × Bool) :=
 if 0 ≤ at' ∧ at' ≤ (t.length : Int) then
  (F_spec_l1Copy (t.take at'.toNat)).bind fun r =>
  if (r.length + u.length) * 8 ≤ 140737488355328 then
   (F_spec_l1End sig t at').bind fun r_1 =>
   if 0 ≤ r_1 ∧ r_1 ≤ (t.length : Int) then
    if ((r ++ u).length + (t.drop r_1.toNat).length) * 8 ≤ 140737488355328 then
     if (decide (60 < (((r ++ u) ++ (t.drop r_1.toNat)).length : Int))) = true then
      some ([], false)
     else
      some (((r ++ u) ++ (t.drop r_1.toNat)), true)
    else none
   else none
  else none
 else none
instance c_spec_l3Put {sig : (List Int)} {t : (List Int)} {at' : Int} {u : (List Int)} : HasC (F_spec_l3Put sig t at' u) fun rr => PFunN Tryz.prog 99 [D_impl_Sig sig, (slD 1 iD) t, iD at', (slD 1 iD) u] [(slD 1 iD) rr.1, bD rr.2] := ⟨@fun rr h => by
  delta F_spec_l3Put at h
  refine fn99.pureLN (vcm_sound ?_)
  delta mc99
  refine stp ?_
  refine ndI h fun hp h => ?_
  refine rCo [] [(3, 14)] h fun r hr h => ?_
  exact aut⟩
def mc74 : MCode :=
 (.seq (.reg (sq 4 [bo 4 37 0] ++ sq 8 [.mv (.const (.slice none 0 0)), mb false])) (.seq (.reg (sq 15 [fa 1 4, ld 15, mv 3, ix 2 16 17, la 2 18] ++ sq 10 [.alloc 10 61 [.sl 0 (some true) [], .sl 0 (some true) []]] ++ s0 (sr 2 10 19))) (.seq (.draw (sq 21 [fa 0 4, la 1 21, fa 0 10, ld 23, fa 0 4, la 1 25, mv 1, mv 2, cf 97 [26, 27, 28], cf 96 [22, 24, 29]] ++ sq 20 [mv 30] ++ sq 31 [ex 20 0, ex 20 1] ++ sq 11 [.alloc 11 120 [.sl 0 (some true) []]] ++ s0 (sr 1 11 31) ++ sq 12 [mv 32]) [[], [0], [], [2], [], [4], [], [], [5, 6, 7], [1, 3, 8, 8], [9], [10], [10], [], [13, 11, 9, 0, 1, 2, 3, 4, 5, 6, 7, 8, 9, 10, 11, 13], [12, 14, 0, 1, 2, 3, 4, 5, 6, 7, 8, 9, 10, 11, 12, 13, 14]]) (.seq (.seq (.reg (sq 33 [mv 12, nt 33])) (.cond (t0 34) (.seq (.reg (sq 35 [.bsl 35 2 1 []] ++ sq 8 [mv 35, mb false])) .ret) .skip)) (.seq (.reg (sq 37 [la 1 11, fa 1 10, ld 38, cf 98 [37, 39]] ++ sq 36 [mv 40] ++ sq 41 [ex 36 0, ex 36 1] ++ sq 13 [mv 41, mv 42])) (.seq (.seq (.reg (sq 43 [mv 14, nt 43])) (.cond (t0 44) (.seq (.reg (sq 45 [.bsl 45 2 1 []] ++ sq 8 [mv 45, mb false])) .ret) .skip)) (.seq (.reg (sq 46 [fa 0 4, la 1 46, mv 1, mv 2, mv 13, cf 99 [47, 48, 49, 50], ex 51 0, ex 51 1] ++ sq 8 [mv 52, mv 53])) .ret)))))))
theorem fn74 : MFn Tryz.prog 74 mc74 54 [.tmp 8, .tmp 9] := ⟨_, Tryz.func74, by kernel_rfl, Tryz.ntmps74, by kernel_rfl⟩
noncomputable def F_spec_l7Step (sys : ((List Int) × (List ((List Int) × (List Int))))) (t : (List Int)) (at' : Int) (rule : Int) : Option ((List Int) × Bool) :=
 if 0 ≤ rule ∧ rule < (sys.2.length : Int) then
  (F_spec_l1Sub sys.1 t at').bind fun r =>
  (F_spec_l4Match sys.1 ((sys.2.getD rule.toNat default).1) r).bind fun r_1 =>
  if r_1.2 = true then
   (F_spec_l2Filled r_1.1 ((sys.2.getD rule.toNat default).2)).bind fun r_2 =>
   if r_2.2 = true then
    (F_spec_l3Put sys.1 t at' r_2.1).bind fun r_3 =>
    some r_3
   else
    some ([], false)
  else
   some ([], false)
 else none
instance c_spec_l7Step {sys : ((List Int) × (List ((List Int) × (List Int))))} {t : (List Int)} {at' : Int} {rule : Int} : HasC (F_spec_l7Step sys t at' rule) fun rr => PFunN Tryz.prog 74 [D_impl_System sys, (slD 1 iD) t, iD at', iD rule] [(slD 1 iD) rr.1, bD rr.2] := ⟨@fun rr h => by
  delta F_spec_l7Step at h
  refine fn74.pureLN (vcm_sound ?_)
  delta mc74
  refine stp ?_
  exact aut⟩
def mc100 : MCode :=
 (.seq (.reg (sq 2 [bo 2 37 0] ++ sq 4 [mi 0])) (.seq (.reg (sq 5 [mi 0])) (.seq (.seq (.reg (sq 6 [mi 0])) (.block 0 (.loop (.seq (.seq (.reg (sq 10 [mv 6, mv 1, ln 11, bn .lss 10 12])) (.cond (t0 13) .skip (.exit 0))) (.seq (.block 1 (.seq (.reg (sq 7 [mi 0])) (.block 2 (.loop (.seq (.seq (.reg (sq 16 [mv 7, fa 1 2, ld 17, ln 18, bn .lss 16 19])) (.cond (t0 20) .skip (.exit 2))) (.seq (.block 3 (.seq (.draw (sq 24 [fa 0 2, la 1 24, fa 1 2, ld 26, mv 7, ix 2 27 28, fa 0 29, ld 30, fa 0 2, la 1 32, mv 1, mv 6, cf 97 [33, 34, 35], cf 96 [25, 31, 36]] ++ sq 23 [mv 37] ++ sq 38 [ex 23 0, ex 23 1] ++ sq 8 [.alloc 8 120 [.sl 0 (some true) []]] ++ s0 (sr 1 8 38) ++ sq 9 [mv 39]) [[], [0], [], [2], [], [3, 4], [5], [6], [], [8], [], [], [9, 10, 11], [1, 7, 12, 12], [13], [14], [14], [], [17, 15, 13, 0, 1, 2, 3, 4, 5, 6, 7, 8, 9, 10, 11, 12, 13, 14, 15, 17], [16, 18, 0, 1, 2, 3, 4, 5, 6, 7, 8, 9, 10, 11, 12, 13, 14, 15, 16, 17, 18]]) (.seq (.reg (sq 40 [mv 9])) (.cond (t0 40) (.reg (sq 41 [mv 5, bi .add 41 1] ++ sq 5 [mv 42])) .skip)))) (.reg (sq 21 [mv 7, bi .add 21 1] ++ sq 7 [mv 22])))))))) (.reg (sq 14 [mv 6, bi .add 14 1] ++ sq 6 [mv 15]))))))) (.seq (.reg (sq 43 [mv 5] ++ sq 4 [mv 43])) .ret))))
theorem fn100 : MFn Tryz.prog 100 mc100 44 [.tmp 4] := ⟨_, Tryz.func100, by kernel_rfl, Tryz.ntmps100, by kernel_rfl⟩
noncomputable def F_spec_l7Redexes_l2 (sys : ((List Int) × (List ((List Int) × (List Int))))) (t : (List Int)) (at' : Int) : (Int × Int) → Option ((Int × Int) ⊕ ((Int × Int) ⊕ Int))
 | (many_1, rule) =>
  if (decide (rule < (sys.2.length : Int))) = true then
   if 0 ≤ rule ∧ rule < (sys.2.length : Int) then
    (F_spec_l1Sub sys.1 t at').bind fun r =>
    (F_spec_l4Match sys.1 ((sys.2.getD rule.toNat default).1) r).bind fun r_1 =>
    if r_1.2 = true then
     some (.inl ((IntKind.i64.wrap (many_1 + 1)), (IntKind.i64.wrap (rule + 1))))
    else
     some (.inl (many_1, (IntKind.i64.wrap (rule + 1))))
   else none
  else
   Option.map Sum.inr (
    some (.inl (many_1, (IntKind.i64.wrap (at' + 1)))))
noncomputable def F_spec_l7Redexes_l1 (sys : ((List Int) × (List ((List Int) × (List Int))))) (t : (List Int)) : (Int × Int) → Option ((Int × Int) ⊕ Int)
 | (many, at') =>
  if (decide (at' < (t.length : Int))) = true then
   loopC (F_spec_l7Redexes_l2 sys t at') (many, 0)
  else
   Option.map Sum.inr (
    some many)
noncomputable def F_spec_l7Redexes (sys : ((List Int) × (List ((List Int) × (List Int))))) (t : (List Int)) : Option Int :=
 loopC (F_spec_l7Redexes_l1 sys t) (0, 0)
instance c_spec_l7Redexes {sys : ((List Int) × (List ((List Int) × (List Int))))} {t : (List Int)} : HasC (F_spec_l7Redexes sys t) fun rr => PFun Tryz.prog 100 [D_impl_System sys, (slD 1 iD) t] (iD rr) := ⟨@fun rr h => by
  delta F_spec_l7Redexes at h
  refine fn100.pureL (vcm_sound ?_)
  delta mc100
  refine stp ?_
  refine m_lW h [5, 6, 7, 8, 9, 10, 11, 12, 13, 14, 15, 16, 17, 18, 19, 20, 21, 22, 23, 24, 25, 26, 27, 28, 29, 30, 31, 32, 33, 34, 35, 36, 37, 38, 39, 40, 41, 42] (fun pp => [(5, .d (iD pp.1)), (6, .d (iD pp.2))]) (fun pp => [(2, .obj 37 [.d (slD 1 iD sys.1), .d (slD 2 D_impl_Rule sys.2)])]) ?_
  rintro ⟨many, at'⟩ t1 h hb1
  unfold F_spec_l7Redexes_l1 at h
  try dsimp only at h
  refine vcm_sound (stp ?_)
  refine iT h fun hc h => ?_
  refine m_lW h [5, 7, 8, 9, 16, 17, 18, 19, 20, 21, 22, 23, 24, 25, 26, 27, 28, 29, 30, 31, 32, 33, 34, 35, 36, 37, 38, 39, 40, 41, 42] (fun pp => [(5, .d (iD pp.1)), (7, .d (iD pp.2))]) (fun pp => [(2, .obj 37 [.d (slD 1 iD sys.1), .d (slD 2 D_impl_Rule sys.2)])]) ?_
  rintro ⟨many_1, rule⟩ t2 h hb2
  unfold F_spec_l7Redexes_l2 at h
  try dsimp only at h
  refine vcm_sound (stp ?_)
  refine iT h fun hc h => ?_
  refine ndI h fun hp h => ?_
  refine dC h fun r hr h => ?_
  refine dCN h fun r_1 hr_1 h => ?_
  refine drQ_of (by kernel_rfl) (stp ?_)
  refine it h (fun hc h => ?_) fun hc h => ?_
  · cases h
    refine ⟨_, rfl, ?_⟩
    refine (Weak.drop 8 (by omega)).trans ?_
    exact wk
  cases h
  refine ⟨_, rfl, ?_⟩
  refine (Weak.drop 8 (by omega)).trans ?_
  exact wk⟩
def mc75 : MCode :=
 (.seq (.reg (sq 2 [bo 2 37 0] ++ sq 4 [mb false])) (.seq (.reg (sq 5 [la 2 2, mv 1, cf 49 [5, 6], mv 7] ++ sg 8 true 9 [la 2 2, mv 1, cf 100 [9, 10], bi .eql 11 0] ++ sq 13 [pa 8 12] ++ sq 4 [mv 13])) .ret))
theorem fn75 : MFn Tryz.prog 75 mc75 14 [.tmp 4] := ⟨_, Tryz.func75, by kernel_rfl, Tryz.ntmps75, by kernel_rfl⟩
noncomputable def F_spec_NormalIn (sys : ((List Int) × (List ((List Int) × (List Int))))) (t : (List Int)) : Option Bool :=
 (F_spec_l7Right sys t).bind fun r =>
 if r = true then
  (F_spec_l7Redexes sys t).bind fun r_1 =>
  some (r_1 == 0)
 else
  some false
instance c_spec_NormalIn {sys : ((List Int) × (List ((List Int) × (List Int))))} {t : (List Int)} : HasC (F_spec_NormalIn sys t) fun rr => PFun Tryz.prog 75 [D_impl_System sys, (slD 1 iD) t] (bD rr) := ⟨@fun rr h => by
  delta F_spec_NormalIn at h
  refine fn75.pureL (vcm_sound ?_)
  delta mc75
  refine stp ?_
  exact aut⟩
def mc50 : MCode :=
 (.seq (.reg (sq 4 [bo 4 37 0] ++ sq 8 [.alloc 8 80 [.sl 0 (some true) [], .sl 0 (some true) []], mb false])) (.seq (.seq (.reg (sq 17 [la 2 4, mv 1, mv 2, cf 71 [17, 18, 19], nt 20, mv 21] ++ sg 22 false 23 [mv 3, .callf 30 [(t0 23), (i0 0), (i0 60)], nt 24] ++ sq 26 [po 22 25])) (.cond (t0 26) (.seq (.reg (sq 27 [.build [.sl 0 (some true) [], .sl 0 (some true) []] []] ++ s0 (sr 2 8 27) ++ sq 9 [mb false])) .ret) .skip)) (.seq (.reg (sq 28 [mv 1, cf 72 [28], .build [.sl 0 (some true) [], .sl 0 (some true) []] [(0, 1, (t0 29))]] ++ sq 10 [.alloc 10 80 [.sl 0 (some true) [], .sl 0 (some true) []]] ++ s0 (sr 2 10 30))) (.seq (.reg (sq 31 [mv 1, cf 72 [31]] ++ sq 11 [mv 32])) (.seq (.block 0 (.loop (.seq (.seq (.reg (sq 33 [fa 1 10, ld 33, ln 34, mv 3, bn .lss 35 36])) (.cond (t0 37) .skip (.exit 0))) (.block 1 (.seq (.reg (sq 39 [la 2 4, mv 11, mv 2, cf 73 [39, 40, 41]] ++ sq 38 [mv 42] ++ sq 43 [ex 38 0, ex 38 1, ex 38 2] ++ sq 12 [mv 43, mv 44, mv 45])) (.seq (.seq (.reg (sq 46 [mv 14, nt 46])) (.cond (t0 47) (.exit 0) .skip)) (.seq (.reg (sq 49 [la 2 4, mv 11, mv 12, mv 13, cf 74 [49, 50, 51, 52]] ++ sq 48 [mv 53] ++ sq 54 [ex 48 0, ex 48 1] ++ sq 15 [mv 54, mv 55])) (.seq (.seq (.reg (sq 56 [mv 16, nt 56])) (.cond (t0 57) (.exit 0) .skip)) (.seq (.reg (sq 58 [fa 1 10, ld 58, mv 12, mv 13, mv 15, .build [.lit (.int .i64 0), .lit (.int .i64 0), .sl 0 (some true) []] [(0, 1, (t0 60)), (1, 1, (t0 61)), (2, 1, (t0 62))], .bsl 64 104 3 [(t0 63)], ap 65 104 3 40 59 64, fa 1 10] ++ s0 (sr 1 66 65))) (.reg (sq 67 [mv 15, cf 72 [67]] ++ sq 11 [mv 68]))))))))))) (.seq (.draw (sq 69 [la 2 10, la 2 4, mv 11, cf 75 [70, 71]] ++ s0 (sr 2 8 69) ++ sq 9 [mv 72]) [[], [], [], [1, 2], [0, 3, 0], [3, 4, 0, 1, 2, 3, 4]]) .ret))))))
theorem fn50 : MFn Tryz.prog 50 mc50 73 [.cell 8 2 true, .tmp 9] := ⟨_, Tryz.func50, by kernel_rfl, Tryz.ntmps50, by kernel_rfl⟩
noncomputable def F_spec_WalkBy_l1 (sys : ((List Int) × (List ((List Int) × (List Int))))) (strategy : Int) (fuel : Int) (r_2 : (List Int)) : ((List Int) × (List (Int × Int × (List Int)))) → Option (((List Int) × (List (Int × Int × (List Int)))) ⊕ (((List Int) × (List (Int × Int × (List Int)))) × Bool))
 | (now, w) =>
  if (decide ((w.length : Int) < fuel)) = true then
   (F_spec_PickBy sys now strategy).bind fun r_4 =>
   if r_4.2.2 = true then
    (F_spec_l7Step sys now r_4.1 r_4.2.1).bind fun r_5 =>
    if r_5.2 = true then
     if (w.length + 1) * 40 ≤ 140737488355328 then
      (F_spec_l1Copy r_5.1).bind fun r_6 =>
      some (.inl (r_6, (w ++ [(r_4.1, r_4.2.1, r_5.1)])))
     else none
    else
     Option.map Sum.inr (
      (F_spec_NormalIn sys now).bind fun r_7 =>
      some ((r_2, w), r_7))
   else
    Option.map Sum.inr (
     (F_spec_NormalIn sys now).bind fun r_8 =>
     some ((r_2, w), r_8))
  else
   Option.map Sum.inr (
    (F_spec_NormalIn sys now).bind fun r_9 =>
    some ((r_2, w), r_9))
noncomputable def F_spec_WalkBy (sys : ((List Int) × (List ((List Int) × (List Int))))) (t : (List Int)) (strategy : Int) (fuel : Int) : Option (((List Int) × (List (Int × Int × (List Int)))) × Bool) :=
 (F_spec_l8Right sys t strategy).bind fun r =>
 if r = true then
  (F_spec_l1In fuel 0 60).bind fun r_1 =>
  if r_1 = true then
   (F_spec_l1Copy t).bind fun r_2 =>
   (F_spec_l1Copy t).bind fun r_3 =>
   loopC (F_spec_WalkBy_l1 sys strategy fuel r_2) (r_3, [])
  else
   some (([], []), false)
 else
  some (([], []), false)
instance c_spec_WalkBy {sys : ((List Int) × (List ((List Int) × (List Int))))} {t : (List Int)} {strategy : Int} {fuel : Int} : HasC (F_spec_WalkBy sys t strategy fuel) fun rr => PFunN Tryz.prog 50 [D_impl_System sys, (slD 1 iD) t, iD strategy, iD fuel] [D_impl_Walk rr.1, bD rr.2] := ⟨@fun rr h => by
  delta F_spec_WalkBy at h
  refine fn50.pureLN (vcm_sound ?_)
  delta mc50
  refine stp ?_
  refine rC h fun r hr h => ?_
  refine iT h fun hc h => ?_
  refine rC h fun r_1 hr_1 h => ?_
  refine iT h fun hc h => ?_
  refine rCo [] [(3, 29)] h fun r_2 hr_2 h => ?_
  refine rCo [] [(3, 32)] h fun r_3 hr_3 h => ?_
  refine m_loopF h [11, 12, 13, 14, 15, 16, 33, 34, 35, 36, 37, 38, 39, 40, 41, 42, 43, 44, 45, 46, 47, 48, 49, 50, 51, 52, 53, 54, 55, 56, 57, 58, 59, 60, 61, 62, 63, 64, 65, 66, 67, 68] (fun pp => [(11, .d (slD 1 iD pp.1))]) (fun pp => [(4, .obj 37 [.d (slD 1 iD sys.1), .d (slD 2 D_impl_Rule sys.2)]), (8, .obj 80 [.d (.sl 0 (some true) []), .d (.sl 0 (some true) [])]), (10, .obj 80 [.own 1 29 (List.map iD r_2), .own 3 65 (List.map D_impl_Step pp.2)]), (29, .tok 2 1 r_2.length), (32, .tok 2 1 r_3.length), (65, .tok 104 3 pp.2.length)]) ?_ ?_
  · try dsimp only
    refine (Weak.thawCell 10 1 65 104 3 rfl rfl rfl).trans ?_
    exact wk
  rintro ⟨now, w⟩ t1 h hb1
  unfold F_spec_WalkBy_l1 at h
  try dsimp only at h
  refine vcm_sound (stp ?_)
  refine iT h fun hc h => ?_
  refine rCN h fun r_4 hr_4 h => ?_
  refine iT h fun hc h => ?_
  refine rCN h fun r_5 hr_5 h => ?_
  refine iT h fun hc h => ?_
  refine ndI h fun hp h => ?_
  refine rCo [] [(3, 68)] h fun r_6 hr_6 h => ?_
  cases h
  refine ⟨_, rfl, ?_⟩
  refine (Weak.drop 64 (by omega)).trans ?_
  refine (Weak.drop 68 (by omega)).trans ?_
  exact wk⟩
def mc51 : MCode :=
 (.seq (.reg (sq 1 [bo 1 80 0, .mv (.const (.slice none 0 0))])) (.seq (.seq (.reg (sq 3 [fa 1 1, ld 3, ln 4, bi .eql 5 0])) (.cond (t0 6) (.seq (.reg (sq 7 [fa 0 1, ld 7, cf 72 [8]] ++ sq 2 [mv 9])) .ret) .skip)) (.seq (.reg (sq 10 [fa 1 1, ld 10, fa 1 1, ld 12, ln 13, bi .sub 14 1, ix 3 11 15, fa 2 16, ld 17, cf 72 [18]] ++ sq 2 [mv 19])) .ret)))
theorem fn51 : MFn Tryz.prog 51 mc51 20 [.tmp 2] := ⟨_, Tryz.func51, by kernel_rfl, Tryz.ntmps51, by kernel_rfl⟩
noncomputable def F_spec_l7End (w : ((List Int) × (List (Int × Int × (List Int))))) : Option (List Int) :=
 if ((w.2.length : Int) == 0) = true then
  (F_spec_l1Copy w.1).bind fun r =>
  some r
 else
  if 0 ≤ (IntKind.i64.wrap ((w.2.length : Int) - 1)) ∧ (IntKind.i64.wrap ((w.2.length : Int) - 1)) < (w.2.length : Int) then
   (F_spec_l1Copy ((w.2.getD (IntKind.i64.wrap ((w.2.length : Int) - 1)).toNat default).2.2)).bind fun r_1 =>
   some r_1
  else none
instance c_spec_l7End {w : ((List Int) × (List (Int × Int × (List Int))))} : HasC (F_spec_l7End w) fun rr => PFun Tryz.prog 51 [D_impl_Walk w] ((slD 1 iD) rr) := ⟨@fun rr h => by
  delta F_spec_l7End at h
  refine fn51.pureL (vcm_sound ?_)
  delta mc51
  refine stp ?_
  refine it h (fun hc h => ?_) fun hc h => ?_
  · refine rCo [] [(3, 9)] h fun r hr h => ?_
    exact aut
  refine ndI h fun hp h => ?_
  refine rCo [] [(3, 19)] h fun r_1 hr_1 h => ?_
  exact aut⟩
def mc32 : MCode :=
 (.seq (.reg (sq 4 [bo 4 37 0] ++ sq 8 [.mv (.const (.slice none 0 0)), mb false])) (.seq (.reg (sq 13 [la 2 4, mv 1, mv 2, mv 3, cf 50 [13, 14, 15, 16]] ++ sq 12 [mv 17] ++ sq 18 [ex 12 0, ex 12 1] ++ sq 10 [.alloc 10 80 [.sl 0 (some true) [], .sl 0 (some true) []]] ++ s0 (sr 2 10 18) ++ sq 11 [mv 19])) (.seq (.seq (.reg (sq 20 [mv 11, nt 20])) (.cond (t0 21) (.seq (.reg (sq 22 [.bsl 22 2 1 []] ++ sq 8 [mv 22, mb false])) .ret) .skip)) (.seq (.reg (sq 23 [la 2 10, cf 51 [23]] ++ sq 8 [mv 24, mb true])) .ret))))
theorem fn32 : MFn Tryz.prog 32 mc32 25 [.tmp 8, .tmp 9] := ⟨_, Tryz.func32, by kernel_rfl, Tryz.ntmps32, by kernel_rfl⟩
noncomputable def F_spec_NormalBy (sys : ((List Int) × (List ((List Int) × (List Int))))) (t : (List Int)) (strategy : Int) (fuel : Int) : Option ((List Int) × Bool) :=
 (F_spec_WalkBy sys t strategy fuel).bind fun r =>
 if r.2 = true then
  (F_spec_l7End r.1).bind fun r_1 =>
  some (r_1, true)
 else
  some ([], false)
instance c_spec_NormalBy {sys : ((List Int) × (List ((List Int) × (List Int))))} {t : (List Int)} {strategy : Int} {fuel : Int} : HasC (F_spec_NormalBy sys t strategy fuel) fun rr => PFunN Tryz.prog 32 [D_impl_System sys, (slD 1 iD) t, iD strategy, iD fuel] [(slD 1 iD) rr.1, bD rr.2] := ⟨@fun rr h => by
  delta F_spec_NormalBy at h
  refine fn32.pureLN (vcm_sound ?_)
  delta mc32
  refine stp ?_
  exact aut⟩
def mc33 : MCode :=
 (.seq (.reg (sq 2 [mi 0])) (.seq (.seq (.reg (sq 3 [mv 0])) (.cond (t0 3) (.seq (.reg (sq 2 [mi 1])) .ret) .skip)) (.seq (.reg (sq 2 [mi 0])) .ret)))
theorem fn33 : MFn Tryz.prog 33 mc33 4 [.tmp 2] := ⟨_, Tryz.func33, by kernel_rfl, Tryz.ntmps33, by kernel_rfl⟩
noncomputable def F_spec_l1Flag (is : Bool) : Option Int :=
 if is = true then
  some 1
 else
  some 0
instance c_spec_l1Flag {is : Bool} : HasC (F_spec_l1Flag is) fun rr => PFun Tryz.prog 33 [bD is] (iD rr) := ⟨@fun rr h => by
  delta F_spec_l1Flag at h
  refine fn33.pureL (vcm_sound ?_)
  delta mc33
  refine stp ?_
  exact aut⟩
def mc15 : MCode :=
 (.seq (.reg (sq 4 [bo 4 37 0] ++ sq 8 [mi 0])) (.seq (.seq (.reg (sq 13 [la 2 4, mv 1, mv 3, cf 31 [13, 14, 15], nt 16, mv 17] ++ sg 18 false 19 [la 2 4, mv 2, mv 3, cf 31 [19, 20, 21], nt 22] ++ sq 24 [po 18 23])) (.cond (t0 24) (.seq (.reg (sq 8 [mi (-1)])) .ret) .skip)) (.seq (.reg (sq 26 [la 2 4, mv 1, mv 3, .callf 32 [(t0 26), (t0 27), (i0 1), (t0 28)]] ++ sq 25 [mv 29] ++ sq 30 [ex 25 0, ex 25 1] ++ sq 9 [mv 30, mv 31])) (.seq (.reg (sq 33 [la 2 4, mv 2, mv 3, .callf 32 [(t0 33), (t0 34), (i0 1), (t0 35)]] ++ sq 32 [mv 36] ++ sq 37 [ex 32 0, ex 32 1] ++ sq 11 [mv 37, mv 38])) (.seq (.seq (.reg (sq 39 [mv 10, nt 39, mv 40] ++ sg 41 false 42 [mv 12, nt 42] ++ sq 44 [po 41 43])) (.cond (t0 44) (.seq (.reg (sq 8 [mi (-1)])) .ret) .skip)) (.seq (.reg (sq 45 [mv 9, mv 11, cf 34 [45, 46], cf 33 [47]] ++ sq 8 [mv 48])) .ret))))))
theorem fn15 : MFn Tryz.prog 15 mc15 49 [.tmp 8] := ⟨_, Tryz.func15, by kernel_rfl, Tryz.ntmps15, by kernel_rfl⟩
noncomputable def F_spec_EqualBy (sys : ((List Int) × (List ((List Int) × (List Int))))) (a : (List Int)) (b : (List Int)) (fuel : Int) : Option Int :=
 (F_spec_l22Right sys a fuel).bind fun r =>
 if r = true then
  (F_spec_l22Right sys b fuel).bind fun r_1 =>
  if r_1 = true then
   (F_spec_NormalBy sys a 1 fuel).bind fun r_2 =>
   (F_spec_NormalBy sys b 1 fuel).bind fun r_3 =>
   if r_2.2 = true then
    if r_3.2 = true then
     (F_spec_SameTerm r_2.1 r_3.1).bind fun r_4 =>
     (F_spec_l1Flag r_4).bind fun r_5 =>
     some r_5
    else
     some (-1)
   else
    some (-1)
  else
   some (-1)
 else
  some (-1)
instance c_spec_EqualBy {sys : ((List Int) × (List ((List Int) × (List Int))))} {a : (List Int)} {b : (List Int)} {fuel : Int} : HasC (F_spec_EqualBy sys a b fuel) fun rr => PFun Tryz.prog 15 [D_impl_System sys, (slD 1 iD) a, (slD 1 iD) b, iD fuel] (iD rr) := ⟨@fun rr h => by
  delta F_spec_EqualBy at h
  refine fn15.pureL (vcm_sound ?_)
  delta mc15
  refine stp ?_
  exact aut⟩
end Go.Proofs.YtcbfefbocpikoaaGreatDoor
namespace Go.Proofs.YtcbfefbocpikoaaGreatDoor
open Go Abx
attribute [local irreducible] vcm vgo vdr vrun vdrun MWp BrC BrO BrG BrD BrH AmbO callR callD drQ EnvLe StoLe
set_option maxHeartbeats 4000000
def D_impl_Eq (x : ((List Int) × (List Int))) : D := .agg [(slD 1 iD) x.1, (slD 1 iD) x.2]
instance : Cel D_impl_Eq 2 := ⟨fun _ => rfl⟩
attribute [go_sem] D_impl_Eq
def mc69 : MCode :=
 (.seq (.reg (sq 2 [bo 2 34 0, bo 3 60 1, mb false])) (.seq (.reg (sq 5 [la 1 2, fa 0 3, ld 6, cf 55 [5, 7], mv 8] ++ sg 9 true 10 [la 1 2, fa 1 3, ld 11, cf 55 [10, 12]] ++ sq 14 [pa 9 13] ++ sq 4 [mv 14])) .ret))
theorem fn69 : MFn Tryz.prog 69 mc69 15 [.tmp 4] := ⟨_, Tryz.func69, by kernel_rfl, Tryz.ntmps69, by kernel_rfl⟩
noncomputable def F_impl_EqOk (sig : (List Int)) (e : ((List Int) × (List Int))) : Option Bool :=
 (F_impl_TermOk sig e.1).bind fun r =>
 if r = true then
  (F_impl_TermOk sig e.2).bind fun r_1 =>
  some r_1
 else
  some false
instance c_impl_EqOk {sig : (List Int)} {e : ((List Int) × (List Int))} : HasC (F_impl_EqOk sig e) fun rr => PFun Tryz.prog 69 [D_impl_Sig sig, D_impl_Eq e] (bD rr) := ⟨@fun rr h => by
  delta F_impl_EqOk at h
  refine fn69.pureL (vcm_sound ?_)
  delta mc69
  refine stp ?_
  exact aut⟩
def mc68 : MCode :=
 (.seq (.reg (sq 2 [bo 2 60 0, mb false])) (.seq (.reg (sq 4 [la 1 1, la 2 2, cf 69 [4, 5], nt 6] ++ sq 3 [mv 7])) .ret))
theorem fn68 : MFn Tryz.prog 68 mc68 8 [.tmp 3] := ⟨_, Tryz.func68, by kernel_rfl, Tryz.ntmps68, by kernel_rfl⟩
noncomputable def F_impl_EqsOk_1 (e : ((List Int) × (List Int))) (o0 : (List Int)) : Option Bool :=
 (F_impl_EqOk o0 e).bind fun r =>
 some (!r)
instance c_impl_EqsOk_1 {e : ((List Int) × (List Int))} {o0 : (List Int)} : HasC (F_impl_EqsOk_1 e o0) fun rr => ACalls Tryz.prog 68 [.d (.agg [slD 1 iD e.1, slD 1 iD e.2]), .ptr 0 0] [(0, .obj 34 [.d (slD 1 iD o0)])] 1 fun xx ss => xx = .d (bD rr) ∧ ss = [(0, .obj 34 [.d (slD 1 iD o0)])] := ⟨@fun rr h => by
  delta F_impl_EqsOk_1 at h
  refine fn68.callsO (vcm_sound ?_)
  delta mc68
  refine stp ?_
  refine rC h fun r hr h => ?_
  cases h
  exact ⟨[2], by simp, don, don⟩⟩
def mc92 : MCode :=
 (.seq (.reg (sq 4 [mi 0])) (.seq (.seq (.reg (sq 6 [mv 0, ln 6, mi 0])) (.block 0 (.loop (.seq (.reg (sq 9 [bn .lss 8 7])) (.seq (.cond (t0 9) .skip (.exit 0)) (.seq (.block 1 (.seq (.reg (sq 10 [mv 8] ++ sq 5 [mv 10])) (.seq (.reg (sq 11 [mv 1, mv 0, mv 5, ix 2 12 13, la 2 14, .callv (t0 11) [(t0 15)]])) (.cond (t0 16) (.seq (.reg (sq 17 [mv 5] ++ sq 4 [mv 17])) .ret) .skip)))) (.reg (sq 18 [bi .add 8 1] ++ sq 8 [mv 18])))))))) (.seq (.reg (sq 4 [mi (-1)])) .ret)))
theorem fn92 : MFn Tryz.prog 92 mc92 19 [.tmp 4] := ⟨_, Tryz.func92, by kernel_rfl, Tryz.ntmps92, by kernel_rfl⟩
noncomputable def F_slices_IndexFunc_impl_Eq_impl_Eq_l1 (s : (List ((List Int) × (List Int)))) (o0 : (List Int)) : Int → Option (Int ⊕ Int)
 | v8 =>
  if (decide (v8 < (s.length : Int))) = true then
   if 0 ≤ v8 ∧ v8 < (s.length : Int) then
    (F_impl_EqsOk_1 ((s.getD v8.toNat default).1, (s.getD v8.toNat default).2) o0).bind fun r =>
    if r = true then
     Option.map Sum.inr (
      some v8)
    else
     some (.inl (IntKind.i64.wrap (v8 + 1)))
   else none
  else
   Option.map Sum.inr (
    some (-1))
noncomputable def F_slices_IndexFunc_impl_Eq_impl_Eq (s : (List ((List Int) × (List Int)))) (o0 : (List Int)) : Option Int :=
 loopC (F_slices_IndexFunc_impl_Eq_impl_Eq_l1 s o0) 0
instance c_slices_IndexFunc_impl_Eq_impl_Eq {s : (List ((List Int) × (List Int)))} {o0 : (List Int)} : HasC (F_slices_IndexFunc_impl_Eq_impl_Eq s o0) fun rr => ACalls Tryz.prog 92 [.d (slD 2 D_impl_Eq s), .fn 68 [] [.ptr 0 0]] [(0, .obj 34 [.d (slD 1 iD o0)])] 1 fun xx ss => xx = .d (iD rr) ∧ ss = [(0, .obj 34 [.d (slD 1 iD o0)])] := ⟨@fun rr h => by
  delta F_slices_IndexFunc_impl_Eq_impl_Eq at h
  refine fn92.callsO (vcm_sound ?_)
  delta mc92
  refine stp ?_
  refine m_lW h [4, 5, 8, 9, 10, 11, 12, 13, 14, 15, 16, 17, 18] (fun pp => [(8, .d (iD pp))]) (fun pp => [(0, .obj 34 [.d (slD 1 iD o0)])]) ?_
  rintro v8 t1 h hb1
  unfold F_slices_IndexFunc_impl_Eq_impl_Eq_l1 at h
  try dsimp only at h
  refine vcm_sound (stp ?_)
  refine iT h fun hc h => ?_
  refine ndI h fun hp h => ?_
  refine need_i (by kernel_rfl) ?_
  refine rCo [(0, 0)] [] h fun r hr h => ?_
  exact aut⟩
def mc67 : MCode :=
 (.seq (.reg (sq 4 [mb false])) (.seq (.reg (sq 5 [mv 0, mv 1, cf 92 [5, 6], bi .geq 7 0] ++ sq 4 [mv 8])) .ret))
theorem fn67 : MFn Tryz.prog 67 mc67 9 [.tmp 4] := ⟨_, Tryz.func67, by kernel_rfl, Tryz.ntmps67, by kernel_rfl⟩
noncomputable def F_slices_ContainsFunc_impl_Eq_impl_Eq (s : (List ((List Int) × (List Int)))) (o0 : (List Int)) : Option Bool :=
 (F_slices_IndexFunc_impl_Eq_impl_Eq s o0).bind fun r =>
 some (decide (0 ≤ r))
instance c_slices_ContainsFunc_impl_Eq_impl_Eq {s : (List ((List Int) × (List Int)))} {o0 : (List Int)} : HasC (F_slices_ContainsFunc_impl_Eq_impl_Eq s o0) fun rr => ACalls Tryz.prog 67 [.d (slD 2 D_impl_Eq s), .fn 68 [] [.ptr 0 0]] [(0, .obj 34 [.d (slD 1 iD o0)])] 1 fun xx ss => xx = .d (bD rr) ∧ ss = [(0, .obj 34 [.d (slD 1 iD o0)])] := ⟨@fun rr h => by
  delta F_slices_ContainsFunc_impl_Eq_impl_Eq at h
  refine fn67.callsO (vcm_sound ?_)
  delta mc67
  refine stp ?_
  refine rCo [(0, 0)] [] h fun r hr h => ?_
  exact aut⟩
def mc47 : MCode :=
 (.seq (.reg (sq 2 [bo 2 34 0] ++ sq 4 [mb false])) (.seq (.seq (.reg (sq 5 [la 1 2, cf 66 [5], nt 6, mv 7] ++ sg 8 false 9 [mv 1, ln 9, bi .gtr 10 12] ++ sq 12 [po 8 11])) (.cond (t0 12) (.seq (.reg (sq 4 [mb false])) .ret) .skip)) (.seq (.reg (sq 13 [mv 1, .mkfn 68 [] [(t0 2)], cf 67 [13, 14], nt 15] ++ sq 4 [mv 16])) .ret)))
theorem fn47 : MFn Tryz.prog 47 mc47 17 [.tmp 4] := ⟨_, Tryz.func47, by kernel_rfl, Tryz.ntmps47, by kernel_rfl⟩
noncomputable def F_impl_EqsOk (sig : (List Int)) (eqs : (List ((List Int) × (List Int)))) : Option Bool :=
 (F_impl_SigOk sig).bind fun r =>
 if r = true then
  if (decide (12 < (eqs.length : Int))) = true then
   some false
  else
   (F_slices_ContainsFunc_impl_Eq_impl_Eq eqs sig).bind fun r_1 =>
   some (!r_1)
 else
  some false
instance c_impl_EqsOk {sig : (List Int)} {eqs : (List ((List Int) × (List Int)))} : HasC (F_impl_EqsOk sig eqs) fun rr => PFun Tryz.prog 47 [D_impl_Sig sig, (slD 2 D_impl_Eq) eqs] (bD rr) := ⟨@fun rr h => by
  delta F_impl_EqsOk at h
  refine fn47.pureL (vcm_sound ?_)
  delta mc47
  refine stp ?_
  refine rC h fun r hr h => ?_
  refine iT h fun hc h => ?_
  refine iF h fun hc h => ?_
  refine rCo [(0, 2)] [] h fun r_1 hr_1 h => ?_
  exact aut⟩
def mc26 : MCode :=
 (.seq (.reg (sq 3 [bo 3 37 0] ++ sq 6 [mb false])) (.seq (.seq (.reg (sq 9 [la 2 3, mv 2, .callf 38 [(t0 9), (t0 10), (.const (.slice none 0 0))], nt 11, mv 12] ++ sg 13 false 14 [fa 0 3, la 1 14, mv 1, cf 47 [15, 16], nt 17] ++ sq 19 [po 13 18])) (.cond (t0 19) (.seq (.reg (sq 6 [mb false])) .ret) .skip)) (.seq (.seq (.reg (sq 20 [mv 1, ln 20, mi 0])) (.block 0 (.loop (.seq (.reg (sq 23 [bn .lss 22 21])) (.seq (.cond (t0 23) .skip (.exit 0)) (.seq (.block 1 (.seq (.reg (sq 24 [ix 2 20 22, la 2 24] ++ sq 8 [.alloc 8 60 [.sl 0 (some true) [], .sl 0 (some true) []]] ++ s0 (sr 2 8 25))) (.seq (.reg (sq 26 [la 2 3, fa 0 8, ld 27, fa 1 8, ld 29, mv 2, cf 39 [26, 28, 30, 31], bi .neq 32 1])) (.cond (t0 33) (.seq (.reg (sq 6 [mb false])) .ret) .skip)))) (.reg (sq 34 [bi .add 22 1] ++ sq 22 [mv 34])))))))) (.seq (.reg (sq 6 [mb true])) .ret))))
theorem fn26 : MFn Tryz.prog 26 mc26 35 [.tmp 6] := ⟨_, Tryz.func26, by kernel_rfl, Tryz.ntmps26, by kernel_rfl⟩
noncomputable def F_impl_HoldAll_l1 (sys : ((List Int) × (List ((List Int) × (List Int))))) (eqs : (List ((List Int) × (List Int)))) (fuel : Int) : Int → Option (Int ⊕ Bool)
 | v22 =>
  if (decide (v22 < (eqs.length : Int))) = true then
   if 0 ≤ v22 ∧ v22 < (eqs.length : Int) then
    (F_impl_equalBy sys ((eqs.getD v22.toNat default).1) ((eqs.getD v22.toNat default).2) fuel).bind fun r_2 =>
    if (r_2 != 1) = true then
     Option.map Sum.inr (
      some false)
    else
     some (.inl (IntKind.i64.wrap (v22 + 1)))
   else none
  else
   Option.map Sum.inr (
    some true)
noncomputable def F_impl_HoldAll (sys : ((List Int) × (List ((List Int) × (List Int))))) (eqs : (List ((List Int) × (List Int)))) (fuel : Int) : Option Bool :=
 (F_impl_wordOk sys fuel []).bind fun r =>
 if r = true then
  (F_impl_EqsOk sys.1 eqs).bind fun r_1 =>
  if r_1 = true then
   loopC (F_impl_HoldAll_l1 sys eqs fuel) 0
  else
   some false
 else
  some false
instance c_impl_HoldAll {sys : ((List Int) × (List ((List Int) × (List Int))))} {eqs : (List ((List Int) × (List Int)))} {fuel : Int} : HasC (F_impl_HoldAll sys eqs fuel) fun rr => PFun Tryz.prog 26 [D_impl_System sys, (slD 2 D_impl_Eq) eqs, iD fuel] (bD rr) := ⟨@fun rr h => by
  delta F_impl_HoldAll at h
  refine fn26.pureL (vcm_sound ?_)
  delta mc26
  refine stp ?_
  refine rC h fun r hr h => ?_
  refine iT h fun hc h => ?_
  refine rC h fun r_1 hr_1 h => ?_
  refine iT h fun hc h => ?_
  refine m_lW h [6, 8, 22, 23, 24, 25, 26, 27, 28, 29, 30, 31, 32, 33, 34] (fun pp => [(22, .d (iD pp))]) (fun pp => [(3, .obj 37 [.d (slD 1 iD sys.1), .d (slD 2 D_impl_Rule sys.2)])]) ?_
  rintro v22 t1 h hb1
  unfold F_impl_HoldAll_l1 at h
  try dsimp only at h
  refine vcm_sound (stp ?_)
  refine iT h fun hc h => ?_
  refine ndI h fun hp h => ?_
  refine rC h fun r_2 hr_2 h => ?_
  refine iF h fun hc h => ?_
  cases h
  refine ⟨_, rfl, ?_⟩
  refine (Weak.drop 8 (by omega)).trans ?_
  exact wk⟩
def mc65 : MCode :=
 (.seq (.reg (sq 2 [bo 2 34 0, bo 3 60 1, mb false])) (.seq (.reg (sq 5 [la 1 2, fa 0 3, ld 6, cf 70 [5, 7], mv 8] ++ sg 9 true 10 [la 1 2, fa 1 3, ld 11, cf 70 [10, 12]] ++ sq 14 [pa 9 13] ++ sq 4 [mv 14])) .ret))
theorem fn65 : MFn Tryz.prog 65 mc65 15 [.tmp 4] := ⟨_, Tryz.func65, by kernel_rfl, Tryz.ntmps65, by kernel_rfl⟩
noncomputable def F_spec_EqOk (sig : (List Int)) (e : ((List Int) × (List Int))) : Option Bool :=
 (F_spec_TermOk sig e.1).bind fun r =>
 if r = true then
  (F_spec_TermOk sig e.2).bind fun r_1 =>
  some r_1
 else
  some false
instance c_spec_EqOk {sig : (List Int)} {e : ((List Int) × (List Int))} : HasC (F_spec_EqOk sig e) fun rr => PFun Tryz.prog 65 [D_impl_Sig sig, D_impl_Eq e] (bD rr) := ⟨@fun rr h => by
  delta F_spec_EqOk at h
  refine fn65.pureL (vcm_sound ?_)
  delta mc65
  refine stp ?_
  exact aut⟩
def mc44 : MCode :=
 (.seq (.reg (sq 2 [bo 2 34 0] ++ sq 4 [mb false])) (.seq (.seq (.reg (sq 6 [la 1 2, cf 63 [6], nt 7, mv 8] ++ sg 9 false 10 [mv 1, ln 10, bi .gtr 11 12] ++ sq 13 [po 9 12])) (.cond (t0 13) (.seq (.reg (sq 4 [mb false])) .ret) .skip)) (.seq (.seq (.reg (sq 5 [mi 0])) (.block 0 (.loop (.seq (.seq (.reg (sq 14 [mv 5, mv 1, ln 15, bn .lss 14 16])) (.cond (t0 17) .skip (.exit 0))) (.seq (.block 1 (.seq (.draw (sq 20 [la 1 2, mv 1, mv 5, ix 2 21 22, la 2 23, cf 65 [20, 24], nt 25]) [[], [], [], [1, 2], [3], [0, 4], [5]]) (.cond (t0 26) (.seq (.reg (sq 4 [mb false])) .ret) .skip))) (.reg (sq 18 [mv 5, bi .add 18 1] ++ sq 5 [mv 19]))))))) (.seq (.reg (sq 4 [mb true])) .ret))))
theorem fn44 : MFn Tryz.prog 44 mc44 27 [.tmp 4] := ⟨_, Tryz.func44, by kernel_rfl, Tryz.ntmps44, by kernel_rfl⟩
noncomputable def F_spec_EqsOk_l1 (sig : (List Int)) (eqs : (List ((List Int) × (List Int)))) : Int → Option (Int ⊕ Bool)
 | i =>
  if (decide (i < (eqs.length : Int))) = true then
   if 0 ≤ i ∧ i < (eqs.length : Int) then
    (F_spec_EqOk sig ((eqs.getD i.toNat default).1, (eqs.getD i.toNat default).2)).bind fun r_1 =>
    if r_1 = true then
     some (.inl (IntKind.i64.wrap (i + 1)))
    else
     Option.map Sum.inr (
      some false)
   else none
  else
   Option.map Sum.inr (
    some true)
noncomputable def F_spec_EqsOk (sig : (List Int)) (eqs : (List ((List Int) × (List Int)))) : Option Bool :=
 (F_spec_SigOk sig).bind fun r =>
 if r = true then
  if (decide (12 < (eqs.length : Int))) = true then
   some false
  else
   loopC (F_spec_EqsOk_l1 sig eqs) 0
 else
  some false
instance c_spec_EqsOk {sig : (List Int)} {eqs : (List ((List Int) × (List Int)))} : HasC (F_spec_EqsOk sig eqs) fun rr => PFun Tryz.prog 44 [D_impl_Sig sig, (slD 2 D_impl_Eq) eqs] (bD rr) := ⟨@fun rr h => by
  delta F_spec_EqsOk at h
  refine fn44.pureL (vcm_sound ?_)
  delta mc44
  refine stp ?_
  refine rC h fun r hr h => ?_
  refine iT h fun hc h => ?_
  refine iF h fun hc h => ?_
  refine m_lW h [4, 5, 14, 15, 16, 17, 18, 19, 20, 21, 22, 23, 24, 25, 26] (fun pp => [(5, .d (iD pp))]) (fun pp => [(2, .obj 34 [.d (slD 1 iD sig)])]) ?_
  rintro i t1 h hb1
  unfold F_spec_EqsOk_l1 at h
  try dsimp only at h
  refine vcm_sound (stp ?_)
  exact aut⟩
def mc22 : MCode :=
 (.seq (.reg (sq 3 [bo 3 37 0] ++ sq 6 [mb false])) (.seq (.seq (.reg (sq 8 [la 2 3, cf 43 [8], nt 9, mv 10] ++ sg 11 false 12 [fa 0 3, la 1 12, mv 1, cf 44 [13, 14], nt 15] ++ sq 17 [po 11 16, mv 17] ++ sg 18 false 19 [mv 2, .callf 30 [(t0 19), (i0 0), (i0 60)], nt 20] ++ sq 22 [po 18 21])) (.cond (t0 22) (.seq (.reg (sq 6 [mb false])) .ret) .skip)) (.seq (.seq (.reg (sq 7 [mi 0])) (.block 0 (.loop (.seq (.seq (.reg (sq 23 [mv 7, mv 1, ln 24, bn .lss 23 25])) (.cond (t0 26) .skip (.exit 0))) (.seq (.block 1 (.seq (.draw (sq 29 [la 2 3, mv 1, mv 7, ix 2 30 31, fa 0 32, ld 33, mv 1, mv 7, ix 2 35 36, fa 1 37, ld 38, mv 2, cf 15 [29, 34, 39, 40], bi .neq 41 1]) [[], [], [], [1, 2], [3], [4], [], [], [6, 7], [8], [9], [], [0, 5, 10, 11], [12]]) (.cond (t0 42) (.seq (.reg (sq 6 [mb false])) .ret) .skip))) (.reg (sq 27 [mv 7, bi .add 27 1] ++ sq 7 [mv 28]))))))) (.seq (.reg (sq 6 [mb true])) .ret))))
theorem fn22 : MFn Tryz.prog 22 mc22 43 [.tmp 6] := ⟨_, Tryz.func22, by kernel_rfl, Tryz.ntmps22, by kernel_rfl⟩
noncomputable def F_spec_HoldAll_l1 (sys : ((List Int) × (List ((List Int) × (List Int))))) (eqs : (List ((List Int) × (List Int)))) (fuel : Int) : Int → Option (Int ⊕ Bool)
 | i =>
  if (decide (i < (eqs.length : Int))) = true then
   if 0 ≤ i ∧ i < (eqs.length : Int) then
    if 0 ≤ i ∧ i < (eqs.length : Int) then
     (F_spec_EqualBy sys ((eqs.getD i.toNat default).1) ((eqs.getD i.toNat default).2) fuel).bind fun r_3 =>
     if (r_3 != 1) = true then
      Option.map Sum.inr (
       some false)
     else
      some (.inl (IntKind.i64.wrap (i + 1)))
    else none
   else none
  else
   Option.map Sum.inr (
    some true)
noncomputable def F_spec_HoldAll (sys : ((List Int) × (List ((List Int) × (List Int))))) (eqs : (List ((List Int) × (List Int)))) (fuel : Int) : Option Bool :=
 (F_spec_SystemOk sys).bind fun r =>
 if r = true then
  (F_spec_EqsOk sys.1 eqs).bind fun r_1 =>
  if r_1 = true then
   (F_spec_l1In fuel 0 60).bind fun r_2 =>
   if r_2 = true then
    loopC (F_spec_HoldAll_l1 sys eqs fuel) 0
   else
    some false
  else
   some false
 else
  some false
instance c_spec_HoldAll {sys : ((List Int) × (List ((List Int) × (List Int))))} {eqs : (List ((List Int) × (List Int)))} {fuel : Int} : HasC (F_spec_HoldAll sys eqs fuel) fun rr => PFun Tryz.prog 22 [D_impl_System sys, (slD 2 D_impl_Eq) eqs, iD fuel] (bD rr) := ⟨@fun rr h => by
  delta F_spec_HoldAll at h
  refine fn22.pureL (vcm_sound ?_)
  delta mc22
  refine stp ?_
  refine rC h fun r hr h => ?_
  refine iT h fun hc h => ?_
  refine rC h fun r_1 hr_1 h => ?_
  refine iT h fun hc h => ?_
  refine rC h fun r_2 hr_2 h => ?_
  refine iT h fun hc h => ?_
  refine m_lW h [6, 7, 23, 24, 25, 26, 27, 28, 29, 30, 31, 32, 33, 34, 35, 36, 37, 38, 39, 40, 41, 42] (fun pp => [(7, .d (iD pp))]) (fun pp => [(3, .obj 37 [.d (slD 1 iD sys.1), .d (slD 2 D_impl_Rule sys.2)])]) ?_
  rintro i t1 h hb1
  unfold F_spec_HoldAll_l1 at h
  try dsimp only at h
  refine vcm_sound (stp ?_)
  exact aut⟩
end Go.Proofs.YtcbfefbocpikoaaGreatDoor
namespace Abx
open Go
attribute [go_sem] List.set_cons_zero List.set_cons_succ
theorem noDp_nil : noDp [] = true := (rfl)
theorem noDp_d {x : D} {xs : List AV} : noDp (.d x :: xs) = noDp xs := (rfl)
theorem noDp_gow {e id n : Nat} {xs : List AV} : noDp (.gow e id n :: xs) = noDp xs := (rfl)
attribute [go_sem] noDp_nil noDp_d noDp_gow
theorem NsLe_refl_t {xs : List AV} : NsLe xs xs ↔ True := ⟨fun _ => trivial, fun _ => NsLe.refl xs⟩
attribute [go_sem] NsLe_refl_t ne_eq not_false_eq_true
theorem rens_take {ρ : Nat → Option Nat} {xs : List AV} {n : Nat} : AV.rens ρ (xs.take n) = (AV.rens ρ xs).take n := by simp only [rens_mapB, List.map_take]
theorem rens_drop {ρ : Nat → Option Nat} {xs : List AV} {n : Nat} : AV.rens ρ (xs.drop n) = (AV.rens ρ xs).drop n := by simp only [rens_mapB, List.map_drop]
attribute [go_sem] rens_take rens_drop
theorem Inv.prv_len {C : Ctx} {β : Beta} {s : Sto} {w : World} (h : Inv C β s w) {id e n : Nat} {xs : List D} (hs : sat s id = .prv e n (tolds xs)) (he : ∀ x ∈ xs, (dcells x).length = e) (h0 : 0 < e) : n = xs.length := by
  have ho := h.obs id
  rw [hs] at ho
  obtain ⟨u, bs, _, _, hl, _⟩ := ho
  rw [tolds_len he] at hl
  exact (Nat.eq_of_mul_eq_mul_right h0 hl).symm
section
variable {α γ : Type} [Inhabited α] {f : α → D} {f' : γ → D} {e e' n k0 : Nat} {s : Sto} {env : List AV} {xs : List α} {y y' : α} {ys : List γ} {i k : Nat}
theorem told_segE [Cel f e] {L : List AV} {m m' : Nat} (hi : i < xs.length) (hm : m = i * e) (hm' : m' = i * e + e) (hL : L = (dcells (f y)).map toldC) :
    (tolds (xs.map f)).take m ++ L ++ (tolds (xs.map f)).drop m' = tolds ((xs.set i y).map f) := by
  subst hm; subst hm'; subst hL
  have h1 := groL_take Cel.len xs i 0 hi (Nat.zero_le e) (f := f)
  have h2 := groL_drop Cel.len xs i e hi (Nat.le_refl e) (f := f)
  rw [tolds_L, tolds_L, ← List.map_take, ← List.map_drop, h2]
  rw [Nat.add_zero] at h1
  rw [h1, List.take_zero, List.append_nil, List.drop_of_length_le (by rw [Cel.len]; exact Nat.le_refl _), List.nil_append, List.set_eq_take_append_cons_drop, if_pos hi, groL_append, groL_cons]
  simp only [List.map_append, List.append_assoc]
theorem Weak.absSeg [Cel f' e'] [Cl f'] (id c q : Nat) {A L B : List AV} {m m' : Nat} (hs : sat s id = .prv e n (A ++ L ++ B)) (hq : L[q]? = some (.gow e' c m)) (hcs : sat s c = .prv e' m' (tolds (ys.map f'))) (hm : m = m') (h0 : 0 < e')
    (hc : k0 ≤ c) (hne : id ≠ c) :
    Weak k0 env s (AV.rens (killρ c) env) (sset (skill c s) id (.prv e n (AV.rens (killρ c) A ++ (AV.rens (killρ c) L).set q (.dp (slD e' f' ys)) ++ AV.rens (killρ c) B))) := fun C β a w hC hst => by
  subst hC; subst hm
  have hlen := hst.inv.prv_len hcs told_cond.1 h0
  rw [List.length_map] at hlen
  subst hlen
  have hqL : q < L.length := (List.getElem?_eq_some_iff.1 hq).1
  have hj : (A ++ L ++ B)[A.length + q]? = some (.gow e' c (ys.map f').length) := by
    rw [List.append_assoc, List.getElem?_append_right (by omega), Nat.add_sub_cancel_left, List.getElem?_append_left hqL, hq, List.length_map]
  obtain ⟨β', h2⟩ := hst.absorbP hne hc hs hj (WholeP.of hcs rfl)
  refine ⟨β', ?_⟩
  have : (AV.rens (killρ c) (A ++ L ++ B)).set (A.length + q) (.dp (.sl e' none (ys.map f'))) = AV.rens (killρ c) A ++ (AV.rens (killρ c) L).set q (.dp (slD e' f' ys)) ++ AV.rens (killρ c) B := by
    rw [rens_append', rens_append', List.append_assoc, List.append_assoc, List.set_append, if_neg (by rw [rens_length]; omega), rens_length, Nat.add_sub_cancel_left, List.set_append, if_pos (by rw [rens_length]; exact hqL)]
    rfl
  rw [this] at h2
  exact h2
end
attribute [go_sem] told_len
theorem Weak.prvZ {α : Type} {f : α → D} {e n m k0 id : Nat} {s : Sto} {env : List AV} {z : List AV} (x0 : α) (hs : sat s id = .prv e n ((List.replicate m z).flatten)) (h : NsLe z ((dcells (f x0)).map toldC)) :
    Weak k0 env s env (sset s id (.prv e n (tolds ((List.replicate m x0).map f)))) :=
  Weak.prvLe id _ hs (by rw [List.map_replicate]; exact NsLe.rep h m)
end Abx
namespace Abx
open Go
mutual
inductive Pub (tl : List (Nat × Nat × List D)) : AV → D → Prop
  | lit {u : Value} : Pub tl (.d (.lit u)) (.lit u)
  | gow {e id n : Nat} {ds : List D} (h : WholeP (toks tl) id e ds) (hn : n = ds.length) : Pub tl (.gow e id n) (.sl e none ds)
  | agg {xs : List AV} {ds : List D} (h : Pubs tl xs ds) : Pub tl (.agg xs) (.agg ds)
inductive Pubs (tl : List (Nat × Nat × List D)) : List AV → List D → Prop
  | nil : Pubs tl [] []
  | cons {x : AV} {a : D} {xs : List AV} {ds : List D} (h : Pub tl x a) (hs : Pubs tl xs ds) : Pubs tl (x :: xs) (a :: ds)
end
mutual
theorem Pub.ok {C : Ctx} {β β2 : Beta} {tl : List (Nat × Nat × List D)} {w : World} (h : Inv C β (toks tl) w) : ∀ {x : AV} {a : D} {v : Value}, Pub tl x a → AV.ok β (C.forb β (toks tl)) w x v → D.ok C.O w a v
  | _, _, v, .lit, hv => by simp only [AV.ok, D.ok] at hv ⊢; exact hv
  | _, _, v, .gow hw hn, hv => lent_tok h hw hn hv
  | _, _, v, .agg hl, hv => by
    simp only [AV.ok] at hv
    obtain ⟨vs, rfl, h1, h2⟩ := hv
    simp only [D.ok]
    exact ⟨vs, rfl, Pubs.oks (β2 := β2) h hl h1 h2⟩
theorem Pubs.oks {C : Ctx} {β β2 : Beta} {tl : List (Nat × Nat × List D)} {w : World} (h : Inv C β (toks tl) w) : ∀ {xs : List AV} {ds : List D} {vs : List Value}, Pubs tl xs ds → (∀ u ∈ vs, one u = true) → AV.oks β (C.forb β (toks tl)) w xs vs → D.oks C.O w ds vs
  | _, _, vs, .nil, _, hv => by simpa [AV.oks, D.oks] using hv
  | _, _, vs, .cons hl hs, h1, hv => by
    simp only [AV.oks] at hv
    obtain ⟨v, r, rfl, h2, h3⟩ := hv
    simp only [D.oks]
    exact ⟨v, r, rfl, h1 v (by simp), Pub.ok (β2 := β2) h hl h2, Pubs.oks (β2 := β2) h hs (fun u hu => h1 u (by simp [hu])) h3⟩
end
theorem ACalls.pub {P : Program} {f : Nat} {dz : List D} {y : AV} {t : Sto} {tl : List (Nat × Nat × List D)} {r : D} (hc : ACalls P f (dz.map .d) [] 0 fun x s' => x = y ∧ s' = t) (ht : t = toks tl) (hp : Pub tl y r) : PFun P f dz r := fun C vs hs hk hinv hargs => by
  subst ht
  refine (hc C vs hs hk hinv hargs).mono ?_
  rintro e w' ⟨v, x, β', s', rfl, hi, hx, rfl, rfl⟩
  refine ⟨v, .d r, fun _ => .no, [], rfl, ⟨hi.size, hi.io, hi.gl, hi.keep, hi.blks, fun b o ⟨id, h⟩ => h.elim, fun id b h => h.elim, fun id hid => by omega, hi.low, fun id => rfl, fun i j b h => h.elim⟩, ?_, rfl⟩
  have h1 := Pub.ok (β2 := β') hi hp hx
  simp only [AV.ok]
  exact D.ok_mono (fun b o v hc hn => ⟨hc, fun h => hn (h.elim (fun h => h) fun ⟨_, h⟩ => h.elim)⟩) r v h1
theorem Pub.tok {α : Type} {f : α → D} {e n id : Nat} {xs : List α} {tl : List (Nat × Nat × List D)} [Cel f e] [Cl f] (h : sat (toks tl) id = .prv e n (tolds (xs.map f))) (hn : n = xs.length) : Pub tl (.gow e id n) (slD e f xs) :=
  .gow (WholeP.of h hn) (by rw [hn, List.length_map])
theorem told_flat {α : Type} {f : α → D} [LitF f] : ∀ xs : List α, List.map (aD f) xs = tolds (xs.map f)
  | [] => rfl
  | x :: xs => by
    rw [List.map_cons, List.map_cons, tolds_cons, told_flat xs]
    have := LitF.lit (f := f) x
    cases h : f x with
    | lit u => simp only [dcells, List.map_cons, List.map_nil, toldC, aD, h]; rfl
    | _ => rw [h] at this; cases this
theorem sat_hit {i : Nat} {o : Ob} {s : Sto} : sat ((i, o) :: s) i = o := by simp [sat]
theorem sat_miss {i j : Nat} {o : Ob} {s : Sto} (h : j ≠ i) : sat ((i, o) :: s) j = sat s j := by simp [sat, h]
theorem sat_nil {j : Nat} : sat [] j = .dead := rfl
theorem sset_hit {i : Nat} {o x : Ob} {s : Sto} : sset ((i, o) :: s) i x = (i, x) :: s := by simp [sset]
theorem sset_lt {i j : Nat} {o x : Ob} {s : Sto} (h : i < j) : sset ((j, o) :: s) i x = (i, x) :: (j, o) :: s := by simp [sset, h, Nat.ne_of_lt h]
theorem sset_gt {i j : Nat} {o x : Ob} {s : Sto} (h : j < i) : sset ((j, o) :: s) i x = (j, o) :: sset s i x := by simp [sset, Nat.ne_of_gt h, Nat.not_lt_of_gt h]
theorem sset_nil {i : Nat} {x : Ob} : sset [] i x = [(i, x)] := rfl
attribute [go_sem] sat_hit sat_miss sat_nil sset_hit sset_lt sset_gt sset_nil
end Abx
namespace Go.Proofs.YtcbfefbocpikoaaGreatDoor
open Go Abx
attribute [local irreducible] vcm vgo vdr vrun vdrun MWp BrC BrO BrG BrD BrH AmbO callR callD drQ EnvLe StoLe
set_option maxHeartbeats 4000000
attribute [-go_sem] sat sset
def mc14 : MCode :=
 (.seq (.reg (sq 2 [mb false])) (.seq (.reg (sq 3 [mv 0, .callf 30 [(t0 3), (i0 0), (i0 6)]] ++ sq 2 [mv 4])) .ret))
theorem fn14 : MFn Tryz.prog 14 mc14 5 [.tmp 2] := ⟨_, Tryz.func14, by kernel_rfl, Tryz.ntmps14, by kernel_rfl⟩
noncomputable def F_spec_l33There (k : Int) : Option Bool :=
 (F_spec_l1In k 0 6).bind fun r =>
 some r
instance c_spec_l33There {k : Int} : HasC (F_spec_l33There k) fun rr => PFun Tryz.prog 14 [iD k] (bD rr) := ⟨@fun rr h => by
  delta F_spec_l33There at h
  refine fn14.pureL (vcm_sound ?_)
  delta mc14
  refine stp ?_
  exact aut⟩
def mc35 : MCode :=
 (.seq (.reg (sq 0 [.alloc 0 34 [.sl 0 (some true) []]])) (.seq (.reg (sq 1 [.bsl 1 2 1 [(i0 2), (i0 1), (i0 0)], .build [.sl 0 (some true) []] [(0, 1, (t0 1))]] ++ s0 (sr 1 0 2))) .ret))
theorem fn35 : MFn Tryz.prog 35 mc35 3 [.cell 0 1 true] := ⟨_, Tryz.func35, by kernel_rfl, Tryz.ntmps35, by kernel_rfl⟩
noncomputable def F_spec_l33Sig  : Option (List Int) :=
 some [2, 1, 0]
instance c_spec_l33Sig : HasC (F_spec_l33Sig) fun rr => PFun Tryz.prog 35 [] (D_impl_Sig rr) := ⟨@fun rr h => by
  delta F_spec_l33Sig at h
  refine fn35.pureL (vcm_sound ?_)
  delta mc35
  refine stp ?_
  exact aut⟩
def mc45 : MCode :=
 (.seq (.reg (sq 0 [.alloc 0 60 [.sl 0 (some true) [], .sl 0 (some true) []]])) (.seq (.reg (sq 1 [.bsl 1 2 1 [(i0 0), (i0 0), (i0 (-1)), (i0 (-2)), (i0 (-3))], .bsl 2 2 1 [(i0 0), (i0 (-1)), (i0 0), (i0 (-2)), (i0 (-3))], .build [.sl 0 (some true) [], .sl 0 (some true) []] [(0, 1, (t0 1)), (1, 1, (t0 2))]] ++ s0 (sr 2 0 3))) .ret))
theorem fn45 : MFn Tryz.prog 45 mc45 4 [.cell 0 2 true] := ⟨_, Tryz.func45, by kernel_rfl, Tryz.ntmps45, by kernel_rfl⟩
noncomputable def F_spec_l33Regroup  : Option ((List Int) × (List Int)) :=
 some ([0, 0, (-1), (-2), (-3)], [0, (-1), 0, (-2), (-3)])
instance c_spec_l33Regroup : HasC (F_spec_l33Regroup) fun rr => PFun Tryz.prog 45 [] (D_impl_Eq rr) := ⟨@fun rr h => by
  delta F_spec_l33Regroup at h
  refine fn45.pureL (vcm_sound ?_)
  delta mc45
  refine stp ?_
  exact aut⟩
def mc23 : MCode :=
 (.seq (.reg (sq 2 [.mv (.const (.slice none 0 0))])) (.seq (.seq (.reg (sq 3 [mv 0])) (.block 0 (.seq (.reg (sq 5 [bi .eql 3 0] ++ sq 4 [mv 5])) (.cond (t0 4) (.seq (.reg (sq 6 [.bsl 6 2 1 [(i0 0), (i0 2), (i0 (-1))], .bsl 7 2 1 [(i0 (-1))], .build [.sl 0 (some true) [], .sl 0 (some true) []] [(0, 1, (t0 6)), (1, 1, (t0 7))], .bsl 9 2 1 [(i0 0), (i0 1), (i0 (-1)), (i0 (-2))], .bsl 10 2 1 [(i0 1), (i0 0), (i0 (-1)), (i0 (-2))], .build [.sl 0 (some true) [], .sl 0 (some true) []] [(0, 1, (t0 9)), (1, 1, (t0 10))], .bsl 12 60 2 [(t0 8), (t0 11)]] ++ sq 2 [mv 12])) .ret) (.seq (.reg (sq 14 [bi .eql 3 1] ++ sq 13 [mv 14])) (.cond (t0 13) (.seq (.reg (sq 15 [cf 45 [], .bsl 16 60 2 [(t0 15)]] ++ sq 2 [mv 16])) .ret) (.seq (.reg (sq 18 [bi .eql 3 2] ++ sq 17 [mv 18])) (.cond (t0 17) (.seq (.reg (sq 19 [.bsl 19 2 1 [(i0 0), (i0 2), (i0 (-1))], .bsl 20 2 1 [(i0 (-1))], .build [.sl 0 (some true) [], .sl 0 (some true) []] [(0, 1, (t0 19)), (1, 1, (t0 20))], .bsl 22 2 1 [(i0 0), (i0 (-1)), (i0 2)], .bsl 23 2 1 [(i0 (-1))], .build [.sl 0 (some true) [], .sl 0 (some true) []] [(0, 1, (t0 22)), (1, 1, (t0 23))], cf 45 [], .bsl 26 60 2 [(t0 21), (t0 24), (t0 25)]] ++ sq 2 [mv 26])) .ret) (.seq (.reg (sq 28 [bi .eql 3 3] ++ sq 27 [mv 28])) (.cond (t0 27) (.seq (.reg (sq 29 [.bsl 29 2 1 [(i0 1), (i0 1), (i0 (-1))], .bsl 30 2 1 [(i0 (-1))], .build [.sl 0 (some true) [], .sl 0 (some true) []] [(0, 1, (t0 29)), (1, 1, (t0 30))], .bsl 32 2 1 [(i0 1), (i0 0), (i0 (-1)), (i0 (-2))], .bsl 33 2 1 [(i0 0), (i0 1), (i0 (-2)), (i0 1), (i0 (-1))], .build [.sl 0 (some true) [], .sl 0 (some true) []] [(0, 1, (t0 32)), (1, 1, (t0 33))], .bsl 35 60 2 [(t0 31), (t0 34)]] ++ sq 2 [mv 35])) .ret) (.seq (.reg (sq 37 [bi .eql 3 4] ++ sq 36 [mv 37])) (.cond (t0 36) (.seq (.reg (sq 38 [.bsl 38 2 1 [(i0 0), (i0 (-1)), (i0 (-1))], .bsl 39 2 1 [(i0 (-1))], .build [.sl 0 (some true) [], .sl 0 (some true) []] [(0, 1, (t0 38)), (1, 1, (t0 39))], .bsl 41 2 1 [(i0 1), (i0 (-1))], .bsl 42 2 1 [(i0 (-1))], .build [.sl 0 (some true) [], .sl 0 (some true) []] [(0, 1, (t0 41)), (1, 1, (t0 42))], .bsl 44 60 2 [(t0 40), (t0 43)]] ++ sq 2 [mv 44])) .ret) (.seq (.reg (sq 46 [bi .eql 3 5] ++ sq 45 [mv 46])) (.cond (t0 45) (.seq (.reg (sq 47 [.bsl 47 2 1 [(i0 0), (i0 0), (i0 (-1)), (i0 (-2)), (i0 0), (i0 (-2)), (i0 (-3))], .bsl 48 2 1 [(i0 (-2))], .build [.sl 0 (some true) [], .sl 0 (some true) []] [(0, 1, (t0 47)), (1, 1, (t0 48))], .bsl 50 60 2 [(t0 49)]] ++ sq 2 [mv 50])) .ret) (.seq (.reg (sq 52 [bi .eql 3 6] ++ sq 51 [mv 52])) (.cond (t0 51) (.seq (.reg (sq 53 [.bsl 53 2 1 [(i0 0), (i0 2), (i0 (-1))], .bsl 54 2 1 [(i0 (-1))], .build [.sl 0 (some true) [], .sl 0 (some true) []] [(0, 1, (t0 53)), (1, 1, (t0 54))], .bsl 56 2 1 [(i0 0), (i0 1), (i0 (-1)), (i0 (-1))], .bsl 57 2 1 [(i0 2)], .build [.sl 0 (some true) [], .sl 0 (some true) []] [(0, 1, (t0 56)), (1, 1, (t0 57))], cf 45 [], .bsl 60 60 2 [(t0 55), (t0 58), (t0 59)]] ++ sq 2 [mv 60])) .ret) .skip)))))))))))))))) (.seq (.reg (sq 61 [.bsl 61 60 2 []] ++ sq 2 [mv 61])) .ret)))
theorem fn23 : MFn Tryz.prog 23 mc23 62 [.tmp 2] := ⟨_, Tryz.func23, by kernel_rfl, Tryz.ntmps23, by kernel_rfl⟩
noncomputable def F_spec_TheoryEqs (k : Int) : Option (List ((List Int) × (List Int))) :=
 if (k == 0) = true then
  some [([0, 2, (-1)], [(-1)]), ([0, 1, (-1), (-2)], [1, 0, (-1), (-2)])]
 else
  if (k == 1) = true then
   (F_spec_l33Regroup).bind fun r =>
   some [r]
  else
   if (k == 2) = true then
    (F_spec_l33Regroup).bind fun r_1 =>
    some [([0, 2, (-1)], [(-1)]), ([0, (-1), 2], [(-1)]), r_1]
   else
    if (k == 3) = true then
     some [([1, 1, (-1)], [(-1)]), ([1, 0, (-1), (-2)], [0, 1, (-2), 1, (-1)])]
    else
     if (k == 4) = true then
      some [([0, (-1), (-1)], [(-1)]), ([1, (-1)], [(-1)])]
     else
      if (k == 5) = true then
       some [([0, 0, (-1), (-2), 0, (-2), (-3)], [(-2)])]
      else
       if (k == 6) = true then
        (F_spec_l33Regroup).bind fun r_2 =>
        some [([0, 2, (-1)], [(-1)]), ([0, 1, (-1), (-1)], [2]), r_2]
       else
        some []
instance c_spec_TheoryEqs {k : Int} : HasC (F_spec_TheoryEqs k) fun rr => PFun Tryz.prog 23 [iD k] ((slD 2 D_impl_Eq) rr) := ⟨@fun rr h => by
  delta F_spec_TheoryEqs at h
  refine fn23.pureL (vcm_sound ?_)
  delta mc23
  refine stp ?_
  exact aut⟩
def mc36 : MCode :=
 (.seq (.reg (sq 2 [.mv (.const (.slice none 0 0))])) (.seq (.seq (.reg (sq 3 [mv 0])) (.block 0 (.seq (.reg (sq 5 [bi .eql 3 5] ++ sq 4 [mv 5])) (.cond (t0 4) (.seq (.reg (sq 6 [.bsl 6 2 1 [(i0 0), (i0 (-1)), (i0 0), (i0 0), (i0 (-1)), (i0 (-2)), (i0 (-3))], .bsl 7 2 1 [(i0 0), (i0 (-1)), (i0 (-2))], .build [.sl 0 (some true) [], .sl 0 (some true) []] [(0, 1, (t0 6)), (1, 1, (t0 7))], .bsl 9 2 1 [(i0 0), (i0 0), (i0 (-1)), (i0 0), (i0 (-2)), (i0 (-3)), (i0 (-3))], .bsl 10 2 1 [(i0 0), (i0 (-2)), (i0 (-3))], .build [.sl 0 (some true) [], .sl 0 (some true) []] [(0, 1, (t0 9)), (1, 1, (t0 10))], .bsl 12 61 2 [(t0 8), (t0 11)]] ++ sq 2 [mv 12])) .ret) (.seq (.reg (sq 14 [bi .eql 3 6] ++ sq 13 [mv 14])) (.cond (t0 13) (.seq (.reg (sq 15 [.bsl 15 2 1 [(i0 0), (i0 1), (i0 (-1)), (i0 0), (i0 (-1)), (i0 (-2))], .bsl 16 2 1 [(i0 (-2))], .build [.sl 0 (some true) [], .sl 0 (some true) []] [(0, 1, (t0 15)), (1, 1, (t0 16))], .bsl 18 2 1 [(i0 0), (i0 (-1)), (i0 2)], .bsl 19 2 1 [(i0 (-1))], .build [.sl 0 (some true) [], .sl 0 (some true) []] [(0, 1, (t0 18)), (1, 1, (t0 19))], .bsl 21 2 1 [(i0 1), (i0 2)], .bsl 22 2 1 [(i0 2)], .build [.sl 0 (some true) [], .sl 0 (some true) []] [(0, 1, (t0 21)), (1, 1, (t0 22))], .bsl 24 2 1 [(i0 1), (i0 1), (i0 (-1))], .bsl 25 2 1 [(i0 (-1))], .build [.sl 0 (some true) [], .sl 0 (some true) []] [(0, 1, (t0 24)), (1, 1, (t0 25))], .bsl 27 2 1 [(i0 0), (i0 (-1)), (i0 1), (i0 (-1))], .bsl 28 2 1 [(i0 2)], .build [.sl 0 (some true) [], .sl 0 (some true) []] [(0, 1, (t0 27)), (1, 1, (t0 28))], .bsl 30 2 1 [(i0 0), (i0 (-1)), (i0 0), (i0 1), (i0 (-1)), (i0 (-2))], .bsl 31 2 1 [(i0 (-2))], .build [.sl 0 (some true) [], .sl 0 (some true) []] [(0, 1, (t0 30)), (1, 1, (t0 31))], .bsl 33 2 1 [(i0 1), (i0 0), (i0 (-1)), (i0 (-2))], .bsl 34 2 1 [(i0 0), (i0 1), (i0 (-2)), (i0 1), (i0 (-1))], .build [.sl 0 (some true) [], .sl 0 (some true) []] [(0, 1, (t0 33)), (1, 1, (t0 34))], .bsl 36 61 2 [(t0 17), (t0 20), (t0 23), (t0 26), (t0 29), (t0 32), (t0 35)]] ++ sq 2 [mv 36])) .ret) .skip)))))) (.seq (.reg (sq 37 [.bsl 37 61 2 []] ++ sq 2 [mv 37])) .ret)))
theorem fn36 : MFn Tryz.prog 36 mc36 38 [.tmp 2] := ⟨_, Tryz.func36, by kernel_rfl, Tryz.ntmps36, by kernel_rfl⟩
noncomputable def F_spec_l33More (k : Int) : Option (List ((List Int) × (List Int))) :=
 if (k == 5) = true then
  some [([0, (-1), 0, 0, (-1), (-2), (-3)], [0, (-1), (-2)]), ([0, 0, (-1), 0, (-2), (-3), (-3)], [0, (-2), (-3)])]
 else
  if (k == 6) = true then
   some [([0, 1, (-1), 0, (-1), (-2)], [(-2)]), ([0, (-1), 2], [(-1)]), ([1, 2], [2]), ([1, 1, (-1)], [(-1)]), ([0, (-1), 1, (-1)], [2]), ([0, (-1), 0, 1, (-1), (-2)], [(-2)]), ([1, 0, (-1), (-2)], [0, 1, (-2), 1, (-1)])]
  else
   some []
instance c_spec_l33More {k : Int} : HasC (F_spec_l33More k) fun rr => PFun Tryz.prog 36 [iD k] ((slD 2 D_impl_Rule) rr) := ⟨@fun rr h => by
  delta F_spec_l33More at h
  refine fn36.pureL (vcm_sound ?_)
  delta mc36
  refine stp ?_
  exact aut⟩
def mc16 : MCode :=
 (.seq (.reg (sq 2 [.alloc 2 37 [.sl 0 (some true) [], .sl 0 (some true) []]])) (.seq (.seq (.reg (sq 6 [mv 0, cf 14 [6], nt 7])) (.cond (t0 8) (.seq (.reg (sq 9 [.build [.sl 0 (some true) [], .sl 0 (some true) []] []] ++ s0 (sr 2 2 9))) .ret) .skip)) (.seq (.reg (sq 10 [cf 35 [], .build [.sl 0 (some true) [], .sl 0 (some true) []] [(0, 1, (t0 10))]] ++ sq 3 [.alloc 3 37 [.sl 0 (some true) [], .sl 0 (some true) []]] ++ s0 (sr 2 3 11))) (.seq (.reg (sq 12 [mv 0, cf 23 [12]] ++ sq 4 [mv 13])) (.seq (.seq (.reg (sq 5 [mi 0])) (.block 0 (.loop (.seq (.seq (.reg (sq 14 [mv 5, mv 4, ln 15, bn .lss 14 16])) (.cond (t0 17) .skip (.exit 0))) (.seq (.block 1 (.draw (sq 20 [fa 1 3, ld 20, mv 4, mv 5, ix 2 22 23, fa 0 24, ld 25, mv 4, mv 5, ix 2 27 28, fa 1 29, ld 30, .build [.sl 0 (some true) [], .sl 0 (some true) []] [(0, 1, (t0 26)), (1, 1, (t0 31))], .bsl 33 61 2 [(t0 32)], ap 34 61 2 48 21 33, fa 1 3] ++ s0 (sr 1 35 34)) [[], [0], [], [], [2, 3], [4], [5], [], [], [7, 8], [9], [10], [6, 11], [12], [1, 13], [0, 1, 2, 3, 4, 5, 6, 7, 8, 9, 10, 11, 12, 13, 14], [15, 14, 14, 0, 1, 2, 3, 4, 5, 6, 7, 8, 9, 10, 11, 12, 13, 14]])) (.reg (sq 18 [mv 5, bi .add 18 1] ++ sq 5 [mv 19]))))))) (.seq (.draw (sq 36 [fa 1 3, ld 36, mv 0, cf 36 [38], ap 40 61 2 48 37 39, fa 1 3] ++ s0 (sr 1 41 40)) [[], [0], [], [2], [1, 3, 3], [0, 1, 2, 3, 4], [5, 4, 4, 0, 1, 2, 3, 4]]) (.seq (.reg (sq 42 [la 2 3] ++ s0 (sr 2 2 42))) .ret)))))))
theorem fn16 : MFn Tryz.prog 16 mc16 43 [.cell 2 2 true] := ⟨_, Tryz.func16, by kernel_rfl, Tryz.ntmps16, by kernel_rfl⟩
noncomputable def F_spec_TheoryRules_l1 (k : Int) (r_1 : (List Int)) (r_2 : (List ((List Int) × (List Int)))) : (Int × (List ((List Int) × (List Int)))) → Option ((Int × (List ((List Int) × (List Int)))) ⊕ ((List Int) × (List ((List Int) × (List Int)))))
 | (i, out) =>
  if (decide (i < (r_2.length : Int))) = true then
   if 0 ≤ i ∧ i < (r_2.length : Int) then
    if 0 ≤ i ∧ i < (r_2.length : Int) then
     if (out.length + 1) * 48 ≤ 140737488355328 then
      some (.inl ((IntKind.i64.wrap (i + 1)), (out ++ [((r_2.getD i.toNat default).1, (r_2.getD i.toNat default).2)])))
     else none
    else none
   else none
  else
   Option.map Sum.inr (
    (F_spec_l33More k).bind fun r_3 =>
    if (out.length + r_3.length) * 48 ≤ 140737488355328 then
     some (r_1, (out ++ r_3))
    else none)
noncomputable def F_spec_TheoryRules (k : Int) : Option ((List Int) × (List ((List Int) × (List Int)))) :=
 (F_spec_l33There k).bind fun r =>
 if r = true then
  (F_spec_l33Sig).bind fun r_1 =>
  (F_spec_TheoryEqs k).bind fun r_2 =>
  loopC (F_spec_TheoryRules_l1 k r_1 r_2) (0, [])
 else
  some ([], [])
instance c_spec_TheoryRules {k : Int} : HasC (F_spec_TheoryRules k) fun rr => PFun Tryz.prog 16 [iD k] (D_impl_System rr) := ⟨@fun rr h => by
  delta F_spec_TheoryRules at h
  refine fn16.pureL (vcm_sound ?_)
  delta mc16
  refine stp ?_
  refine rC h fun r hr h => ?_
  refine iT h fun hc h => ?_
  refine rC h fun r_1 hr_1 h => ?_
  refine rC h fun r_2 hr_2 h => ?_
  refine m_loopF h [5, 14, 15, 16, 17, 18, 19, 20, 21, 22, 23, 24, 25, 26, 27, 28, 29, 30, 31, 32, 33, 34, 35] (fun pp => [(5, .d (iD pp.1))]) (fun pp => [(2, .obj 37 [.d (.sl 0 (some true) []), .d (.sl 0 (some true) [])]), (3, .obj 37 [.d (slD 1 iD r_1), .own 2 34 (List.map D_impl_Rule pp.2)]), (34, .tok 61 2 pp.2.length)]) ?_ ?_
  · try dsimp only
    refine (Weak.thawCell 3 1 34 61 2 rfl rfl rfl).trans ?_
    exact wk
  rintro ⟨i, out⟩ t1 h hb1
  unfold F_spec_TheoryRules_l1 at h
  try dsimp only at h
  refine vcm_sound (stp ?_)
  refine iT h fun hc h => ?_
  refine ndI h fun hp h => ?_
  refine ndI h fun hp h => ?_
  refine ndI h fun hp h => ?_
  refine drQ_of (by kernel_rfl) (stp ?_)
  cases h
  refine ⟨_, rfl, ?_⟩
  refine (Weak.drop 33 (by omega)).trans ?_
  exact wk⟩
def mc5 : MCode :=
 (.seq (.reg (sq 6 [mi 0])) (.seq (.seq (.reg (sq 7 [mv 0, cf 14 [7], nt 8])) (.cond (t0 9) (.seq (.reg (sq 6 [mi (-1)])) .ret) .skip)) (.seq (.reg (sq 10 [mv 0, cf 16 [10], mv 1, mv 2, .callf 15 [(t0 11), (t0 12), (t0 13), (i0 60)]] ++ sq 6 [mv 14])) .ret)))
theorem fn5 : MFn Tryz.prog 5 mc5 15 [.tmp 6] := ⟨_, Tryz.func5, by kernel_rfl, Tryz.ntmps5, by kernel_rfl⟩
noncomputable def F_spec_TheoryEqual (k : Int) (a : (List Int)) (b : (List Int)) : Option Int :=
 (F_spec_l33There k).bind fun r =>
 if r = true then
  (F_spec_TheoryRules k).bind fun r_1 =>
  (F_spec_EqualBy r_1 a b 60).bind fun r_2 =>
  some r_2
 else
  some (-1)
instance c_spec_TheoryEqual {k : Int} {a : (List Int)} {b : (List Int)} : HasC (F_spec_TheoryEqual k a b) fun rr => PFun Tryz.prog 5 [iD k, (slD 1 iD) a, (slD 1 iD) b] (iD rr) := ⟨@fun rr h => by
  delta F_spec_TheoryEqual at h
  refine fn5.pureL (vcm_sound ?_)
  delta mc5
  refine stp ?_
  exact aut⟩
def mc10 : MCode :=
 (.seq (.reg (sq 3 [bo 3 37 1, mb false])) (.seq (.draw (sq 5 [mv 0, cf 14 [5], mv 6] ++ sg 7 true 8 [la 2 3, mv 0, cf 23 [9], .callf 22 [(t0 8), (t0 10), (i0 60)]] ++ sq 12 [pa 7 11] ++ sq 4 [mv 12]) [[], [0], [1, 1], [2], [2], [4, 2, 2], [3, 5, 5, 2], [2, 6], [7, 6, 0, 1, 2, 3, 4, 5, 6, 7]]) .ret))
theorem fn10 : MFn Tryz.prog 10 mc10 13 [.tmp 4] := ⟨_, Tryz.func10, by kernel_rfl, Tryz.ntmps10, by kernel_rfl⟩
noncomputable def F_spec_TheoryHolds (k : Int) (sys : ((List Int) × (List ((List Int) × (List Int))))) : Option Bool :=
 (F_spec_l33There k).bind fun r =>
 if r = true then
  (F_spec_TheoryEqs k).bind fun r_1 =>
  (F_spec_HoldAll sys r_1 60).bind fun r_2 =>
  some r_2
 else
  some false
instance c_spec_TheoryHolds {k : Int} {sys : ((List Int) × (List ((List Int) × (List Int))))} : HasC (F_spec_TheoryHolds k sys) fun rr => PFun Tryz.prog 10 [iD k, D_impl_System sys] (bD rr) := ⟨@fun rr h => by
  delta F_spec_TheoryHolds at h
  refine fn10.pureL (vcm_sound ?_)
  delta mc10
  refine stp ?_
  exact aut⟩
end Go.Proofs.YtcbfefbocpikoaaGreatDoor
namespace Go.Proofs.YtcbfefbocpikoaaGreatDoor
open Go Go.RowKit Go.Proofs
theorem sizeBld : (Tryz.prog.info? 168).map (·.size) = some 2 := by kernel_rfl
theorem liesBld : liesAt Tryz.prog Tryz.prog.depth 168 (2 / Tryz.prog.cellsOf 168) 0 168 1 = true := by kernel_rfl
theorem infoByt : (Tryz.prog.info? 5).map (fun i => (i.zero, i.size, i.bytes)) = some (some (.int .u8 0), 1, 1) := by kernel_rfl
set_option maxHeartbeats 1000000 in
set_option maxRecDepth 100000 in
theorem chk_used (b : Nat) (w : World) (h0 : w.cell? ⟨b, 0, none⟩ = some (.pointer (some ⟨b, 0, none⟩))) :
    Calls Tryz.prog 153 #[.pointer (some ⟨b, 0, none⟩)] w fun e w' => e = .returned (.tuple #[]) ∧ w' = w := by
  obtain ⟨j, hj, _⟩ := Option.map_eq_some_iff.1 sizeBld
  go_enter Tryz.func153, Tryz.ntmps153
  go_wp2
  rw [Lib.run_neq_ptr_same w _ Tryz.underlying165 hj]
  go_wp2
  go_end0
  exact ⟨rfl, rfl⟩
set_option maxHeartbeats 1000000 in
set_option maxRecDepth 100000 in
theorem chk_fresh (b : Nat) (w : World) (h0 : w.cell? ⟨b, 0, none⟩ = some (.pointer none)) (hsh : w.shape? b = some (168, 2)) (hfz : w.frozen? ⟨b, 0, none⟩ = false) :
    Calls Tryz.prog 153 #[.pointer (some ⟨b, 0, none⟩)] w fun e w' => e = .returned (.tuple #[]) ∧ w' = w.setCell ⟨b, 0, none⟩ (.pointer (some ⟨b, 0, none⟩)) := by
  obtain ⟨j, hj, hjs⟩ := Option.map_eq_some_iff.1 sizeBld
  go_enter Tryz.func153, Tryz.ntmps153
  go_wp2
  rw [Lib.run_to_unsafe w ⟨b, 0, none⟩ Tryz.underlying165 Tryz.underlying187 hj (by rw [hjs]; decide) hsh (Nat.zero_lt_succ 1)]
  simp only [Result.andThen]
  rw [Oper.upon_value]
  go_wp2
  rw [run_callFunc_extern Tryz.func155 (by kernel_rfl) (by kernel_rfl) (by kernel_rfl) (e := Extern.AbiNoEscape.same) (by kernel_rfl)]
  rw [Lib.run_noEscape]
  simp only [Result.andThen]
  rw [Oper.upon_value]
  go_wp2
  rw [Lib.run_from_unsafe w ⟨b, 0, none⟩ Tryz.underlying187 Tryz.underlying165 hj hsh liesBld]
  simp only [Result.andThen]
  rw [Oper.upon_value]
  go_wp2
  go_end0
  exact ⟨rfl, rfl⟩
theorem chk_k (B b : Nat) (bs : List Value) (w : World) (h : Lib.IsBuilderF 168 5 B b bs w) :
    Calls Tryz.prog 153 #[.pointer (some ⟨b, 0, none⟩)] w fun e w' => e = .returned (.tuple #[]) ∧ (Lib.BuilderAtF 168 5 B b (.pointer (some ⟨b, 0, none⟩)) bs w' ∧ Below B w w' ∧ Lib.OthersKept 5 (some b) w w') := by
  rcases h with h | h
  · refine (chk_fresh b w h.cell0 h.shape h.frozen0).mono ?_
    rintro e w' ⟨rfl, rfl⟩
    exact ⟨rfl, h.used _, (Below.refl B w).setCell (p := ⟨b, 0, none⟩) h.1 _, (Lib.OthersKept.refl _ _ w).setCell ⟨b, 0, none⟩ rfl _⟩
  · refine (chk_used b w h.cell0).mono ?_
    rintro e w' ⟨rfl, rfl⟩
    exact ⟨rfl, h, Below.refl B _, Lib.OthersKept.refl _ _ _⟩
set_option maxHeartbeats 2000000 in
set_option maxRecDepth 100000 in
theorem wbyte (B b : Nat) (bs : List Value) (c : Int) (w : World) (h : Lib.IsBuilderF 168 5 B b bs w) (hlen : bs.length + 1 ≤ 140737488355328) (hBw : B ≤ w.heap.size) :
    Calls Tryz.prog 150 #[.pointer (some ⟨b, 0, none⟩), .int .u8 c] w fun e w' => e = .returned .nilIface ∧ (Lib.BuilderAtF 168 5 B b (.pointer (some ⟨b, 0, none⟩)) (bs ++ [.int .u8 c]) w' ∧ Below B w w' ∧ Lib.OthersKept 5 (some b) w w') := by
  obtain ⟨i0, hi, hz0, hz1, hz2⟩ := info_parts infoByt
  go_enter Tryz.func150, Tryz.ntmps150
  go_wp2_with (go_at_call 153; refine (chk_k B b bs _ h).mono ?_)
  rintro e w1 ⟨rfl, h1, hb1, hk1⟩
  obtain ⟨hB, v, hbk, hown, hne⟩ := h1
  have c0 : w1.cell? ⟨b, 0, none⟩ = some (.pointer (some ⟨b, 0, none⟩)) := by rw [Lib.cell_of_heap hbk]; rfl
  have c1 : w1.cell? ⟨b, 1, none⟩ = some v := by rw [Lib.cell_of_heap hbk]; rfl
  go_wp2_with (at_builtin; refine wpList_append_ownF _ rfl _ _ 166 rfl B 5 i0 (.int .u8 0) 1 1 Tryz.underlying166 hi hz0 hz1 hz2 rfl (by decide) _ _ _ rfl (hown.alloc _) ⟨w1.heap.size, 0, none⟩ 1 1 [.int .u8 c] rfl rfl ?c1 ?c2 ?c3 ?c4 ?c5 ?_)
  case c1 =>
    intro j u hj
    match j, hj with
    | 0, hj => simp at hj; subst hj; simp [Addr.add]
  case c2 => intro u hu; simp at hu; subst hu; rfl
  case c3 => unfold maxLen; omega
  case c4 => omega
  case c5 => have := hb1.size; simp; omega
  intro v' w2 hown' hgrow _
  have hlt : b < w1.heap.size := by
    rcases Nat.lt_or_ge b w1.heap.size with h' | h'
    · exact h'
    · simp [Array.getElem?_eq_none h'] at hbk
  have hb2 : w2.heap[b]? = some (.cells #[.pointer (some ⟨b, 0, none⟩), v] 168 (0, 0)) := by
    rw [hgrow.block b (by simp; omega) (fun e => hne e.symm), Lib.alloc_old w1 _ b hlt]
    exact hbk
  have d0 : w2.cell? ⟨b, 0, none⟩ = some (.pointer (some ⟨b, 0, none⟩)) := by rw [Lib.cell_of_heap hb2]; rfl
  have d1 : w2.cell? ⟨b, 1, none⟩ = some v := by rw [Lib.cell_of_heap hb2]; rfl
  have f1 : w2.frozen? ⟨b, 1, none⟩ = false := Lib.frozen_of_heap hb2 1
  obtain ⟨g, cap, rfl⟩ : ∃ g cap, v' = .slice (some ⟨g, 0, none⟩) (bs.length + 1) cap := by
    rcases hown'.2 with ⟨_, h0⟩ | ⟨g, cap, cur, fz, hv, _⟩
    · omega
    · exact ⟨g, cap, hv⟩
  go_wp2
  go_ret
  refine ⟨rfl, ?_, ?_, ((hk1.alloc _).grown hgrow (Lib.ownsRowF_kind (hown.alloc _))).setCell ⟨b, 1, none⟩ rfl _⟩
  · exact Lib.BuilderAtF.put (T := 168) (e := 5) hB hb2 (bs' := bs ++ [.int .u8 c]) (by simpa using hown') (by decide)
  · exact ((hb1.alloc (by have := hb1.size; omega) _).grown hgrow (by have := hb1.size; simp; omega) (fun k hk => (hown.lt k hk).1)).setCell (p := ⟨b, 1, none⟩) hB _
set_option maxHeartbeats 2000000 in
set_option maxRecDepth 100000 in
theorem wstr (B b : Nat) (bs : List Value) (s : ByteArray) (w : World) (h : Lib.IsBuilderF 168 5 B b bs w) (hlen : bs.length + s.size ≤ 140737488355328) (hBw : B ≤ w.heap.size) :
    Calls Tryz.prog 148 #[.pointer (some ⟨b, 0, none⟩), .string s] w fun e w' => e = .returned (.tuple #[.int .i64 s.size, .nilIface]) ∧ (Lib.BuilderAtF 168 5 B b (.pointer (some ⟨b, 0, none⟩)) (bs ++ Lib.strCells s) w' ∧ Below B w w' ∧ Lib.OthersKept 5 (some b) w w') := by
  obtain ⟨i0, hi, hz0, hz1, hz2⟩ := info_parts infoByt
  go_enter Tryz.func148, Tryz.ntmps148
  go_wp2_with (go_at_call 153; refine (chk_k B b bs _ h).mono ?_)
  rintro e w1 ⟨rfl, h1, hb1, hk1⟩
  obtain ⟨hB, v, hbk, hown, hne⟩ := h1
  have c0 : w1.cell? ⟨b, 0, none⟩ = some (.pointer (some ⟨b, 0, none⟩)) := by rw [Lib.cell_of_heap hbk]; rfl
  have c1 : w1.cell? ⟨b, 1, none⟩ = some v := by rw [Lib.cell_of_heap hbk]; rfl
  go_wp2_with (at_builtin; refine Lib.wpList_append_own_stringF _ rfl _ _ 166 9 rfl B 5 i0 Tryz.underlying166 Tryz.underlying9 hi hz0 hz1 hz2 _ _ _ rfl hown s rfl ?c3 ?c4 ?c5 ?_)
  case c3 => unfold maxLen; omega
  case c4 => omega
  case c5 => have := hb1.size; omega
  intro v' w2 hown' hgrow _
  have hlt : b < w1.heap.size := by
    rcases Nat.lt_or_ge b w1.heap.size with h' | h'
    · exact h'
    · simp [Array.getElem?_eq_none h'] at hbk
  have hb2 : w2.heap[b]? = some (.cells #[.pointer (some ⟨b, 0, none⟩), v] 168 (0, 0)) := by
    rw [hgrow.block b hlt (fun e => hne e.symm)]
    exact hbk
  have d0 : w2.cell? ⟨b, 0, none⟩ = some (.pointer (some ⟨b, 0, none⟩)) := by rw [Lib.cell_of_heap hb2]; rfl
  have d1 : w2.cell? ⟨b, 1, none⟩ = some v := by rw [Lib.cell_of_heap hb2]; rfl
  have f1 : w2.frozen? ⟨b, 1, none⟩ = false := Lib.frozen_of_heap hb2 1
  obtain ⟨ao, n', cap, rfl⟩ : ∃ ao n' cap, v' = .slice ao n' cap := by
    rcases hown'.2 with ⟨hv, _⟩ | ⟨g, cap, cur, fz, hv, _⟩
    · exact ⟨_, _, _, hv⟩
    · exact ⟨_, _, _, hv⟩
  go_wp2
  go_ret2
  refine ⟨rfl, ?_, ?_, (hk1.grown hgrow (Lib.ownsRowF_kind hown)).setCell ⟨b, 1, none⟩ rfl _⟩
  · exact Lib.BuilderAtF.put (T := 168) (e := 5) hB hb2 (bs' := bs ++ Lib.strCells s) (by simpa [Lib.strCells_length] using hown') (by decide)
  · exact (hb1.grown hgrow (by have := hb1.size; omega) (fun k hk => (hown.lt k hk).1)).setCell (p := ⟨b, 1, none⟩) hB _
end Go.Proofs.YtcbfefbocpikoaaGreatDoor
namespace Go.Proofs.YtcbfefbocpikoaaGreatDoor
open Go Go.RowKit Go.Proofs
def dg1 (i : Nat) : UInt8 := UInt8.ofNat (48 + i)
theorem num_any (i : Nat) (hi : i < 10) (w : World) : Calls Tryz.prog 149 #[.int .i64 i] w fun e w' => e = .returned (.string ⟨#[dg1 i]⟩) ∧ w' = w := by
  go_enter Tryz.func149, Tryz.ntmps149
  go_wp2_with (go_at_call 154; refine (Tryz.strconv_FormatInt_10_small i (by omega) _).mono ?_; rintro e w' ⟨rfl, hw⟩; rw [hw])
  go_ret
  exact ⟨by rw [Lib.decDigits_one hi]; rfl, rfl⟩
mutual
def tx (ar t : List Int) : Nat → Nat → Option (List UInt8 × Nat)
  | 0, _ => none
  | f + 1, at' => match t[at']? with
    | none => none
    | some n => if n < 0 then (if -11 < n then some ([120, dg1 (-1 - n).toNat], at' + 1) else none) else
      if n < 10 then
        match ar[n.toNat]? with
        | none => none
        | some k => if 0 ≤ k then (txs ar t f k.toNat 40 (at' + 1)).map fun p => ([102, dg1 n.toNat] ++ p.1 ++ (if 0 < k then [41] else []), p.2) else none
      else none
def txs (ar t : List Int) : Nat → Nat → UInt8 → Nat → Option (List UInt8 × Nat)
  | _, 0, _, at' => some ([], at')
  | f, m + 1, c, at' => (tx ar t f at').bind fun p => (txs ar t f m 44 p.2).map fun q => (c :: p.1 ++ q.1, q.2)
end
def RdI (w : World) (B : Nat) (A : Option Addr) (xs : List Int) : Prop := ∀ j x, xs[j]? = some x → ∃ ad, A = some ad ∧ ad.block < B ∧ w.cell? (ad.add j) = some (.int .i64 x)
theorem RdI.below {w w' : World} {B : Nat} {A : Option Addr} {xs : List Int} (h : RdI w B A xs) (hb : Below B w w') : RdI w' B A xs := fun j x hj => by
  obtain ⟨ad, h1, h2, h3⟩ := h j x hj
  refine ⟨ad, h1, h2, ?_⟩
  rw [hb.cell (p := ad.add j) (by unfold Addr.add; split <;> exact h2)]
  exact h3
end Go.Proofs.YtcbfefbocpikoaaGreatDoor
namespace Go.Proofs.YtcbfefbocpikoaaGreatDoor
open Go Go.RowKit Go.Proofs
theorem blk_add (a : Addr) (n : Nat) : (a.add n).block = a.block := by unfold Addr.add; split <;> rfl
set_option maxHeartbeats 2000000 in
set_option maxRecDepth 100000 in
theorem tt_var (ar t : List Int) (A : Option Addr) (adt : Addr) (cA cT : Nat) (B : Nat) (at' : Nat) (m : Nat) (hm : m < 10) (acc : List UInt8) (w : World)
    (hat : at' < t.length) (htl : t.length < 2 ^ 62) (hb0 : adt.block < B) (hc : w.cell? (adt.add at') = some (.int .i64 (-1 - (m : Int))))
    (hI : Lib.IsBuilderF 168 5 B B (Lib.byteCells acc) w) (hacc : acc.length < 2 ^ 40) (hB : B < w.heap.size) :
    Calls Tryz.prog 137 #[.pointer (some ⟨B, 0, none⟩), .agg #[.slice A ar.length cA], .slice (some adt) t.length cT, .int .i64 at'] w fun e w' =>
      e = .returned (.int .i64 ((at' + 1 : Nat) : Int)) ∧ Lib.IsBuilderF 168 5 B B (Lib.byteCells (acc ++ [120, dg1 m])) w' ∧ Below B w w' ∧ Lib.OthersKept 5 (some B) w w' := by
  have hc1 : (w.alloc (.cells #[.slice A ar.length cA] 34)).cell? (adt.add at') = some (.int .i64 (-1 - (m : Int))) := by
    rw [World.cell?_alloc_lt w _ _ (by rw [blk_add]; omega)]; exact hc
  have hI1 := hI.alloc (.cells #[.slice A ar.length cA] 34)
  clear hc
  go_enter Tryz.func137, Tryz.ntmps137
  go_wp2_with (go_at_call 149; rw [show (-1 - (-1 - (m : Int))) = (m : Int) by omega]; refine (num_any m hm _).mono ?_; rintro e w' ⟨rfl, hw⟩; rw [hw])
  have W1 := wstr B B _ ({ data := #[120] } ++ { data := #[dg1 m] }) _ hI1 (by rw [Lib.byteCells_length, ByteArray.size_append]; show acc.length + (1 + 1) ≤ _; omega) (by rw [World.size_alloc]; omega)
  go_wp2_with (go_at_call 148; refine W1.mono ?_; rintro e w1 ⟨rfl, h1, hb1, hk1⟩)
  go_ret
  refine ⟨by simp, ?_, ((Below.refl _ _).alloc (by omega) _).trans hb1, ((Lib.OthersKept.refl _ _ _).alloc _).trans hk1⟩
  rw [Lib.byteCells_append]
  exact .inr h1
end Go.Proofs.YtcbfefbocpikoaaGreatDoor
namespace Go.Proofs.YtcbfefbocpikoaaGreatDoor
open Go Go.RowKit Go.Proofs
mutual
theorem tx_le (ar t : List Int) : ∀ (f a : Nat) (x : List UInt8) (e : Nat), tx ar t f a = some (x, e) → a < e ∧ e ≤ t.length
  | 0, a, x, e, h => by simp [tx] at h
  | f + 1, a, x, e, h => by
    rw [tx] at h
    cases hn : t[a]? with
    | none => rw [hn] at h; cases h
    | some n =>
      have hl : a < t.length := (List.getElem?_eq_some_iff.1 hn).1
      rw [hn] at h
      simp only at h
      split at h
      · split at h
        · cases h; omega
        · cases h
      · split at h
        · cases hk : ar[n.toNat]? with
          | none => rw [hk] at h; cases h
          | some k =>
            rw [hk] at h
            simp only at h
            split at h
            · simp only [Option.map_eq_some_iff] at h
              obtain ⟨⟨y, e1⟩, h1, h2⟩ := h
              cases h2
              have := txs_le ar t f k.toNat 40 (a + 1) y e1 h1 (by omega)
              exact ⟨by omega, this.2⟩
            · cases h
        · cases h
theorem txs_le (ar t : List Int) : ∀ (f m : Nat) (c : UInt8) (a : Nat) (x : List UInt8) (e : Nat), txs ar t f m c a = some (x, e) → a ≤ t.length → a + m ≤ e ∧ e ≤ t.length
  | f, 0, c, a, x, e, h, hl => by simp [txs] at h; omega
  | f, m + 1, c, a, x, e, h, hl => by
    rw [txs] at h
    simp only [Option.bind_eq_some_iff, Option.map_eq_some_iff] at h
    obtain ⟨⟨p, e1⟩, h1, ⟨q, e2⟩, h2, h3⟩ := h
    cases h3
    have h4 := tx_le ar t f a p e1 h1
    have h5 := txs_le ar t f m 44 e1 q e2 h2 h4.2
    exact ⟨by omega, h5.2⟩
end
theorem alloc_new (w : World) (o : Obj) : (w.alloc o).heap[w.heap.size]? = some o := by
  show (w.heap.push o)[w.heap.size]? = some o
  simp
theorem othersBox {b k T : Nat} {w w' : World} {cs : Array Value} {fz : Nat × Nat} (h : Lib.OthersKept 5 (some b) w w') (hk : w.heap[k]? = some (.cells cs T fz)) (hb : k ≠ b) (hT : T ≠ 5) : w'.heap[k]? = some (.cells cs T fz) :=
  h k _ hk (fun e => hb (by cases e; rfl)) fun c fz' e => by cases e; exact hT rfl
def ArgR (ar t : List Int) (A : Option Addr) (cA B K f : Nat) (w : World) (full : List UInt8) (e : Nat) (a i : Value) (wr : World) : Prop :=
  ∃ (q aq : Nat) (acc y : List UInt8), a = .int .i64 aq ∧ i = .int .i64 q ∧ q ≤ K ∧ aq ≤ t.length ∧ Lib.IsBuilderF 168 5 B B (Lib.byteCells acc) wr ∧ Below B w wr ∧ Lib.OthersKept 5 (some B) w wr ∧
    wr.heap[w.heap.size]? = some (.cells #[.slice A ar.length cA] 34 (0, 0)) ∧ txs ar t f (K - q) (if q = 0 then 40 else 44) aq = some (y, e) ∧ acc ++ y = full
def TTat (ar t : List Int) (A T : Option Addr) (cA cT B f : Nat) : Prop := ∀ (a : Nat) (x : List UInt8) (e : Nat) (acc : List UInt8) (w : World), tx ar t f a = some (x, e) →
  RdI w B A ar → RdI w B T t → Lib.IsBuilderF 168 5 B B (Lib.byteCells acc) w → (acc ++ x).length < 2 ^ 40 → B < w.heap.size →
    Calls Tryz.prog 137 #[.pointer (some ⟨B, 0, none⟩), .agg #[.slice A ar.length cA], .slice T t.length cT, .int .i64 a] w fun e' w' =>
      e' = .returned (.int .i64 (e : Int)) ∧ Lib.IsBuilderF 168 5 B B (Lib.byteCells (acc ++ x)) w' ∧ Below B w w' ∧ Lib.OthersKept 5 (some B) w w'
set_option maxHeartbeats 4000000 in
set_option maxRecDepth 100000 in
theorem tt_app (ar t : List Int) (ada adt : Addr) (cA cT B f : Nat) (ih : TTat ar t (some ada) (some adt) cA cT B f) (n K : Nat) (hn : n < 10) (hna : n < ar.length) (a : Nat) (acc x : List UInt8) (e : Nat) (w : World)
    (hat : a < t.length) (htl : t.length < 2 ^ 62) (hK : K < 2 ^ 62) (hb0 : adt.block < B) (hba : ada.block < B) (hc : w.cell? (adt.add a) = some (.int .i64 (n : Int))) (hk : w.cell? (ada.add n) = some (.int .i64 (K : Int)))
    (hx : txs ar t f K 40 (a + 1) = some (x, e)) (hra : RdI w B (some ada) ar) (hrt : RdI w B (some adt) t)
    (hI : Lib.IsBuilderF 168 5 B B (Lib.byteCells acc) w) (hacc : (acc ++ ([102, dg1 n] ++ x ++ (if 0 < K then [41] else []))).length < 2 ^ 40) (hB : B < w.heap.size) :
    Calls Tryz.prog 137 #[.pointer (some ⟨B, 0, none⟩), .agg #[.slice (some ada) ar.length cA], .slice (some adt) t.length cT, .int .i64 a] w fun e' w' =>
      e' = .returned (.int .i64 (e : Int)) ∧ Lib.IsBuilderF 168 5 B B (Lib.byteCells (acc ++ ([102, dg1 n] ++ x ++ (if 0 < K then [41] else [])))) w' ∧ Below B w w' ∧ Lib.OthersKept 5 (some B) w w' := by
  have hc1 : (w.alloc (.cells #[.slice (some ada) ar.length cA] 34)).cell? (adt.add a) = some (.int .i64 (n : Int)) := by
    rw [World.cell?_alloc_lt w _ _ (by rw [blk_add]; omega)]; exact hc
  have hI1 := hI.alloc (.cells #[.slice (some ada) ar.length cA] 34)
  have hlen : acc.length + 2 < 2 ^ 40 := by simp at hacc; omega
  have W1 := wstr B B _ ({ data := #[102] } ++ { data := #[dg1 n] }) _ hI1 (by rw [Lib.byteCells_length, ByteArray.size_append]; show acc.length + (1 + 1) ≤ _; omega) (by rw [World.size_alloc]; omega)
  have HX := Lib.hid hx
  have HK := Lib.hid hk
  have HA := Lib.hid hacc
  clear hx hk hc hacc
  go_enter Tryz.func137, Tryz.ntmps137
  go_wp2_with (go_at_call 149; refine (num_any n hn _).mono ?_; rintro e w' ⟨rfl, hw⟩; rw [hw])
  go_wp2_with (go_at_call 148; refine W1.mono ?_)
  rintro e w1 ⟨rfl, h1, hb1, hk1⟩
  have hb2 : Below B w w1 := ((Below.refl _ _).alloc (by omega) _).trans hb1
  have hk2 : Lib.OthersKept 5 (some B) w w1 := ((Lib.OthersKept.refl _ _ _).alloc _).trans hk1
  have hbx : w1.heap[w.heap.size]? = some (.cells #[.slice (some ada) ar.length cA] 34 (0, 0)) := othersBox hk1 (alloc_new w _) (by omega) (by decide)
  have cbx : w1.cell? ⟨w.heap.size, 0, none⟩ = some (.slice (some ada) ar.length cA) := by rw [Lib.cell_of_heap hbx]; rfl
  have ck : w1.cell? (ada.add n) = some (.int .i64 (K : Int)) := by rw [hb2.cell (p := ada.add n) (by rw [blk_add]; exact hba)]; exact HK.out
  have hKK := HK
  clear hKK
  go_wp2
  go_loopw [3, 37] (fun a' i' wr => ArgR ar t (some ada) cA B K f w (acc ++ ([102, dg1 n] ++ x)) e a' i' wr) (fun _ i' _ => (K - intOf i').toNat)
  case atStart =>
    refine ⟨0, a + 1, acc ++ [102, dg1 n], x, rfl, rfl, by omega, by omega, ?_, hb2, hk2, hbx, by simpa using HX.out, by simp⟩
    rw [Lib.byteCells_append]; exact .inr h1
  case round =>
    obtain ⟨q, aq, accq, y, rfl, rfl, hqK, haq, hIq, hbq, hkq, hbxq, hy, hfull⟩ := hrel
    have cbq : wr.cell? ⟨w.heap.size, 0, none⟩ = some (.slice (some ada) ar.length cA) := by rw [Lib.cell_of_heap hbxq]; rfl
    have hsz := hbq.size
    have htot : accq.length + y.length < 2 ^ 40 - (if 0 < K then 1 else 0) := by
      have h1 := HA.out
      have h2 := congrArg List.length hfull
      simp only [List.length_append, List.length_cons, List.length_nil] at h1 h2
      split at h1 <;> simp at h1 <;> simp_all <;> omega
    by_cases hq : q < K
    · obtain ⟨m, hm⟩ : ∃ m, K - q = m + 1 := ⟨K - q - 1, by omega⟩
      rw [hm, txs] at hy
      simp only [Option.bind_eq_some_iff, Option.map_eq_some_iff] at hy
      obtain ⟨⟨p, e1⟩, hp, ⟨y2, e2⟩, hy2, hyy⟩ := hy
      have hyE : y = (if q = 0 then 40 else 44) :: p ++ y2 ∧ e2 = e := by cases hyy; exact ⟨rfl, rfl⟩
      obtain ⟨rfl, rfl⟩ := hyE
      clear hyy
      have hle := tx_le ar t f aq p e1 hp
      have hl2 : accq.length + (p.length + y2.length + 1) < 2 ^ 40 := by simp at htot; split at htot <;> omega
      have HM := Lib.hid hm
      have HP := Lib.hid hp
      have HY := Lib.hid hy2
      have HF := Lib.hid hfull
      clear hm hp hy2 hfull htot
      rcases Nat.eq_zero_or_pos q with rfl | hq0
      · have WB := wbyte B B _ 40 _ hIq (by rw [Lib.byteCells_length]; omega) (by omega)
        go_wp2_with (go_at_call 150; refine WB.mono ?_)
        rintro e' w2 rfl h2 b2 k2
        have bx2 := othersBox k2 hbxq (by omega) (by decide)
        have cb2 : w2.cell? ⟨w.heap.size, 0, none⟩ = some (.slice (some ada) ar.length cA) := by rw [Lib.cell_of_heap bx2]; rfl
        have I2 := ih aq p e1 (accq ++ [40]) w2 HP.out (hra.below (hbq.trans b2)) (hrt.below (hbq.trans b2)) (by rw [Lib.byteCells_append]; exact .inr h2) (by simp; omega) (by have := b2.size; omega)
        go_wp2_with (go_at_call 137; refine I2.mono ?_)
        rintro e' w3 ⟨rfl, h3, b3, k3⟩
        go_wp2
        go_roundw
        case rel => exact ⟨1, e1, accq ++ [40] ++ p, y2, rfl, rfl, by omega, hle.2, h3, (hbq.trans b2).trans b3, (hkq.trans k2).trans k3, othersBox k3 bx2 (by omega) (by decide), by rw [show K - 1 = m by have := HM.out; omega]; exact HY.out, by rw [← HF.out]; simp⟩
        case measure => simp [intOf]; omega
      · have hqn : ¬ q = 0 := by omega
        have WB := wbyte B B _ 44 _ hIq (by rw [Lib.byteCells_length]; omega) (by omega)
        go_wp2_with (go_at_call 150; refine WB.mono ?_)
        rintro e' w2 rfl h2 b2 k2
        have bx2 := othersBox k2 hbxq (by omega) (by decide)
        have cb2 : w2.cell? ⟨w.heap.size, 0, none⟩ = some (.slice (some ada) ar.length cA) := by rw [Lib.cell_of_heap bx2]; rfl
        have I2 := ih aq p e1 (accq ++ [44]) w2 HP.out (hra.below (hbq.trans b2)) (hrt.below (hbq.trans b2)) (by rw [Lib.byteCells_append]; exact .inr h2) (by simp; omega) (by have := b2.size; omega)
        go_wp2_with (go_at_call 137; refine I2.mono ?_)
        rintro e' w3 ⟨rfl, h3, b3, k3⟩
        go_wp2
        go_roundw
        case rel => exact ⟨q + 1, e1, accq ++ [44] ++ p, y2, rfl, by go_num, by omega, hle.2, h3, (hbq.trans b2).trans b3, (hkq.trans k2).trans k3, othersBox k3 bx2 (by omega) (by decide), by rw [show K - (q + 1) = m by have := HM.out; omega, if_neg (by omega)]; exact HY.out, by rw [← HF.out, if_neg hqn]; simp⟩
        case measure => simp [intOf]; omega
    · have hqe : K - q = 0 := by omega
      rw [hqe, txs] at hy
      cases hy
      have ckr : wr.cell? (ada.add n) = some (.int .i64 (K : Int)) := by rw [hbq.cell (p := ada.add n) (by rw [blk_add]; exact hba)]; exact HK.out
      rw [List.append_nil] at hfull
      clear hqe
      by_cases hK0 : 0 < K
      · have WB := wbyte B B _ 41 _ hIq (by rw [Lib.byteCells_length]; simp [hK0] at htot; omega) (by omega)
        clear htot
        have HF := Lib.hid hfull
        clear hfull
        go_wp2_with (go_at_call 150; refine WB.mono ?_)
        rintro e' w2 ⟨rfl, h2, b2, k2⟩
        go_wp2
        go_ret
        refine ⟨rfl, ?_, hbq.trans b2, hkq.trans k2⟩
        rw [show acc ++ 102 :: dg1 n :: (x ++ [41]) = accq ++ [41] by rw [HF.out]; simp, Lib.byteCells_append]
        exact .inr h2
      · obtain rfl : K = 0 := by omega
        clear htot
        have HF := Lib.hid hfull
        clear hfull
        go_wp2
        go_ret
        refine ⟨rfl, ?_, hbq, hkq⟩
        rw [show acc ++ 102 :: dg1 n :: x = accq by rw [HF.out]; simp]
        exact hIq
theorem tt_all (ar t : List Int) (A T : Option Addr) (cA cT B : Nat) (htl : t.length < 2 ^ 62) : ∀ f, TTat ar t A T cA cT B f
  | 0 => fun a x e acc w h => by simp [tx] at h
  | f + 1 => fun a x e acc w h hra hrt hI hacc hB => by
    have ih := tt_all ar t A T cA cT B htl f
    have hle := tx_le ar t (f + 1) a x e h
    rw [tx] at h
    cases hn : t[a]? with
    | none => rw [hn] at h; cases h
    | some n =>
      obtain ⟨adt, rfl, hbt, hct⟩ := hrt a n hn
      have hl : a < t.length := (List.getElem?_eq_some_iff.1 hn).1
      rw [hn] at h
      simp only at h
      split at h
      · rename_i hneg
        split at h
        · rename_i hbig
          cases h
          obtain ⟨m, hm⟩ : ∃ m : Nat, n = -1 - (m : Int) := ⟨(-1 - n).toNat, by omega⟩
          subst hm
          have e1 : (-1 - (-1 - (m : Int))).toNat = m := by omega
          rw [e1] at hacc ⊢
          exact tt_var ar t A adt cA cT B a m (by omega) acc w hl htl hbt hct hI (by simp at hacc; omega) hB
        · cases h
      · rename_i hpos
        split at h
        · rename_i hsm
          obtain ⟨m, rfl⟩ : ∃ m : Nat, n = (m : Int) := ⟨n.toNat, by omega⟩
          simp only [Int.toNat_natCast] at h
          cases hk : ar[m]? with
          | none => rw [hk] at h; cases h
          | some k =>
            rw [hk] at h
            simp only at h
            split at h
            · rename_i hk0
              obtain ⟨K, rfl⟩ : ∃ K : Nat, k = (K : Int) := ⟨k.toNat, by omega⟩
              simp only [Option.map_eq_some_iff, Int.toNat_natCast] at h
              obtain ⟨⟨y, e1⟩, h1, h2⟩ := h
              obtain ⟨ada, rfl, hba, hca⟩ := hra m _ hk
              have h3 := txs_le ar t f K 40 (a + 1) y e1 h1 (by omega)
              have hE : x = [102, dg1 m] ++ y ++ (if 0 < K then [41] else []) ∧ e = e1 := by
                simp only [Int.natCast_pos] at h2
                cases h2; exact ⟨rfl, rfl⟩
              obtain ⟨rfl, rfl⟩ := hE
              exact tt_app ar t ada adt cA cT B f ih m K (by omega) (List.getElem?_eq_some_iff.1 hk).1 a acc y e w hl htl (by omega) hbt hba hct hca h1 hra hrt hI hacc hB
            · cases h
        · cases h
end Go.Proofs.YtcbfefbocpikoaaGreatDoor
namespace Go.Proofs.YtcbfefbocpikoaaGreatDoor
open Go Go.RowKit Go.Proofs
set_option maxHeartbeats 4000000 in
set_option maxRecDepth 100000 in
theorem text_walk (ar t : List Int) (A T : Option Addr) (cA cT f : Nat) (x : List UInt8) (e : Nat) (w : World) (hx : tx ar t f 0 = some (x, e)) (htl : t.length < 2 ^ 62) (hxl : x.length < 2 ^ 39)
    (hra : RdI w w.heap.size A ar) (hrt : RdI w w.heap.size T t) :
    Calls Tryz.prog 127 #[.agg #[.slice A ar.length cA], .slice T t.length cT] w fun e' w' => e' = .returned (.string ⟨x.toArray⟩) ∧ Below w.heap.size w w' := by
  let w1 := w.alloc (.cells #[.slice A ar.length cA] 34)
  let w2 := w1.alloc (.cells #[.pointer none, .slice none 0 0] 168)
  have hs1 : w1.heap.size = w.heap.size + 1 := World.size_alloc _ _
  have b2 : Below w.heap.size w w2 := ((Below.refl _ _).alloc (Nat.le_refl _) _).alloc (by rw [hs1]; omega) _
  have up : ∀ (A : Option Addr) (xs : List Int), RdI w w.heap.size A xs → RdI w2 (w.heap.size + 1) A xs := fun A xs h j y hj => by
    obtain ⟨ad, h1, h2, h3⟩ := (h.below b2) j y hj
    exact ⟨ad, h1, by omega, h3⟩
  have W1 := tt_all ar t A T cA cT (w.heap.size + 1) htl f 0 x e [] w2 hx (up _ _ hra) (up _ _ hrt) (by
    have := Lib.IsBuilderF.of (Lib.fresh_isBuilder 168 5 w1)
    rw [hs1] at this
    exact this) (by simp; omega) (by show _ < (w1.alloc _).heap.size; rw [World.size_alloc, hs1]; omega)
  clear hra hrt hx up
  go_enter Tryz.func127, Tryz.ntmps127
  go_wp2_with (go_at_call 137; refine W1.mono ?_)
  rintro e' w3 ⟨rfl, h3, b3, k3⟩
  rw [List.nil_append] at h3
  have W2 := Tryz.Builder_String_any_k (w.heap.size + 1) (w.heap.size + 1) x w3 h3 (by have h5 := b3.size; have h6 : w2.heap.size = w.heap.size + 2 := (World.size_alloc _ _).trans (by rw [hs1]); omega)
  go_wp2_with (go_at_call 138; refine W2.mono ?_)
  rintro e' w4 ⟨rfl, h4, b4, k4⟩
  go_wp2
  go_ret
  exact ⟨rfl, b2.trans ((b3.trans b4).mono (by omega))⟩
end Go.Proofs.YtcbfefbocpikoaaGreatDoor
namespace Go.Proofs.YtcbfefbocpikoaaGreatDoor
open Go Go.RowKit Go.Proofs
set_option maxHeartbeats 4000000
set_option maxRecDepth 100000
def nmT (k : Nat) : ByteArray := ([⟨#[115, 117, 109, 115]⟩, ⟨#[115, 101, 109, 105, 103, 114, 111, 117, 112]⟩, ⟨#[109, 111, 110, 111, 105, 100]⟩, ⟨#[105, 110, 118, 111, 108, 117, 116, 105, 111, 110]⟩, ⟨#[105, 100, 108, 101]⟩, ⟨#[103, 114, 111, 117, 112, 111, 105, 100]⟩, ⟨#[103, 114, 111, 117, 112]⟩] : List ByteArray).getD k ⟨#[]⟩
theorem names_walk (w : World) : Calls Tryz.prog 37 #[] w fun e w' => e = .returned (.slice (some ⟨w.heap.size, 0, none⟩) 7 7) ∧ w' = w.alloc (.cells #[.string ⟨#[115, 117, 109, 115]⟩, .string ⟨#[115, 101, 109, 105, 103, 114, 111, 117, 112]⟩, .string ⟨#[109, 111, 110, 111, 105, 100]⟩, .string ⟨#[105, 110, 118, 111, 108, 117, 116, 105, 111, 110]⟩, .string ⟨#[105, 100, 108, 101]⟩, .string ⟨#[103, 114, 111, 117, 112, 111, 105, 100]⟩, .string ⟨#[103, 114, 111, 117, 112]⟩] 9) := by
  go_enter Tryz.func37, Tryz.ntmps37
  go_wp2
  go_ret
  exact ⟨rfl, rfl⟩
theorem thok_walk (k : Nat) (hk : k < 7) (w : World) : Calls Tryz.prog 17 #[.int .i64 (k : Int)] w fun e w' => e = .returned (.bool true) ∧ Below w.heap.size w w' := by
  go_enter Tryz.func17, Tryz.ntmps17
  go_wp2_with (go_at_call 37; refine (names_walk _).mono ?_; rintro e w' ⟨rfl, rfl⟩)
  go_ret
  refine ⟨?_, (Below.refl _ _).alloc (Nat.le_refl _) _⟩
  have : ((k : Int) < 7) := by omega
  simp [this]
theorem name_walk (k : Nat) (hk : k < 7) (w : World) : Calls Tryz.prog 89 #[.int .i64 (k : Int)] w fun e w' => e = .returned (.string (nmT k)) ∧ Below w.heap.size w w' := by
  go_enter Tryz.func89, Tryz.ntmps89
  go_wp2_with (go_at_call 17; refine (thok_walk k hk _).mono ?_; rintro e w1 ⟨rfl, h1⟩)
  go_wp2_with (go_at_call 37; refine (names_walk _).mono ?_; rintro e w2 ⟨rfl, rfl⟩)
  go_ret
  refine ⟨?_, h1.alloc h1.size _⟩
  match k, hk with
  | 0, _ => rfl
  | 1, _ => rfl
  | 2, _ => rfl
  | 3, _ => rfl
  | 4, _ => rfl
  | 5, _ => rfl
  | 6, _ => rfl
def keysOff (s : ByteArray) (es : List MapEntry) : Bool := es.all fun x => match x.key with | .string s' => s'.data.toList != s.data.toList && decide (s'.size ≤ maxLen) | _ => false
theorem keysOff_spec {s : ByteArray} {es : List MapEntry} (h : keysOff s es = true) : ∀ x ∈ es, ∃ s' : ByteArray, x.key = .string s' ∧ s' ≠ s ∧ s'.size ≤ maxLen := fun x hx => by
  have := List.all_eq_true.1 h x hx
  split at this
  · rename_i s' hs
    simp only [Bool.and_eq_true, bne_iff_ne, ne_eq, decide_eq_true_eq] at this
    exact ⟨s', hs, fun e => this.1 (by rw [e]), this.2⟩
  · cases this
theorem ins_run {t k e : TypeId} {es : Array MapEntry} {clock : Nat} (ht : Tryz.prog.underlying t = some (.map k e)) (hk : Tryz.prog.underlying k = some .string) (w : World) {s : ByteArray} (val : Value)
    (hs : s.size ≤ maxLen) (hn : keysOff s es.toList = true) :
    (Instr.mapUpdate t (.map (some w.heap.size)) (.string s) val).run Tryz.prog (w.alloc (.map es clock)) = .ok () (w.alloc (.map (es.push ⟨.string s, val, clock⟩) (clock + 1))) := by
  have K := Maps.string_keyed hk
  have hkey := WideMaps.keyOf_string_mk hk hs
  have hb : (w.alloc (.map es clock)).heap[w.heap.size]? = some (.map es clock) := alloc_new _ _
  rcases K.find (w.alloc (.map es clock)) hkey es.toList (fun x hx => by
    obtain ⟨s', h1, _, h3⟩ := keysOff_spec hn x hx
    exact ⟨_, by rw [h1]; exact WideMaps.keyOf_string_mk hk h3⟩) with ⟨h1, h2⟩ | ⟨j, e0, h1, h2, h3⟩
  · simp [Instr.mapUpdate, run_underlying ht, MapKept.run_getObj_map hb, K.check _ false hkey, h1, MapKept.run_setObj_map _ hb, Result.andThen]
    simp [World.alloc, Array.setIfInBounds, Array.push]
  · obtain ⟨s', h4, h5, _⟩ := keysOff_spec hn e0 (List.mem_of_getElem? h2)
    rw [h4] at h3
    cases h3
    exact absurd rfl h5
theorem wpList_ins {w : World} {ops : Array Oper} {rest : List Oper} {o : Oper} {a : Act} {Q : Exit → Act → World → Prop} (hg : o.guard = none) (m x v : Operand) (t : TypeId) (hop : o.op = Op.insert t m x v)
    (k e : TypeId) (ht : Tryz.prog.underlying t = some (.map k e)) (hk : Tryz.prog.underlying k = some .string) {es : Array MapEntry} {clock : Nat} (hm : a.eval m = .map (some w.heap.size)) {s : ByteArray} {val : Value}
    (hx : a.eval x = .string s) (hv : a.eval v = val) (hs : s.size ≤ maxLen) (hn : keysOff s es.toList = true)
    (hK : wpList Tryz.prog ops Q rest (a.put o.dst undef) (w.alloc (.map (es.push ⟨.string s, val, clock⟩) (clock + 1)))) : wpList Tryz.prog ops Q (o :: rest) a (w.alloc (.map es clock)) := by
  refine wpList_plain hg fun K' hK' => ?_
  unfold Oper.wp
  simp [execOp, hop, hm, hx, hv, ins_run ht hk w val hs hn, Result.andThen]
  exact hK' _ _ hK
theorem look_run {t k e : TypeId} {es : Array MapEntry} {clock b j : Nat} {w : World} (ht : Tryz.prog.underlying t = some (.map k e)) (hk : Tryz.prog.underlying k = some .string) (hb : w.heap[b]? = some (.map es clock)) {s : ByteArray} {v : Value}
    (hf : Instr.findNow .string (.string s) es.toList 0 = some (some (j, v))) : (Instr.lookup t (.map (some b)) (.string s) false).run Tryz.prog w = .ok v w := by
  have hc : (Instr.checkKey es.isEmpty 10000 k (.string s)).run Tryz.prog w = .ok () w := MapKept.run_checkKey hk (by simp [MapKept.IsKey]) _ _
  simp [Instr.lookup, run_underlying ht, MapKept.run_getObj_map hb, Instr.findKey, run_underlying hk, hf, Result.andThen]
  rw [hc]
def thS (k : Nat) : List ByteArray := ([[⟨#[102, 48, 40, 102, 50, 44, 120, 48, 41, 32, 45, 62, 32, 120, 48]⟩, ⟨#[102, 48, 40, 102, 49, 40, 120, 48, 41, 44, 120, 49, 41, 32, 45, 62, 32, 102, 49, 40, 102, 48, 40, 120, 48, 44, 120, 49, 41, 41]⟩],
  [⟨#[102, 48, 40, 102, 48, 40, 120, 48, 44, 120, 49, 41, 44, 120, 50, 41, 32, 45, 62, 32, 102, 48, 40, 120, 48, 44, 102, 48, 40, 120, 49, 44, 120, 50, 41, 41]⟩],
  [⟨#[102, 48, 40, 102, 50, 44, 120, 48, 41, 32, 45, 62, 32, 120, 48]⟩, ⟨#[102, 48, 40, 120, 48, 44, 102, 50, 41, 32, 45, 62, 32, 120, 48]⟩, ⟨#[102, 48, 40, 102, 48, 40, 120, 48, 44, 120, 49, 41, 44, 120, 50, 41, 32, 45, 62, 32, 102, 48, 40, 120, 48, 44, 102, 48, 40, 120, 49, 44, 120, 50, 41, 41]⟩],
  [⟨#[102, 49, 40, 102, 49, 40, 120, 48, 41, 41, 32, 45, 62, 32, 120, 48]⟩, ⟨#[102, 49, 40, 102, 48, 40, 120, 48, 44, 120, 49, 41, 41, 32, 45, 62, 32, 102, 48, 40, 102, 49, 40, 120, 49, 41, 44, 102, 49, 40, 120, 48, 41, 41]⟩],
  [⟨#[102, 48, 40, 120, 48, 44, 120, 48, 41, 32, 45, 62, 32, 120, 48]⟩, ⟨#[102, 49, 40, 120, 48, 41, 32, 45, 62, 32, 120, 48]⟩],
  [⟨#[102, 48, 40, 102, 48, 40, 120, 48, 44, 120, 49, 41, 44, 102, 48, 40, 120, 49, 44, 120, 50, 41, 41, 32, 45, 62, 32, 120, 49]⟩, ⟨#[102, 48, 40, 120, 48, 44, 102, 48, 40, 102, 48, 40, 120, 48, 44, 120, 49, 41, 44, 120, 50, 41, 41, 32, 45, 62, 32, 102, 48, 40, 120, 48, 44, 120, 49, 41]⟩, ⟨#[102, 48, 40, 102, 48, 40, 120, 48, 44, 102, 48, 40, 120, 49, 44, 120, 50, 41, 41, 44, 120, 50, 41, 32, 45, 62, 32, 102, 48, 40, 120, 49, 44, 120, 50, 41]⟩],
  [⟨#[102, 48, 40, 102, 50, 44, 120, 48, 41, 32, 45, 62, 32, 120, 48]⟩, ⟨#[102, 48, 40, 102, 49, 40, 120, 48, 41, 44, 120, 48, 41, 32, 45, 62, 32, 102, 50]⟩, ⟨#[102, 48, 40, 102, 48, 40, 120, 48, 44, 120, 49, 41, 44, 120, 50, 41, 32, 45, 62, 32, 102, 48, 40, 120, 48, 44, 102, 48, 40, 120, 49, 44, 120, 50, 41, 41]⟩, ⟨#[102, 48, 40, 102, 49, 40, 120, 48, 41, 44, 102, 48, 40, 120, 48, 44, 120, 49, 41, 41, 32, 45, 62, 32, 120, 49]⟩, ⟨#[102, 48, 40, 120, 48, 44, 102, 50, 41, 32, 45, 62, 32, 120, 48]⟩, ⟨#[102, 49, 40, 102, 50, 41, 32, 45, 62, 32, 102, 50]⟩, ⟨#[102, 49, 40, 102, 49, 40, 120, 48, 41, 41, 32, 45, 62, 32, 120, 48]⟩, ⟨#[102, 48, 40, 120, 48, 44, 102, 49, 40, 120, 48, 41, 41, 32, 45, 62, 32, 102, 50]⟩, ⟨#[102, 48, 40, 120, 48, 44, 102, 48, 40, 102, 49, 40, 120, 48, 41, 44, 120, 49, 41, 41, 32, 45, 62, 32, 120, 49]⟩, ⟨#[102, 49, 40, 102, 48, 40, 120, 48, 44, 120, 49, 41, 41, 32, 45, 62, 32, 102, 48, 40, 102, 49, 40, 120, 49, 41, 44, 102, 49, 40, 120, 48, 41, 41]⟩]] : List (List ByteArray)).getD k []
def thN (k : Nat) : Int := ([2, 1, 3, 2, 2, 1, 3] : List Int).getD k 0
theorem cl0 (w : World) : Calls Tryz.prog 82 #[] w fun e w' => e = .returned (.tuple #[.slice (some ⟨w.heap.size, 0, none⟩) 2 2, .int .i64 2]) ∧ w' = w.alloc (.cells ((thS 0).map Value.string).toArray 9) := by
  go_enter Tryz.func82, Tryz.ntmps82
  go_wp2
  go_ret2
  exact ⟨rfl, rfl⟩
theorem cl1 (w : World) : Calls Tryz.prog 83 #[] w fun e w' => e = .returned (.tuple #[.slice (some ⟨w.heap.size, 0, none⟩) 1 1, .int .i64 1]) ∧ w' = w.alloc (.cells ((thS 1).map Value.string).toArray 9) := by
  go_enter Tryz.func83, Tryz.ntmps83
  go_wp2
  go_ret2
  exact ⟨rfl, rfl⟩
theorem cl2 (w : World) : Calls Tryz.prog 84 #[] w fun e w' => e = .returned (.tuple #[.slice (some ⟨w.heap.size, 0, none⟩) 3 3, .int .i64 3]) ∧ w' = w.alloc (.cells ((thS 2).map Value.string).toArray 9) := by
  go_enter Tryz.func84, Tryz.ntmps84
  go_wp2
  go_ret2
  exact ⟨rfl, rfl⟩
theorem cl3 (w : World) : Calls Tryz.prog 85 #[] w fun e w' => e = .returned (.tuple #[.slice (some ⟨w.heap.size, 0, none⟩) 2 2, .int .i64 2]) ∧ w' = w.alloc (.cells ((thS 3).map Value.string).toArray 9) := by
  go_enter Tryz.func85, Tryz.ntmps85
  go_wp2
  go_ret2
  exact ⟨rfl, rfl⟩
theorem cl4 (w : World) : Calls Tryz.prog 86 #[] w fun e w' => e = .returned (.tuple #[.slice (some ⟨w.heap.size, 0, none⟩) 2 2, .int .i64 2]) ∧ w' = w.alloc (.cells ((thS 4).map Value.string).toArray 9) := by
  go_enter Tryz.func86, Tryz.ntmps86
  go_wp2
  go_ret2
  exact ⟨rfl, rfl⟩
theorem cl5 (w : World) : Calls Tryz.prog 87 #[] w fun e w' => e = .returned (.tuple #[.slice (some ⟨w.heap.size, 0, none⟩) 3 3, .int .i64 1]) ∧ w' = w.alloc (.cells ((thS 5).map Value.string).toArray 9) := by
  go_enter Tryz.func87, Tryz.ntmps87
  go_wp2
  go_ret2
  exact ⟨rfl, rfl⟩
theorem cl6 (w : World) : Calls Tryz.prog 88 #[] w fun e w' => e = .returned (.tuple #[.slice (some ⟨w.heap.size, 0, none⟩) 10 10, .int .i64 3]) ∧ w' = w.alloc (.cells ((thS 6).map Value.string).toArray 9) := by
  go_enter Tryz.func88, Tryz.ntmps88
  go_wp2
  go_ret2
  exact ⟨rfl, rfl⟩
def thM : Array MapEntry := #[⟨.string ⟨#[115, 117, 109, 115]⟩, .func (.func 82) #[] #[], 0⟩, ⟨.string ⟨#[115, 101, 109, 105, 103, 114, 111, 117, 112]⟩, .func (.func 83) #[] #[], 1⟩, ⟨.string ⟨#[109, 111, 110, 111, 105, 100]⟩, .func (.func 84) #[] #[], 2⟩, ⟨.string ⟨#[105, 110, 118, 111, 108, 117, 116, 105, 111, 110]⟩, .func (.func 85) #[] #[], 3⟩, ⟨.string ⟨#[105, 100, 108, 101]⟩, .func (.func 86) #[] #[], 4⟩, ⟨.string ⟨#[103, 114, 111, 117, 112, 111, 105, 100]⟩, .func (.func 87) #[] #[], 5⟩, ⟨.string ⟨#[103, 114, 111, 117, 112]⟩, .func (.func 88) #[] #[], 6⟩]
theorem texts0 (w : World) : Calls Tryz.prog 60 #[.int .i64 0] w fun e w' => ∃ b, w.heap.size ≤ b ∧ e = .returned (.tuple #[.slice (some ⟨b, 0, none⟩) (thS 0).length (thS 0).length, .int .i64 (thN 0)]) ∧ Below w.heap.size w w' ∧ w'.heap[b]? = some (.cells ((thS 0).map Value.string).toArray 9) := by
  have hmm := @run_makeMap Tryz.prog
  go_enter Tryz.func60, Tryz.ntmps60
  go_wp2_with (refine wpList_ins rfl _ _ _ 111 rfl 9 110 Tryz.underlying111 Tryz.underlying9 rfl rfl rfl (by decide) (by rfl) ?_)
  go_wp2_with (refine wpList_ins rfl _ _ _ 111 rfl 9 110 Tryz.underlying111 Tryz.underlying9 rfl rfl rfl (by decide) (by rfl) ?_)
  go_wp2_with (refine wpList_ins rfl _ _ _ 111 rfl 9 110 Tryz.underlying111 Tryz.underlying9 rfl rfl rfl (by decide) (by rfl) ?_)
  go_wp2_with (refine wpList_ins rfl _ _ _ 111 rfl 9 110 Tryz.underlying111 Tryz.underlying9 rfl rfl rfl (by decide) (by rfl) ?_)
  go_wp2_with (refine wpList_ins rfl _ _ _ 111 rfl 9 110 Tryz.underlying111 Tryz.underlying9 rfl rfl rfl (by decide) (by rfl) ?_)
  go_wp2_with (refine wpList_ins rfl _ _ _ 111 rfl 9 110 Tryz.underlying111 Tryz.underlying9 rfl rfl rfl (by decide) (by rfl) ?_)
  go_wp2_with (refine wpList_ins rfl _ _ _ 111 rfl 9 110 Tryz.underlying111 Tryz.underlying9 rfl rfl rfl (by decide) (by rfl) ?_)
  go_wp2_with (go_at_call 89; refine (name_walk 0 (by decide) _).mono ?_; rintro e w1 ⟨rfl, h1⟩)
  have hM : w1.heap[w.heap.size]? = some (.map thM 7) := (h1.block _ (by rw [World.size_alloc]; omega)).trans (alloc_new _ _)
  rw [look_run Tryz.underlying111 Tryz.underlying9 hM (j := 0) (v := .func (.func 82) #[] #[]) (by rfl)]
  simp only [Result.andThen]
  rw [Oper.upon_value]
  go_wp2_with (go_at_call 82; refine (cl0 _).mono ?_; rintro e w2 ⟨rfl, rfl⟩)
  go_ret2
  have h2 : Below w.heap.size w w1 := ((Below.refl _ _).alloc (Nat.le_refl _) _).trans (h1.mono (by rw [World.size_alloc]; omega))
  exact ⟨_, h2.size, rfl, h2.alloc h2.size _, alloc_new _ _⟩
theorem texts1 (w : World) : Calls Tryz.prog 60 #[.int .i64 1] w fun e w' => ∃ b, w.heap.size ≤ b ∧ e = .returned (.tuple #[.slice (some ⟨b, 0, none⟩) (thS 1).length (thS 1).length, .int .i64 (thN 1)]) ∧ Below w.heap.size w w' ∧ w'.heap[b]? = some (.cells ((thS 1).map Value.string).toArray 9) := by
  have hmm := @run_makeMap Tryz.prog
  go_enter Tryz.func60, Tryz.ntmps60
  go_wp2_with (refine wpList_ins rfl _ _ _ 111 rfl 9 110 Tryz.underlying111 Tryz.underlying9 rfl rfl rfl (by decide) (by rfl) ?_)
  go_wp2_with (refine wpList_ins rfl _ _ _ 111 rfl 9 110 Tryz.underlying111 Tryz.underlying9 rfl rfl rfl (by decide) (by rfl) ?_)
  go_wp2_with (refine wpList_ins rfl _ _ _ 111 rfl 9 110 Tryz.underlying111 Tryz.underlying9 rfl rfl rfl (by decide) (by rfl) ?_)
  go_wp2_with (refine wpList_ins rfl _ _ _ 111 rfl 9 110 Tryz.underlying111 Tryz.underlying9 rfl rfl rfl (by decide) (by rfl) ?_)
  go_wp2_with (refine wpList_ins rfl _ _ _ 111 rfl 9 110 Tryz.underlying111 Tryz.underlying9 rfl rfl rfl (by decide) (by rfl) ?_)
  go_wp2_with (refine wpList_ins rfl _ _ _ 111 rfl 9 110 Tryz.underlying111 Tryz.underlying9 rfl rfl rfl (by decide) (by rfl) ?_)
  go_wp2_with (refine wpList_ins rfl _ _ _ 111 rfl 9 110 Tryz.underlying111 Tryz.underlying9 rfl rfl rfl (by decide) (by rfl) ?_)
  go_wp2_with (go_at_call 89; refine (name_walk 1 (by decide) _).mono ?_; rintro e w1 ⟨rfl, h1⟩)
  have hM : w1.heap[w.heap.size]? = some (.map thM 7) := (h1.block _ (by rw [World.size_alloc]; omega)).trans (alloc_new _ _)
  rw [look_run Tryz.underlying111 Tryz.underlying9 hM (j := 1) (v := .func (.func 83) #[] #[]) (by rfl)]
  simp only [Result.andThen]
  rw [Oper.upon_value]
  go_wp2_with (go_at_call 83; refine (cl1 _).mono ?_; rintro e w2 ⟨rfl, rfl⟩)
  go_ret2
  have h2 : Below w.heap.size w w1 := ((Below.refl _ _).alloc (Nat.le_refl _) _).trans (h1.mono (by rw [World.size_alloc]; omega))
  exact ⟨_, h2.size, rfl, h2.alloc h2.size _, alloc_new _ _⟩
theorem texts2 (w : World) : Calls Tryz.prog 60 #[.int .i64 2] w fun e w' => ∃ b, w.heap.size ≤ b ∧ e = .returned (.tuple #[.slice (some ⟨b, 0, none⟩) (thS 2).length (thS 2).length, .int .i64 (thN 2)]) ∧ Below w.heap.size w w' ∧ w'.heap[b]? = some (.cells ((thS 2).map Value.string).toArray 9) := by
  have hmm := @run_makeMap Tryz.prog
  go_enter Tryz.func60, Tryz.ntmps60
  go_wp2_with (refine wpList_ins rfl _ _ _ 111 rfl 9 110 Tryz.underlying111 Tryz.underlying9 rfl rfl rfl (by decide) (by rfl) ?_)
  go_wp2_with (refine wpList_ins rfl _ _ _ 111 rfl 9 110 Tryz.underlying111 Tryz.underlying9 rfl rfl rfl (by decide) (by rfl) ?_)
  go_wp2_with (refine wpList_ins rfl _ _ _ 111 rfl 9 110 Tryz.underlying111 Tryz.underlying9 rfl rfl rfl (by decide) (by rfl) ?_)
  go_wp2_with (refine wpList_ins rfl _ _ _ 111 rfl 9 110 Tryz.underlying111 Tryz.underlying9 rfl rfl rfl (by decide) (by rfl) ?_)
  go_wp2_with (refine wpList_ins rfl _ _ _ 111 rfl 9 110 Tryz.underlying111 Tryz.underlying9 rfl rfl rfl (by decide) (by rfl) ?_)
  go_wp2_with (refine wpList_ins rfl _ _ _ 111 rfl 9 110 Tryz.underlying111 Tryz.underlying9 rfl rfl rfl (by decide) (by rfl) ?_)
  go_wp2_with (refine wpList_ins rfl _ _ _ 111 rfl 9 110 Tryz.underlying111 Tryz.underlying9 rfl rfl rfl (by decide) (by rfl) ?_)
  go_wp2_with (go_at_call 89; refine (name_walk 2 (by decide) _).mono ?_; rintro e w1 ⟨rfl, h1⟩)
  have hM : w1.heap[w.heap.size]? = some (.map thM 7) := (h1.block _ (by rw [World.size_alloc]; omega)).trans (alloc_new _ _)
  rw [look_run Tryz.underlying111 Tryz.underlying9 hM (j := 2) (v := .func (.func 84) #[] #[]) (by rfl)]
  simp only [Result.andThen]
  rw [Oper.upon_value]
  go_wp2_with (go_at_call 84; refine (cl2 _).mono ?_; rintro e w2 ⟨rfl, rfl⟩)
  go_ret2
  have h2 : Below w.heap.size w w1 := ((Below.refl _ _).alloc (Nat.le_refl _) _).trans (h1.mono (by rw [World.size_alloc]; omega))
  exact ⟨_, h2.size, rfl, h2.alloc h2.size _, alloc_new _ _⟩
theorem texts3 (w : World) : Calls Tryz.prog 60 #[.int .i64 3] w fun e w' => ∃ b, w.heap.size ≤ b ∧ e = .returned (.tuple #[.slice (some ⟨b, 0, none⟩) (thS 3).length (thS 3).length, .int .i64 (thN 3)]) ∧ Below w.heap.size w w' ∧ w'.heap[b]? = some (.cells ((thS 3).map Value.string).toArray 9) := by
  have hmm := @run_makeMap Tryz.prog
  go_enter Tryz.func60, Tryz.ntmps60
  go_wp2_with (refine wpList_ins rfl _ _ _ 111 rfl 9 110 Tryz.underlying111 Tryz.underlying9 rfl rfl rfl (by decide) (by rfl) ?_)
  go_wp2_with (refine wpList_ins rfl _ _ _ 111 rfl 9 110 Tryz.underlying111 Tryz.underlying9 rfl rfl rfl (by decide) (by rfl) ?_)
  go_wp2_with (refine wpList_ins rfl _ _ _ 111 rfl 9 110 Tryz.underlying111 Tryz.underlying9 rfl rfl rfl (by decide) (by rfl) ?_)
  go_wp2_with (refine wpList_ins rfl _ _ _ 111 rfl 9 110 Tryz.underlying111 Tryz.underlying9 rfl rfl rfl (by decide) (by rfl) ?_)
  go_wp2_with (refine wpList_ins rfl _ _ _ 111 rfl 9 110 Tryz.underlying111 Tryz.underlying9 rfl rfl rfl (by decide) (by rfl) ?_)
  go_wp2_with (refine wpList_ins rfl _ _ _ 111 rfl 9 110 Tryz.underlying111 Tryz.underlying9 rfl rfl rfl (by decide) (by rfl) ?_)
  go_wp2_with (refine wpList_ins rfl _ _ _ 111 rfl 9 110 Tryz.underlying111 Tryz.underlying9 rfl rfl rfl (by decide) (by rfl) ?_)
  go_wp2_with (go_at_call 89; refine (name_walk 3 (by decide) _).mono ?_; rintro e w1 ⟨rfl, h1⟩)
  have hM : w1.heap[w.heap.size]? = some (.map thM 7) := (h1.block _ (by rw [World.size_alloc]; omega)).trans (alloc_new _ _)
  rw [look_run Tryz.underlying111 Tryz.underlying9 hM (j := 3) (v := .func (.func 85) #[] #[]) (by rfl)]
  simp only [Result.andThen]
  rw [Oper.upon_value]
  go_wp2_with (go_at_call 85; refine (cl3 _).mono ?_; rintro e w2 ⟨rfl, rfl⟩)
  go_ret2
  have h2 : Below w.heap.size w w1 := ((Below.refl _ _).alloc (Nat.le_refl _) _).trans (h1.mono (by rw [World.size_alloc]; omega))
  exact ⟨_, h2.size, rfl, h2.alloc h2.size _, alloc_new _ _⟩
theorem texts4 (w : World) : Calls Tryz.prog 60 #[.int .i64 4] w fun e w' => ∃ b, w.heap.size ≤ b ∧ e = .returned (.tuple #[.slice (some ⟨b, 0, none⟩) (thS 4).length (thS 4).length, .int .i64 (thN 4)]) ∧ Below w.heap.size w w' ∧ w'.heap[b]? = some (.cells ((thS 4).map Value.string).toArray 9) := by
  have hmm := @run_makeMap Tryz.prog
  go_enter Tryz.func60, Tryz.ntmps60
  go_wp2_with (refine wpList_ins rfl _ _ _ 111 rfl 9 110 Tryz.underlying111 Tryz.underlying9 rfl rfl rfl (by decide) (by rfl) ?_)
  go_wp2_with (refine wpList_ins rfl _ _ _ 111 rfl 9 110 Tryz.underlying111 Tryz.underlying9 rfl rfl rfl (by decide) (by rfl) ?_)
  go_wp2_with (refine wpList_ins rfl _ _ _ 111 rfl 9 110 Tryz.underlying111 Tryz.underlying9 rfl rfl rfl (by decide) (by rfl) ?_)
  go_wp2_with (refine wpList_ins rfl _ _ _ 111 rfl 9 110 Tryz.underlying111 Tryz.underlying9 rfl rfl rfl (by decide) (by rfl) ?_)
  go_wp2_with (refine wpList_ins rfl _ _ _ 111 rfl 9 110 Tryz.underlying111 Tryz.underlying9 rfl rfl rfl (by decide) (by rfl) ?_)
  go_wp2_with (refine wpList_ins rfl _ _ _ 111 rfl 9 110 Tryz.underlying111 Tryz.underlying9 rfl rfl rfl (by decide) (by rfl) ?_)
  go_wp2_with (refine wpList_ins rfl _ _ _ 111 rfl 9 110 Tryz.underlying111 Tryz.underlying9 rfl rfl rfl (by decide) (by rfl) ?_)
  go_wp2_with (go_at_call 89; refine (name_walk 4 (by decide) _).mono ?_; rintro e w1 ⟨rfl, h1⟩)
  have hM : w1.heap[w.heap.size]? = some (.map thM 7) := (h1.block _ (by rw [World.size_alloc]; omega)).trans (alloc_new _ _)
  rw [look_run Tryz.underlying111 Tryz.underlying9 hM (j := 4) (v := .func (.func 86) #[] #[]) (by rfl)]
  simp only [Result.andThen]
  rw [Oper.upon_value]
  go_wp2_with (go_at_call 86; refine (cl4 _).mono ?_; rintro e w2 ⟨rfl, rfl⟩)
  go_ret2
  have h2 : Below w.heap.size w w1 := ((Below.refl _ _).alloc (Nat.le_refl _) _).trans (h1.mono (by rw [World.size_alloc]; omega))
  exact ⟨_, h2.size, rfl, h2.alloc h2.size _, alloc_new _ _⟩
theorem texts5 (w : World) : Calls Tryz.prog 60 #[.int .i64 5] w fun e w' => ∃ b, w.heap.size ≤ b ∧ e = .returned (.tuple #[.slice (some ⟨b, 0, none⟩) (thS 5).length (thS 5).length, .int .i64 (thN 5)]) ∧ Below w.heap.size w w' ∧ w'.heap[b]? = some (.cells ((thS 5).map Value.string).toArray 9) := by
  have hmm := @run_makeMap Tryz.prog
  go_enter Tryz.func60, Tryz.ntmps60
  go_wp2_with (refine wpList_ins rfl _ _ _ 111 rfl 9 110 Tryz.underlying111 Tryz.underlying9 rfl rfl rfl (by decide) (by rfl) ?_)
  go_wp2_with (refine wpList_ins rfl _ _ _ 111 rfl 9 110 Tryz.underlying111 Tryz.underlying9 rfl rfl rfl (by decide) (by rfl) ?_)
  go_wp2_with (refine wpList_ins rfl _ _ _ 111 rfl 9 110 Tryz.underlying111 Tryz.underlying9 rfl rfl rfl (by decide) (by rfl) ?_)
  go_wp2_with (refine wpList_ins rfl _ _ _ 111 rfl 9 110 Tryz.underlying111 Tryz.underlying9 rfl rfl rfl (by decide) (by rfl) ?_)
  go_wp2_with (refine wpList_ins rfl _ _ _ 111 rfl 9 110 Tryz.underlying111 Tryz.underlying9 rfl rfl rfl (by decide) (by rfl) ?_)
  go_wp2_with (refine wpList_ins rfl _ _ _ 111 rfl 9 110 Tryz.underlying111 Tryz.underlying9 rfl rfl rfl (by decide) (by rfl) ?_)
  go_wp2_with (refine wpList_ins rfl _ _ _ 111 rfl 9 110 Tryz.underlying111 Tryz.underlying9 rfl rfl rfl (by decide) (by rfl) ?_)
  go_wp2_with (go_at_call 89; refine (name_walk 5 (by decide) _).mono ?_; rintro e w1 ⟨rfl, h1⟩)
  have hM : w1.heap[w.heap.size]? = some (.map thM 7) := (h1.block _ (by rw [World.size_alloc]; omega)).trans (alloc_new _ _)
  rw [look_run Tryz.underlying111 Tryz.underlying9 hM (j := 5) (v := .func (.func 87) #[] #[]) (by rfl)]
  simp only [Result.andThen]
  rw [Oper.upon_value]
  go_wp2_with (go_at_call 87; refine (cl5 _).mono ?_; rintro e w2 ⟨rfl, rfl⟩)
  go_ret2
  have h2 : Below w.heap.size w w1 := ((Below.refl _ _).alloc (Nat.le_refl _) _).trans (h1.mono (by rw [World.size_alloc]; omega))
  exact ⟨_, h2.size, rfl, h2.alloc h2.size _, alloc_new _ _⟩
theorem texts6 (w : World) : Calls Tryz.prog 60 #[.int .i64 6] w fun e w' => ∃ b, w.heap.size ≤ b ∧ e = .returned (.tuple #[.slice (some ⟨b, 0, none⟩) (thS 6).length (thS 6).length, .int .i64 (thN 6)]) ∧ Below w.heap.size w w' ∧ w'.heap[b]? = some (.cells ((thS 6).map Value.string).toArray 9) := by
  have hmm := @run_makeMap Tryz.prog
  go_enter Tryz.func60, Tryz.ntmps60
  go_wp2_with (refine wpList_ins rfl _ _ _ 111 rfl 9 110 Tryz.underlying111 Tryz.underlying9 rfl rfl rfl (by decide) (by rfl) ?_)
  go_wp2_with (refine wpList_ins rfl _ _ _ 111 rfl 9 110 Tryz.underlying111 Tryz.underlying9 rfl rfl rfl (by decide) (by rfl) ?_)
  go_wp2_with (refine wpList_ins rfl _ _ _ 111 rfl 9 110 Tryz.underlying111 Tryz.underlying9 rfl rfl rfl (by decide) (by rfl) ?_)
  go_wp2_with (refine wpList_ins rfl _ _ _ 111 rfl 9 110 Tryz.underlying111 Tryz.underlying9 rfl rfl rfl (by decide) (by rfl) ?_)
  go_wp2_with (refine wpList_ins rfl _ _ _ 111 rfl 9 110 Tryz.underlying111 Tryz.underlying9 rfl rfl rfl (by decide) (by rfl) ?_)
  go_wp2_with (refine wpList_ins rfl _ _ _ 111 rfl 9 110 Tryz.underlying111 Tryz.underlying9 rfl rfl rfl (by decide) (by rfl) ?_)
  go_wp2_with (refine wpList_ins rfl _ _ _ 111 rfl 9 110 Tryz.underlying111 Tryz.underlying9 rfl rfl rfl (by decide) (by rfl) ?_)
  go_wp2_with (go_at_call 89; refine (name_walk 6 (by decide) _).mono ?_; rintro e w1 ⟨rfl, h1⟩)
  have hM : w1.heap[w.heap.size]? = some (.map thM 7) := (h1.block _ (by rw [World.size_alloc]; omega)).trans (alloc_new _ _)
  rw [look_run Tryz.underlying111 Tryz.underlying9 hM (j := 6) (v := .func (.func 88) #[] #[]) (by rfl)]
  simp only [Result.andThen]
  rw [Oper.upon_value]
  go_wp2_with (go_at_call 88; refine (cl6 _).mono ?_; rintro e w2 ⟨rfl, rfl⟩)
  go_ret2
  have h2 : Below w.heap.size w w1 := ((Below.refl _ _).alloc (Nat.le_refl _) _).trans (h1.mono (by rw [World.size_alloc]; omega))
  exact ⟨_, h2.size, rfl, h2.alloc h2.size _, alloc_new _ _⟩
end Go.Proofs.YtcbfefbocpikoaaGreatDoor
namespace Abx
open Go Go.RowKit
theorem satN0 (id : Nat) : sat [] id = .dead := rfl
theorem own_nilS {β : Beta} {b o : Nat} : ¬ own β [] b o := fun ⟨_, h⟩ => h
theorem blk_nilS {β : Beta} {id b : Nat} : ¬ blockOf β [] id b := fun h => h
theorem cell_below {w w' : World} (h : Below w.heap.size w w') {b o : Nat} {v : Value} (hc : w.cell? ⟨b, o, none⟩ = some v) : w'.cell? ⟨b, o, none⟩ = some v := by
  have hb : b < w.heap.size := cell_lt hc
  have := h.block b hb
  simp only [World.cell?] at hc ⊢
  rw [this]; exact hc
theorem Inv.belowN {C : Ctx} {w' : World} (hs : C.s = []) (h : Inv C C.β C.s C.w) (hb : Below C.w.heap.size C.w w') : Inv C C.β [] w' where
  size := hb.size
  io := by unfold wio; rw [hb.os, hb.output, hb.tape]
  gl := h.gl
  keep b o v hc _ := cell_below hb hc
  blks b hlt _ := hb.block b hlt
  ownd b o h := (own_nilS h).elim
  ownB id b h := (blk_nilS h).elim
  pl := h.pl
  low := h.low
  obs id := by
    have := h.obs id
    rw [hs] at this
    rw [satN0] at this ⊢
    exact this
  inj i j b h := (blk_nilS h).elim
theorem pfun_of {P : Program} {f : Nat} {args : List D} {r : D}
    (h : ∀ (β : Beta) (O : Own) (w : World) (vs : Array Value), GW O w → (∀ b o, O b o → b < w.heap.size) → AV.oks β O w (args.map .d) vs.toList → Calls P f vs w fun e w' => ∃ v, e = .returned v ∧ D.ok O w' r v ∧ Below w.heap.size w w') : PFun P f args r := fun C vs hs hk hinv hargs => by
  have hg := hinv.glAt
  have hO : ∀ b o, C.forb C.β C.s b o → b < C.w.heap.size := fun b o ho => by
    rcases ho with ho | ho
    · exact (hinv.low b o ho).1
    · rw [hs] at ho; exact (own_nilS ho).elim
  refine (h _ _ _ vs hg hO hargs).mono ?_
  rintro e w' ⟨v, rfl, hv, hb⟩
  refine ⟨v, .d r, C.β, [], rfl, hinv.belowN hs hb, ?_, rfl⟩
  simp only [AV.ok]
  refine D.ok_mono (fun b o v hc hn => ⟨hc, fun ho => hn ?_⟩) _ _ hv
  rcases ho with ho | ho
  · exact .inl ho
  · exact (own_nilS ho).elim
theorem pfunN_of {P : Program} {f : Nat} {args : List D} {r : List D}
    (h : ∀ (β : Beta) (O : Own) (w : World) (vs : Array Value), GW O w → (∀ b o, O b o → b < w.heap.size) → AV.oks β O w (args.map .d) vs.toList → Calls P f vs w fun e w' => ∃ us : Array Value, e = .returned (.tuple us) ∧ AV.oks β O w' (r.map .d) us.toList ∧ Below w.heap.size w w') : PFunN P f args r := fun C vs hs hk hinv hargs => by
  have hg := hinv.glAt
  have hO : ∀ b o, C.forb C.β C.s b o → b < C.w.heap.size := fun b o ho => by
    rcases ho with ho | ho
    · exact (hinv.low b o ho).1
    · rw [hs] at ho; exact (own_nilS ho).elim
  refine (h _ _ _ vs hg hO hargs).mono ?_
  rintro e w' ⟨v, rfl, hv, hb⟩
  refine ⟨.tuple v, .tup (r.map .d), C.β, [], rfl, hinv.belowN hs hb, ?_, rfl⟩
  rw [hs] at hv
  simp only [AV.ok]
  exact ⟨v, rfl, hv⟩
theorem row_ints {O : Own} {w : World} {b : Nat} : ∀ {xs : List Int} {o : Nat}, D.row O w b o 1 (xs.map iD) → ∀ j x, xs[j]? = some x → w.cell? ⟨b, o + j, none⟩ = some (.int .i64 x)
  | [], _, _, j, x, h => by simp at h
  | y :: ys, o, hr, j, x, h => by
    rw [List.map_cons, D.row_cons] at hr
    obtain ⟨⟨vs, h1, h2, v, rfl, h3⟩, h4⟩ := hr
    cases j with
    | zero =>
      simp at h; subst h
      simp only [D.ok] at h3
      rw [← h3.1]; exact (h2 0 v rfl).1
    | succ j =>
      have := row_ints h4 j x (by simpa using h)
      rwa [show o + 1 + j = o + (j + 1) by omega] at this
theorem row_strs {O : Own} {w : World} {b : Nat} : ∀ {xs : List ByteArray} {o : Nat}, (∀ j s, xs[j]? = some s → w.cell? ⟨b, o + j, none⟩ = some (.string s) ∧ ¬ O b (o + j)) → D.row O w b o 1 (xs.map sD)
  | [], _, _ => trivial
  | y :: ys, o, hr => by
    rw [List.map_cons, D.row_cons]
    refine ⟨⟨[.string y], rfl, fun j v hj => ?_, .string y, rfl, by simp only [D.ok]; exact ⟨trivial, rfl⟩⟩, row_strs fun j s hj => ?_⟩
    · cases j with
      | zero => simp at hj; subst hj; exact ⟨(hr 0 y rfl).1, (hr 0 y rfl).2, rfl⟩
      | succ j => simp at hj
    · have := hr (j + 1) s (by simpa using hj)
      rwa [show o + (j + 1) = o + 1 + j by omega] at this
end Abx
namespace Go.Proofs.YtcbfefbocpikoaaGreatDoor
open Go Abx Go.RowKit
theorem ints_rd {O : Abx.Own} {w : World} {xs : List Int} {v : Value} (h : D.ok O w (slD 1 iD xs) v) : ∃ A cap, v = .slice A xs.length cap ∧ RdI w w.heap.size A xs := by
  simp only [slD, D.ok, List.length_map] at h
  obtain ⟨a, cap, rfl, _, _, h⟩ := h
  refine ⟨a, cap, rfl, fun j x hj => ?_⟩
  rcases h with h | ⟨b, o, rfl, h⟩
  · simp at h; subst h; simp at hj
  · have hc := row_ints h j x hj
    refine ⟨_, rfl, cell_lt hc, ?_⟩
    unfold Addr.add
    split
    · rename_i hz; subst hz; exact hc
    · exact hc
def F_impl_text (sig t : List Int) : Option ByteArray := if t.length < 2 ^ 62 then (match tx sig t (t.length + 1) 0 with | some (x, _) => if x.length < 2 ^ 39 then some ⟨x.toArray⟩ else none | none => none) else none
instance c_impl_text {sig t : List Int} : HasC (F_impl_text sig t) fun rr => PFun Tryz.prog 127 [D_impl_Sig sig, slD 1 iD t] (sD rr) := ⟨fun {rr} h => by
  unfold F_impl_text at h
  split at h
  · rename_i h1
    cases hx : tx sig t (t.length + 1) 0 with
    | none => rw [hx] at h; cases h
    | some p =>
      obtain ⟨x, e⟩ := p
      rw [hx] at h
      simp only at h
      split at h
      · rename_i h2
        cases h
        refine pfun_of fun β O w vs hg hO ha => ?_
        simp only [List.map_cons, List.map_nil, AV.oks, AV.ok] at ha
        obtain ⟨v, r, hv, ⟨g1, v2, r2, rfl, g2, rfl⟩⟩ := ha
        simp only [D_impl_Sig, D.ok, D.oks] at g1
        obtain ⟨us, rfl, u, q, hu, _, g3, rfl⟩ := g1
        obtain ⟨A, cA, rfl, k1⟩ := ints_rd g3
        obtain ⟨T, cT, rfl, k2⟩ := ints_rd g2
        have e1 : vs = #[.agg us, .slice T t.length cT] := Array.ext' hv
        have e2 : us = #[.slice A sig.length cA] := Array.ext' hu
        subst e1 e2
        refine (text_walk sig t A T cA cT _ x e w hx h1 h2 k1 k2).mono ?_
        rintro e' w' ⟨rfl, hb⟩
        exact ⟨_, rfl, by simp only [D.ok]; exact ⟨trivial, rfl⟩, hb⟩
      · cases h
  · cases h⟩
def F_strings_Cut (s sep : ByteArray) : Option (ByteArray × ByteArray × Bool) := if s.size < 4294967281 then some (⟨(Lib.cut s.data.toList sep.data.toList).1.toArray⟩, ⟨(Lib.cut s.data.toList sep.data.toList).2.1.toArray⟩, (Lib.cut s.data.toList sep.data.toList).2.2) else none
instance c_strings_Cut {s sep : ByteArray} : HasC (F_strings_Cut s sep) fun rr => PFunN Tryz.prog 107 [sD s, sD sep] [sD rr.1, sD rr.2.1, bD rr.2.2] := ⟨fun {rr} h => by
  unfold F_strings_Cut at h
  split at h
  · rename_i h1
    cases h
    refine pfunN_of fun β O w vs hg hO ha => ?_
    simp only [List.map_cons, List.map_nil, AV.oks, AV.ok, D.ok] at ha
    obtain ⟨v, r, hv, ⟨⟨rfl, _⟩, v2, r2, rfl, ⟨rfl, _⟩, rfl⟩⟩ := ha
    have e1 : vs = #[.string s, .string sep] := Array.ext' hv
    subst e1
    obtain ⟨⟨m, hm⟩, _⟩ := hg
    refine (Tryz.strings_Cut s sep m w h1 hm).mono ?_
    rintro e' w' ⟨rfl, n, rfl⟩
    refine ⟨_, rfl, ?_, ⟨rfl, rfl, rfl, Nat.le_refl _, fun _ _ => rfl⟩⟩
    simp only [List.map_cons, List.map_nil, AV.oks, AV.ok, D.ok, sD, bD, one]
    exact ⟨_, _, rfl, ⟨rfl, trivial⟩, _, _, rfl, ⟨rfl, trivial⟩, _, _, rfl, ⟨rfl, trivial⟩, rfl⟩
  · cases h⟩
def F_impl_theoryTexts (k : Int) : Option (List ByteArray × Int) := if 0 ≤ k ∧ k < 7 then some (thS k.toNat, thN k.toNat) else none
theorem texts_any (k : Nat) (hk : k < 7) (w : World) : Calls Tryz.prog 60 #[.int .i64 k] w fun e w' => ∃ b, w.heap.size ≤ b ∧ e = .returned (.tuple #[.slice (some ⟨b, 0, none⟩) (thS k).length (thS k).length, .int .i64 (thN k)]) ∧ Below w.heap.size w w' ∧ w'.heap[b]? = some (.cells ((thS k).map Value.string).toArray 9) := by
  match k, hk with
  | 0, _ => exact texts0 w
  | 1, _ => exact texts1 w
  | 2, _ => exact texts2 w
  | 3, _ => exact texts3 w
  | 4, _ => exact texts4 w
  | 5, _ => exact texts5 w
  | 6, _ => exact texts6 w
instance c_impl_theoryTexts {k : Int} : HasC (F_impl_theoryTexts k) fun rr => PFunN Tryz.prog 60 [iD k] [slD 1 sD rr.1, iD rr.2] := ⟨fun {rr} h => by
  unfold F_impl_theoryTexts at h
  split at h
  · rename_i h1
    cases h
    obtain ⟨m, rfl⟩ := Int.eq_ofNat_of_zero_le h1.1
    have hm : m < 7 := by omega
    refine pfunN_of fun β O w vs hg hO ha => ?_
    simp only [List.map_cons, List.map_nil, AV.oks, AV.ok, D.ok] at ha
    obtain ⟨v, r, hv, ⟨rfl, _⟩, rfl⟩ := ha
    have e1 : vs = #[.int .i64 m] := Array.ext' hv
    subst e1
    refine (texts_any m hm w).mono ?_
    rintro e' w' ⟨b, hb, rfl, hbel, hc⟩
    refine ⟨_, rfl, ?_, hbel⟩
    simp only [List.map_cons, List.map_nil, AV.oks, AV.ok, Int.toNat_natCast]
    refine ⟨_, _, rfl, ?_, _, _, rfl, by simp only [D.ok]; exact ⟨trivial, rfl⟩, rfl⟩
    simp only [slD, D.ok, List.length_map]
    refine ⟨_, _, rfl, ?_, trivial, .inr ⟨b, 0, rfl, row_strs fun j s hj => ?_⟩⟩
    · have : (thS m).length < 100 := by
        match m, hm with
        | 0, _ => decide
        | 1, _ => decide
        | 2, _ => decide
        | 3, _ => decide
        | 4, _ => decide
        | 5, _ => decide
        | 6, _ => decide
      exact ⟨by omega, by omega⟩
    · refine ⟨?_, fun ho => absurd (hO _ _ ho) (by omega)⟩
      have : (((thS m).map Value.string).toArray)[0 + j]? = some (.string s) := by simp [hj]
      simp [World.cell?, hc]
      exact hj
  · cases h⟩
end Go.Proofs.YtcbfefbocpikoaaGreatDoor
namespace Go.Proofs.YtcbfefbocpikoaaGreatDoor
open Go Abx
attribute [local irreducible] vcm vgo vdr vrun vdrun MWp BrC BrO BrG BrD BrH AmbO callR callD drQ EnvLe StoLe
set_option maxHeartbeats 4000000
def mc61 : MCode :=
 (.seq (.reg (sq 0 [.alloc 0 34 [.sl 0 (some true) []]])) (.seq (.reg (sq 1 [.bsl 1 2 1 [(i0 2), (i0 1), (i0 0)], .build [.sl 0 (some true) []] [(0, 1, (t0 1))]] ++ s0 (sr 1 0 2))) .ret))
theorem fn61 : MFn Tryz.prog 61 mc61 3 [.cell 0 1 true] := ⟨_, Tryz.func61, by kernel_rfl, Tryz.ntmps61, by kernel_rfl⟩
noncomputable def F_impl_theorySig  : Option (List Int) :=
 some [2, 1, 0]
instance c_impl_theorySig : HasC (F_impl_theorySig) fun rr => PFun Tryz.prog 61 [] (D_impl_Sig rr) := ⟨@fun rr h => by
  delta F_impl_theorySig at h
  refine fn61.pureL (vcm_sound ?_)
  delta mc61
  refine stp ?_
  exact aut⟩
def mc126 : MCode :=
 (.seq (.reg (sq 2 [mi 0, mb false])) (.seq (.seq (.reg (sq 6 [mv 0, .lens (t0 6), bi .eql 7 0, mv 8] ++ sg 9 false 10 [mv 0, .lens (t0 10), bi .gtr 11 9] ++ sq 13 [po 9 12, mv 13] ++ sg 14 false 15 [mv 0, .lens (t0 15), bi .gtr 16 1, mv 17] ++ sg 18 true 19 [mv 0, .ixs (t0 19) (i0 0), .bin .eql (t0 20) (.const (.int .u8 48))] ++ sg 14 false 22 [pa 18 21] ++ sq 23 [po 14 22])) (.cond (t0 23) (.seq (.reg (sq 2 [mi 0, mb false])) .ret) .skip)) (.seq (.reg (sq 4 [mi 0])) (.seq (.seq (.reg (sq 24 [mv 0, .lens (t0 24), mi 0])) (.block 0 (.loop (.seq (.reg (sq 27 [bn .lss 26 25])) (.seq (.cond (t0 27) .skip (.exit 0)) (.seq (.block 1 (.seq (.reg (sq 28 [mv 26] ++ sq 5 [mv 28])) (.seq (.seq (.reg (sq 29 [mv 0, mv 5, .ixs (t0 29) (t0 30), .bin .lss (t0 31) (.const (.int .u8 48)), mv 32] ++ sg 33 false 34 [mv 0, mv 5, .ixs (t0 34) (t0 35), .bin .gtr (t0 36) (.const (.int .u8 57))] ++ sq 38 [po 33 37])) (.cond (t0 38) (.seq (.reg (sq 2 [mi 0, mb false])) .ret) .skip)) (.reg (sq 39 [mv 4, .bin .mul (i0 10) (t0 39), mv 0, mv 5, .ixs (t0 41) (t0 42), .bin .sub (t0 43) (.const (.int .u8 48)), .conv .i64 (t0 44), bn .add 40 45] ++ sq 4 [mv 46]))))) (.reg (sq 47 [bi .add 26 1] ++ sq 26 [mv 47])))))))) (.seq (.reg (sq 48 [mv 4] ++ sq 2 [mv 48, mb true])) .ret)))))
theorem fn126 : MFn Tryz.prog 126 mc126 49 [.tmp 2, .tmp 3] := ⟨_, Tryz.func126, by kernel_rfl, Tryz.ntmps126, by kernel_rfl⟩
noncomputable def F_impl_parseNum_l1 (s : ByteArray) : (Int × Int) → Option ((Int × Int) ⊕ (Int × Bool))
 | (n, v26) =>
  if (decide (v26 < (s.size : Int))) = true then
   if 0 ≤ v26 ∧ v26 < (s.size : Int) then
    if (decide ((sget s v26.toNat) < 48)) = true then
     Option.map Sum.inr (
      some (0, false))
    else
     if 0 ≤ v26 ∧ v26 < (s.size : Int) then
      if (decide (57 < (sget s v26.toNat))) = true then
       Option.map Sum.inr (
        some (0, false))
      else
       if 0 ≤ v26 ∧ v26 < (s.size : Int) then
        some (.inl ((IntKind.i64.wrap ((IntKind.i64.wrap (10 * n)) + (IntKind.i64.wrap (IntKind.u8.wrap ((sget s v26.toNat) - 48))))), (IntKind.i64.wrap (v26 + 1))))
       else none
     else none
   else none
  else
   Option.map Sum.inr (
    some (n, true))
noncomputable def F_impl_parseNum_l2 (s : ByteArray) : (Int × Int) → Option ((Int × Int) ⊕ (Int × Bool))
 | (n_1, v26_1) =>
  if (decide (v26_1 < (s.size : Int))) = true then
   if 0 ≤ v26_1 ∧ v26_1 < (s.size : Int) then
    if (decide ((sget s v26_1.toNat) < 48)) = true then
     Option.map Sum.inr (
      some (0, false))
    else
     if 0 ≤ v26_1 ∧ v26_1 < (s.size : Int) then
      if (decide (57 < (sget s v26_1.toNat))) = true then
       Option.map Sum.inr (
        some (0, false))
      else
       if 0 ≤ v26_1 ∧ v26_1 < (s.size : Int) then
        some (.inl ((IntKind.i64.wrap ((IntKind.i64.wrap (10 * n_1)) + (IntKind.i64.wrap (IntKind.u8.wrap ((sget s v26_1.toNat) - 48))))), (IntKind.i64.wrap (v26_1 + 1))))
       else none
     else none
   else none
  else
   Option.map Sum.inr (
    some (n_1, true))
noncomputable def F_impl_parseNum (s : ByteArray) : Option (Int × Bool) :=
 if ((s.size : Int) == 0) = true then
  some (0, false)
 else
  if (decide (9 < (s.size : Int))) = true then
   some (0, false)
  else
   if (decide (1 < (s.size : Int))) = true then
    if 0 ≤ 0 ∧ 0 < (s.size : Int) then
     if ((sget s 0) == 48) = true then
      some (0, false)
     else
      loopC (F_impl_parseNum_l1 s) (0, 0)
    else none
   else
    loopC (F_impl_parseNum_l2 s) (0, 0)
instance c_impl_parseNum {s : ByteArray} : HasC (F_impl_parseNum s) fun rr => PFunN Tryz.prog 126 [sD s] [iD rr.1, bD rr.2] := ⟨@fun rr h => by
  delta F_impl_parseNum at h
  refine fn126.pureLN (vcm_sound ?_)
  delta mc126
  refine stp ?_
  refine iF h fun hc h => ?_
  refine iF h fun hc h => ?_
  refine it h (fun hc h => ?_) fun hc h => ?_
  · refine ndI h fun hp h => ?_
    refine iF h fun hc h => ?_
    refine m_lW h [2, 3, 4, 5, 26, 27, 28, 29, 30, 31, 32, 33, 34, 35, 36, 37, 38, 39, 40, 41, 42, 43, 44, 45, 46, 47] (fun pp => [(4, .d (iD pp.1)), (26, .d (iD pp.2))]) (fun pp => []) ?_
    rintro ⟨n, v26⟩ t1 h hb1
    unfold F_impl_parseNum_l1 at h
    try dsimp only at h
    refine vcm_sound (stp ?_)
    exact aut
  refine m_lW h [2, 3, 4, 5, 26, 27, 28, 29, 30, 31, 32, 33, 34, 35, 36, 37, 38, 39, 40, 41, 42, 43, 44, 45, 46, 47] (fun pp => [(4, .d (iD pp.1)), (26, .d (iD pp.2))]) (fun pp => []) ?_
  rintro ⟨n_1, v26_1⟩ t1 h hb1
  unfold F_impl_parseNum_l2 at h
  try dsimp only at h
  refine vcm_sound (stp ?_)
  exact aut⟩
def mc108 : MCode :=
 (.seq (.reg (sq 2 [bo 2 34 0] ++ sq 4 [.mv (.const (.slice none 0 0)), mb false])) (.seq (.reg (sq 6 [.mv (.const (.slice none 0 0))])) (.seq (.seq (.reg (sq 7 [mi 0])) (.block 0 (.loop (.seq (.seq (.reg (sq 12 [mv 7, mv 1, .lens (t0 13), bn .lss 12 14])) (.cond (t0 15) .skip (.exit 0))) (.block 1 (.seq (.reg (sq 16 [mv 1, mv 7, .ixs (t0 16) (t0 17)] ++ sq 8 [mv 18])) (.seq (.seq (.reg (sq 19 [mv 8, .bin .eql (t0 19) (.const (.int .u8 40)), mv 20] ++ sg 21 false 22 [mv 8, .bin .eql (t0 22) (.const (.int .u8 44))] ++ sq 24 [po 21 23, mv 24] ++ sg 25 false 26 [mv 8, .bin .eql (t0 26) (.const (.int .u8 41))] ++ sq 28 [po 25 27])) (.cond (t0 28) (.seq (.reg (sq 29 [mv 7, bi .add 29 1] ++ sq 7 [mv 30])) (.exit 1)) .skip)) (.seq (.reg (sq 31 [mv 7, bi .add 31 1] ++ sq 9 [mv 32])) (.seq (.block 2 (.loop (.seq (.seq (.reg (sq 33 [mv 9, mv 1, .lens (t0 34), bn .lss 33 35, mv 36] ++ sg 37 true 38 [mv 1, mv 9, .ixs (t0 38) (t0 39), .bin .geq (t0 40) (.const (.int .u8 48))] ++ sq 42 [pa 37 41, mv 42] ++ sg 43 true 44 [mv 1, mv 9, .ixs (t0 44) (t0 45), .bin .leq (t0 46) (.const (.int .u8 57))] ++ sq 48 [pa 43 47])) (.cond (t0 48) .skip (.exit 2))) (.block 3 (.reg (sq 49 [mv 9, bi .add 49 1] ++ sq 9 [mv 50])))))) (.seq (.reg (sq 52 [mv 1, mv 7, bi .add 53 1, mv 9, .sls (t0 52) (some (t0 54)) (some (t0 55)), cf 126 [56]] ++ sq 51 [mv 57] ++ sq 58 [ex 51 0, ex 51 1] ++ sq 10 [mv 58, mv 59])) (.seq (.seq (.reg (sq 60 [mv 11, nt 60, mv 61] ++ sg 62 false 63 [mv 8, .bin .neq (t0 63) (.const (.int .u8 120)), mv 64] ++ sg 65 true 66 [mv 8, .bin .neq (t0 66) (.const (.int .u8 102))] ++ sg 62 false 68 [pa 65 67] ++ sq 69 [po 62 68])) (.cond (t0 69) (.seq (.reg (sq 4 [.mv (.const (.slice none 0 0)), mb false])) .ret) .skip)) (.seq (.seq (.reg (sq 70 [mv 8, .bin .eql (t0 70) (.const (.int .u8 120))])) (.cond (t0 71) (.reg (sq 72 [mv 10, .bin .sub (i0 (-1)) (t0 72)] ++ sq 10 [mv 73])) .skip)) (.seq (.reg (sq 74 [mv 6, mv 10, .bsl 76 2 1 [(t0 75)], ap 77 2 1 8 74 76] ++ sq 6 [mv 77])) (.reg (sq 78 [mv 9] ++ sq 7 [mv 78]))))))))))))))) (.seq (.reg (sq 79 [mv 6, la 1 2, mv 6, cf 55 [80, 81], mv 82] ++ sg 83 true 84 [la 1 2, mv 6, cf 127 [84, 85], mv 1, bn .eql 86 87] ++ sq 89 [pa 83 88] ++ sq 4 [mv 79, mv 89])) .ret))))
theorem fn108 : MFn Tryz.prog 108 mc108 90 [.tmp 4, .tmp 5] := ⟨_, Tryz.func108, by kernel_rfl, Tryz.ntmps108, by kernel_rfl⟩
noncomputable def F_impl_parseTerm_l2 (s : ByteArray) (t : (List Int)) (i : Int) : Int → Option (Int ⊕ (((List Int) × Int) ⊕ ((List Int) × Bool)))
 | end' =>
  if (decide (end' < (s.size : Int))) = true then
   if 0 ≤ end' ∧ end' < (s.size : Int) then
    if (decide (48 ≤ (sget s end'.toNat))) = true then
     if 0 ≤ end' ∧ end' < (s.size : Int) then
      if (decide ((sget s end'.toNat) ≤ 57)) = true then
       some (.inl (IntKind.i64.wrap (end' + 1)))
      else
       Option.map Sum.inr (
        if 0 ≤ (IntKind.i64.wrap (i + 1)) ∧ (IntKind.i64.wrap (i + 1)) ≤ end' ∧ end' ≤ (s.size : Int) then
         (F_impl_parseNum (s.extract (IntKind.i64.wrap (i + 1)).toNat end'.toNat)).bind fun r =>
         if r.2 = true then
          if ((sget s i.toNat) != 120) = true then
           if ((sget s i.toNat) != 102) = true then
            Option.map Sum.inr (
             some ([], false))
           else
            if ((sget s i.toNat) == 120) = true then
             if (t.length + 1) * 8 ≤ 140737488355328 then
              some (.inl ((t ++ [(IntKind.i64.wrap ((-1) - r.1))]), end'))
             else none
            else
             if (t.length + 1) * 8 ≤ 140737488355328 then
              some (.inl ((t ++ [r.1]), end'))
             else none
          else
           if ((sget s i.toNat) == 120) = true then
            if (t.length + 1) * 8 ≤ 140737488355328 then
             some (.inl ((t ++ [(IntKind.i64.wrap ((-1) - r.1))]), end'))
            else none
           else
            if (t.length + 1) * 8 ≤ 140737488355328 then
             some (.inl ((t ++ [r.1]), end'))
            else none
         else
          Option.map Sum.inr (
           some ([], false))
        else none)
     else none
    else
     Option.map Sum.inr (
      if 0 ≤ (IntKind.i64.wrap (i + 1)) ∧ (IntKind.i64.wrap (i + 1)) ≤ end' ∧ end' ≤ (s.size : Int) then
       (F_impl_parseNum (s.extract (IntKind.i64.wrap (i + 1)).toNat end'.toNat)).bind fun r_1 =>
       if r_1.2 = true then
        if ((sget s i.toNat) != 120) = true then
         if ((sget s i.toNat) != 102) = true then
          Option.map Sum.inr (
           some ([], false))
         else
          if ((sget s i.toNat) == 120) = true then
           if (t.length + 1) * 8 ≤ 140737488355328 then
            some (.inl ((t ++ [(IntKind.i64.wrap ((-1) - r_1.1))]), end'))
           else none
          else
           if (t.length + 1) * 8 ≤ 140737488355328 then
            some (.inl ((t ++ [r_1.1]), end'))
           else none
        else
         if ((sget s i.toNat) == 120) = true then
          if (t.length + 1) * 8 ≤ 140737488355328 then
           some (.inl ((t ++ [(IntKind.i64.wrap ((-1) - r_1.1))]), end'))
          else none
         else
          if (t.length + 1) * 8 ≤ 140737488355328 then
           some (.inl ((t ++ [r_1.1]), end'))
          else none
       else
        Option.map Sum.inr (
         some ([], false))
      else none)
   else none
  else
   Option.map Sum.inr (
    if 0 ≤ (IntKind.i64.wrap (i + 1)) ∧ (IntKind.i64.wrap (i + 1)) ≤ end' ∧ end' ≤ (s.size : Int) then
     (F_impl_parseNum (s.extract (IntKind.i64.wrap (i + 1)).toNat end'.toNat)).bind fun r_2 =>
     if r_2.2 = true then
      if ((sget s i.toNat) != 120) = true then
       if ((sget s i.toNat) != 102) = true then
        Option.map Sum.inr (
         some ([], false))
       else
        if ((sget s i.toNat) == 120) = true then
         if (t.length + 1) * 8 ≤ 140737488355328 then
          some (.inl ((t ++ [(IntKind.i64.wrap ((-1) - r_2.1))]), end'))
         else none
        else
         if (t.length + 1) * 8 ≤ 140737488355328 then
          some (.inl ((t ++ [r_2.1]), end'))
         else none
      else
       if ((sget s i.toNat) == 120) = true then
        if (t.length + 1) * 8 ≤ 140737488355328 then
         some (.inl ((t ++ [(IntKind.i64.wrap ((-1) - r_2.1))]), end'))
        else none
       else
        if (t.length + 1) * 8 ≤ 140737488355328 then
         some (.inl ((t ++ [r_2.1]), end'))
        else none
     else
      Option.map Sum.inr (
       some ([], false))
    else none)
noncomputable def F_impl_parseTerm_l1 (sig : (List Int)) (s : ByteArray) : ((List Int) × Int) → Option (((List Int) × Int) ⊕ ((List Int) × Bool))
 | (t, i) =>
  if (decide (i < (s.size : Int))) = true then
   if 0 ≤ i ∧ i < (s.size : Int) then
    if ((sget s i.toNat) == 40) = true then
     some (.inl (t, (IntKind.i64.wrap (i + 1))))
    else
     if ((sget s i.toNat) == 44) = true then
      some (.inl (t, (IntKind.i64.wrap (i + 1))))
     else
      if ((sget s i.toNat) == 41) = true then
       some (.inl (t, (IntKind.i64.wrap (i + 1))))
      else
       loopC (F_impl_parseTerm_l2 s t i) (IntKind.i64.wrap (i + 1))
   else none
  else
   Option.map Sum.inr (
    (F_impl_TermOk sig t).bind fun r_3 =>
    if r_3 = true then
     (F_impl_text sig t).bind fun r_4 =>
     some (t, (r_4.toList == s.toList))
    else
     some (t, false))
noncomputable def F_impl_parseTerm (sig : (List Int)) (s : ByteArray) : Option ((List Int) × Bool) :=
 loopC (F_impl_parseTerm_l1 sig s) ([], 0)
instance c_impl_parseTerm {sig : (List Int)} {s : ByteArray} : HasC (F_impl_parseTerm sig s) fun rr => PFunN Tryz.prog 108 [D_impl_Sig sig, sD s] [(slD 1 iD) rr.1, bD rr.2] := ⟨@fun rr h => by
  delta F_impl_parseTerm at h
  refine fn108.pureLN (vcm_sound ?_)
  delta mc108
  refine stp ?_
  refine m_loopF h [4, 5, 6, 7, 8, 9, 10, 11, 12, 13, 14, 15, 16, 17, 18, 19, 20, 21, 22, 23, 24, 25, 26, 27, 28, 29, 30, 31, 32, 33, 34, 35, 36, 37, 38, 39, 40, 41, 42, 43, 44, 45, 46, 47, 48, 49, 50, 51, 52, 53, 54, 55, 56, 57, 58, 59, 60, 61, 62, 63, 64, 65, 66, 67, 68, 69, 70, 71, 72, 73, 74, 75, 76, 77, 78] (fun pp => [(6, .own 1 77 (List.map iD pp.1)), (7, .d (iD pp.2))]) (fun pp => [(2, .obj 34 [.d (slD 1 iD sig)]), (77, .tok 2 1 pp.1.length)]) ?_ ?_
  · try dsimp only
    refine (Weak.thaw 6 77 2 1 rfl rfl).trans ?_
    exact wk
  rintro ⟨t, i⟩ t1 h hb1
  unfold F_impl_parseTerm_l1 at h
  try dsimp only at h
  refine vcm_sound (stp ?_)
  refine iT h fun hc h => ?_
  refine ndI h fun hp h => ?_
  refine iF h fun hc h => ?_
  refine iF h fun hc h => ?_
  refine iF h fun hc h => ?_
  refine m_lW h [9, 33, 34, 35, 36, 37, 38, 39, 40, 41, 42, 43, 44, 45, 46, 47, 48, 49, 50] (fun pp => [(9, .d (iD pp))]) (fun pp => [(2, .obj 34 [.d (slD 1 iD sig)]), (77, .tok 2 1 t.length)]) ?_
  rintro end' t2 h hb2
  unfold F_impl_parseTerm_l2 at h
  try dsimp only at h
  refine vcm_sound (stp ?_)
  refine it h (fun hc h => ?_) fun hc h => ?_
  · refine ndI h fun hp h => ?_
    refine it h (fun hc h => ?_) fun hc h => ?_
    · refine ndI h fun hp h => ?_
      refine iF h fun hc h => ?_
      replace h := inr_some h hb2
      refine ndI h fun hp h => ?_
      refine rCN h fun r hr h => ?_
      refine iT h fun hc h => ?_
      refine it h (fun hc h => ?_) fun hc h => ?_
      · refine iF h fun hc h => ?_
        refine it h (fun hc h => ?_) fun hc h => ?_
        · refine ndI h fun hp h => ?_
          cases h
          refine ⟨_, rfl, ?_⟩
          refine (Weak.drop 76 (by omega)).trans ?_
          exact wk
        refine ndI h fun hp h => ?_
        cases h
        refine ⟨_, rfl, ?_⟩
        refine (Weak.drop 76 (by omega)).trans ?_
        exact wk
      refine it h (fun hc h => ?_) fun hc h => ?_
      · refine ndI h fun hp h => ?_
        cases h
        refine ⟨_, rfl, ?_⟩
        refine (Weak.drop 76 (by omega)).trans ?_
        exact wk
      refine ndI h fun hp h => ?_
      cases h
      refine ⟨_, rfl, ?_⟩
      refine (Weak.drop 76 (by omega)).trans ?_
      exact wk
    replace h := inr_some h hb2
    refine ndI h fun hp h => ?_
    refine rCN h fun r_1 hr_1 h => ?_
    refine iT h fun hc h => ?_
    refine it h (fun hc h => ?_) fun hc h => ?_
    · refine iF h fun hc h => ?_
      refine it h (fun hc h => ?_) fun hc h => ?_
      · refine ndI h fun hp h => ?_
        cases h
        refine ⟨_, rfl, ?_⟩
        refine (Weak.drop 76 (by omega)).trans ?_
        exact wk
      refine ndI h fun hp h => ?_
      cases h
      refine ⟨_, rfl, ?_⟩
      refine (Weak.drop 76 (by omega)).trans ?_
      exact wk
    refine it h (fun hc h => ?_) fun hc h => ?_
    · refine ndI h fun hp h => ?_
      cases h
      refine ⟨_, rfl, ?_⟩
      refine (Weak.drop 76 (by omega)).trans ?_
      exact wk
    refine ndI h fun hp h => ?_
    cases h
    refine ⟨_, rfl, ?_⟩
    refine (Weak.drop 76 (by omega)).trans ?_
    exact wk
  replace h := inr_some h hb2
  refine ndI h fun hp h => ?_
  refine rCN h fun r_2 hr_2 h => ?_
  refine iT h fun hc h => ?_
  refine it h (fun hc h => ?_) fun hc h => ?_
  · refine iF h fun hc h => ?_
    refine it h (fun hc h => ?_) fun hc h => ?_
    · refine ndI h fun hp h => ?_
      cases h
      refine ⟨_, rfl, ?_⟩
      refine (Weak.drop 76 (by omega)).trans ?_
      exact wk
    refine ndI h fun hp h => ?_
    cases h
    refine ⟨_, rfl, ?_⟩
    refine (Weak.drop 76 (by omega)).trans ?_
    exact wk
  refine it h (fun hc h => ?_) fun hc h => ?_
  · refine ndI h fun hp h => ?_
    cases h
    refine ⟨_, rfl, ?_⟩
    refine (Weak.drop 76 (by omega)).trans ?_
    exact wk
  refine ndI h fun hp h => ?_
  cases h
  refine ⟨_, rfl, ?_⟩
  refine (Weak.drop 76 (by omega)).trans ?_
  exact wk⟩
def mc90 : MCode :=
 (.seq (.reg (sq 3 [bo 3 34 0] ++ sq 6 [.mv (.const (.slice none 0 0)), .mv (.const (.slice none 0 0)), mb false])) (.seq (.reg (sq 17 [mv 1, mv 2, cf 107 [17, 18]] ++ sq 16 [mv 19] ++ sq 20 [ex 16 0, ex 16 1, ex 16 2] ++ sq 9 [mv 20, mv 21, mv 22])) (.seq (.seq (.reg (sq 23 [mv 11, nt 23])) (.cond (t0 24) (.seq (.reg (sq 6 [.mv (.const (.slice none 0 0)), .mv (.const (.slice none 0 0)), mb false])) .ret) .skip)) (.seq (.reg (sq 26 [la 1 3, mv 9, cf 108 [26, 27]] ++ sq 25 [mv 28] ++ sq 29 [ex 25 0, ex 25 1] ++ sq 12 [mv 29, mv 30])) (.seq (.reg (sq 32 [la 1 3, mv 10, cf 108 [32, 33]] ++ sq 31 [mv 34] ++ sq 35 [ex 31 0, ex 31 1] ++ sq 14 [mv 35, mv 36])) (.seq (.reg (sq 37 [mv 12, mv 14, mv 13, mv 39] ++ sg 40 true 41 [mv 15] ++ sq 42 [pa 40 41] ++ sq 6 [mv 37, mv 38, mv 42])) .ret))))))
theorem fn90 : MFn Tryz.prog 90 mc90 43 [.tmp 6, .tmp 7, .tmp 8] := ⟨_, Tryz.func90, by kernel_rfl, Tryz.ntmps90, by kernel_rfl⟩
noncomputable def F_impl_parsePair (sig : (List Int)) (s : ByteArray) (separator : ByteArray) : Option ((List Int) × (List Int) × Bool) :=
 (F_strings_Cut s separator).bind fun r =>
 if r.2.2 = true then
  (F_impl_parseTerm sig r.1).bind fun r_1 =>
  (F_impl_parseTerm sig r.2.1).bind fun r_2 =>
  if r_1.2 = true then
   some (r_1.1, r_2.1, r_2.2)
  else
   some (r_1.1, r_2.1, false)
 else
  some ([], [], false)
instance c_impl_parsePair {sig : (List Int)} {s : ByteArray} {separator : ByteArray} : HasC (F_impl_parsePair sig s separator) fun rr => PFunN Tryz.prog 90 [D_impl_Sig sig, sD s, sD separator] [(slD 1 iD) rr.1, (slD 1 iD) rr.2.1, bD rr.2.2] := ⟨@fun rr h => by
  delta F_impl_parsePair at h
  refine fn90.pureLN (vcm_sound ?_)
  delta mc90
  refine stp ?_
  exact aut⟩
def mc62 : MCode :=
 (.seq (.reg (sq 2 [bo 2 34 0] ++ sq 4 [.alloc 4 61 [.sl 0 (some true) [], .sl 0 (some true) []], mb false])) (.seq (.reg (sq 10 [la 1 2, mv 1, .callf 90 [(t0 10), (t0 11), (.const (.string { data := #[32, 45, 62, 32] }))]] ++ sq 9 [mv 12] ++ sq 13 [ex 9 0, ex 9 1, ex 9 2] ++ sq 6 [mv 13, mv 14, mv 15])) (.seq (.seq (.reg (sq 16 [mv 8, nt 16, mv 17] ++ sg 18 false 19 [la 1 2, mv 6, mv 7, .build [.sl 0 (some true) [], .sl 0 (some true) []] [(0, 1, (t0 20)), (1, 1, (t0 21))], cf 76 [19, 22], nt 23] ++ sq 25 [po 18 24])) (.cond (t0 25) (.seq (.reg (sq 26 [.build [.sl 0 (some true) [], .sl 0 (some true) []] []] ++ s0 (sr 2 4 26) ++ sq 5 [mb false])) .ret) .skip)) (.seq (.reg (sq 27 [mv 6, mv 7, .build [.sl 0 (some true) [], .sl 0 (some true) []] [(0, 1, (t0 27)), (1, 1, (t0 28))]] ++ s0 (sr 2 4 29) ++ sq 5 [mb true])) .ret))))
theorem fn62 : MFn Tryz.prog 62 mc62 30 [.cell 4 2 true, .tmp 5] := ⟨_, Tryz.func62, by kernel_rfl, Tryz.ntmps62, by kernel_rfl⟩
noncomputable def F_impl_parseRule (sig : (List Int)) (s : ByteArray) : Option (((List Int) × (List Int)) × Bool) :=
 (F_impl_parsePair sig s ({ data := #[32, 45, 62, 32] } : ByteArray)).bind fun r =>
 if r.2.2 = true then
  (F_impl_RuleOk sig (r.1, r.2.1)).bind fun r_1 =>
  if r_1 = true then
   some ((r.1, r.2.1), true)
  else
   some (([], []), false)
 else
  some (([], []), false)
instance c_impl_parseRule {sig : (List Int)} {s : ByteArray} : HasC (F_impl_parseRule sig s) fun rr => PFunN Tryz.prog 62 [D_impl_Sig sig, sD s] [D_impl_Rule rr.1, bD rr.2] := ⟨@fun rr h => by
  delta F_impl_parseRule at h
  refine fn62.pureLN (vcm_sound ?_)
  delta mc62
  refine stp ?_
  exact aut⟩
def mc40 : MCode :=
 (.seq (.reg (sq 2 [.alloc 2 37 [.sl 0 (some true) [], .sl 0 (some true) []], mi 0])) (.seq (.reg (sq 12 [mv 0, cf 60 [12]] ++ sq 11 [mv 13] ++ sq 14 [ex 11 0, ex 11 1] ++ sq 4 [mv 14, mv 15])) (.seq (.reg (sq 16 [cf 61 [], .build [.sl 0 (some true) [], .sl 0 (some true) []] [(0, 1, (t0 16))]] ++ sq 6 [.alloc 6 37 [.sl 0 (some true) [], .sl 0 (some true) []]] ++ s0 (sr 2 6 17))) (.seq (.seq (.reg (sq 18 [mv 4, ln 18, mi 0])) (.block 0 (.loop (.seq (.reg (sq 21 [bn .lss 20 19])) (.seq (.cond (t0 21) .skip (.exit 0)) (.seq (.block 1 (.seq (.reg (sq 22 [ix 1 18 20, ld 22] ++ sq 8 [mv 23])) (.seq (.reg (sq 25 [fa 0 6, la 1 25, mv 8, cf 62 [26, 27]] ++ sq 24 [mv 28] ++ sq 29 [ex 24 0, ex 24 1] ++ sq 9 [.alloc 9 61 [.sl 0 (some true) [], .sl 0 (some true) []]] ++ s0 (sr 2 9 29) ++ sq 10 [mv 30])) (.reg (sq 31 [fa 1 6, ld 31, la 2 9, .bsl 34 61 2 [(t0 33)], ap 35 61 2 48 32 34, fa 1 6] ++ s0 (sr 1 36 35)))))) (.reg (sq 37 [bi .add 20 1] ++ sq 20 [mv 37])))))))) (.seq (.reg (sq 38 [la 2 6, mv 5] ++ s0 (sr 2 2 38) ++ sq 3 [mv 39])) .ret)))))
theorem fn40 : MFn Tryz.prog 40 mc40 40 [.cell 2 2 true, .tmp 3] := ⟨_, Tryz.func40, by kernel_rfl, Tryz.ntmps40, by kernel_rfl⟩
noncomputable def F_impl_theorySystem_l1 (r : ((List ByteArray) × Int)) (r_1 : (List Int)) : (Int × (List ((List Int) × (List Int)))) → Option ((Int × (List ((List Int) × (List Int)))) ⊕ (((List Int) × (List ((List Int) × (List Int)))) × Int))
 | (v20, sys) =>
  if (decide (v20 < (r.1.length : Int))) = true then
   if 0 ≤ v20 ∧ v20 < (r.1.length : Int) then
    (F_impl_parseRule r_1 (r.1.getD v20.toNat default)).bind fun r_2 =>
    if (sys.length + 1) * 48 ≤ 140737488355328 then
     some (.inl ((IntKind.i64.wrap (v20 + 1)), (sys ++ [r_2.1])))
    else none
   else none
  else
   Option.map Sum.inr (
    some ((r_1, sys), r.2))
noncomputable def F_impl_theorySystem (k : Int) : Option (((List Int) × (List ((List Int) × (List Int)))) × Int) :=
 (F_impl_theoryTexts k).bind fun r =>
 (F_impl_theorySig).bind fun r_1 =>
 loopC (F_impl_theorySystem_l1 r r_1) (0, [])
instance c_impl_theorySystem {k : Int} : HasC (F_impl_theorySystem k) fun rr => PFunN Tryz.prog 40 [iD k] [D_impl_System rr.1, iD rr.2] := ⟨@fun rr h => by
  delta F_impl_theorySystem at h
  refine fn40.pureLN (vcm_sound ?_)
  delta mc40
  refine stp ?_
  refine rCN h fun r hr h => ?_
  refine rC h fun r_1 hr_1 h => ?_
  refine m_loopF h [8, 9, 10, 20, 21, 22, 23, 24, 25, 26, 27, 28, 29, 30, 31, 32, 33, 34, 35, 36, 37] (fun pp => [(20, .d (iD pp.1))]) (fun pp => [(2, .obj 37 [.d (.sl 0 (some true) []), .d (.sl 0 (some true) [])]), (6, .obj 37 [.d (slD 1 iD r_1), .own 2 35 (List.map D_impl_Rule pp.2)]), (35, .tok 61 2 pp.2.length)]) ?_ ?_
  · try dsimp only
    refine (Weak.thawCell 6 1 35 61 2 rfl rfl rfl).trans ?_
    exact wk
  rintro ⟨v20, sys⟩ t1 h hb1
  unfold F_impl_theorySystem_l1 at h
  try dsimp only at h
  refine vcm_sound (stp ?_)
  refine iT h fun hc h => ?_
  refine ndI h fun hp h => ?_
  refine rCN h fun r_2 hr_2 h => ?_
  refine ndI h fun hp h => ?_
  cases h
  refine ⟨_, rfl, ?_⟩
  refine (Weak.drop 9 (by omega)).trans ?_
  refine (Weak.drop 34 (by omega)).trans ?_
  exact wk⟩
def mc37 : MCode :=
 (.seq (.reg (sq 0 [.mv (.const (.slice none 0 0))])) (.seq (.reg (sq 1 [.bsl 1 9 1 [(.const (.string { data := #[115, 117, 109, 115] })), (.const (.string { data := #[115, 101, 109, 105, 103, 114, 111, 117, 112] })), (.const (.string { data := #[109, 111, 110, 111, 105, 100] })), (.const (.string { data := #[105, 110, 118, 111, 108, 117, 116, 105, 111, 110] })), (.const (.string { data := #[105, 100, 108, 101] })), (.const (.string { data := #[103, 114, 111, 117, 112, 111, 105, 100] })), (.const (.string { data := #[103, 114, 111, 117, 112] }))]] ++ sq 0 [mv 1])) .ret))
theorem fn37 : MFn Tryz.prog 37 mc37 2 [.tmp 0] := ⟨_, Tryz.func37, by kernel_rfl, Tryz.ntmps37, by kernel_rfl⟩
noncomputable def F_impl_theoryNames  : Option (List ByteArray) :=
 some [({ data := #[115, 117, 109, 115] } : ByteArray), ({ data := #[115, 101, 109, 105, 103, 114, 111, 117, 112] } : ByteArray), ({ data := #[109, 111, 110, 111, 105, 100] } : ByteArray), ({ data := #[105, 110, 118, 111, 108, 117, 116, 105, 111, 110] } : ByteArray), ({ data := #[105, 100, 108, 101] } : ByteArray), ({ data := #[103, 114, 111, 117, 112, 111, 105, 100] } : ByteArray), ({ data := #[103, 114, 111, 117, 112] } : ByteArray)]
instance c_impl_theoryNames : HasC (F_impl_theoryNames) fun rr => PFun Tryz.prog 37 [] ((slD 1 sD) rr) := ⟨@fun rr h => by
  delta F_impl_theoryNames at h
  refine fn37.pureL (vcm_sound ?_)
  delta mc37
  refine stp ?_
  exact aut⟩
def mc17 : MCode :=
 (.seq (.reg (sq 2 [mb false])) (.seq (.reg (sq 3 [mv 0, bi .geq 3 0, mv 4] ++ sg 5 true 6 [mv 0, cf 37 [], ln 7, bn .lss 6 8] ++ sq 10 [pa 5 9] ++ sq 2 [mv 10])) .ret))
theorem fn17 : MFn Tryz.prog 17 mc17 11 [.tmp 2] := ⟨_, Tryz.func17, by kernel_rfl, Tryz.ntmps17, by kernel_rfl⟩
noncomputable def F_impl_theoryOk (k : Int) : Option Bool :=
 if (decide (0 ≤ k)) = true then
  (F_impl_theoryNames).bind fun r =>
  some (decide (k < (r.length : Int)))
 else
  some false
instance c_impl_theoryOk {k : Int} : HasC (F_impl_theoryOk k) fun rr => PFun Tryz.prog 17 [iD k] (bD rr) := ⟨@fun rr h => by
  delta F_impl_theoryOk at h
  refine fn17.pureL (vcm_sound ?_)
  delta mc17
  refine stp ?_
  exact aut⟩
def mc19 : MCode :=
 (.seq (.reg (sq 2 [.alloc 2 37 [.sl 0 (some true) [], .sl 0 (some true) []]])) (.seq (.seq (.reg (sq 5 [mv 0, cf 17 [5], nt 6])) (.cond (t0 7) (.seq (.reg (sq 8 [.build [.sl 0 (some true) [], .sl 0 (some true) []] []] ++ s0 (sr 2 2 8))) .ret) .skip)) (.seq (.reg (sq 10 [mv 0, cf 40 [10]] ++ sq 9 [mv 11] ++ sq 12 [ex 9 0, ex 9 1] ++ sq 3 [.alloc 3 37 [.sl 0 (some true) [], .sl 0 (some true) []]] ++ s0 (sr 2 3 12) ++ sq 4 [mv 13])) (.seq (.reg (sq 14 [la 2 3] ++ s0 (sr 2 2 14))) .ret))))
theorem fn19 : MFn Tryz.prog 19 mc19 15 [.cell 2 2 true] := ⟨_, Tryz.func19, by kernel_rfl, Tryz.ntmps19, by kernel_rfl⟩
noncomputable def F_impl_TheoryRules (k : Int) : Option ((List Int) × (List ((List Int) × (List Int)))) :=
 (F_impl_theoryOk k).bind fun r =>
 if r = true then
  (F_impl_theorySystem k).bind fun r_1 =>
  some r_1.1
 else
  some ([], [])
instance c_impl_TheoryRules {k : Int} : HasC (F_impl_TheoryRules k) fun rr => PFun Tryz.prog 19 [iD k] (D_impl_System rr) := ⟨@fun rr h => by
  delta F_impl_TheoryRules at h
  refine fn19.pureL (vcm_sound ?_)
  delta mc19
  refine stp ?_
  exact aut⟩
def mc7 : MCode :=
 (.seq (.reg (sq 6 [mi 0])) (.seq (.seq (.reg (sq 7 [mv 0, cf 17 [7], nt 8])) (.cond (t0 9) (.seq (.reg (sq 6 [mi (-1)])) .ret) .skip)) (.seq (.reg (sq 10 [mv 0, cf 19 [10], mv 1, mv 2, .callf 18 [(t0 11), (t0 12), (t0 13), (i0 60)]] ++ sq 6 [mv 14])) .ret)))
theorem fn7 : MFn Tryz.prog 7 mc7 15 [.tmp 6] := ⟨_, Tryz.func7, by kernel_rfl, Tryz.ntmps7, by kernel_rfl⟩
noncomputable def F_impl_TheoryEqual (k : Int) (a : (List Int)) (b : (List Int)) : Option Int :=
 (F_impl_theoryOk k).bind fun r =>
 if r = true then
  (F_impl_TheoryRules k).bind fun r_1 =>
  (F_impl_EqualBy r_1 a b 60).bind fun r_2 =>
  some r_2
 else
  some (-1)
instance c_impl_TheoryEqual {k : Int} {a : (List Int)} {b : (List Int)} : HasC (F_impl_TheoryEqual k a b) fun rr => PFun Tryz.prog 7 [iD k, (slD 1 iD) a, (slD 1 iD) b] (iD rr) := ⟨@fun rr h => by
  delta F_impl_TheoryEqual at h
  refine fn7.pureL (vcm_sound ?_)
  delta mc7
  refine stp ?_
  exact aut⟩
def mc27 : MCode :=
 (.seq (.reg (sq 2 [.mv (.const (.slice none 0 0))])) (.seq (.seq (.reg (sq 8 [mv 0, cf 17 [8], nt 9])) (.cond (t0 10) (.seq (.reg (sq 2 [.mv (.const (.slice none 0 0))])) .ret) .skip)) (.seq (.reg (sq 12 [mv 0, cf 40 [12]] ++ sq 11 [mv 13] ++ sq 14 [ex 11 0, ex 11 1] ++ sq 3 [.alloc 3 37 [.sl 0 (some true) [], .sl 0 (some true) []]] ++ s0 (sr 2 3 14) ++ sq 4 [mv 15])) (.seq (.reg (sq 5 [.mv (.const (.slice none 0 0))])) (.seq (.seq (.reg (sq 16 [fa 1 3, ld 16, mv 4, .slc (t0 17) 2 none (some (t0 18)) none, ln 19, mi 0])) (.block 0 (.loop (.seq (.reg (sq 22 [bn .lss 21 20])) (.seq (.cond (t0 22) .skip (.exit 0)) (.seq (.block 1 (.seq (.reg (sq 23 [ix 2 19 21, la 2 23] ++ sq 7 [.alloc 7 61 [.sl 0 (some true) [], .sl 0 (some true) []]] ++ s0 (sr 2 7 24))) (.reg (sq 25 [mv 5, fa 0 7, ld 26, fa 1 7, ld 28, .build [.sl 0 (some true) [], .sl 0 (some true) []] [(0, 1, (t0 27)), (1, 1, (t0 29))], .bsl 31 60 2 [(t0 30)], ap 32 60 2 48 25 31] ++ sq 5 [mv 32])))) (.reg (sq 33 [bi .add 21 1] ++ sq 21 [mv 33])))))))) (.seq (.reg (sq 34 [mv 5] ++ sq 2 [mv 34])) .ret))))))
theorem fn27 : MFn Tryz.prog 27 mc27 35 [.tmp 2] := ⟨_, Tryz.func27, by kernel_rfl, Tryz.ntmps27, by kernel_rfl⟩
noncomputable def F_impl_TheoryEqs_l1 (r_1 : (((List Int) × (List ((List Int) × (List Int)))) × Int)) : ((List ((List Int) × (List Int))) × Int) → Option (((List ((List Int) × (List Int))) × Int) ⊕ (List ((List Int) × (List Int))))
 | (out, v21) =>
  if (decide (v21 < ((r_1.1.2.take r_1.2.toNat).length : Int))) = true then
   if 0 ≤ v21 ∧ v21 < ((r_1.1.2.take r_1.2.toNat).length : Int) then
    if (out.length + 1) * 48 ≤ 140737488355328 then
     some (.inl ((out ++ [(((r_1.1.2.take r_1.2.toNat).getD v21.toNat default).1, ((r_1.1.2.take r_1.2.toNat).getD v21.toNat default).2)]), (IntKind.i64.wrap (v21 + 1))))
    else none
   else none
  else
   Option.map Sum.inr (
    some out)
noncomputable def F_impl_TheoryEqs (k : Int) : Option (List ((List Int) × (List Int))) :=
 (F_impl_theoryOk k).bind fun r =>
 if r = true then
  (F_impl_theorySystem k).bind fun r_1 =>
  if 0 ≤ r_1.2 ∧ r_1.2 ≤ (r_1.1.2.length : Int) then
   loopC (F_impl_TheoryEqs_l1 r_1) ([], 0)
  else none
 else
  some []
instance c_impl_TheoryEqs {k : Int} : HasC (F_impl_TheoryEqs k) fun rr => PFun Tryz.prog 27 [iD k] ((slD 2 D_impl_Eq) rr) := ⟨@fun rr h => by
  delta F_impl_TheoryEqs at h
  refine fn27.pureL (vcm_sound ?_)
  delta mc27
  refine stp ?_
  refine rC h fun r hr h => ?_
  refine iT h fun hc h => ?_
  refine rCN h fun r_1 hr_1 h => ?_
  refine ndI h fun hp h => ?_
  refine m_loopF h [5, 7, 21, 22, 23, 24, 25, 26, 27, 28, 29, 30, 31, 32, 33] (fun pp => [(5, .own 2 32 (List.map D_impl_Eq pp.1)), (21, .d (iD pp.2))]) (fun pp => [(3, .obj 37 [.d (slD 1 iD r_1.1.1), .d (slD 2 D_impl_Rule r_1.1.2)]), (32, .tok 60 2 pp.1.length)]) ?_ ?_
  · try dsimp only
    refine (Weak.thaw 5 32 60 2 rfl rfl).trans ?_
    exact wk
  rintro ⟨out, v21⟩ t1 h hb1
  unfold F_impl_TheoryEqs_l1 at h
  try dsimp only at h
  refine vcm_sound (stp ?_)
  refine iT h fun hc h => ?_
  refine ndI h fun hp h => ?_
  refine ndI h fun hp h => ?_
  cases h
  refine ⟨_, rfl, ?_⟩
  refine (Weak.drop 7 (by omega)).trans ?_
  refine (Weak.drop 31 (by omega)).trans ?_
  exact wk⟩
def mc12 : MCode :=
 (.seq (.reg (sq 3 [bo 3 37 1, mb false])) (.seq (.draw (sq 5 [mv 0, cf 17 [5], mv 6] ++ sg 7 true 8 [la 2 3, mv 0, cf 27 [9], .callf 26 [(t0 8), (t0 10), (i0 60)]] ++ sq 12 [pa 7 11] ++ sq 4 [mv 12]) [[], [0], [1, 1], [2], [2], [4, 2, 2], [3, 5, 5, 2], [2, 6], [7, 6, 0, 1, 2, 3, 4, 5, 6, 7]]) .ret))
theorem fn12 : MFn Tryz.prog 12 mc12 13 [.tmp 4] := ⟨_, Tryz.func12, by kernel_rfl, Tryz.ntmps12, by kernel_rfl⟩
noncomputable def F_impl_TheoryHolds (k : Int) (sys : ((List Int) × (List ((List Int) × (List Int))))) : Option Bool :=
 (F_impl_theoryOk k).bind fun r =>
 if r = true then
  (F_impl_TheoryEqs k).bind fun r_1 =>
  (F_impl_HoldAll sys r_1 60).bind fun r_2 =>
  some r_2
 else
  some false
instance c_impl_TheoryHolds {k : Int} {sys : ((List Int) × (List ((List Int) × (List Int))))} : HasC (F_impl_TheoryHolds k sys) fun rr => PFun Tryz.prog 12 [iD k, D_impl_System sys] (bD rr) := ⟨@fun rr h => by
  delta F_impl_TheoryHolds at h
  refine fn12.pureL (vcm_sound ?_)
  delta mc12
  refine stp ?_
  exact aut⟩
end Go.Proofs.YtcbfefbocpikoaaGreatDoor
namespace Tm
def ari (a : List Int) (x : Int) : Nat := if x < 0 then 0 else (a.getD x.toNat 0).toNat
def okx (a : List Int) (x : Int) : Prop := -24 ≤ x ∧ x < a.length
instance (a : List Int) (x : Int) : Decidable (okx a x) := by unfold okx; infer_instance
def skip (a : List Int) : List Int → Nat → Option (List Int)
  | t, 0 => some t
  | [], _ + 1 => none
  | x :: t, k + 1 => if okx a x then skip a t (k + ari a x) else none
def Wf (a : List Int) (k : Nat) (t : List Int) : Prop := skip a t k = some []
instance (a : List Int) (k : Nat) (t : List Int) : Decidable (Wf a k t) := by unfold Wf; infer_instance
theorem skip_zero (a t : List Int) : skip a t 0 = some t := by cases t <;> simp [skip]
theorem skip_cons (a t : List Int) (x : Int) (k : Nat) : skip a (x :: t) (k + 1) = if okx a x then skip a t (k + ari a x) else none := by simp [skip]
theorem skip_nil (a : List Int) (k : Nat) : skip a [] (k + 1) = none := by simp [skip]
theorem skip_app {a : List Int} (s : List Int) : ∀ {t r : List Int} {k : Nat}, skip a t k = some r → skip a (t ++ s) k = some (r ++ s)
  | t, r, 0, h => by rw [skip_zero] at h ⊢; cases h; rfl
  | [], r, k + 1, h => by simp [skip] at h
  | x :: t, r, k + 1, h => by
    rw [List.cons_append]
    rw [skip_cons] at h ⊢
    split at h
    · rename_i hx; rw [if_pos hx]; exact skip_app s h
    · cases h
theorem skip_add {a : List Int} (j : Nat) : ∀ {t : List Int} {k : Nat}, skip a t (k + j) = (skip a t k).bind fun r => skip a r j
  | t, 0 => by simp [skip_zero]
  | [], k + 1 => by rw [show k + 1 + j = (k + j) + 1 by omega]; simp [skip]
  | x :: t, k + 1 => by
    rw [show k + 1 + j = (k + j) + 1 by omega, skip_cons, skip_cons]
    split
    · rw [show k + j + ari a x = (k + ari a x) + j by omega]; exact skip_add j
    · rfl
theorem skip_split {a : List Int} : ∀ {t r : List Int} {k : Nat}, skip a t k = some r → ∃ u, t = u ++ r ∧ Wf a k u
  | t, r, 0, h => by rw [skip_zero] at h; cases h; exact ⟨[], rfl, skip_zero _ _⟩
  | [], r, k + 1, h => by simp [skip] at h
  | x :: t, r, k + 1, h => by
    rw [skip_cons] at h
    split at h
    · rename_i hx
      obtain ⟨u, rfl, h2⟩ := skip_split h
      exact ⟨x :: u, rfl, by unfold Wf; rw [skip_cons, if_pos hx]; exact h2⟩
    · cases h
theorem Wf.skip {a u : List Int} {k : Nat} (h : Wf a k u) (s : List Int) : skip a (u ++ s) k = some s := skip_app s h
theorem Wf.app {a u v : List Int} {k j : Nat} (h : Wf a k u) (h' : Wf a j v) : Wf a (k + j) (u ++ v) := by
  unfold Wf; rw [skip_add, h.skip]; exact h'
theorem Wf.nil {a : List Int} : Wf a 0 [] := skip_zero _ _
theorem Wf.zero {a t : List Int} (h : Wf a 0 t) : t = [] := by unfold Wf at h; rw [skip_zero] at h; exact Option.some.inj h
theorem Wf.cons_iff {a t : List Int} {x : Int} {k : Nat} : Wf a (k + 1) (x :: t) ↔ okx a x ∧ Wf a (k + ari a x) t := by
  unfold Wf; rw [skip_cons]; split <;> simp_all
theorem Wf.pos {a t : List Int} {k : Nat} (h : Wf a (k + 1) t) : ∃ x r, t = x :: r ∧ okx a x ∧ Wf a (k + ari a x) r := by
  cases t with
  | nil => simp [Wf, Tm.skip] at h
  | cons x r => exact ⟨x, r, rfl, Wf.cons_iff.1 h⟩
theorem Wf.split {a t : List Int} {k j : Nat} (h : Wf a (k + j) t) : ∃ u v, t = u ++ v ∧ Wf a k u ∧ Wf a j v := by
  unfold Wf at h; rw [skip_add] at h
  obtain ⟨r, h1, h2⟩ := Option.bind_eq_some_iff.1 h
  obtain ⟨u, rfl, h3⟩ := skip_split h1
  exact ⟨u, r, rfl, h3, h2⟩
theorem Wf.uniq {a u u' v v' : List Int} {k : Nat} (h : Wf a k u) (h' : Wf a k u') (e : u ++ v = u' ++ v') : u = u' ∧ v = v' := by
  have h1 := h.skip v
  have h2 := h'.skip v'
  rw [e, h2] at h1
  cases Option.some.inj h1
  exact ⟨List.append_cancel_right e, rfl⟩
theorem Wf.all {a : List Int} : ∀ {t : List Int} {k : Nat}, Wf a k t → ∀ x ∈ t, okx a x
  | [], _, _ => by simp
  | y :: t, 0, h => by have := h.zero; cases this
  | y :: t, k + 1, h => by
    obtain ⟨h1, h2⟩ := Wf.cons_iff.1 h
    intro x hx
    rcases List.mem_cons.1 hx with rfl | hx
    · exact h1
    · exact h2.all x hx
theorem Wf.len {a : List Int} : ∀ {t : List Int} {k : Nat}, Wf a k t → k ≤ t.length
  | t, 0, _ => by omega
  | [], k + 1, h => by simp [Wf, Tm.skip] at h
  | y :: t, k + 1, h => by
    obtain ⟨h1, h2⟩ := Wf.cons_iff.1 h
    have := h2.len
    simp; omega
theorem Wf.place {a : List Int} : ∀ {t : List Int} {k i : Nat}, Wf a k t → i < t.length → ∃ p u s, t = p ++ (u ++ s) ∧ p.length = i ∧ Wf a 1 u
  | [], _, _, _, hi => by simp at hi
  | y :: t, 0, _, h, _ => by have := h.zero; cases this
  | y :: t, k + 1, 0, h, _ => by
    rw [show k + 1 = 1 + k by omega] at h
    obtain ⟨u, v, e, h1, _⟩ := h.split
    exact ⟨[], u, v, e, rfl, h1⟩
  | y :: t, k + 1, i + 1, h, hi => by
    obtain ⟨p, u, s, rfl, h2, h3⟩ := (Wf.cons_iff.1 h).2.place (i := i) (by simpa using hi)
    exact ⟨y :: p, u, s, rfl, by simp [h2], h3⟩
theorem Wf.put {a u v s : List Int} (hu : Wf a 1 u) (hv : Wf a 1 v) : ∀ {p : List Int} {k : Nat}, Wf a k (p ++ (u ++ s)) → Wf a k (p ++ (v ++ s))
  | [], 0, h => by
    have := h.zero
    have := hu.len
    simp_all
  | [], k + 1, h => by
    rw [List.nil_append] at h ⊢
    rw [show k + 1 = 1 + k by omega] at h ⊢
    obtain ⟨u', v', e, h1, h2⟩ := h.split
    obtain ⟨rfl, rfl⟩ := hu.uniq h1 e
    exact hv.app h2
  | y :: p, 0, h => by have := h.zero; cases this
  | y :: p, k + 1, h => by
    rw [List.cons_append] at h ⊢
    obtain ⟨h1, h2⟩ := Wf.cons_iff.1 h
    exact Wf.cons_iff.2 ⟨h1, Wf.put hu hv h2⟩
def sub (σ : Int → List Int) (t : List Int) : List Int := t.flatMap fun x => if x < 0 then σ x else [x]
theorem sub_cons (σ : Int → List Int) (x : Int) (t : List Int) : sub σ (x :: t) = (if x < 0 then σ x else [x]) ++ sub σ t := by simp [sub]
theorem sub_app (σ : Int → List Int) (s t : List Int) : sub σ (s ++ t) = sub σ s ++ sub σ t := by simp [sub]
theorem sub_congr {σ τ : Int → List Int} {t : List Int} (h : ∀ x ∈ t, x < 0 → σ x = τ x) : sub σ t = sub τ t := by
  induction t with
  | nil => rfl
  | cons x t ih =>
    rw [sub_cons, sub_cons, ih fun y hy => h y (by simp [hy])]
    by_cases hx : x < 0
    · rw [if_pos hx, if_pos hx, h x (by simp) hx]
    · rw [if_neg hx, if_neg hx]
theorem Wf.sub {a : List Int} {σ : Int → List Int} : ∀ {t : List Int} {k : Nat}, Wf a k t → (∀ x ∈ t, x < 0 → Wf a 1 (σ x)) → Wf a k (Tm.sub σ t)
  | [], k, h, _ => by simpa [Tm.sub] using h
  | y :: t, 0, h, _ => by have := h.zero; cases this
  | y :: t, k + 1, h, hs => by
    obtain ⟨h1, h2⟩ := Wf.cons_iff.1 h
    rw [sub_cons]
    have ih := h2.sub fun x hx => hs x (by simp [hx])
    by_cases hy : y < 0
    · rw [if_pos hy, show k + 1 = 1 + k by omega]
      refine (hs y (by simp) hy).app ?_
      simpa [ari, hy] using ih
    · rw [if_neg hy]
      exact Wf.cons_iff.2 ⟨h1, ih⟩
end Tm
namespace Tm
abbrev Bd := List (List Int)
def bget (b : Bd) (n : Int) : List Int := b.getD (-1 - n).toNat []
def bset (b : Bd) (n : Int) (u : List Int) : Bd := b.set (-1 - n).toNat u
def mat (a : List Int) : List Int → List Int → Bd → Option Bd
  | [], _, b => some b
  | n :: p, t, b =>
    if n < 0 then match skip a t 1 with
      | none => none
      | some r =>
        let u := t.take (t.length - r.length)
        if bget b n = [] then mat a p r (bset b n u) else if bget b n = u then mat a p r b else none
    else match t with
      | [] => none
      | y :: t => if y = n then mat a p t b else none
theorem mat_nil (a t : List Int) (b : Bd) : mat a [] t b = some b := by simp [mat]
theorem Wf.ne {a u : List Int} (h : Wf a 1 u) : u ≠ [] := by have := h.len; intro e; subst e; simp at this
theorem mat_sym {a p t : List Int} {n y : Int} {b : Bd} (hn : ¬ n < 0) : mat a (n :: p) (y :: t) b = if y = n then mat a p t b else none := by simp [mat, hn]
theorem mat_var {a p u r : List Int} {n : Int} {b : Bd} (hn : n < 0) (hu : Wf a 1 u) : mat a (n :: p) (u ++ r) b =
    if bget b n = [] then mat a p r (bset b n u) else if bget b n = u then mat a p r b else none := by
  simp [mat, hn, hu.skip]
theorem bget_bset {b : Bd} {n m : Int} {u : List Int} (hn : n < 0) (hl : -1 - n < b.length) (hm : m < 0) : bget (bset b n u) m = if m = n then u else bget b m := by
  unfold bget bset
  rw [List.getD_eq_getElem?_getD, List.getD_eq_getElem?_getD, List.getElem?_set]
  by_cases h : m = n
  · subst h
    rw [if_pos rfl, if_pos rfl, if_pos (by omega)]; rfl
  · rw [if_neg h, if_neg (by omega)]
theorem mat_sound {a : List Int} : ∀ {p t : List Int} {b b' : Bd} {k : Nat}, Wf a k p → Wf a k t → b.length = 24 → mat a p t b = some b' →
    t = sub (bget b') p ∧ b'.length = 24 ∧ (∀ n, n < 0 → bget b n ≠ [] → bget b' n = bget b n) ∧ (∀ n ∈ p, n < 0 → Wf a 1 (bget b' n) ∨ bget b n = bget b' n ∧ bget b n ≠ []) ∧
    (∀ n, n < 0 → n ∉ p → bget b' n = bget b n)
  | [], t, b, b', k, hp, ht, hb, h => by
    rw [mat_nil] at h
    cases h
    cases k with
    | zero => have := ht.zero; subst this; exact ⟨rfl, hb, fun _ _ _ => rfl, by simp, fun _ _ _ => rfl⟩
    | succ k => simp [Wf, Tm.skip] at hp
  | n :: p, t, b, b', 0, hp, ht, hb, h => by have := hp.zero; cases this
  | n :: p, t, b, b', k + 1, hp, ht, hb, h => by
    obtain ⟨hx, hp⟩ := Wf.cons_iff.1 hp
    by_cases hn : n < 0
    · rw [show k + 1 = 1 + k by omega] at ht
      obtain ⟨u, r, rfl, hu, hr⟩ := ht.split
      rw [mat_var hn hu] at h
      have ha : ari a n = 0 := by simp [ari, hn]
      rw [ha, Nat.add_zero] at hp
      have hl : -1 - n < b.length := by have := hx.1; omega
      split at h
      · rename_i h0
        obtain ⟨h1, h2, h3, h4, h5⟩ := mat_sound hp hr (by simpa [bset] using hb) h
        have hbn : bget b' n = u := by
          rw [h3 n hn (by rw [bget_bset hn hl hn, if_pos rfl]; exact hu.ne), bget_bset hn hl hn, if_pos rfl]
        refine ⟨by rw [sub_cons, if_pos hn, hbn, ← h1], h2, fun m hm hne => ?_, fun m hm hm0 => ?_, fun m hm hmp => ?_⟩
        · by_cases hmn : m = n
          · subst hmn; exact absurd h0 hne
          · have := bget_bset (u := u) hn hl hm
            rw [if_neg hmn] at this
            rw [h3 m hm (by rw [this]; exact hne), this]
        · by_cases hmn : m = n
          · subst hmn; rw [hbn]; exact .inl hu
          · have := bget_bset (u := u) hn hl hm0
            rw [if_neg hmn] at this
            rcases List.mem_cons.1 hm with e | hm
            · exact absurd e hmn
            · rw [← this]; exact h4 m hm hm0
        · have hmn : m ≠ n := fun e => hmp (by simp [e])
          have := bget_bset (u := u) hn hl hm
          rw [if_neg hmn] at this
          rw [h5 m hm fun hx => hmp (by simp [hx]), this]
      · rename_i h0
        split at h
        · rename_i h00
          obtain ⟨h1, h2, h3, h4, h5⟩ := mat_sound hp hr hb h
          have hbn : bget b' n = u := by rw [h3 n hn h0, h00]
          refine ⟨by rw [sub_cons, if_pos hn, hbn, ← h1], h2, h3, fun m hm hm0 => ?_, fun m hm hmp => ?_⟩
          · by_cases hmn : m = n
            · subst hmn; rw [hbn]; exact .inl hu
            · rcases List.mem_cons.1 hm with e | hm
              · exact absurd e hmn
              · exact h4 m hm hm0
          · exact h5 m hm fun hx => hmp (by simp [hx])
        · cases h
    · obtain ⟨y, t, rfl, hy, ht⟩ := ht.pos
      rw [mat_sym hn] at h
      split at h
      · rename_i e
        subst e
        obtain ⟨h1, h2, h3, h4, h5⟩ := mat_sound hp ht hb h
        refine ⟨by rw [sub_cons, if_neg hn, List.singleton_append, ← h1], h2, h3, fun m hm hm0 => ?_, fun m hm hmp => ?_⟩
        · rcases List.mem_cons.1 hm with e | hm
          · omega
          · exact h4 m hm hm0
        · exact h5 m hm fun hx => hmp (by simp [hx])
      · cases h
theorem mat_complete {a : List Int} {σ : Int → List Int} : ∀ {p : List Int} {b : Bd} {k : Nat}, Wf a k p → b.length = 24 → (∀ n ∈ p, n < 0 → Wf a 1 (σ n)) → (∀ n ∈ p, n < 0 → bget b n = [] ∨ bget b n = σ n) →
    ∃ b', mat a p (sub σ p) b = some b' ∧ b'.length = 24 ∧ (∀ n ∈ p, n < 0 → bget b' n = σ n) ∧ (∀ n, n < 0 → n ∉ p → bget b' n = bget b n)
  | [], b, k, hp, hb, hs, hc => ⟨b, mat_nil _ _ _, hb, by simp, fun _ _ _ => rfl⟩
  | n :: p, b, 0, hp, hb, hs, hc => by have := hp.zero; cases this
  | n :: p, b, k + 1, hp, hb, hs, hc => by
    obtain ⟨hx, hp⟩ := Wf.cons_iff.1 hp
    by_cases hn : n < 0
    · have hu := hs n (by simp) hn
      have ha : ari a n = 0 := by simp [ari, hn]
      rw [ha, Nat.add_zero] at hp
      have hl : -1 - n < b.length := by have := hx.1; omega
      rw [sub_cons, if_pos hn, mat_var hn hu]
      by_cases h0 : bget b n = []
      · rw [if_pos h0]
        have hg : ∀ m, m < 0 → bget (bset b n (σ n)) m = if m = n then σ n else bget b m := fun m hm => bget_bset hn hl hm
        obtain ⟨b', h1, h2, h3, h4⟩ := mat_complete (σ := σ) (b := bset b n (σ n)) hp (by simpa [bset] using hb) (fun m hm hm0 => hs m (by simp [hm]) hm0) fun m hm hm0 => by
          rw [hg m hm0]
          by_cases hmn : m = n
          · subst hmn; rw [if_pos rfl]; exact .inr rfl
          · rw [if_neg hmn]; exact hc m (by simp [hm]) hm0
        refine ⟨b', h1, h2, fun m hm hm0 => ?_, fun m hm hmp => ?_⟩
        · by_cases hmp : m ∈ p
          · exact h3 m hmp hm0
          · rcases List.mem_cons.1 hm with rfl | hm
            · rw [h4 m hm0 hmp, hg m hm0, if_pos rfl]
            · exact absurd hm hmp
        · have hmn : m ≠ n := fun e => hmp (by simp [e])
          rw [h4 m hm fun hx => hmp (by simp [hx]), hg m hm, if_neg hmn]
      · have hbn : bget b n = σ n := (hc n (by simp) hn).resolve_left h0
        rw [if_neg h0, if_pos hbn]
        obtain ⟨b', h1, h2, h3, h4⟩ := mat_complete hp hb (fun m hm hm0 => hs m (by simp [hm]) hm0) fun m hm hm0 => hc m (by simp [hm]) hm0
        refine ⟨b', h1, h2, fun m hm hm0 => ?_, fun m hm hmp => h4 m hm fun hx => hmp (by simp [hx])⟩
        by_cases hmp : m ∈ p
        · exact h3 m hmp hm0
        · rcases List.mem_cons.1 hm with rfl | hm
          · rw [h4 m hm0 hmp, hbn]
          · exact absurd hm hmp
    · rw [sub_cons, if_neg hn, List.singleton_append, mat_sym hn, if_pos rfl]
      obtain ⟨b', h1, h2, h3, h4⟩ := mat_complete hp hb (fun m hm hm0 => hs m (by simp [hm]) hm0) fun m hm hm0 => hc m (by simp [hm]) hm0
      refine ⟨b', h1, h2, fun m hm hm0 => ?_, fun m hm hmp => h4 m hm fun hx => hmp (by simp [hx])⟩
      rcases List.mem_cons.1 hm with rfl | hm
      · exact absurd hm0 hn
      · exact h3 m hm hm0
end Tm
namespace Tm
end Tm
namespace Tm
end Tm
namespace Tm
def none24 : Bd := List.replicate 24 []
theorem bget_none (n : Int) : bget none24 n = [] := by
  unfold bget none24
  rw [List.getD_eq_getElem?_getD, List.getElem?_replicate]
  split <;> rfl
def Mv (a f o t t' : List Int) (i : Nat) : Prop := ∃ p s σ, p.length = i ∧ t = p ++ (sub σ f ++ s) ∧ t' = p ++ (sub σ o ++ s) ∧ ∀ x, x < 0 → Wf a 1 (σ x)
theorem Mv.wf {a f o t t' : List Int} {i : Nat} (h : Mv a f o t t' i) (hf : Wf a 1 f) (ho : Wf a 1 o) (ht : Wf a 1 t) : Wf a 1 t' := by
  obtain ⟨p, s, σ, h1, rfl, rfl, h4⟩ := h
  exact Wf.put (hf.sub fun x _ hx => h4 x hx) (ho.sub fun x _ hx => h4 x hx) ht
theorem Wf.var {a : List Int} : Wf a 1 [-1] := Wf.cons_iff.2 ⟨⟨by omega, by omega⟩, by simp [ari]; exact Wf.nil⟩
theorem mv_of_mat {a f o p s u u' : List Int} {b b' : Bd} (hf : Wf a 1 f) (ho : Wf a 1 o) (hu : Wf a 1 u) (hu' : Wf a 1 u') (h1 : mat a f u none24 = some b) (h2 : mat a o u' b = some b') :
    Mv a f o (p ++ (u ++ s)) (p ++ (u' ++ s)) p.length := by
  obtain ⟨e1, l1, k1, w1, n1⟩ := mat_sound hf hu (by simp [none24]) h1
  obtain ⟨e2, l2, k2, w2, n2⟩ := mat_sound ho hu' l1 h2
  have hw1 : ∀ n ∈ f, n < 0 → Wf a 1 (bget b n) := fun n hn h0 => by
    rcases w1 n hn h0 with h | h
    · exact h
    · exact absurd (bget_none n) h.2
  let σ : Int → List Int := fun x => if Wf a 1 (bget b' x) then bget b' x else [-1]
  have hσ : ∀ x, x < 0 → Wf a 1 (σ x) := fun x _ => by
    by_cases h : Wf a 1 (bget b' x)
    · simp only [σ, if_pos h]; exact h
    · simp only [σ, if_neg h]; exact Wf.var
  have hfx : ∀ n ∈ f, n < 0 → σ n = bget b n := fun n hn h0 => by
    have h3 := hw1 n hn h0
    have h4 := k2 n h0 h3.ne
    simp only [σ, h4, if_pos h3]
  have hox : ∀ n ∈ o, n < 0 → σ n = bget b' n := fun n hn h0 => by
    have : Wf a 1 (bget b' n) := by
      rcases w2 n hn h0 with h | ⟨h, hne⟩
      · exact h
      · by_cases hn' : n ∈ f
        · rw [← h]; exact hw1 n hn' h0
        · exact absurd (by rw [n1 n h0 hn', bget_none]) hne
    simp only [σ, if_pos this]
  refine ⟨p, s, σ, rfl, ?_, ?_, hσ⟩
  · rw [sub_congr hfx, ← e1]
  · rw [sub_congr hox, ← e2]
theorem mat_of_mv {a f o p s : List Int} {σ : Int → List Int} (hf : Wf a 1 f) (ho : Wf a 1 o) (hσ : ∀ x, x < 0 → Wf a 1 (σ x)) :
    ∃ b b', mat a f (sub σ f) none24 = some b ∧ mat a o (sub σ o) b = some b' := by
  obtain ⟨b, h1, h2, h3, h4⟩ := mat_complete (σ := σ) (b := none24) hf (by simp [none24]) (fun n _ hn => hσ n hn) fun n _ _ => .inl (bget_none n)
  obtain ⟨b', h5, _⟩ := mat_complete (σ := σ) (b := b) ho h2 (fun n _ hn => hσ n hn) fun n _ hn => by
    by_cases hnf : n ∈ f
    · exact .inr (h3 n hnf hn)
    · exact .inl (by rw [h4 n hn hnf, bget_none])
  exact ⟨b, b', h1, h5⟩
def at' (a t : List Int) (i : Nat) : List Int := match skip a (t.drop i) 1 with
  | some r => (t.drop i).take ((t.drop i).length - r.length)
  | none => []
theorem at_eq {a p u s : List Int} (hu : Wf a 1 u) : at' a (p ++ (u ++ s)) p.length = u := by
  unfold at'
  rw [List.drop_left, hu.skip]
  simp
def putp (a t : List Int) (i : Nat) (v : List Int) : List Int := t.take i ++ (v ++ t.drop (i + (at' a t i).length))
theorem putp_eq {a p u s v : List Int} (hu : Wf a 1 u) : putp a (p ++ (u ++ s)) p.length v = p ++ (v ++ s) := by
  unfold putp
  rw [at_eq hu, List.take_left, ← List.drop_drop, List.drop_left, List.drop_left]
def mvB (a f o t t' : List Int) (i : Nat) : Bool := putp a t i (at' a t' i) == t' && ((mat a f (at' a t i) none24).bind fun b => mat a o (at' a t' i) b).isSome
theorem mvB_iff {a f o t t' : List Int} {i : Nat} (hf : Wf a 1 f) (ho : Wf a 1 o) (ht : Wf a 1 t) (ht' : Wf a 1 t') (hi : i < t.length) (hi' : i < t'.length) : mvB a f o t t' i = true ↔ Mv a f o t t' i := by
  constructor
  · intro h
    simp only [mvB, Bool.and_eq_true, beq_iff_eq] at h
    obtain ⟨h1, h2⟩ := h
    obtain ⟨p, u, s, rfl, rfl, hu⟩ := ht.place hi
    obtain ⟨p', u', s', rfl, hp, hu'⟩ := ht'.place hi'
    rw [← hp, at_eq hu', hp, putp_eq hu] at h1
    rw [← hp, at_eq hu', hp, at_eq hu] at h2
    obtain ⟨b, hb⟩ := Option.isSome_iff_exists.1 h2
    obtain ⟨b0, h3, h4⟩ := Option.bind_eq_some_iff.1 hb
    rw [← h1]
    exact mv_of_mat hf ho hu hu' h3 h4
  · rintro ⟨p, s, σ, rfl, rfl, rfl, hσ⟩
    have hu : Wf a 1 (sub σ f) := hf.sub fun x _ hx => hσ x hx
    have hu' : Wf a 1 (sub σ o) := ho.sub fun x _ hx => hσ x hx
    simp only [mvB, at_eq hu, at_eq hu', putp_eq hu, beq_self_eq_true, Bool.true_and]
    obtain ⟨b, b', h1, h2⟩ := mat_of_mv (p := p) (s := s) hf ho hσ
    rw [h1, Option.bind_some, h2]; rfl
def sig (b : Bd) (n : Int) : List Int := if bget b n = [] then [n] else bget b n
def stepp (a l r t : List Int) (i : Nat) : Option (List Int) := (mat a l (at' a t i) none24).bind fun b =>
  if (sub (sig b) r).length ≤ 60 ∧ (putp a t i (sub (sig b) r)).length ≤ 60 then some (putp a t i (sub (sig b) r)) else none
theorem stepp_mv {a l r t t' : List Int} {i : Nat} (hl : Wf a 1 l) (hr : Wf a 1 r) (ht : Wf a 1 t) (hi : i < t.length) (hv : ∀ n ∈ r, n < 0 → n ∈ l) (h : stepp a l r t i = some t') :
    Mv a l r t t' i ∧ t'.length ≤ 60 := by
  unfold stepp at h
  obtain ⟨b, h1, h2⟩ := Option.bind_eq_some_iff.1 h
  split at h2
  · rename_i hc
    cases h2
    refine ⟨?_, hc.2⟩
    obtain ⟨p, u, s, rfl, rfl, hu⟩ := ht.place hi
    rw [at_eq hu] at h1
    rw [putp_eq hu]
    obtain ⟨e1, l1, k1, w1, n1⟩ := mat_sound hl hu (by simp [none24]) h1
    have hw1 : ∀ n ∈ l, n < 0 → Wf a 1 (bget b n) := fun n hn h0 => by
      rcases w1 n hn h0 with h | h
      · exact h
      · exact absurd (bget_none n) h.2
    let σ : Int → List Int := fun x => if Wf a 1 (bget b x) then bget b x else [-1]
    have hσ : ∀ x, x < 0 → Wf a 1 (σ x) := fun x _ => by
      by_cases h : Wf a 1 (bget b x)
      · simp only [σ, if_pos h]; exact h
      · simp only [σ, if_neg h]; exact Wf.var
    have hx : ∀ n ∈ l, n < 0 → σ n = bget b n := fun n hn h0 => by simp only [σ, if_pos (hw1 n hn h0)]
    refine ⟨p, s, σ, rfl, ?_, ?_, hσ⟩
    · rw [sub_congr hx, ← e1]
    · rw [sub_congr fun n hn h0 => ?_]
      rw [hx n (hv n hn h0) h0]
      unfold sig
      rw [if_neg (hw1 n (hv n hn h0) h0).ne]
  · cases h2
end Tm
