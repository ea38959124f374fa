/- Functions of the program and the equations that they compute, first part; nothing is assumed. -/
import Derived.Test.YtklfjpilhbkekaaGreatYbase
set_option linter.unusedSimpArgs false
set_option linter.unusedVariables false
set_option linter.unusedSectionVars false
set_option linter.unnecessarySimpa false
namespace Go.Proofs.YtklfjpilhbkekaaGreat
open Go Abx
attribute [local irreducible] vcm vgo vdr vrun vdrun MWp GhostQ BrC BrO BrG BrD BrH AmbO callR callD drQ EnvLe StoLe
set_option maxHeartbeats 4000000
def D_impl_Sig (x : (List Int)) : D := .agg [(slD 1 iD) x]
def D_impl_Rule (x : ((List Int) × (List Int))) : D := .agg [(slD 1 iD) x.1, (slD 1 iD) x.2]
def D_impl_System (x : ((List Int) × (List ((List Int) × (List Int))))) : D := .agg [(slD 1 iD) x.1, (slD 2 D_impl_Rule) x.2]
instance : Cel D_impl_Sig 1 := ⟨fun _ => rfl⟩
instance : Cel D_impl_Rule 2 := ⟨fun _ => rfl⟩
instance : Cel D_impl_System 2 := ⟨fun _ => rfl⟩
attribute [go_sem] D_impl_Sig D_impl_Rule D_impl_System
def mc172 : MCode :=
 (.seq (.reg (sq 1 [bo 1 43 0, mb false])) (.seq (.seq (.reg (sq 5 [fa 0 1, ld 5, ln 6, bi .lss 7 1, mv 8] ++ sg 9 false 10 [fa 0 1, ld 10, ln 11, bi .gtr 12 8] ++ sq 14 [po 9 13])) (.cond (t0 14) (.seq (.reg (sq 2 [mb false])) .ret) .skip)) (.seq (.seq (.reg (sq 15 [fa 0 1, ld 15, ln 16, mi 0])) (.block 0 (.loop (.seq (.reg (sq 19 [bn .lss 18 17])) (.seq (.cond (t0 19) .skip (.exit 0)) (.seq (.block 1 (.seq (.reg (sq 20 [ix 1 16 18, ld 20] ++ sq 4 [mv 21])) (.seq (.reg (sq 22 [mv 4, bi .lss 22 0, mv 23] ++ sg 24 false 25 [mv 4, bi .gtr 25 3] ++ sq 27 [po 24 26])) (.cond (t0 27) (.seq (.reg (sq 2 [mb false])) .ret) .skip)))) (.reg (sq 28 [bi .add 18 1] ++ sq 18 [mv 28])))))))) (.seq (.reg (sq 2 [mb true])) .ret))))
theorem fn172 : MFn Tryz.prog 172 mc172 29 [.tmp 2] := ⟨_, Tryz.func172, by kernel_rfl, Tryz.ntmps172, by kernel_rfl⟩
noncomputable def F_impl_SigOk_l1 (sig : (List Int)) : Int → Option (Int ⊕ Bool)
 | v18 =>
  if (decide (v18 < (sig.length : Int))) = true then
   if 0 ≤ v18 ∧ v18 < (sig.length : Int) then
    if (decide ((sig.getD v18.toNat default) < 0)) = true then
     Option.map Sum.inr (
      some false)
    else
     if (decide (3 < (sig.getD v18.toNat default))) = true then
      Option.map Sum.inr (
       some false)
     else
      some (.inl (IntKind.i64.wrap (v18 + 1)))
   else none
  else
   Option.map Sum.inr (
    some true)
noncomputable def F_impl_SigOk (sig : (List Int)) : Option Bool :=
 if (decide ((sig.length : Int) < 1)) = true then
  some false
 else
  if (decide (8 < (sig.length : Int))) = true then
   some false
  else
   loopC (F_impl_SigOk_l1 sig) 0
instance c_impl_SigOk {sig : (List Int)} : HasC (F_impl_SigOk sig) fun rr => PFun Tryz.prog 172 [D_impl_Sig sig] (bD rr) := ⟨@fun rr h => by
  delta F_impl_SigOk at h
  refine fn172.pureL (vcm_sound ?_)
  delta mc172
  refine stp ?_
  refine iF h fun hc h => ?_
  refine iF h fun hc h => ?_
  refine m_lW h [2, 4, 18, 19, 20, 21, 22, 23, 24, 25, 26, 27, 28] (fun pp => [(18, .d (iD pp))]) (fun pp => [(1, .obj 43 [.d (slD 1 iD sig)])]) ?_
  rintro v18 t1 h hb1
  unfold F_impl_SigOk_l1 at h
  try dsimp only at h
  refine vcm_sound (stp ?_)
  exact aut⟩
def mc224 : MCode :=
 (.seq (.reg (sq 2 [mi 0])) (.seq (.seq (.reg (sq 5 [mv 0, ln 5, bi .lss 6 1])) (.cond (t0 7) (.reg (sq 8 [.dead] ++ s0 .dead)) .skip)) (.seq (.reg (sq 9 [mv 0, .ixa 1 (t0 9) (i0 0), ld 10] ++ sq 3 [mv 11])) (.seq (.seq (.reg (sq 4 [mi 1])) (.block 0 (.loop (.seq (.seq (.reg (sq 12 [mv 4, mv 0, ln 13, bn .lss 12 14])) (.cond (t0 15) .skip (.exit 0))) (.seq (.block 1 (.reg (sq 18 [mv 3, mv 0, mv 4, ix 1 19 20, ld 21, .min (t0 18) (t0 22)] ++ sq 3 [mv 23]))) (.reg (sq 16 [mv 4, bi .add 16 1] ++ sq 4 [mv 17]))))))) (.seq (.reg (sq 24 [mv 3] ++ sq 2 [mv 24])) .ret)))))
theorem fn224 : MFn Tryz.prog 224 mc224 25 [.tmp 2] := ⟨_, Tryz.func224, by kernel_rfl, Tryz.ntmps224, by kernel_rfl⟩
noncomputable def F_slices_Min_int64_int64_l1 (x : (List Int)) : (Int × Int) → Option ((Int × Int) ⊕ Int)
 | (m, i) =>
  if (decide (i < (x.length : Int))) = true then
   if 0 ≤ i ∧ i < (x.length : Int) then
    some (.inl ((if (x.getD i.toNat default) < m then (x.getD i.toNat default) else m), (IntKind.i64.wrap (i + 1))))
   else none
  else
   Option.map Sum.inr (
    some m)
noncomputable def F_slices_Min_int64_int64 (x : (List Int)) : Option Int :=
 if (decide ((x.length : Int) < 1)) = true then
  none
 else
  if 0 ≤ 0 ∧ 0 < (x.length : Int) then
   loopC (F_slices_Min_int64_int64_l1 x) ((x.getD 0 default), 1)
  else none
instance c_slices_Min_int64_int64 {x : (List Int)} : HasC (F_slices_Min_int64_int64 x) fun rr => PFun Tryz.prog 224 [(slD 1 iD) x] (iD rr) := ⟨@fun rr h => by
  delta F_slices_Min_int64_int64 at h
  refine fn224.pureL (vcm_sound ?_)
  delta mc224
  refine stp ?_
  refine iF h fun hc h => ?_
  refine ndI h fun hp h => ?_
  refine m_lW h [3, 4, 12, 13, 14, 15, 16, 17, 18, 19, 20, 21, 22, 23] (fun pp => [(3, .d (iD pp.1)), (4, .d (iD pp.2))]) (fun pp => []) ?_
  rintro ⟨m, i⟩ t1 h hb1
  unfold F_slices_Min_int64_int64_l1 at h
  try dsimp only at h
  refine vcm_sound (stp ?_)
  exact aut⟩
def mc283 : MCode :=
 (.seq (.reg (sq 2 [bo 2 43 0] ++ sq 4 [mi 0])) (.seq (.seq (.reg (sq 5 [mv 1, bi .lss 5 0])) (.cond (t0 6) (.seq (.reg (sq 4 [mi 0])) .ret) .skip)) (.seq (.reg (sq 7 [fa 0 2, ld 7, mv 1, ix 1 8 9, ld 10] ++ sq 4 [mv 11])) .ret)))
theorem fn283 : MFn Tryz.prog 283 mc283 12 [.tmp 4] := ⟨_, Tryz.func283, by kernel_rfl, Tryz.ntmps283, by kernel_rfl⟩
noncomputable def F_impl_arityAt (sig : (List Int)) (n : Int) : Option Int :=
 if (decide (n < 0)) = true then
  some 0
 else
  if 0 ≤ n ∧ n < (sig.length : Int) then
   some (sig.getD n.toNat default)
  else none
instance c_impl_arityAt {sig : (List Int)} {n : Int} : HasC (F_impl_arityAt sig n) fun rr => PFun Tryz.prog 283 [D_impl_Sig sig, iD n] (iD rr) := ⟨@fun rr h => by
  delta F_impl_arityAt at h
  refine fn283.pureL (vcm_sound ?_)
  delta mc283
  refine stp ?_
  exact aut⟩
def mc274 : MCode :=
 (.seq (.reg (sq 2 [mi 0])) (.seq (.seq (.draw (sq 3 [mv 0, .nilc (t0 3), fa 2 4, ld 5, mv 0, .nilc (t0 7), fa 1 8, ld 9, ln 10, bn .geq 6 11, mv 12] ++ sg 13 false 14 [mv 0, .nilc (t0 14), fa 1 15, ld 16, mv 0, .nilc (t0 18), fa 2 19, ld 20, ix 1 17 21, ld 22, mv 0, .nilc (t0 24), fa 0 25, fa 0 26, ld 27, ln 28, bn .geq 23 29] ++ sq 31 [po 13 30]) [[], [0], [1], [2], [], [4], [5], [6], [7], [3, 8], [9], [10], [11, 10], [12, 10], [13, 10], [10], [15, 10], [16, 10], [17, 10], [14, 18, 10], [19, 10], [10], [21, 10], [22, 10], [23, 10], [24, 10], [25, 10], [20, 26, 10], [10, 27]]) (.cond (t0 31) (.seq (.reg (sq 2 [mi (-1)])) .ret) .skip)) (.seq (.reg (sq 32 [mv 0, .nilc (t0 32), fa 2 33, ld 34, bi .add 35 1, .nilc (t0 32), fa 2 37] ++ s0 (sr 1 38 36))) (.seq (.draw (sq 39 [mv 0, .nilc (t0 39), fa 0 40, la 1 41, mv 0, .nilc (t0 43), fa 1 44, ld 45, mv 0, .nilc (t0 47), fa 2 48, ld 49, bi .sub 50 1, ix 1 46 51, ld 52, cf 283 [42, 53]] ++ sq 2 [mv 54]) [[], [0], [1], [2], [], [4], [5], [6], [], [8], [9], [10], [11], [7, 12], [13], [3, 14], [15, 15, 0, 1, 2, 3, 4, 5, 6, 7, 8, 9, 10, 11, 12, 13, 14, 15]]) .ret))))
theorem fn274 : MFn Tryz.prog 274 mc274 55 [.tmp 2] := ⟨_, Tryz.func274, by kernel_rfl, Tryz.ntmps274, by kernel_rfl⟩
noncomputable def F_impl_cursor_next (c0 : (List Int)) (c1 : (List Int)) (c2 : Int) : Option (Int × Int) :=
 if (decide ((c1.length : Int) ≤ c2)) = true then
  some ((-1), c2)
 else
  if 0 ≤ c2 ∧ c2 < (c1.length : Int) then
   if (decide ((c0.length : Int) ≤ (c1.getD c2.toNat default))) = true then
    some ((-1), c2)
   else
    if 0 ≤ (IntKind.i64.wrap ((IntKind.i64.wrap (c2 + 1)) - 1)) ∧ (IntKind.i64.wrap ((IntKind.i64.wrap (c2 + 1)) - 1)) < (c1.length : Int) then
     (F_impl_arityAt c0 (c1.getD (IntKind.i64.wrap ((IntKind.i64.wrap (c2 + 1)) - 1)).toNat default)).bind fun r =>
     some (r, (IntKind.i64.wrap (c2 + 1)))
    else none
  else none
instance c_impl_cursor_next {c0 : (List Int)} {c1 : (List Int)} {c2 : Int} : HasC (F_impl_cursor_next c0 c1 c2) fun rr => ACalls Tryz.prog 274 [.ptr 0 0] [(0, .obj 281 [.d (slD 1 iD c0), .d (slD 1 iD c1), .d (iD c2)])] 1 fun xx ss => xx = .d (iD rr.1) ∧ ss = [(0, .obj 281 [.d (slD 1 iD c0), .d (slD 1 iD c1), .d (iD rr.2)])] := ⟨@fun rr h => by
  delta F_impl_cursor_next at h
  refine fn274.callsO (vcm_sound ?_)
  delta mc274
  refine stp ?_
  exact aut⟩
def mc244 : MCode :=
 (.seq (.reg (sq 2 [mb false])) (.seq (.seq (.reg (sq 3 [mi 1])) (.block 0 (.loop (.seq (.seq (.reg (sq 5 [mv 3, bi .gtr 5 0])) (.cond (t0 6) .skip (.exit 0))) (.seq (.block 1 (.seq (.reg (sq 9 [mv 0, cf 274 [9]] ++ sq 4 [mv 10])) (.seq (.seq (.reg (sq 11 [mv 4, bi .lss 11 0])) (.cond (t0 12) (.seq (.reg (sq 2 [mb false])) .ret) .skip)) (.reg (sq 13 [mv 3, mv 4, bn .add 13 14] ++ sq 3 [mv 15]))))) (.reg (sq 7 [mv 3, bi .sub 7 1] ++ sq 3 [mv 8]))))))) (.seq (.reg (sq 2 [mb true])) .ret)))
theorem fn244 : MFn Tryz.prog 244 mc244 16 [.tmp 2] := ⟨_, Tryz.func244, by kernel_rfl, Tryz.ntmps244, by kernel_rfl⟩
noncomputable def F_impl_cursor_skip_l1 (c0 : (List Int)) (c1 : (List Int)) : (Int × Int) → Option ((Int × Int) ⊕ (Bool × Int))
 | (need, c) =>
  if (decide (0 < need)) = true then
   (F_impl_cursor_next c0 c1 c).bind fun r =>
   if (decide (r.1 < 0)) = true then
    Option.map Sum.inr (
     some (false, r.2))
   else
    some (.inl ((IntKind.i64.wrap ((IntKind.i64.wrap (need + r.1)) - 1)), r.2))
  else
   Option.map Sum.inr (
    some (true, c))
noncomputable def F_impl_cursor_skip (c0 : (List Int)) (c1 : (List Int)) (c2 : Int) : Option (Bool × Int) :=
 loopC (F_impl_cursor_skip_l1 c0 c1) (1, c2)
instance c_impl_cursor_skip {c0 : (List Int)} {c1 : (List Int)} {c2 : Int} : HasC (F_impl_cursor_skip c0 c1 c2) fun rr => ACalls Tryz.prog 244 [.ptr 0 0] [(0, .obj 281 [.d (slD 1 iD c0), .d (slD 1 iD c1), .d (iD c2)])] 1 fun xx ss => xx = .d (bD rr.1) ∧ ss = [(0, .obj 281 [.d (slD 1 iD c0), .d (slD 1 iD c1), .d (iD rr.2)])] := ⟨@fun rr h => by
  delta F_impl_cursor_skip at h
  refine fn244.callsO (vcm_sound ?_)
  delta mc244
  refine stp ?_
  refine m_lW h [2, 3, 4, 5, 6, 7, 8, 9, 10, 11, 12, 13, 14, 15] (fun pp => [(3, .d (iD pp.1))]) (fun pp => [(0, .obj 281 [.d (slD 1 iD c0), .d (slD 1 iD c1), .d (iD pp.2)])]) ?_
  rintro ⟨need, c⟩ t1 h hb1
  unfold F_impl_cursor_skip_l1 at h
  try dsimp only at h
  refine vcm_sound (stp ?_)
  refine iT h fun hc h => ?_
  refine rCo [(0, 0)] [] h fun r hr h => ?_
  exact aut⟩
def mc195 : MCode :=
 (.seq (.reg (sq 3 [bo 3 43 0] ++ sq 6 [mi 0])) (.seq (.reg (sq 8 [la 1 3, mv 1, mv 2, .build [.sl 0 (some true) [], .sl 0 (some true) [], .lit (.int .i64 0)] [(0, 1, (t0 8)), (1, 1, (t0 9)), (2, 1, (t0 10))]] ++ sq 7 [.alloc 7 281 [.sl 0 (some true) [], .sl 0 (some true) [], .lit (.int .i64 0)]] ++ s0 (sr 3 7 11))) (.seq (.seq (.reg (sq 12 [cf 244 [7], nt 12])) (.cond (t0 13) (.seq (.reg (sq 6 [mi (-1)])) .ret) .skip)) (.seq (.reg (sq 14 [fa 2 7, ld 14] ++ sq 6 [mv 15])) .ret))))
theorem fn195 : MFn Tryz.prog 195 mc195 16 [.tmp 6] := ⟨_, Tryz.func195, by kernel_rfl, Tryz.ntmps195, by kernel_rfl⟩
noncomputable def F_impl_endAt (sig : (List Int)) (t : (List Int)) (at' : Int) : Option Int :=
 (F_impl_cursor_skip sig t at').bind fun r =>
 if r.1 = true then
  some r.2
 else
  some (-1)
instance c_impl_endAt {sig : (List Int)} {t : (List Int)} {at' : Int} : HasC (F_impl_endAt sig t at') fun rr => PFun Tryz.prog 195 [D_impl_Sig sig, (slD 1 iD) t, iD at'] (iD rr) := ⟨@fun rr h => by
  delta F_impl_endAt at h
  refine fn195.pureL (vcm_sound ?_)
  delta mc195
  refine stp ?_
  refine rCo [(0, 7)] [] h fun r hr h => ?_
  exact aut⟩
def mc157 : MCode :=
 (.seq (.reg (sq 2 [bo 2 43 0] ++ sq 4 [mb false])) (.seq (.reg (sq 5 [la 1 2, cf 172 [5], mv 6] ++ sg 7 true 8 [mv 1, ln 8, bi .gtr 9 0] ++ sq 11 [pa 7 10, mv 11] ++ sg 12 true 13 [mv 1, ln 13, bi .leq 14 60] ++ sq 16 [pa 12 15, mv 16] ++ sg 17 true 18 [mv 1, cf 224 [18], bi .geq 19 (-24)] ++ sq 21 [pa 17 20, mv 21] ++ sg 22 true 23 [la 1 2, mv 1, .callf 195 [(t0 23), (t0 24), (i0 0)], mv 1, ln 26, bn .eql 25 27] ++ sq 29 [pa 22 28] ++ sq 4 [mv 29])) .ret))
theorem fn157 : MFn Tryz.prog 157 mc157 30 [.tmp 4] := ⟨_, Tryz.func157, by kernel_rfl, Tryz.ntmps157, by kernel_rfl⟩
noncomputable def F_impl_TermOk (sig : (List Int)) (t : (List Int)) : Option Bool :=
 (F_impl_SigOk sig).bind fun r =>
 if r = true then
  if (decide (0 < (t.length : Int))) = true then
   if (decide ((t.length : Int) ≤ 60)) = true then
    (F_slices_Min_int64_int64 t).bind fun r_1 =>
    if (decide ((-24) ≤ r_1)) = true then
     (F_impl_endAt sig t 0).bind fun r_2 =>
     some (r_2 == (t.length : Int))
    else
     some false
   else
    some false
  else
   some false
 else
  some false
instance c_impl_TermOk {sig : (List Int)} {t : (List Int)} : HasC (F_impl_TermOk sig t) fun rr => PFun Tryz.prog 157 [D_impl_Sig sig, (slD 1 iD) t] (bD rr) := ⟨@fun rr h => by
  delta F_impl_TermOk at h
  refine fn157.pureL (vcm_sound ?_)
  delta mc157
  refine stp ?_
  exact aut⟩
def mc49 : MCode :=
 (.seq (.reg (sq 6 [mb false])) (.seq (.reg (sq 7 [mv 0, mv 1, bn .geq 7 8, mv 9] ++ sg 10 true 11 [mv 0, mv 2, bn .leq 11 12] ++ sq 14 [pa 10 13] ++ sq 6 [mv 14])) .ret))
theorem fn49 : MFn Tryz.prog 49 mc49 15 [.tmp 6] := ⟨_, Tryz.func49, by kernel_rfl, Tryz.ntmps49, by kernel_rfl⟩
noncomputable def F_spec_l1In (x : Int) (lo : Int) (hi : Int) : Option Bool :=
 if (decide (lo ≤ x)) = true then
  some (decide (x ≤ hi))
 else
  some false
instance c_spec_l1In {x : Int} {lo : Int} {hi : Int} : HasC (F_spec_l1In x lo hi) fun rr => PFun Tryz.prog 49 [iD x, iD lo, iD hi] (bD rr) := ⟨@fun rr h => by
  delta F_spec_l1In at h
  refine fn49.pureL (vcm_sound ?_)
  delta mc49
  refine stp ?_
  exact aut⟩
def mc96 : MCode :=
 (.seq (.reg (sq 1 [bo 1 43 0, mb false])) (.seq (.seq (.reg (sq 4 [fa 0 1, ld 4, ln 5, .callf 49 [(t0 6), (i0 1), (i0 8)], nt 7])) (.cond (t0 8) (.seq (.reg (sq 2 [mb false])) .ret) .skip)) (.seq (.seq (.reg (sq 3 [mi 0])) (.block 0 (.loop (.seq (.seq (.reg (sq 9 [mv 3, fa 0 1, ld 10, ln 11, bn .lss 9 12])) (.cond (t0 13) .skip (.exit 0))) (.seq (.block 1 (.seq (.reg (sq 16 [fa 0 1, ld 16, mv 3, ix 1 17 18, ld 19, .callf 49 [(t0 20), (i0 0), (i0 3)], nt 21])) (.cond (t0 22) (.seq (.reg (sq 2 [mb false])) .ret) .skip))) (.reg (sq 14 [mv 3, bi .add 14 1] ++ sq 3 [mv 15]))))))) (.seq (.reg (sq 2 [mb true])) .ret))))
theorem fn96 : MFn Tryz.prog 96 mc96 23 [.tmp 2] := ⟨_, Tryz.func96, by kernel_rfl, Tryz.ntmps96, by kernel_rfl⟩
noncomputable def F_spec_SigOk_l1 (sig : (List Int)) : Int → Option (Int ⊕ Bool)
 | f =>
  if (decide (f < (sig.length : Int))) = true then
   if 0 ≤ f ∧ f < (sig.length : Int) then
    (F_spec_l1In (sig.getD f.toNat default) 0 3).bind fun r_1 =>
    if r_1 = true then
     some (.inl (IntKind.i64.wrap (f + 1)))
    else
     Option.map Sum.inr (
      some false)
   else none
  else
   Option.map Sum.inr (
    some true)
noncomputable def F_spec_SigOk (sig : (List Int)) : Option Bool :=
 (F_spec_l1In (sig.length : Int) 1 8).bind fun r =>
 if r = true then
  loopC (F_spec_SigOk_l1 sig) 0
 else
  some false
instance c_spec_SigOk {sig : (List Int)} : HasC (F_spec_SigOk sig) fun rr => PFun Tryz.prog 96 [D_impl_Sig sig] (bD rr) := ⟨@fun rr h => by
  delta F_spec_SigOk at h
  refine fn96.pureL (vcm_sound ?_)
  delta mc96
  refine stp ?_
  refine rC h fun r hr h => ?_
  refine iT h fun hc h => ?_
  refine m_lW h [2, 3, 9, 10, 11, 12, 13, 14, 15, 16, 17, 18, 19, 20, 21, 22] (fun pp => [(3, .d (iD pp))]) (fun pp => [(1, .obj 43 [.d (slD 1 iD sig)])]) ?_
  rintro f t1 h hb1
  unfold F_spec_SigOk_l1 at h
  try dsimp only at h
  refine vcm_sound (stp ?_)
  exact aut⟩
def mc240 : MCode :=
 (.seq (.reg (sq 2 [bo 2 43 0] ++ sq 4 [mi 0])) (.seq (.block 0 (.seq (.reg (sq 6 [mv 1, .callf 49 [(t0 6), (i0 (-24)), (i0 (-1))]] ++ sq 5 [mv 7])) (.cond (t0 5) (.seq (.reg (sq 4 [mi 0])) .ret) (.seq (.reg (sq 9 [mv 1, fa 0 2, ld 10, ln 11, bi .sub 12 1, .callf 49 [(t0 9), (i0 0), (t0 13)]] ++ sq 8 [mv 14])) (.cond (t0 8) (.seq (.reg (sq 15 [fa 0 2, ld 15, mv 1, ix 1 16 17, ld 18] ++ sq 4 [mv 19])) .ret) .skip))))) (.seq (.reg (sq 4 [mi (-1)])) .ret)))
theorem fn240 : MFn Tryz.prog 240 mc240 20 [.tmp 4] := ⟨_, Tryz.func240, by kernel_rfl, Tryz.ntmps240, by kernel_rfl⟩
noncomputable def F_spec_l1Arity (sig : (List Int)) (n : Int) : Option Int :=
 (F_spec_l1In n (-24) (-1)).bind fun r =>
 if r = true then
  some 0
 else
  (F_spec_l1In n 0 (IntKind.i64.wrap ((sig.length : Int) - 1))).bind fun r_1 =>
  if r_1 = true then
   if 0 ≤ n ∧ n < (sig.length : Int) then
    some (sig.getD n.toNat default)
   else none
  else
   some (-1)
instance c_spec_l1Arity {sig : (List Int)} {n : Int} : HasC (F_spec_l1Arity sig n) fun rr => PFun Tryz.prog 240 [D_impl_Sig sig, iD n] (iD rr) := ⟨@fun rr h => by
  delta F_spec_l1Arity at h
  refine fn240.pureL (vcm_sound ?_)
  delta mc240
  refine stp ?_
  exact aut⟩
def mc187 : MCode :=
 (.seq (.reg (sq 3 [bo 3 43 0] ++ sq 6 [mi 0])) (.seq (.reg (sq 7 [mi 1])) (.seq (.seq (.reg (sq 10 [mv 2] ++ sq 8 [mv 10])) (.block 0 (.loop (.seq (.seq (.reg (sq 11 [mv 8, mv 1, ln 12, bn .lss 11 13])) (.cond (t0 14) .skip (.exit 0))) (.seq (.block 1 (.seq (.draw (sq 17 [la 1 3, mv 1, mv 8, ix 1 18 19, ld 20, cf 240 [17, 21]] ++ sq 9 [mv 22]) [[], [], [], [1, 2], [3], [0, 4], [5, 5, 0, 1, 2, 3, 4, 5]]) (.seq (.seq (.reg (sq 23 [mv 9, bi .lss 23 0])) (.cond (t0 24) (.seq (.reg (sq 6 [mi (-1)])) .ret) .skip)) (.seq (.reg (sq 25 [mv 7, mv 9, bn .add 25 26, bi .sub 27 1] ++ sq 7 [mv 28])) (.seq (.reg (sq 29 [mv 7, bi .eql 29 0])) (.cond (t0 30) (.seq (.reg (sq 31 [mv 8, bi .add 31 1] ++ sq 6 [mv 32])) .ret) .skip)))))) (.reg (sq 15 [mv 8, bi .add 15 1] ++ sq 8 [mv 16]))))))) (.seq (.reg (sq 6 [mi (-1)])) .ret))))
theorem fn187 : MFn Tryz.prog 187 mc187 33 [.tmp 6] := ⟨_, Tryz.func187, by kernel_rfl, Tryz.ntmps187, by kernel_rfl⟩
noncomputable def F_spec_l1End_l1 (sig : (List Int)) (t : (List Int)) : (Int × Int) → Option ((Int × Int) ⊕ Int)
 | (need, i) =>
  if (decide (i < (t.length : Int))) = true then
   if 0 ≤ i ∧ i < (t.length : Int) then
    (F_spec_l1Arity sig (t.getD i.toNat default)).bind fun r =>
    if (decide (r < 0)) = true then
     Option.map Sum.inr (
      some (-1))
    else
     if ((IntKind.i64.wrap ((IntKind.i64.wrap (need + r)) - 1)) == 0) = true then
      Option.map Sum.inr (
       some (IntKind.i64.wrap (i + 1)))
     else
      some (.inl ((IntKind.i64.wrap ((IntKind.i64.wrap (need + r)) - 1)), (IntKind.i64.wrap (i + 1))))
   else none
  else
   Option.map Sum.inr (
    some (-1))
noncomputable def F_spec_l1End (sig : (List Int)) (t : (List Int)) (at' : Int) : Option Int :=
 loopC (F_spec_l1End_l1 sig t) (1, at')
instance c_spec_l1End {sig : (List Int)} {t : (List Int)} {at' : Int} : HasC (F_spec_l1End sig t at') fun rr => PFun Tryz.prog 187 [D_impl_Sig sig, (slD 1 iD) t, iD at'] (iD rr) := ⟨@fun rr h => by
  delta F_spec_l1End at h
  refine fn187.pureL (vcm_sound ?_)
  delta mc187
  refine stp ?_
  refine m_lW h [6, 7, 8, 9, 11, 12, 13, 14, 15, 16, 17, 18, 19, 20, 21, 22, 23, 24, 25, 26, 27, 28, 29, 30, 31, 32] (fun pp => [(7, .d (iD pp.1)), (8, .d (iD pp.2))]) (fun pp => [(3, .obj 43 [.d (slD 1 iD sig)])]) ?_
  rintro ⟨need, i⟩ t1 h hb1
  unfold F_spec_l1End_l1 at h
  try dsimp only at h
  refine vcm_sound (stp ?_)
  exact aut⟩
def mc154 : MCode :=
 (.seq (.reg (sq 2 [bo 2 43 0] ++ sq 4 [mb false])) (.seq (.reg (sq 5 [la 1 2, cf 96 [5], mv 6] ++ sg 7 true 8 [mv 1, ln 8, .callf 49 [(t0 9), (i0 1), (i0 60)]] ++ sq 11 [pa 7 10, mv 11] ++ sg 12 true 13 [la 1 2, mv 1, .callf 187 [(t0 13), (t0 14), (i0 0)], mv 1, ln 16, bn .eql 15 17] ++ sq 19 [pa 12 18] ++ sq 4 [mv 19])) .ret))
theorem fn154 : MFn Tryz.prog 154 mc154 20 [.tmp 4] := ⟨_, Tryz.func154, by kernel_rfl, Tryz.ntmps154, by kernel_rfl⟩
noncomputable def F_spec_TermOk (sig : (List Int)) (t : (List Int)) : Option Bool :=
 (F_spec_SigOk sig).bind fun r =>
 if r = true then
  (F_spec_l1In (t.length : Int) 1 60).bind fun r_1 =>
  if r_1 = true then
   (F_spec_l1End sig t 0).bind fun r_2 =>
   some (r_2 == (t.length : Int))
  else
   some false
 else
  some false
instance c_spec_TermOk {sig : (List Int)} {t : (List Int)} : HasC (F_spec_TermOk sig t) fun rr => PFun Tryz.prog 154 [D_impl_Sig sig, (slD 1 iD) t] (bD rr) := ⟨@fun rr h => by
  delta F_spec_TermOk at h
  refine fn154.pureL (vcm_sound ?_)
  delta mc154
  refine stp ?_
  exact aut⟩
def mc266 : MCode :=
 (.seq (.reg (sq 4 [mi 0])) (.seq (.seq (.reg (sq 6 [mv 0, ln 6, mi 0])) (.block 0 (.loop (.seq (.reg (sq 9 [bn .lss 8 7])) (.seq (.cond (t0 9) .skip (.exit 0)) (.seq (.block 1 (.seq (.reg (sq 10 [mv 8] ++ sq 5 [mv 10])) (.seq (.reg (sq 11 [mv 1, mv 0, mv 5, ix 1 12 13, ld 14, bn .eql 11 15])) (.cond (t0 16) (.seq (.reg (sq 17 [mv 5] ++ sq 4 [mv 17])) .ret) .skip)))) (.reg (sq 18 [bi .add 8 1] ++ sq 8 [mv 18])))))))) (.seq (.reg (sq 4 [mi (-1)])) .ret)))
theorem fn266 : MFn Tryz.prog 266 mc266 19 [.tmp 4] := ⟨_, Tryz.func266, by kernel_rfl, Tryz.ntmps266, by kernel_rfl⟩
noncomputable def F_slices_Index_int64_int64_l1 (s : (List Int)) (v : Int) : Int → Option (Int ⊕ Int)
 | v8 =>
  if (decide (v8 < (s.length : Int))) = true then
   if 0 ≤ v8 ∧ v8 < (s.length : Int) then
    if (v == (s.getD v8.toNat default)) = true then
     Option.map Sum.inr (
      some v8)
    else
     some (.inl (IntKind.i64.wrap (v8 + 1)))
   else none
  else
   Option.map Sum.inr (
    some (-1))
noncomputable def F_slices_Index_int64_int64 (s : (List Int)) (v : Int) : Option Int :=
 loopC (F_slices_Index_int64_int64_l1 s v) 0
instance c_slices_Index_int64_int64 {s : (List Int)} {v : Int} : HasC (F_slices_Index_int64_int64 s v) fun rr => PFun Tryz.prog 266 [(slD 1 iD) s, iD v] (iD rr) := ⟨@fun rr h => by
  delta F_slices_Index_int64_int64 at h
  refine fn266.pureL (vcm_sound ?_)
  delta mc266
  refine stp ?_
  refine m_lW h [4, 5, 8, 9, 10, 11, 12, 13, 14, 15, 16, 17, 18] (fun pp => [(8, .d (iD pp))]) (fun pp => []) ?_
  rintro v8 t1 h hb1
  unfold F_slices_Index_int64_int64_l1 at h
  try dsimp only at h
  refine vcm_sound (stp ?_)
  exact aut⟩
def mc228 : MCode :=
 (.seq (.reg (sq 4 [mb false])) (.seq (.reg (sq 5 [mv 0, mv 1, cf 266 [5, 6], bi .geq 7 0] ++ sq 4 [mv 8])) .ret))
theorem fn228 : MFn Tryz.prog 228 mc228 9 [.tmp 4] := ⟨_, Tryz.func228, by kernel_rfl, Tryz.ntmps228, by kernel_rfl⟩
noncomputable def F_slices_Contains_int64_int64 (s : (List Int)) (v : Int) : Option Bool :=
 (F_slices_Index_int64_int64 s v).bind fun r =>
 some (decide (0 ≤ r))
instance c_slices_Contains_int64_int64 {s : (List Int)} {v : Int} : HasC (F_slices_Contains_int64_int64 s v) fun rr => PFun Tryz.prog 228 [(slD 1 iD) s, iD v] (bD rr) := ⟨@fun rr h => by
  delta F_slices_Contains_int64_int64 at h
  refine fn228.pureL (vcm_sound ?_)
  delta mc228
  refine stp ?_
  exact aut⟩
def mc189 : MCode :=
 (.seq (.reg (sq 2 [bo 2 43 0, bo 3 147 1, mb false])) (.seq (.seq (.reg (sq 7 [la 1 2, fa 0 3, ld 8, cf 157 [7, 9], nt 10, mv 11] ++ sg 12 false 13 [la 1 2, fa 1 3, ld 14, cf 157 [13, 15], nt 16] ++ sq 18 [po 12 17, mv 18] ++ sg 19 false 20 [fa 0 3, ld 20, .ixa 1 (t0 21) (i0 0), ld 22, bi .lss 23 0] ++ sq 25 [po 19 24])) (.cond (t0 25) (.seq (.reg (sq 4 [mb false])) .ret) .skip)) (.seq (.seq (.reg (sq 26 [fa 1 3, ld 26, ln 27, mi 0])) (.block 0 (.loop (.seq (.reg (sq 30 [bn .lss 29 28])) (.seq (.cond (t0 30) .skip (.exit 0)) (.seq (.block 1 (.seq (.reg (sq 31 [ix 1 27 29, ld 31] ++ sq 6 [mv 32])) (.seq (.reg (sq 33 [mv 6, bi .lss 33 0, mv 34] ++ sg 35 true 36 [fa 0 3, ld 36, mv 6, cf 228 [37, 38], nt 39] ++ sq 41 [pa 35 40])) (.cond (t0 41) (.seq (.reg (sq 4 [mb false])) .ret) .skip)))) (.reg (sq 42 [bi .add 29 1] ++ sq 29 [mv 42])))))))) (.seq (.reg (sq 4 [mb true])) .ret))))
theorem fn189 : MFn Tryz.prog 189 mc189 43 [.tmp 4] := ⟨_, Tryz.func189, by kernel_rfl, Tryz.ntmps189, by kernel_rfl⟩
noncomputable def F_impl_RuleOk_l1 (r : ((List Int) × (List Int))) : Int → Option (Int ⊕ Bool)
 | v29 =>
  if (decide (v29 < (r.2.length : Int))) = true then
   if 0 ≤ v29 ∧ v29 < (r.2.length : Int) then
    if (decide ((r.2.getD v29.toNat default) < 0)) = true then
     (F_slices_Contains_int64_int64 r.1 (r.2.getD v29.toNat default)).bind fun r_3 =>
     if r_3 = true then
      some (.inl (IntKind.i64.wrap (v29 + 1)))
     else
      Option.map Sum.inr (
       some false)
    else
     some (.inl (IntKind.i64.wrap (v29 + 1)))
   else none
  else
   Option.map Sum.inr (
    some true)
noncomputable def F_impl_RuleOk (sig : (List Int)) (r : ((List Int) × (List Int))) : Option Bool :=
 (F_impl_TermOk sig r.1).bind fun r_1 =>
 if r_1 = true then
  (F_impl_TermOk sig r.2).bind fun r_2 =>
  if r_2 = true then
   if 0 ≤ 0 ∧ 0 < (r.1.length : Int) then
    if (decide ((r.1.getD 0 default) < 0)) = true then
     some false
    else
     loopC (F_impl_RuleOk_l1 r) 0
   else none
  else
   some false
 else
  some false
instance c_impl_RuleOk {sig : (List Int)} {r : ((List Int) × (List Int))} : HasC (F_impl_RuleOk sig r) fun rr => PFun Tryz.prog 189 [D_impl_Sig sig, D_impl_Rule r] (bD rr) := ⟨@fun rr h => by
  delta F_impl_RuleOk at h
  refine fn189.pureL (vcm_sound ?_)
  delta mc189
  refine stp ?_
  refine rC h fun r_1 hr_1 h => ?_
  refine iT h fun hc h => ?_
  refine rC h fun r_2 hr_2 h => ?_
  refine iT h fun hc h => ?_
  refine ndI h fun hp h => ?_
  refine iF h fun hc h => ?_
  refine m_lW h [4, 6, 29, 30, 31, 32, 33, 34, 35, 36, 37, 38, 39, 40, 41, 42] (fun pp => [(29, .d (iD pp))]) (fun pp => [(2, .obj 43 [.d (slD 1 iD sig)]), (3, .obj 147 [.d (slD 1 iD r.1), .d (slD 1 iD r.2)])]) ?_
  rintro v29 t1 h hb1
  unfold F_impl_RuleOk_l1 at h
  try dsimp only at h
  refine vcm_sound (stp ?_)
  exact aut⟩
def mc119 : MCode :=
 (.seq (.reg (sq 1 [bo 1 46 0, mb false])) (.seq (.seq (.reg (sq 5 [fa 0 1, la 1 5, cf 172 [6], nt 7, mv 8] ++ sg 9 false 10 [fa 1 1, ld 10, ln 11, bi .gtr 12 12] ++ sq 14 [po 9 13])) (.cond (t0 14) (.seq (.reg (sq 2 [mb false])) .ret) .skip)) (.seq (.seq (.reg (sq 15 [fa 1 1, ld 15, ln 16, mi 0])) (.block 0 (.loop (.seq (.reg (sq 19 [bn .lss 18 17])) (.seq (.cond (t0 19) .skip (.exit 0)) (.seq (.block 1 (.seq (.reg (sq 20 [ix 2 16 18, la 2 20] ++ sq 4 [.alloc 4 147 [.sl 0 (some true) [], .sl 0 (some true) []]] ++ s0 (sr 2 4 21))) (.seq (.reg (sq 22 [fa 0 1, la 1 22, la 2 4, cf 189 [23, 24], nt 25])) (.cond (t0 26) (.seq (.reg (sq 2 [mb false])) .ret) .skip)))) (.reg (sq 27 [bi .add 18 1] ++ sq 18 [mv 27])))))))) (.seq (.reg (sq 2 [mb true])) .ret))))
theorem fn119 : MFn Tryz.prog 119 mc119 28 [.tmp 2] := ⟨_, Tryz.func119, by kernel_rfl, Tryz.ntmps119, by kernel_rfl⟩
noncomputable def F_impl_SystemOk_l1 (sys : ((List Int) × (List ((List Int) × (List Int))))) : Int → Option (Int ⊕ Bool)
 | v18 =>
  if (decide (v18 < (sys.2.length : Int))) = true then
   if 0 ≤ v18 ∧ v18 < (sys.2.length : Int) then
    (F_impl_RuleOk sys.1 ((sys.2.getD v18.toNat default).1, (sys.2.getD v18.toNat default).2)).bind fun r_1 =>
    if r_1 = true then
     some (.inl (IntKind.i64.wrap (v18 + 1)))
    else
     Option.map Sum.inr (
      some false)
   else none
  else
   Option.map Sum.inr (
    some true)
noncomputable def F_impl_SystemOk (sys : ((List Int) × (List ((List Int) × (List Int))))) : Option Bool :=
 (F_impl_SigOk sys.1).bind fun r =>
 if r = true then
  if (decide (12 < (sys.2.length : Int))) = true then
   some false
  else
   loopC (F_impl_SystemOk_l1 sys) 0
 else
  some false
instance c_impl_SystemOk {sys : ((List Int) × (List ((List Int) × (List Int))))} : HasC (F_impl_SystemOk sys) fun rr => PFun Tryz.prog 119 [D_impl_System sys] (bD rr) := ⟨@fun rr h => by
  delta F_impl_SystemOk at h
  refine fn119.pureL (vcm_sound ?_)
  delta mc119
  refine stp ?_
  refine rC h fun r hr h => ?_
  refine iT h fun hc h => ?_
  refine iF h fun hc h => ?_
  refine m_lW h [2, 4, 18, 19, 20, 21, 22, 23, 24, 25, 26, 27] (fun pp => [(18, .d (iD pp))]) (fun pp => [(1, .obj 46 [.d (slD 1 iD sys.1), .d (slD 2 D_impl_Rule sys.2)])]) ?_
  rintro v18 t1 h hb1
  unfold F_impl_SystemOk_l1 at h
  try dsimp only at h
  refine vcm_sound (stp ?_)
  refine iT h fun hc h => ?_
  refine ndI h fun hp h => ?_
  refine rC h fun r_1 hr_1 h => ?_
  refine iT h fun hc h => ?_
  cases h
  refine ⟨_, rfl, ?_⟩
  refine (Weak.drop 4 (by omega)).trans ?_
  exact wk⟩
def mc179 : MCode :=
 (.seq (.reg (sq 4 [mb false])) (.seq (.seq (.reg (sq 5 [mi 0])) (.block 0 (.loop (.seq (.seq (.reg (sq 6 [mv 5, mv 0, ln 7, bn .lss 6 8])) (.cond (t0 9) .skip (.exit 0))) (.seq (.block 1 (.seq (.reg (sq 12 [mv 0, mv 5, ix 1 12 13, ld 14, mv 1, bn .eql 15 16])) (.cond (t0 17) (.seq (.reg (sq 4 [mb true])) .ret) .skip))) (.reg (sq 10 [mv 5, bi .add 10 1] ++ sq 5 [mv 11]))))))) (.seq (.reg (sq 4 [mb false])) .ret)))
theorem fn179 : MFn Tryz.prog 179 mc179 18 [.tmp 4] := ⟨_, Tryz.func179, by kernel_rfl, Tryz.ntmps179, by kernel_rfl⟩
noncomputable def F_spec_l1Has_l1 (s : (List Int)) (n : Int) : Int → Option (Int ⊕ Bool)
 | i =>
  if (decide (i < (s.length : Int))) = true then
   if 0 ≤ i ∧ i < (s.length : Int) then
    if ((s.getD i.toNat default) == n) = true then
     Option.map Sum.inr (
      some true)
    else
     some (.inl (IntKind.i64.wrap (i + 1)))
   else none
  else
   Option.map Sum.inr (
    some false)
noncomputable def F_spec_l1Has (s : (List Int)) (n : Int) : Option Bool :=
 loopC (F_spec_l1Has_l1 s n) 0
instance c_spec_l1Has {s : (List Int)} {n : Int} : HasC (F_spec_l1Has s n) fun rr => PFun Tryz.prog 179 [(slD 1 iD) s, iD n] (bD rr) := ⟨@fun rr h => by
  delta F_spec_l1Has at h
  refine fn179.pureL (vcm_sound ?_)
  delta mc179
  refine stp ?_
  refine m_lW h [4, 5, 6, 7, 8, 9, 10, 11, 12, 13, 14, 15, 16, 17] (fun pp => [(5, .d (iD pp))]) (fun pp => []) ?_
  rintro i t1 h hb1
  unfold F_spec_l1Has_l1 at h
  try dsimp only at h
  refine vcm_sound (stp ?_)
  exact aut⟩
def mc97 : MCode :=
 (.seq (.reg (sq 2 [bo 2 43 0, bo 3 147 1, mb false])) (.seq (.seq (.reg (sq 6 [la 1 2, fa 0 3, ld 7, cf 154 [6, 8], nt 9, mv 10] ++ sg 11 false 12 [la 1 2, fa 1 3, ld 13, cf 154 [12, 14], nt 15] ++ sq 17 [po 11 16, mv 17] ++ sg 18 false 19 [fa 0 3, ld 19, .ixa 1 (t0 20) (i0 0), ld 21, bi .lss 22 0] ++ sq 24 [po 18 23])) (.cond (t0 24) (.seq (.reg (sq 4 [mb false])) .ret) .skip)) (.seq (.seq (.reg (sq 5 [mi 0])) (.block 0 (.loop (.seq (.seq (.reg (sq 25 [mv 5, fa 1 3, ld 26, ln 27, bn .lss 25 28])) (.cond (t0 29) .skip (.exit 0))) (.seq (.block 1 (.seq (.draw (sq 32 [fa 1 3, ld 32, mv 5, ix 1 33 34, ld 35, bi .lss 36 0, mv 37] ++ sg 38 true 39 [fa 0 3, ld 39, fa 1 3, ld 41, mv 5, ix 1 42 43, ld 44, cf 179 [40, 45], nt 46] ++ sq 48 [pa 38 47]) [[], [0], [], [1, 2], [3], [4], [5], [6], [7, 6], [6], [9, 6], [6], [10, 11, 6], [12, 6], [8, 13, 6, 6], [14, 6], [6, 15]]) (.cond (t0 48) (.seq (.reg (sq 4 [mb false])) .ret) .skip))) (.reg (sq 30 [mv 5, bi .add 30 1] ++ sq 5 [mv 31]))))))) (.seq (.reg (sq 4 [mb true])) .ret))))
theorem fn97 : MFn Tryz.prog 97 mc97 49 [.tmp 4] := ⟨_, Tryz.func97, by kernel_rfl, Tryz.ntmps97, by kernel_rfl⟩
noncomputable def F_spec_RuleOk_l1 (r : ((List Int) × (List Int))) : Int → Option (Int ⊕ Bool)
 | i =>
  if (decide (i < (r.2.length : Int))) = true then
   if 0 ≤ i ∧ i < (r.2.length : Int) then
    if (decide ((r.2.getD i.toNat default) < 0)) = true then
     if 0 ≤ i ∧ i < (r.2.length : Int) then
      (F_spec_l1Has r.1 (r.2.getD i.toNat default)).bind fun r_3 =>
      if r_3 = true then
       some (.inl (IntKind.i64.wrap (i + 1)))
      else
       Option.map Sum.inr (
        some false)
     else none
    else
     some (.inl (IntKind.i64.wrap (i + 1)))
   else none
  else
   Option.map Sum.inr (
    some true)
noncomputable def F_spec_RuleOk (sig : (List Int)) (r : ((List Int) × (List Int))) : Option Bool :=
 (F_spec_TermOk sig r.1).bind fun r_1 =>
 if r_1 = true then
  (F_spec_TermOk sig r.2).bind fun r_2 =>
  if r_2 = true then
   if 0 ≤ 0 ∧ 0 < (r.1.length : Int) then
    if (decide ((r.1.getD 0 default) < 0)) = true then
     some false
    else
     loopC (F_spec_RuleOk_l1 r) 0
   else none
  else
   some false
 else
  some false
instance c_spec_RuleOk {sig : (List Int)} {r : ((List Int) × (List Int))} : HasC (F_spec_RuleOk sig r) fun rr => PFun Tryz.prog 97 [D_impl_Sig sig, D_impl_Rule r] (bD rr) := ⟨@fun rr h => by
  delta F_spec_RuleOk at h
  refine fn97.pureL (vcm_sound ?_)
  delta mc97
  refine stp ?_
  refine rC h fun r_1 hr_1 h => ?_
  refine iT h fun hc h => ?_
  refine rC h fun r_2 hr_2 h => ?_
  refine iT h fun hc h => ?_
  refine ndI h fun hp h => ?_
  refine iF h fun hc h => ?_
  refine m_lW h [4, 5, 25, 26, 27, 28, 29, 30, 31, 32, 33, 34, 35, 36, 37, 38, 39, 40, 41, 42, 43, 44, 45, 46, 47, 48] (fun pp => [(5, .d (iD pp))]) (fun pp => [(2, .obj 43 [.d (slD 1 iD sig)]), (3, .obj 147 [.d (slD 1 iD r.1), .d (slD 1 iD r.2)])]) ?_
  rintro i t1 h hb1
  unfold F_spec_RuleOk_l1 at h
  try dsimp only at h
  refine vcm_sound (stp ?_)
  exact aut⟩
def mc37 : MCode :=
 (.seq (.reg (sq 1 [bo 1 46 0, mb false])) (.seq (.seq (.reg (sq 4 [fa 0 1, la 1 4, cf 96 [5], nt 6, mv 7] ++ sg 8 false 9 [fa 1 1, ld 9, ln 10, bi .gtr 11 12] ++ sq 13 [po 8 12])) (.cond (t0 13) (.seq (.reg (sq 2 [mb false])) .ret) .skip)) (.seq (.seq (.reg (sq 3 [mi 0])) (.block 0 (.loop (.seq (.seq (.reg (sq 14 [mv 3, fa 1 1, ld 15, ln 16, bn .lss 14 17])) (.cond (t0 18) .skip (.exit 0))) (.seq (.block 1 (.seq (.draw (sq 21 [fa 0 1, la 1 21, fa 1 1, ld 23, mv 3, ix 2 24 25, la 2 26, cf 97 [22, 27], nt 28]) [[], [0], [], [2], [], [3, 4], [5], [1, 6], [7]]) (.cond (t0 29) (.seq (.reg (sq 2 [mb false])) .ret) .skip))) (.reg (sq 19 [mv 3, bi .add 19 1] ++ sq 3 [mv 20]))))))) (.seq (.reg (sq 2 [mb true])) .ret))))
theorem fn37 : MFn Tryz.prog 37 mc37 30 [.tmp 2] := ⟨_, Tryz.func37, by kernel_rfl, Tryz.ntmps37, by kernel_rfl⟩
noncomputable def F_spec_SystemOk_l1 (sys : ((List Int) × (List ((List Int) × (List Int))))) : Int → Option (Int ⊕ Bool)
 | i =>
  if (decide (i < (sys.2.length : Int))) = true then
   if 0 ≤ i ∧ i < (sys.2.length : Int) then
    (F_spec_RuleOk sys.1 ((sys.2.getD i.toNat default).1, (sys.2.getD i.toNat default).2)).bind fun r_1 =>
    if r_1 = true then
     some (.inl (IntKind.i64.wrap (i + 1)))
    else
     Option.map Sum.inr (
      some false)
   else none
  else
   Option.map Sum.inr (
    some true)
noncomputable def F_spec_SystemOk (sys : ((List Int) × (List ((List Int) × (List Int))))) : Option Bool :=
 (F_spec_SigOk sys.1).bind fun r =>
 if r = true then
  if (decide (12 < (sys.2.length : Int))) = true then
   some false
  else
   loopC (F_spec_SystemOk_l1 sys) 0
 else
  some false
instance c_spec_SystemOk {sys : ((List Int) × (List ((List Int) × (List Int))))} : HasC (F_spec_SystemOk sys) fun rr => PFun Tryz.prog 37 [D_impl_System sys] (bD rr) := ⟨@fun rr h => by
  delta F_spec_SystemOk at h
  refine fn37.pureL (vcm_sound ?_)
  delta mc37
  refine stp ?_
  refine rC h fun r hr h => ?_
  refine iT h fun hc h => ?_
  refine iF h fun hc h => ?_
  refine m_lW h [2, 3, 14, 15, 16, 17, 18, 19, 20, 21, 22, 23, 24, 25, 26, 27, 28, 29] (fun pp => [(3, .d (iD pp))]) (fun pp => [(1, .obj 46 [.d (slD 1 iD sys.1), .d (slD 2 D_impl_Rule sys.2)])]) ?_
  rintro i t1 h hb1
  unfold F_spec_SystemOk_l1 at h
  try dsimp only at h
  refine vcm_sound (stp ?_)
  exact aut⟩
end Go.Proofs.YtklfjpilhbkekaaGreat
namespace Go.Proofs.YtklfjpilhbkekaaGreat
open Go Abx
attribute [local irreducible] vcm vgo vdr vrun vdrun MWp GhostQ BrC BrO BrG BrD BrH AmbO callR callD drQ EnvLe StoLe
set_option maxHeartbeats 4000000
def D_impl_Subst (x : (List (List Int))) : D := .agg [(slD 1 (slD 1 iD)) x]
instance : Cel D_impl_Subst 1 := ⟨fun _ => rfl⟩
attribute [go_sem] D_impl_Subst
def mc159 : MCode :=
 (.seq (.reg (sq 3 [bo 3 43 0] ++ sq 6 [.mv (.const (.slice none 0 0))])) (.seq (.reg (sq 7 [mv 1, mv 2, la 1 3, mv 1, mv 2, cf 195 [9, 10, 11], .slc (t0 7) 1 (some (t0 8)) (some (t0 12)) none] ++ sq 6 [mv 13])) .ret))
theorem fn159 : MFn Tryz.prog 159 mc159 14 [.tmp 6] := ⟨_, Tryz.func159, by kernel_rfl, Tryz.ntmps159, by kernel_rfl⟩
noncomputable def F_impl_subAt (sig : (List Int)) (t : (List Int)) (at' : Int) : Option (List Int) :=
 (F_impl_endAt sig t at').bind fun r =>
 if 0 ≤ at' ∧ at' ≤ r ∧ r ≤ (t.length : Int) then
  some ((t.take r.toNat).drop at'.toNat)
 else none
instance c_impl_subAt {sig : (List Int)} {t : (List Int)} {at' : Int} : HasC (F_impl_subAt sig t at') fun rr => PFun Tryz.prog 159 [D_impl_Sig sig, (slD 1 iD) t, iD at'] ((slD 1 iD) rr) := ⟨@fun rr h => by
  delta F_impl_subAt at h
  refine fn159.pureL (vcm_sound ?_)
  delta mc159
  refine stp ?_
  exact aut⟩
def mc128 : MCode :=
 (.seq (.reg (sq 4 [mb false])) (.seq (.seq (.reg (sq 6 [mv 0, ln 6, mv 1, ln 8, bn .neq 7 9])) (.cond (t0 10) (.seq (.reg (sq 4 [mb false])) .ret) .skip)) (.seq (.seq (.reg (sq 11 [mv 0, ln 11, mi 0])) (.block 0 (.loop (.seq (.reg (sq 14 [bn .lss 13 12])) (.seq (.cond (t0 14) .skip (.exit 0)) (.seq (.block 1 (.seq (.reg (sq 15 [mv 13] ++ sq 5 [mv 15])) (.seq (.draw (sq 16 [mv 0, mv 5, ix 1 16 17, ld 18, mv 1, mv 5, ix 1 20 21, ld 22, bn .neq 19 23]) [[], [], [0, 1], [2], [], [], [4, 5], [6], [3, 7]]) (.cond (t0 24) (.seq (.reg (sq 4 [mb false])) .ret) .skip)))) (.reg (sq 25 [bi .add 13 1] ++ sq 13 [mv 25])))))))) (.seq (.reg (sq 4 [mb true])) .ret))))
theorem fn128 : MFn Tryz.prog 128 mc128 26 [.tmp 4] := ⟨_, Tryz.func128, by kernel_rfl, Tryz.ntmps128, by kernel_rfl⟩
noncomputable def F_slices_Equal_int64_int64_l1 (s1 : (List Int)) (s2 : (List Int)) : Int → Option (Int ⊕ Bool)
 | v13 =>
  if (decide (v13 < (s1.length : Int))) = true then
   if 0 ≤ v13 ∧ v13 < (s1.length : Int) then
    if 0 ≤ v13 ∧ v13 < (s2.length : Int) then
     if ((s1.getD v13.toNat default) != (s2.getD v13.toNat default)) = true then
      Option.map Sum.inr (
       some false)
     else
      some (.inl (IntKind.i64.wrap (v13 + 1)))
    else none
   else none
  else
   Option.map Sum.inr (
    some true)
noncomputable def F_slices_Equal_int64_int64 (s1 : (List Int)) (s2 : (List Int)) : Option Bool :=
 if ((s1.length : Int) != (s2.length : Int)) = true then
  some false
 else
  loopC (F_slices_Equal_int64_int64_l1 s1 s2) 0
instance c_slices_Equal_int64_int64 {s1 : (List Int)} {s2 : (List Int)} : HasC (F_slices_Equal_int64_int64 s1 s2) fun rr => PFun Tryz.prog 128 [(slD 1 iD) s1, (slD 1 iD) s2] (bD rr) := ⟨@fun rr h => by
  delta F_slices_Equal_int64_int64 at h
  refine fn128.pureL (vcm_sound ?_)
  delta mc128
  refine stp ?_
  refine iF h fun hc h => ?_
  refine m_lW h [4, 5, 13, 14, 15, 16, 17, 18, 19, 20, 21, 22, 23, 24, 25] (fun pp => [(13, .d (iD pp))]) (fun pp => []) ?_
  rintro v13 t1 h hb1
  unfold F_slices_Equal_int64_int64_l1 at h
  try dsimp only at h
  refine vcm_sound (stp ?_)
  exact aut⟩
def mc158 : MCode :=
 (.seq (.reg (sq 4 [bo 4 43 0] ++ sq 7 [bo 7 204 3, .alloc 8 204 [.sl 0 (some true) [], .sl 0 (some true) [], .sl 0 (some true) [], .sl 0 (some true) [], .sl 0 (some true) [], .sl 0 (some true) [], .sl 0 (some true) [], .sl 0 (some true) [], .sl 0 (some true) [], .sl 0 (some true) [], .sl 0 (some true) [], .sl 0 (some true) [], .sl 0 (some true) [], .sl 0 (some true) [], .sl 0 (some true) [], .sl 0 (some true) [], .sl 0 (some true) [], .sl 0 (some true) [], .sl 0 (some true) [], .sl 0 (some true) [], .sl 0 (some true) [], .sl 0 (some true) [], .sl 0 (some true) [], .sl 0 (some true) []], mb false])) (.seq (.reg (sq 10 [mi 0])) (.seq (.seq (.reg (sq 14 [mv 1, ln 14, mi 0])) (.block 0 (.loop (.seq (.reg (sq 17 [bn .lss 16 15])) (.seq (.cond (t0 17) .skip (.exit 0)) (.seq (.block 1 (.seq (.reg (sq 18 [ix 1 14 16, ld 18] ++ sq 12 [mv 19])) (.seq (.seq (.reg (sq 20 [mv 10, mv 2, ln 21, bn .geq 20 22])) (.cond (t0 23) (.seq (.reg (sq 24 [la 24 7] ++ s0 (sr 24 8 24) ++ sq 9 [mb false])) .ret) .skip)) (.seq (.seq (.reg (sq 25 [mv 12, bi .geq 25 0])) (.cond (t0 26) (.seq (.seq (.reg (sq 27 [mv 2, mv 10, ix 1 27 28, ld 29, mv 12, bn .neq 30 31])) (.cond (t0 32) (.seq (.reg (sq 33 [la 24 7] ++ s0 (sr 24 8 33) ++ sq 9 [mb false])) .ret) .skip)) (.seq (.reg (sq 34 [mv 10, bi .add 34 1] ++ sq 10 [mv 35])) (.exit 1))) .skip)) (.seq (.reg (sq 36 [la 1 4, mv 2, mv 10, cf 159 [36, 37, 38]] ++ sq 13 [mv 39])) (.seq (.seq (.reg (sq 40 [mv 12, .bin .sub (i0 (-1)) (t0 40), .ixaA 1 24 (t0 7) (t0 41), ld 42, .eqnil false (t0 43)])) (.cond (t0 44) (.reg (sq 45 [mv 12, .bin .sub (i0 (-1)) (t0 45), mv 13, .ixaA 1 24 (t0 7) (t0 46)] ++ s0 (sr 1 48 47))) (.seq (.reg (sq 49 [mv 12, .bin .sub (i0 (-1)) (t0 49), .ixaA 1 24 (t0 7) (t0 50), ld 51, mv 13, cf 128 [52, 53], nt 54])) (.cond (t0 55) (.seq (.reg (sq 56 [la 24 7] ++ s0 (sr 24 8 56) ++ sq 9 [mb false])) .ret) .skip)))) (.reg (sq 57 [mv 10, mv 13, ln 58, bn .add 57 59] ++ sq 10 [mv 60])))))))) (.reg (sq 61 [bi .add 16 1] ++ sq 16 [mv 61])))))))) (.seq (.reg (sq 62 [la 24 7] ++ s0 (sr 24 8 62) ++ sq 9 [mb true])) .ret))))
theorem fn158 : MFn Tryz.prog 158 mc158 63 [.cell 8 24 true, .tmp 9] := ⟨_, Tryz.func158, by kernel_rfl, Tryz.ntmps158, by kernel_rfl⟩
noncomputable def F_impl_matchInto_l1 (sig : (List Int)) (p : (List Int)) (t : (List Int)) : (Int × Int × (List (List Int))) → Option ((Int × Int × (List (List Int))) ⊕ ((List (List Int)) × Bool))
 | (at', v16, b_1) =>
  if (decide (v16 < (p.length : Int))) = true then
   if 0 ≤ v16 ∧ v16 < (p.length : Int) then
    if (decide ((t.length : Int) ≤ at')) = true then
     if b_1.length = 24 then
      if b_1.length = 24 then
       Option.map Sum.inr (
        some (b_1, false))
      else none
     else none
    else
     if (decide (0 ≤ (p.getD v16.toNat default))) = true then
      if 0 ≤ at' ∧ at' < (t.length : Int) then
       if ((t.getD at'.toNat default) != (p.getD v16.toNat default)) = true then
        if b_1.length = 24 then
         if b_1.length = 24 then
          Option.map Sum.inr (
           some (b_1, false))
         else none
        else none
       else
        some (.inl ((IntKind.i64.wrap (at' + 1)), (IntKind.i64.wrap (v16 + 1)), b_1))
      else none
     else
      (F_impl_subAt sig t at').bind fun r =>
      if 0 ≤ (IntKind.i64.wrap ((-1) - (p.getD v16.toNat default))) ∧ (IntKind.i64.wrap ((-1) - (p.getD v16.toNat default))) < 24 ∧ (IntKind.i64.wrap ((-1) - (p.getD v16.toNat default))) < (b_1.length : Int) then
       if (b_1.getD (IntKind.i64.wrap ((-1) - (p.getD v16.toNat default))).toNat default).isEmpty = true then
        if 0 ≤ (IntKind.i64.wrap ((-1) - (p.getD v16.toNat default))) ∧ (IntKind.i64.wrap ((-1) - (p.getD v16.toNat default))) < 24 ∧ (IntKind.i64.wrap ((-1) - (p.getD v16.toNat default))) < (b_1.length : Int) then
         if 0 < r.length then
          some (.inl ((IntKind.i64.wrap (at' + (r.length : Int))), (IntKind.i64.wrap (v16 + 1)), (b_1.set (IntKind.i64.wrap ((-1) - (p.getD v16.toNat default))).toNat r)))
         else none
        else none
       else
        if 0 ≤ (IntKind.i64.wrap ((-1) - (p.getD v16.toNat default))) ∧ (IntKind.i64.wrap ((-1) - (p.getD v16.toNat default))) < 24 ∧ (IntKind.i64.wrap ((-1) - (p.getD v16.toNat default))) < (b_1.length : Int) then
         (F_slices_Equal_int64_int64 (b_1.getD (IntKind.i64.wrap ((-1) - (p.getD v16.toNat default))).toNat default) r).bind fun r_1 =>
         if r_1 = true then
          some (.inl ((IntKind.i64.wrap (at' + (r.length : Int))), (IntKind.i64.wrap (v16 + 1)), b_1))
         else
          if b_1.length = 24 then
           if b_1.length = 24 then
            Option.map Sum.inr (
             some (b_1, false))
           else none
          else none
        else none
      else none
   else none
  else
   Option.map Sum.inr (
    if b_1.length = 24 then
     if b_1.length = 24 then
      some (b_1, true)
     else none
    else none)
noncomputable def F_impl_matchInto (sig : (List Int)) (p : (List Int)) (t : (List Int)) (b : (List (List Int))) : Option ((List (List Int)) × Bool) :=
 loopC (F_impl_matchInto_l1 sig p t) (0, 0, b)
instance c_impl_matchInto {sig : (List Int)} {p : (List Int)} {t : (List Int)} {b : (List (List Int))} : HasC (F_impl_matchInto sig p t b) fun rr => PFunN Tryz.prog 158 [D_impl_Sig sig, (slD 1 iD) p, (slD 1 iD) t, (arD (nzD 1 iD)) b] [(arD (nzD 1 iD)) rr.1, bD rr.2] := ⟨@fun rr h => by
  delta F_impl_matchInto at h
  refine fn158.pureLN (vcm_sound ?_)
  delta mc158
  refine stp ?_
  refine m_lW h [9, 10, 12, 13, 16, 17, 18, 19, 20, 21, 22, 23, 24, 25, 26, 27, 28, 29, 30, 31, 32, 33, 34, 35, 36, 37, 38, 39, 40, 41, 42, 43, 44, 45, 46, 47, 48, 49, 50, 51, 52, 53, 54, 55, 56, 57, 58, 59, 60, 61] (fun pp => [(10, .d (iD pp.1)), (16, .d (iD pp.2.1))]) (fun pp => [(4, .obj 43 [.d (slD 1 iD sig)]), (7, .obj 204 (List.map (aD (nzD 1 iD)) pp.2.2)), (8, .obj 204 [.d (.sl 0 (some true) []), .d (.sl 0 (some true) []), .d (.sl 0 (some true) []), .d (.sl 0 (some true) []), .d (.sl 0 (some true) []), .d (.sl 0 (some true) []), .d (.sl 0 (some true) []), .d (.sl 0 (some true) []), .d (.sl 0 (some true) []), .d (.sl 0 (some true) []), .d (.sl 0 (some true) []), .d (.sl 0 (some true) []), .d (.sl 0 (some true) []), .d (.sl 0 (some true) []), .d (.sl 0 (some true) []), .d (.sl 0 (some true) []), .d (.sl 0 (some true) []), .d (.sl 0 (some true) []), .d (.sl 0 (some true) []), .d (.sl 0 (some true) []), .d (.sl 0 (some true) []), .d (.sl 0 (some true) []), .d (.sl 0 (some true) []), .d (.sl 0 (some true) [])])]) ?_
  rintro ⟨at', v16, b_1⟩ t1 h hb1
  unfold F_impl_matchInto_l1 at h
  try dsimp only at h
  refine vcm_sound (stp ?_)
  refine iT h fun hc h => ?_
  refine ndI h fun hp h => ?_
  refine iF h fun hc h => ?_
  refine iF h fun hc h => ?_
  refine rC h fun r hr h => ?_
  refine ndI h fun hp h => ?_
  refine iT h fun hc h => ?_
  refine ndI h fun hp h => ?_
  refine ndI h fun hp h => ?_
  cases h
  refine ⟨_, rfl, ?_⟩
  refine (Weak.leS (s' := [(4, .obj 43 [.d (slD 1 iD sig)]), (7, .obj 204 (List.map (aD (nzD 1 iD)) (b_1.set (IntKind.i64.wrap ((-1) - (p.getD v16.toNat default))).toNat r))), (8, .obj 204 [.d (.sl 0 (some true) []), .d (.sl 0 (some true) []), .d (.sl 0 (some true) []), .d (.sl 0 (some true) []), .d (.sl 0 (some true) []), .d (.sl 0 (some true) []), .d (.sl 0 (some true) []), .d (.sl 0 (some true) []), .d (.sl 0 (some true) []), .d (.sl 0 (some true) []), .d (.sl 0 (some true) []), .d (.sl 0 (some true) []), .d (.sl 0 (some true) []), .d (.sl 0 (some true) []), .d (.sl 0 (some true) []), .d (.sl 0 (some true) []), .d (.sl 0 (some true) []), .d (.sl 0 (some true) []), .d (.sl 0 (some true) []), .d (.sl 0 (some true) []), .d (.sl 0 (some true) []), .d (.sl 0 (some true) []), .d (.sl 0 (some true) []), .d (.sl 0 (some true) [])])]) (EnvLe.refl _) (by exact (stoC (ObLe.refl _) (stoC ⟨rfl, lob_set' (by omega) (by first | exact (le_nz_t (by omega)).2 trivial | exact (le_nzown_t (by omega)).2 trivial)⟩ (stoC (ObLe.refl _) stoN))))).trans ?_
  exact wk⟩
def mc160 : MCode :=
 (.seq (.reg (sq 1 [bo 1 204 0, .alloc 2 48 [.sl 0 (some true) []]])) (.seq (.reg (sq 3 [.slcA (t0 1) 1 24 none none none, .build [.sl 0 (some true) []] [(0, 1, (t0 3))]] ++ s0 (sr 1 2 4))) .ret))
theorem fn160 : MFn Tryz.prog 160 mc160 5 [.cell 2 1 true] := ⟨_, Tryz.func160, by kernel_rfl, Tryz.ntmps160, by kernel_rfl⟩
noncomputable def F_impl_bindings_subst (b : (List (List Int))) : Option (List (List Int)) :=
 if b.length = 24 then
  some b
 else none
instance c_impl_bindings_subst {b : (List (List Int))} : HasC (F_impl_bindings_subst b) fun rr => PFun Tryz.prog 160 [(arD (nzD 1 iD)) b] (D_impl_Subst rr) := ⟨@fun rr h => by
  delta F_impl_bindings_subst at h
  refine fn160.pureD (vcm_sound ?_)
  delta mc160
  refine stp ?_
  refine ndI h fun hp h => ?_
  cases h
  exact ⟨_, _, (Done.frzL 1 (nzD 1 iD) b (by omega) rfl), frd⟩⟩
def mc285 : MCode :=
 (.seq (.reg (sq 2 [.mv (.const (.slice none 0 0))])) (.seq (.reg (sq 3 [mv 0, .bin .sub (i0 (-1)) (t0 3), .bsl 5 2 1 [(t0 4)]] ++ sq 2 [mv 5])) .ret))
theorem fn285 : MFn Tryz.prog 285 mc285 6 [.tmp 2] := ⟨_, Tryz.func285, by kernel_rfl, Tryz.ntmps285, by kernel_rfl⟩
noncomputable def F_impl_variable (i : Int) : Option (List Int) :=
 some [(IntKind.i64.wrap ((-1) - i))]
instance c_impl_variable {i : Int} : HasC (F_impl_variable i) fun rr => PFun Tryz.prog 285 [iD i] ((slD 1 iD) rr) := ⟨@fun rr h => by
  delta F_impl_variable at h
  refine fn285.pureL (vcm_sound ?_)
  delta mc285
  refine stp ?_
  exact aut⟩
def mc121 : MCode :=
 (.seq (.reg (sq 2 [.mv (.const (.slice none 0 0))])) (.seq (.seq (.reg (sq 3 [mv 0, .eqnil false (t0 3)])) (.cond (t0 4) (.seq (.reg (sq 2 [.mv (.const (.slice none 0 0))])) .ret) .skip)) (.seq (.reg (sq 5 [.bsl 5 2 1 [], mv 0, ap 7 2 1 8 5 6] ++ sq 2 [mv 7])) .ret)))
theorem fn121 : MFn Tryz.prog 121 mc121 8 [.tmp 2] := ⟨_, Tryz.func121, by kernel_rfl, Tryz.ntmps121, by kernel_rfl⟩
noncomputable def F_slices_Clone_int64_int64 (s : (List Int)) : Option (List Int) :=
 ambO s (
  some []) (
  if (0 + s.length) * 8 ≤ 140737488355328 then
   some s
  else none)
instance c_slices_Clone_int64_int64 {s : (List Int)} : HasC (F_slices_Clone_int64_int64 s) fun rr => PFun Tryz.prog 121 [(slD 1 iD) s] ((slD 1 iD) rr) := ⟨@fun rr h => by
  delta F_slices_Clone_int64_int64 at h
  refine fn121.pureL (vcm_sound ?_)
  delta mc121
  refine stp ?_
  have h1 := amb_some h
  refine AmbO.of (fun he => ?_) ?_
  · replace h := h1.1 (by simpa using he)
    clear h1
    refine stp ?_
    exact aut
  · replace h := h1.2
    clear h1
    refine stp ?_
    exact aut⟩
def mc280 : MCode :=
 (.seq (.reg (sq 1 [bo 1 48 0, .alloc 2 48 [.sl 0 (some true) []]])) (.seq (.reg (sq 3 [.alloc 3 48 [.sl 0 (some true) []]])) (.seq (.seq (.reg (sq 6 [fa 0 1, ld 6, ln 7, mi 0])) (.block 0 (.loop (.seq (.reg (sq 10 [bn .lss 9 8])) (.seq (.cond (t0 10) .skip (.exit 0)) (.seq (.block 1 (.seq (.reg (sq 11 [mv 9, ix 1 7 9, ld 12] ++ sq 4 [mv 11, mv 13])) (.seq (.seq (.reg (sq 14 [mv 5, ln 14, bi .eql 15 0, mv 16] ++ sg 17 false 18 [mv 5, mv 4, cf 285 [19], cf 128 [18, 20]] ++ sq 22 [po 17 21])) (.cond (t0 22) (.exit 1) .skip)) (.seq (.block 2 (.loop (.seq (.seq (.reg (sq 23 [fa 0 3, ld 23, ln 24, mv 4, bn .lss 25 26])) (.cond (t0 27) .skip (.exit 2))) (.block 3 (.reg (sq 28 [fa 0 3, ld 28, .bsl 30 22 1 [(.const (.slice none 0 0))], ap 31 22 1 24 29 30, fa 0 3] ++ s0 (sr 1 32 31))))))) (.draw (sq 33 [fa 0 3, ld 33, mv 5, cf 121 [35], .bsl 37 22 1 [(t0 36)], ap 38 22 1 24 34 37, fa 0 3] ++ s0 (sr 1 39 38)) [[], [0], [], [2], [3], [1, 4, 3], [0, 1, 2, 3, 4, 5], [6, 5, 5, 0, 1, 2, 3, 4, 5]]))))) (.reg (sq 40 [bi .add 9 1] ++ sq 9 [mv 40])))))))) (.seq (.reg (sq 41 [la 1 3] ++ s0 (sr 1 2 41))) .ret))))
theorem fn280 : MFn Tryz.prog 280 mc280 42 [.cell 2 1 true] := ⟨_, Tryz.func280, by kernel_rfl, Tryz.ntmps280, by kernel_rfl⟩
noncomputable def F_impl_plain_l2 (s : (List (List Int))) (v9 : Int) : (List (List Int)) → Option ((List (List Int)) ⊕ ((Int × (List (List Int))) ⊕ (List (List Int))))
 | out_1 =>
  if (decide ((out_1.length : Int) < v9)) = true then
   if (out_1.length + 1) * 24 ≤ 140737488355328 then
    some (.inl (out_1 ++ [[]]))
   else none
  else
   Option.map Sum.inr (
    (F_slices_Clone_int64_int64 (s.getD v9.toNat default)).bind fun r_2 =>
    if (out_1.length + 1) * 24 ≤ 140737488355328 then
     some (.inl ((IntKind.i64.wrap (v9 + 1)), (out_1 ++ [r_2])))
    else none)
noncomputable def F_impl_plain_l1 (s : (List (List Int))) : (Int × (List (List Int))) → Option ((Int × (List (List Int))) ⊕ (List (List Int)))
 | (v9, out) =>
  if (decide (v9 < (s.length : Int))) = true then
   if 0 ≤ v9 ∧ v9 < (s.length : Int) then
    if (((s.getD v9.toNat default).length : Int) == 0) = true then
     some (.inl ((IntKind.i64.wrap (v9 + 1)), out))
    else
     (F_impl_variable v9).bind fun r =>
     (F_slices_Equal_int64_int64 (s.getD v9.toNat default) r).bind fun r_1 =>
     if r_1 = true then
      some (.inl ((IntKind.i64.wrap (v9 + 1)), out))
     else
      loopC (F_impl_plain_l2 s v9) out
   else none
  else
   Option.map Sum.inr (
    some out)
noncomputable def F_impl_plain (s : (List (List Int))) : Option (List (List Int)) :=
 loopC (F_impl_plain_l1 s) (0, [])
instance c_impl_plain {s : (List (List Int))} : HasC (F_impl_plain s) fun rr => PFun Tryz.prog 280 [D_impl_Subst s] (D_impl_Subst rr) := ⟨@fun rr h => by
  delta F_impl_plain at h
  refine fn280.pureL (vcm_sound ?_)
  delta mc280
  refine stp ?_
  refine m_loopF h [4, 5, 9, 10, 11, 12, 13, 14, 15, 16, 17, 18, 19, 20, 21, 22, 23, 24, 25, 26, 27, 28, 29, 30, 31, 32, 33, 34, 35, 36, 37, 38, 39, 40] (fun pp => [(9, .d (iD pp.1))]) (fun pp => [(1, .obj 48 [.d (slD 1 (slD 1 iD) s)]), (2, .obj 48 [.d (.sl 0 (some true) [])]), (3, .obj 48 [.own 1 38 (List.map (slD 1 iD) pp.2)]), (38, .tok 22 1 pp.2.length)]) ?_ ?_
  · try dsimp only
    refine (Weak.thawCell 3 0 38 22 1 rfl rfl rfl).trans ?_
    exact wk
  rintro ⟨v9, out⟩ t1 h hb1
  unfold F_impl_plain_l1 at h
  try dsimp only at h
  refine vcm_sound (stp ?_)
  refine iT h fun hc h => ?_
  refine ndI h fun hp h => ?_
  refine iF h fun hc h => ?_
  refine rC h fun r hr h => ?_
  refine rC h fun r_1 hr_1 h => ?_
  refine iF h fun hc h => ?_
  refine m_lW h [23, 24, 25, 26, 27, 28, 29, 30, 31, 32] (fun pp => []) (fun pp => [(1, .obj 48 [.d (slD 1 (slD 1 iD) s)]), (2, .obj 48 [.d (.sl 0 (some true) [])]), (3, .obj 48 [.own 1 38 (List.map (slD 1 iD) pp)]), (38, .tok 22 1 pp.length)]) ?_
  rintro out_1 t2 h hb2
  unfold F_impl_plain_l2 at h
  try dsimp only at h
  refine vcm_sound (stp ?_)
  refine it h (fun hc h => ?_) fun hc h => ?_
  · refine ndI h fun hp h => ?_
    cases h
    refine ⟨_, rfl, ?_⟩
    refine (Weak.drop 30 (by omega)).trans ?_
    exact wk
  replace h := inr_some h hb2
  refine dC h fun r_2 hr_2 h => ?_
  refine ndI h fun hp h => ?_
  refine drQ_of (by kernel_rfl) (stp ?_)
  cases h
  refine ⟨_, rfl, ?_⟩
  refine (Weak.drop 37 (by omega)).trans ?_
  exact wk⟩
def mc261 : MCode :=
 (.seq (.reg (sq 3 [bo 3 43 0] ++ sq 6 [.alloc 6 48 [.sl 0 (some true) []], mb false])) (.seq (.reg (sq 11 [la 1 3, mv 1, mv 2, .build [.sl 0 (some true) [], .sl 0 (some true) [], .sl 0 (some true) [], .sl 0 (some true) [], .sl 0 (some true) [], .sl 0 (some true) [], .sl 0 (some true) [], .sl 0 (some true) [], .sl 0 (some true) [], .sl 0 (some true) [], .sl 0 (some true) [], .sl 0 (some true) [], .sl 0 (some true) [], .sl 0 (some true) [], .sl 0 (some true) [], .sl 0 (some true) [], .sl 0 (some true) [], .sl 0 (some true) [], .sl 0 (some true) [], .sl 0 (some true) [], .sl 0 (some true) [], .sl 0 (some true) [], .sl 0 (some true) [], .sl 0 (some true) []] [], cf 158 [11, 12, 13, 14]] ++ sq 10 [mv 15] ++ sq 16 [ex 10 0, ex 10 1] ++ sq 8 [.alloc 8 204 [.sl 0 (some true) [], .sl 0 (some true) [], .sl 0 (some true) [], .sl 0 (some true) [], .sl 0 (some true) [], .sl 0 (some true) [], .sl 0 (some true) [], .sl 0 (some true) [], .sl 0 (some true) [], .sl 0 (some true) [], .sl 0 (some true) [], .sl 0 (some true) [], .sl 0 (some true) [], .sl 0 (some true) [], .sl 0 (some true) [], .sl 0 (some true) [], .sl 0 (some true) [], .sl 0 (some true) [], .sl 0 (some true) [], .sl 0 (some true) [], .sl 0 (some true) [], .sl 0 (some true) [], .sl 0 (some true) [], .sl 0 (some true) []]] ++ s0 (sr 24 8 16) ++ sq 9 [mv 17])) (.seq (.seq (.reg (sq 18 [mv 9, nt 18])) (.cond (t0 19) (.seq (.reg (sq 20 [.build [.sl 0 (some true) []] []] ++ s0 (sr 1 6 20) ++ sq 7 [mb false])) .ret) .skip)) (.seq (.reg (sq 21 [la 24 8, cf 160 [21], cf 280 [22]] ++ s0 (sr 1 6 23) ++ sq 7 [mb true])) .ret))))
theorem fn261 : MFn Tryz.prog 261 mc261 24 [.cell 6 1 true, .tmp 7] := ⟨_, Tryz.func261, by kernel_rfl, Tryz.ntmps261, by kernel_rfl⟩
noncomputable def F_impl_match (sig : (List Int)) (p : (List Int)) (t : (List Int)) : Option ((List (List Int)) × Bool) :=
 (F_impl_matchInto sig p t (List.replicate 24 [])).bind fun r =>
 if r.1.length = 24 then
  if r.2 = true then
   if r.1.length = 24 then
    (F_impl_bindings_subst r.1).bind fun r_1 =>
    (F_impl_plain r_1).bind fun r_2 =>
    some (r_2, true)
   else none
  else
   some ([], false)
 else none
instance c_impl_match {sig : (List Int)} {p : (List Int)} {t : (List Int)} : HasC (F_impl_match sig p t) fun rr => PFunN Tryz.prog 261 [D_impl_Sig sig, (slD 1 iD) p, (slD 1 iD) t] [D_impl_Subst rr.1, bD rr.2] := ⟨@fun rr h => by
  delta F_impl_match at h
  refine fn261.pureLN (vcm_sound ?_)
  delta mc261
  refine stp ?_
  exact aut⟩
def mc91 : MCode :=
 (.seq (.reg (sq 2 [.mv (.const (.slice none 0 0))])) (.seq (.reg (sq 3 [.bsl 3 2 1 [], mv 0, ap 5 2 1 8 3 4] ++ sq 2 [mv 5])) .ret))
theorem fn91 : MFn Tryz.prog 91 mc91 6 [.tmp 2] := ⟨_, Tryz.func91, by kernel_rfl, Tryz.ntmps91, by kernel_rfl⟩
noncomputable def F_spec_l1Copy (l : (List Int)) : Option (List Int) :=
 if (0 + l.length) * 8 ≤ 140737488355328 then
  some l
 else none
instance c_spec_l1Copy {l : (List Int)} : HasC (F_spec_l1Copy l) fun rr => ACalls Tryz.prog 91 [.d (slD 1 iD l)] [] 0 fun xx ss => xx = .own 1 3 (List.map iD rr) ∧ ss = [(3, .tok 2 1 rr.length)] := ⟨@fun rr h => by
  delta F_spec_l1Copy at h
  refine fn91.callsO (vcm_sound ?_)
  delta mc91
  refine stp ?_
  exact aut⟩
def mc163 : MCode :=
 (.seq (.reg (sq 3 [bo 3 43 0] ++ sq 6 [.mv (.const (.slice none 0 0))])) (.seq (.reg (sq 7 [mv 1, mv 2, la 1 3, mv 1, mv 2, cf 187 [9, 10, 11], .slc (t0 7) 1 (some (t0 8)) (some (t0 12)) none, cf 91 [13]] ++ sq 6 [mv 14])) .ret))
theorem fn163 : MFn Tryz.prog 163 mc163 15 [.tmp 6] := ⟨_, Tryz.func163, by kernel_rfl, Tryz.ntmps163, by kernel_rfl⟩
noncomputable def F_spec_l1Sub (sig : (List Int)) (t : (List Int)) (at' : Int) : Option (List Int) :=
 (F_spec_l1End sig t at').bind fun r =>
 if 0 ≤ at' ∧ at' ≤ r ∧ r ≤ (t.length : Int) then
  (F_spec_l1Copy ((t.take r.toNat).drop at'.toNat)).bind fun r_1 =>
  some r_1
 else none
instance c_spec_l1Sub {sig : (List Int)} {t : (List Int)} {at' : Int} : HasC (F_spec_l1Sub sig t at') fun rr => PFun Tryz.prog 163 [D_impl_Sig sig, (slD 1 iD) t, iD at'] ((slD 1 iD) rr) := ⟨@fun rr h => by
  delta F_spec_l1Sub at h
  refine fn163.pureL (vcm_sound ?_)
  delta mc163
  refine stp ?_
  refine rC h fun r hr h => ?_
  refine ndI h fun hp h => ?_
  refine rCo [] [(3, 14)] h fun r_1 hr_1 h => ?_
  exact aut⟩
def mc36 : MCode :=
 (.seq (.reg (sq 4 [mb false])) (.seq (.seq (.reg (sq 6 [mv 0, ln 6, mv 1, ln 8, bn .neq 7 9])) (.cond (t0 10) (.seq (.reg (sq 4 [mb false])) .ret) .skip)) (.seq (.seq (.reg (sq 5 [mi 0])) (.block 0 (.loop (.seq (.seq (.reg (sq 11 [mv 5, mv 0, ln 12, bn .lss 11 13])) (.cond (t0 14) .skip (.exit 0))) (.seq (.block 1 (.seq (.draw (sq 17 [mv 0, mv 5, ix 1 17 18, ld 19, mv 1, mv 5, ix 1 21 22, ld 23, bn .neq 20 24]) [[], [], [0, 1], [2], [], [], [4, 5], [6], [3, 7]]) (.cond (t0 25) (.seq (.reg (sq 4 [mb false])) .ret) .skip))) (.reg (sq 15 [mv 5, bi .add 15 1] ++ sq 5 [mv 16]))))))) (.seq (.reg (sq 4 [mb true])) .ret))))
theorem fn36 : MFn Tryz.prog 36 mc36 26 [.tmp 4] := ⟨_, Tryz.func36, by kernel_rfl, Tryz.ntmps36, by kernel_rfl⟩
noncomputable def F_spec_SameTerm_l1 (a : (List Int)) (b : (List Int)) : Int → Option (Int ⊕ Bool)
 | i =>
  if (decide (i < (a.length : Int))) = true then
   if 0 ≤ i ∧ i < (a.length : Int) then
    if 0 ≤ i ∧ i < (b.length : Int) then
     if ((a.getD i.toNat default) != (b.getD i.toNat default)) = true then
      Option.map Sum.inr (
       some false)
     else
      some (.inl (IntKind.i64.wrap (i + 1)))
    else none
   else none
  else
   Option.map Sum.inr (
    some true)
noncomputable def F_spec_SameTerm (a : (List Int)) (b : (List Int)) : Option Bool :=
 if ((a.length : Int) != (b.length : Int)) = true then
  some false
 else
  loopC (F_spec_SameTerm_l1 a b) 0
instance c_spec_SameTerm {a : (List Int)} {b : (List Int)} : HasC (F_spec_SameTerm a b) fun rr => PFun Tryz.prog 36 [(slD 1 iD) a, (slD 1 iD) b] (bD rr) := ⟨@fun rr h => by
  delta F_spec_SameTerm at h
  refine fn36.pureL (vcm_sound ?_)
  delta mc36
  refine stp ?_
  refine iF h fun hc h => ?_
  refine m_lW h [4, 5, 11, 12, 13, 14, 15, 16, 17, 18, 19, 20, 21, 22, 23, 24, 25] (fun pp => [(5, .d (iD pp))]) (fun pp => []) ?_
  rintro i t1 h hb1
  unfold F_spec_SameTerm_l1 at h
  try dsimp only at h
  refine vcm_sound (stp ?_)
  exact aut⟩
def mc186 : MCode :=
 (.seq (.reg (sq 2 [bo 2 48 0] ++ sq 4 [.mv (.const (.slice none 0 0))])) (.seq (.seq (.reg (sq 5 [mv 1, fa 0 2, ld 6, ln 7, bn .lss 5 8, mv 9] ++ sg 10 true 11 [fa 0 2, ld 11, mv 1, ix 1 12 13, ld 14, ln 15, bi .gtr 16 0] ++ sq 18 [pa 10 17])) (.cond (t0 18) (.seq (.reg (sq 19 [fa 0 2, ld 19, mv 1, ix 1 20 21, ld 22, cf 91 [23]] ++ sq 4 [mv 24])) .ret) .skip)) (.seq (.reg (sq 25 [mv 1, .bin .sub (i0 (-1)) (t0 25), .bsl 27 2 1 [(t0 26)]] ++ sq 4 [mv 27])) .ret)))
theorem fn186 : MFn Tryz.prog 186 mc186 28 [.tmp 4] := ⟨_, Tryz.func186, by kernel_rfl, Tryz.ntmps186, by kernel_rfl⟩
noncomputable def F_spec_l2Gives (s : (List (List Int))) (i : Int) : Option (List Int) :=
 if (decide (i < (s.length : Int))) = true then
  if 0 ≤ i ∧ i < (s.length : Int) then
   if (decide (0 < ((s.getD i.toNat default).length : Int))) = true then
    if 0 ≤ i ∧ i < (s.length : Int) then
     (F_spec_l1Copy (s.getD i.toNat default)).bind fun r =>
     some r
    else none
   else
    some [(IntKind.i64.wrap ((-1) - i))]
  else none
 else
  some [(IntKind.i64.wrap ((-1) - i))]
instance c_spec_l2Gives {s : (List (List Int))} {i : Int} : HasC (F_spec_l2Gives s i) fun rr => PFun Tryz.prog 186 [D_impl_Subst s, iD i] ((slD 1 iD) rr) := ⟨@fun rr h => by
  delta F_spec_l2Gives at h
  refine fn186.pureL (vcm_sound ?_)
  delta mc186
  refine stp ?_
  refine iT h fun hc h => ?_
  refine ndI h fun hp h => ?_
  refine iT h fun hc h => ?_
  refine ndI h fun hp h => ?_
  refine rCo [] [(3, 24)] h fun r hr h => ?_
  exact aut⟩
def mc269 : MCode :=
 (.seq (.reg (sq 1 [bo 1 48 0, .alloc 2 48 [.sl 0 (some true) []]])) (.seq (.reg (sq 6 [.build [.sl 0 (some true) []] []] ++ sq 3 [.alloc 3 48 [.sl 0 (some true) []]] ++ s0 (sr 1 3 6))) (.seq (.seq (.reg (sq 4 [mi 0])) (.block 0 (.loop (.seq (.seq (.reg (sq 7 [mv 4, fa 0 1, ld 8, ln 9, bn .lss 7 10])) (.cond (t0 11) .skip (.exit 0))) (.seq (.block 1 (.seq (.reg (sq 14 [la 1 1, mv 4, cf 186 [14, 15]] ++ sq 5 [mv 16])) (.seq (.seq (.reg (sq 17 [mv 5, ln 17, bi .eql 18 1, mv 19] ++ sg 20 true 21 [mv 5, .ixa 1 (t0 21) (i0 0), ld 22, mv 4, .bin .sub (i0 (-1)) (t0 24), bn .eql 23 25] ++ sq 27 [pa 20 26])) (.cond (t0 27) (.reg (sq 28 [.bsl 28 2 1 []] ++ sq 5 [mv 28])) .skip)) (.reg (sq 29 [fa 0 3, ld 29, mv 5, .bsl 32 22 1 [(t0 31)], ap 33 22 1 24 30 32, fa 0 3] ++ s0 (sr 1 34 33)))))) (.reg (sq 12 [mv 4, bi .add 12 1] ++ sq 4 [mv 13]))))))) (.seq (.block 2 (.loop (.seq (.seq (.reg (sq 35 [fa 0 3, ld 35, ln 36, bi .gtr 37 0, mv 38] ++ sg 39 true 40 [fa 0 3, ld 40, fa 0 3, ld 42, ln 43, bi .sub 44 1, ix 1 41 45, ld 46, ln 47, bi .eql 48 0] ++ sq 50 [pa 39 49])) (.cond (t0 50) .skip (.exit 2))) (.block 3 (.reg (sq 51 [fa 0 3, ld 51, fa 0 3, ld 53, ln 54, bi .sub 55 1, .slc (t0 52) 1 none (some (t0 56)) none, fa 0 3] ++ s0 (sr 1 58 57))))))) (.seq (.reg (sq 59 [la 1 3] ++ s0 (sr 1 2 59))) .ret)))))
theorem fn269 : MFn Tryz.prog 269 mc269 60 [.cell 2 1 true] := ⟨_, Tryz.func269, by kernel_rfl, Tryz.ntmps269, by kernel_rfl⟩
noncomputable def F_spec_l2Plain_l2  : (List (List Int)) → Option ((List (List Int)) ⊕ (List (List Int)))
 | out_1 =>
  if (decide (0 < (out_1.length : Int))) = true then
   if 0 ≤ (IntKind.i64.wrap ((out_1.length : Int) - 1)) ∧ (IntKind.i64.wrap ((out_1.length : Int) - 1)) < (out_1.length : Int) then
    if (((out_1.getD (IntKind.i64.wrap ((out_1.length : Int) - 1)).toNat default).length : Int) == 0) = true then
     if 0 ≤ (IntKind.i64.wrap ((out_1.length : Int) - 1)) ∧ (IntKind.i64.wrap ((out_1.length : Int) - 1)) ≤ (out_1.length : Int) then
      some (.inl (out_1.take (IntKind.i64.wrap ((out_1.length : Int) - 1)).toNat))
     else none
    else
     Option.map Sum.inr (
      some out_1)
   else none
  else
   Option.map Sum.inr (
    some out_1)
noncomputable def F_spec_l2Plain_l1 (s : (List (List Int))) : (Int × (List (List Int))) → Option ((Int × (List (List Int))) ⊕ (List (List Int)))
 | (i, out) =>
  if (decide (i < (s.length : Int))) = true then
   (F_spec_l2Gives s i).bind fun r =>
   if ((r.length : Int) == 1) = true then
    if 0 ≤ 0 ∧ 0 < (r.length : Int) then
     if ((r.getD 0 default) == (IntKind.i64.wrap ((-1) - i))) = true then
      if (out.length + 1) * 24 ≤ 140737488355328 then
       some (.inl ((IntKind.i64.wrap (i + 1)), (out ++ [[]])))
      else none
     else
      if (out.length + 1) * 24 ≤ 140737488355328 then
       some (.inl ((IntKind.i64.wrap (i + 1)), (out ++ [r])))
      else none
    else none
   else
    if (out.length + 1) * 24 ≤ 140737488355328 then
     some (.inl ((IntKind.i64.wrap (i + 1)), (out ++ [r])))
    else none
  else
   Option.map Sum.inr (
    loopC (F_spec_l2Plain_l2) out)
noncomputable def F_spec_l2Plain (s : (List (List Int))) : Option (List (List Int)) :=
 loopC (F_spec_l2Plain_l1 s) (0, [])
instance c_spec_l2Plain {s : (List (List Int))} : HasC (F_spec_l2Plain s) fun rr => PFun Tryz.prog 269 [D_impl_Subst s] (D_impl_Subst rr) := ⟨@fun rr h => by
  delta F_spec_l2Plain at h
  refine fn269.pureL (vcm_sound ?_)
  delta mc269
  refine stp ?_
  refine m_loopF h [4, 5, 7, 8, 9, 10, 11, 12, 13, 14, 15, 16, 17, 18, 19, 20, 21, 22, 23, 24, 25, 26, 27, 28, 29, 30, 31, 32, 33, 34] (fun pp => [(4, .d (iD pp.1))]) (fun pp => [(1, .obj 48 [.d (slD 1 (slD 1 iD) s)]), (2, .obj 48 [.d (.sl 0 (some true) [])]), (3, .obj 48 [.own 1 33 (List.map (slD 1 iD) pp.2)]), (33, .tok 22 1 pp.2.length)]) ?_ ?_
  · try dsimp only
    refine (Weak.thawCell 3 0 33 22 1 rfl rfl rfl).trans ?_
    exact wk
  rintro ⟨i, out⟩ t1 h hb1
  unfold F_spec_l2Plain_l1 at h
  try dsimp only at h
  refine vcm_sound (stp ?_)
  refine it h (fun hc h => ?_) fun hc h => ?_
  · refine rC h fun r hr h => ?_
    refine it h (fun hc h => ?_) fun hc h => ?_
    · refine ndI h fun hp h => ?_
      refine it h (fun hc h => ?_) fun hc h => ?_
      · refine ndI h fun hp h => ?_
        cases h
        refine ⟨_, rfl, ?_⟩
        refine (Weak.drop 28 (by omega)).trans ?_
        refine (Weak.drop 32 (by omega)).trans ?_
        exact wk
      refine ndI h fun hp h => ?_
      cases h
      refine ⟨_, rfl, ?_⟩
      refine (Weak.drop 32 (by omega)).trans ?_
      exact wk
    refine ndI h fun hp h => ?_
    cases h
    refine ⟨_, rfl, ?_⟩
    refine (Weak.drop 32 (by omega)).trans ?_
    exact wk
  replace h := inr_some h hb1
  refine m_loopF h [35, 36, 37, 38, 39, 40, 41, 42, 43, 44, 45, 46, 47, 48, 49, 50, 51, 52, 53, 54, 55, 56, 57, 58] (fun pp => []) (fun pp => [(1, .obj 48 [.d (slD 1 (slD 1 iD) s)]), (2, .obj 48 [.d (.sl 0 (some true) [])]), (3, .obj 48 [.d (slD 1 (slD 1 iD) pp)])]) ?_ ?_
  · try dsimp only
    refine (Weak.drop 33 (by omega)).trans ?_
    exact wk
  rintro out_1 t1 h hb1
  unfold F_spec_l2Plain_l2 at h
  try dsimp only at h
  refine vcm_sound (stp ?_)
  exact aut⟩
def mc236 : MCode :=
 (.seq (.reg (sq 3 [bo 3 43 0] ++ sq 6 [.alloc 6 48 [.sl 0 (some true) []], mb false])) (.seq (.reg (sq 13 [.mksl 13 22 1 24 [.sl 0 (some true) []] false (i0 24) (i0 24), .build [.sl 0 (some true) []] [(0, 1, (t0 13))]] ++ sq 8 [.alloc 8 48 [.sl 0 (some true) []]] ++ s0 (sr 1 8 14))) (.seq (.reg (sq 9 [mi 0])) (.seq (.seq (.reg (sq 10 [mi 0])) (.block 0 (.loop (.seq (.seq (.reg (sq 15 [mv 10, mv 1, ln 16, bn .lss 15 17])) (.cond (t0 18) .skip (.exit 0))) (.seq (.block 1 (.seq (.seq (.reg (sq 21 [mv 9, mv 2, ln 22, bn .geq 21 23])) (.cond (t0 24) (.seq (.reg (sq 25 [.build [.sl 0 (some true) []] []] ++ s0 (sr 1 6 25) ++ sq 7 [mb false])) .ret) .skip)) (.seq (.seq (.reg (sq 26 [mv 1, mv 10, ix 1 26 27, ld 28, bi .geq 29 0])) (.cond (t0 30) (.seq (.seq (.draw (sq 31 [mv 1, mv 10, ix 1 31 32, ld 33, mv 2, mv 9, ix 1 35 36, ld 37, bn .neq 34 38]) [[], [], [0, 1], [2], [], [], [4, 5], [6], [3, 7]]) (.cond (t0 39) (.seq (.reg (sq 40 [.build [.sl 0 (some true) []] []] ++ s0 (sr 1 6 40) ++ sq 7 [mb false])) .ret) .skip)) (.seq (.reg (sq 41 [mv 9, bi .add 41 1] ++ sq 9 [mv 42])) (.exit 1))) .skip)) (.seq (.reg (sq 43 [la 1 3, mv 2, mv 9, cf 163 [43, 44, 45]] ++ sq 11 [mv 46])) (.seq (.draw (sq 47 [fa 0 8, ld 47, mv 1, mv 10, ix 1 49 50, ld 51, .bin .sub (i0 (-1)) (t0 52), ix 1 48 53, ld 54] ++ sq 12 [mv 55]) [[], [0], [], [], [2, 3], [4], [5], [1, 6], [7], [8, 0, 1, 2, 3, 4, 5, 6, 7, 8]]) (.seq (.seq (.reg (sq 56 [mv 12, ln 56, bi .gtr 57 0, mv 58] ++ sg 59 true 60 [mv 12, mv 11, cf 36 [60, 61], nt 62] ++ sq 64 [pa 59 63])) (.cond (t0 64) (.seq (.reg (sq 65 [.build [.sl 0 (some true) []] []] ++ s0 (sr 1 6 65) ++ sq 7 [mb false])) .ret) .skip)) (.seq (.draw (sq 66 [fa 0 8, ld 66, mv 1, mv 10, ix 1 68 69, ld 70, .bin .sub (i0 (-1)) (t0 71), mv 11, ix 1 67 72] ++ s0 (sr 1 74 73)) [[], [0], [], [], [2, 3], [4], [5], [], [1, 6, 0, 1, 2, 3, 4, 5, 6, 7], [8, 7, 0, 1, 2, 3, 4, 5, 6, 7]]) (.reg (sq 75 [mv 9, mv 11, ln 76, bn .add 75 77] ++ sq 9 [mv 78]))))))))) (.reg (sq 19 [mv 10, bi .add 19 1] ++ sq 10 [mv 20]))))))) (.seq (.reg (sq 79 [la 1 8, cf 269 [79]] ++ s0 (sr 1 6 80) ++ sq 7 [mb true])) .ret)))))
theorem fn236 : MFn Tryz.prog 236 mc236 81 [.cell 6 1 true, .tmp 7] := ⟨_, Tryz.func236, by kernel_rfl, Tryz.ntmps236, by kernel_rfl⟩
noncomputable def F_spec_l4Match_l1 (sig : (List Int)) (p : (List Int)) (t : (List Int)) : (Int × Int × (List (List Int))) → Option ((Int × Int × (List (List Int))) ⊕ ((List (List Int)) × Bool))
 | (k, i, l13) =>
  if (decide (i < (p.length : Int))) = true then
   if (decide ((t.length : Int) ≤ k)) = true then
    Option.map Sum.inr (
     some ([], false))
   else
    if 0 ≤ i ∧ i < (p.length : Int) then
     if (decide (0 ≤ (p.getD i.toNat default))) = true then
      if 0 ≤ i ∧ i < (p.length : Int) then
       if 0 ≤ k ∧ k < (t.length : Int) then
        if ((p.getD i.toNat default) != (t.getD k.toNat default)) = true then
         Option.map Sum.inr (
          some ([], false))
        else
         some (.inl ((IntKind.i64.wrap (k + 1)), (IntKind.i64.wrap (i + 1)), l13))
       else none
      else none
     else
      (F_spec_l1Sub sig t k).bind fun r =>
      if 0 ≤ i ∧ i < (p.length : Int) then
       if 0 ≤ (IntKind.i64.wrap ((-1) - (p.getD i.toNat default))) ∧ (IntKind.i64.wrap ((-1) - (p.getD i.toNat default))) < (24 : Int) ∧ (IntKind.i64.wrap ((-1) - (p.getD i.toNat default))) < (l13.length : Int) then
        if (decide (0 < ((l13.getD (IntKind.i64.wrap ((-1) - (p.getD i.toNat default))).toNat default).length : Int))) = true then
         (F_spec_SameTerm (l13.getD (IntKind.i64.wrap ((-1) - (p.getD i.toNat default))).toNat default) r).bind fun r_1 =>
         if r_1 = true then
          if 0 ≤ i ∧ i < (p.length : Int) then
           if 0 ≤ (IntKind.i64.wrap ((-1) - (p.getD i.toNat default))) ∧ (IntKind.i64.wrap ((-1) - (p.getD i.toNat default))) < (24 : Int) ∧ (IntKind.i64.wrap ((-1) - (p.getD i.toNat default))) < (l13.length : Int) then
            some (.inl ((IntKind.i64.wrap (k + (r.length : Int))), (IntKind.i64.wrap (i + 1)), (l13.set (IntKind.i64.wrap ((-1) - (p.getD i.toNat default))).toNat r)))
           else none
          else none
         else
          Option.map Sum.inr (
           some ([], false))
        else
         if 0 ≤ i ∧ i < (p.length : Int) then
          if 0 ≤ (IntKind.i64.wrap ((-1) - (p.getD i.toNat default))) ∧ (IntKind.i64.wrap ((-1) - (p.getD i.toNat default))) < (24 : Int) ∧ (IntKind.i64.wrap ((-1) - (p.getD i.toNat default))) < (l13.length : Int) then
           some (.inl ((IntKind.i64.wrap (k + (r.length : Int))), (IntKind.i64.wrap (i + 1)), (l13.set (IntKind.i64.wrap ((-1) - (p.getD i.toNat default))).toNat r)))
          else none
         else none
       else none
      else none
    else none
  else
   Option.map Sum.inr (
    if l13.length = 24 then
     (F_spec_l2Plain l13).bind fun r_2 =>
     some (r_2, true)
    else none)
noncomputable def F_spec_l4Match (sig : (List Int)) (p : (List Int)) (t : (List Int)) : Option ((List (List Int)) × Bool) :=
 loopC (F_spec_l4Match_l1 sig p t) (0, 0, (List.replicate 24 []))
instance c_spec_l4Match {sig : (List Int)} {p : (List Int)} {t : (List Int)} : HasC (F_spec_l4Match sig p t) fun rr => PFunN Tryz.prog 236 [D_impl_Sig sig, (slD 1 iD) p, (slD 1 iD) t] [D_impl_Subst rr.1, bD rr.2] := ⟨@fun rr h => by
  delta F_spec_l4Match at h
  refine fn236.pureLN (vcm_sound ?_)
  delta mc236
  refine stp ?_
  refine nds ?_
  refine m_lW h [7, 9, 10, 11, 12, 15, 16, 17, 18, 19, 20, 21, 22, 23, 24, 25, 26, 27, 28, 29, 30, 31, 32, 33, 34, 35, 36, 37, 38, 39, 40, 41, 42, 43, 44, 45, 46, 47, 48, 49, 50, 51, 52, 53, 54, 55, 56, 57, 58, 59, 60, 61, 62, 63, 64, 65, 66, 67, 68, 69, 70, 71, 72, 73, 74, 75, 76, 77, 78] (fun pp => [(9, .d (iD pp.1)), (10, .d (iD pp.2.1))]) (fun pp => [(3, .obj 43 [.d (slD 1 iD sig)]), (6, .obj 48 [.d (.sl 0 (some true) [])]), (8, .obj 48 [.msl 1 13 0 24]), (13, .obj 22 (List.map (aD (slD 1 iD)) pp.2.2))]) ?_
  rintro ⟨k, i, l13⟩ t1 h hb1
  unfold F_spec_l4Match_l1 at h
  try dsimp only at h
  refine vcm_sound (stp ?_)
  refine iF h fun hc h => ?_
  replace h := inr_some h hb1
  refine ndI h fun hp h => ?_
  refine callR_freezeL 13 (slD 1 iD) l13 (by omega) rfl (fun _ => rfl) (stp ?_)
  refine rC h fun r_2 hr_2 h => ?_
  exact aut⟩
def mc192 : MCode :=
 (.seq (.reg (sq 1 [bo 1 48 0, .mv (.const .nilFunc)])) (.seq (.reg (sq 3 [.mkfn 242 [] [(t0 1)]] ++ sq 2 [mv 3])) .ret))
theorem fn192 : MFn Tryz.prog 192 mc192 4 [.tmp 2] := ⟨_, Tryz.func192, by kernel_rfl, Tryz.ntmps192, by kernel_rfl⟩
noncomputable def F_impl_Subst_lookup (s : (List (List Int))) : Option (List (List Int)) :=
 some s
instance c_impl_Subst_lookup {s : (List (List Int))} : HasC (F_impl_Subst_lookup s) fun rr => ACalls Tryz.prog 192 [.d (.agg [slD 1 (slD 1 iD) s])] [] 0 fun xx ss => xx = .fn 242 [] [.ptr 1 0] ∧ ss = [(1, .obj 48 [.d (slD 1 (slD 1 iD) rr)])] := ⟨@fun rr h => by
  delta F_impl_Subst_lookup at h
  refine fn192.callsO (vcm_sound ?_)
  delta mc192
  refine stp ?_
  exact aut⟩
def mc193 : MCode :=
 (.seq (.reg (sq 2 [bo 2 48 0] ++ sq 4 [.mv (.const (.slice none 0 0))])) (.seq (.seq (.reg (sq 5 [mv 1, fa 0 2, ld 6, ln 7, bn .geq 5 8, mv 9] ++ sg 10 false 11 [fa 0 2, ld 11, mv 1, ix 1 12 13, ld 14, ln 15, bi .eql 16 0] ++ sq 18 [po 10 17])) (.cond (t0 18) (.seq (.reg (sq 4 [.mv (.const (.slice none 0 0))])) .ret) .skip)) (.seq (.reg (sq 19 [fa 0 2, ld 19, mv 1, ix 1 20 21, ld 22] ++ sq 4 [mv 23])) .ret)))
theorem fn193 : MFn Tryz.prog 193 mc193 24 [.tmp 4] := ⟨_, Tryz.func193, by kernel_rfl, Tryz.ntmps193, by kernel_rfl⟩
noncomputable def F_impl_Subst_byVar (s : (List (List Int))) (i : Int) : Option (List Int) :=
 if (decide ((s.length : Int) ≤ i)) = true then
  some []
 else
  if 0 ≤ i ∧ i < (s.length : Int) then
   if (((s.getD i.toNat default).length : Int) == 0) = true then
    some []
   else
    if 0 ≤ i ∧ i < (s.length : Int) then
     if 0 < (s.getD i.toNat default).length then
      some (s.getD i.toNat default)
     else none
    else none
  else none
instance c_impl_Subst_byVar {s : (List (List Int))} {i : Int} : HasC (F_impl_Subst_byVar s i) fun rr => PFun Tryz.prog 193 [D_impl_Subst s, iD i] ((nzD 1 iD) rr) := ⟨@fun rr h => by
  delta F_impl_Subst_byVar at h
  refine fn193.pureL (vcm_sound ?_)
  delta mc193
  refine stp ?_
  refine iF h fun hc h => ?_
  refine ndI h fun hp h => ?_
  refine iF h fun hc h => ?_
  refine ndI h fun hp h => ?_
  refine ndI h fun hp h => ?_
  cases h
  exact (le_nz_t (by omega)).2 trivial⟩
def mc242 : MCode :=
 (.seq (.reg (sq 3 [.mv (.const (.slice none 0 0))])) (.seq (.seq (.reg (sq 4 [mv 0, bi .geq 4 0])) (.cond (t0 5) (.seq (.reg (sq 3 [.mv (.const (.slice none 0 0))])) .ret) .skip)) (.seq (.reg (sq 6 [la 1 1, mv 0, .bin .sub (i0 (-1)) (t0 7), cf 193 [6, 8]] ++ sq 3 [mv 9])) .ret)))
theorem fn242 : MFn Tryz.prog 242 mc242 10 [.tmp 3] := ⟨_, Tryz.func242, by kernel_rfl, Tryz.ntmps242, by kernel_rfl⟩
noncomputable def F_impl_Subst_lookup_1 (n : Int) (o0 : (List (List Int))) : Option (List Int) :=
 if (decide (0 ≤ n)) = true then
  some []
 else
  (F_impl_Subst_byVar o0 (IntKind.i64.wrap ((-1) - n))).bind fun r =>
  some r
instance c_impl_Subst_lookup_1 {n : Int} {o0 : (List (List Int))} : HasC (F_impl_Subst_lookup_1 n o0) fun rr => ACalls Tryz.prog 242 [.d (iD n), .ptr 0 0] [(0, .obj 48 [.d (slD 1 (slD 1 iD) o0)])] 1 fun xx ss => xx = .d (nzD 1 iD rr) ∧ ss = [(0, .obj 48 [.d (slD 1 (slD 1 iD) o0)])] := ⟨@fun rr h => by
  delta F_impl_Subst_lookup_1 at h
  refine fn242.callsO (vcm_sound ?_)
  delta mc242
  refine stp ?_
  exact aut⟩
def mc125 : MCode :=
 (.seq (.reg (sq 2 [bo 2 48 0] ++ sq 4 [.mv (.const (.slice none 0 0)), mb false])) (.seq (.reg (sq 11 [la 1 2, cf 192 [11]] ++ sq 6 [mv 12])) (.seq (.reg (sq 13 [mv 1, ln 13, .mksl 15 2 1 8 [.lit (.int .i64 0)] true (i0 0) (t0 14)] ++ sq 7 [mv 15])) (.seq (.seq (.reg (sq 16 [mv 1, ln 16, mi 0])) (.block 0 (.loop (.seq (.reg (sq 19 [bn .lss 18 17])) (.seq (.cond (t0 19) .skip (.exit 0)) (.seq (.block 1 (.seq (.reg (sq 20 [ix 1 16 18, ld 20] ++ sq 9 [mv 21])) (.seq (.seq (.reg (sq 22 [mv 6, mv 9, .callv (t0 22) [(t0 23)]] ++ sq 10 [mv 24])) (.seq (.reg (sq 25 [mv 10, .eqnil false (t0 25)])) (.cond (t0 26) (.reg (sq 27 [mv 7, mv 9, .bsl 29 2 1 [(t0 28)], ap 30 2 1 8 27 29] ++ sq 7 [mv 30])) (.reg (sq 31 [mv 7, mv 10, ap 33 2 1 8 31 32] ++ sq 7 [mv 33]))))) (.seq (.reg (sq 34 [mv 7, ln 34, bi .gtr 35 60])) (.cond (t0 36) (.seq (.reg (sq 4 [.mv (.const (.slice none 0 0)), mb false])) .ret) .skip))))) (.reg (sq 37 [bi .add 18 1] ++ sq 18 [mv 37])))))))) (.seq (.reg (sq 38 [mv 7] ++ sq 4 [mv 38, mb true])) .ret)))))
theorem fn125 : MFn Tryz.prog 125 mc125 39 [.tmp 4, .tmp 5] := ⟨_, Tryz.func125, by kernel_rfl, Tryz.ntmps125, by kernel_rfl⟩
noncomputable def F_impl_fill_l1 (t : (List Int)) (r : (List (List Int))) : ((List Int) × Int) → Option (((List Int) × Int) ⊕ ((List Int) × Bool))
 | (out, v18) =>
  if (decide (v18 < (t.length : Int))) = true then
   if 0 ≤ v18 ∧ v18 < (t.length : Int) then
    (F_impl_Subst_lookup_1 (t.getD v18.toNat default) r).bind fun r_1 =>
    if r_1.isEmpty = true then
     if (out.length + 1) * 8 ≤ 140737488355328 then
      if (decide (60 < ((out ++ [(t.getD v18.toNat default)]).length : Int))) = true then
       Option.map Sum.inr (
        some ([], false))
      else
       some (.inl ((out ++ [(t.getD v18.toNat default)]), (IntKind.i64.wrap (v18 + 1))))
     else none
    else
     if (out.length + r_1.length) * 8 ≤ 140737488355328 then
      if (decide (60 < ((out ++ r_1).length : Int))) = true then
       Option.map Sum.inr (
        some ([], false))
      else
       some (.inl ((out ++ r_1), (IntKind.i64.wrap (v18 + 1))))
     else none
   else none
  else
   Option.map Sum.inr (
    some (out, true))
noncomputable def F_impl_fill (s : (List (List Int))) (t : (List Int)) : Option ((List Int) × Bool) :=
 (F_impl_Subst_lookup s).bind fun r =>
 if 0 ≤ (t.length : Int) ∧ 8 * (t.length : Int) ≤ 281474976710656 then
  loopC (F_impl_fill_l1 t r) ([], 0)
 else none
instance c_impl_fill {s : (List (List Int))} {t : (List Int)} : HasC (F_impl_fill s t) fun rr => PFunN Tryz.prog 125 [D_impl_Subst s, (slD 1 iD) t] [(slD 1 iD) rr.1, bD rr.2] := ⟨@fun rr h => by
  delta F_impl_fill at h
  refine fn125.pureLN (vcm_sound ?_)
  delta mc125
  refine stp ?_
  refine rCo [] [(1, 12)] h fun r hr h => ?_
  refine ndI h fun hp h => ?_
  refine m_lW h [4, 5, 7, 9, 10, 18, 19, 20, 21, 22, 23, 24, 25, 26, 27, 28, 29, 30, 31, 32, 33, 34, 35, 36, 37] (fun pp => [(7, .own 1 15 (List.map iD pp.1)), (18, .d (iD pp.2))]) (fun pp => [(2, .obj 48 [.d (slD 1 (slD 1 iD) s)]), (12, .obj 48 [.d (slD 1 (slD 1 iD) r)]), (15, .tok 2 1 pp.1.length)]) ?_
  rintro ⟨out, v18⟩ t1 h hb1
  unfold F_impl_fill_l1 at h
  try dsimp only at h
  refine vcm_sound (stp ?_)
  refine iT h fun hc h => ?_
  refine ndI h fun hp h => ?_
  refine need_i (by kernel_rfl) ?_
  refine rCo [(0, 12)] [] h fun r_1 hr_1 h => ?_
  refine iT h fun hc h => ?_
  refine ndI h fun hp h => ?_
  refine iF h fun hc h => ?_
  cases h
  refine ⟨_, rfl, ?_⟩
  refine (Weak.drop 29 (by omega)).trans ?_
  exact wk⟩
def mc113 : MCode :=
 (.seq (.reg (sq 2 [bo 2 48 0] ++ sq 4 [.mv (.const (.slice none 0 0)), mb false])) (.seq (.reg (sq 8 [.bsl 8 2 1 []] ++ sq 6 [mv 8])) (.seq (.seq (.reg (sq 7 [mi 0])) (.block 0 (.loop (.seq (.seq (.reg (sq 9 [mv 7, mv 1, ln 10, bn .lss 9 11])) (.cond (t0 12) .skip (.exit 0))) (.seq (.block 1 (.seq (.seq (.reg (sq 15 [mv 1, mv 7, ix 1 15 16, ld 17, bi .lss 18 0])) (.cond (t0 19) (.draw (sq 20 [mv 6, la 1 2, mv 1, mv 7, ix 1 22 23, ld 24, .bin .sub (i0 (-1)) (t0 25), cf 186 [21, 26], ap 28 2 1 8 20 27] ++ sq 6 [mv 28]) [[], [], [], [], [2, 3], [4], [5], [1, 6], [0, 7, 7], [8, 8, 0, 1, 2, 3, 4, 5, 6, 7, 8]]) (.reg (sq 29 [mv 6, mv 1, mv 7, ix 1 30 31, ld 32, .bsl 34 2 1 [(t0 33)], ap 35 2 1 8 29 34] ++ sq 6 [mv 35])))) (.seq (.reg (sq 36 [mv 6, ln 36, bi .gtr 37 60])) (.cond (t0 38) (.seq (.reg (sq 39 [.bsl 39 2 1 []] ++ sq 4 [mv 39, mb false])) .ret) .skip)))) (.reg (sq 13 [mv 7, bi .add 13 1] ++ sq 7 [mv 14]))))))) (.seq (.reg (sq 40 [mv 6] ++ sq 4 [mv 40, mb true])) .ret))))
theorem fn113 : MFn Tryz.prog 113 mc113 41 [.tmp 4, .tmp 5] := ⟨_, Tryz.func113, by kernel_rfl, Tryz.ntmps113, by kernel_rfl⟩
noncomputable def F_spec_l2Filled_l1 (s : (List (List Int))) (t : (List Int)) : ((List Int) × Int) → Option (((List Int) × Int) ⊕ ((List Int) × Bool))
 | (out, i) =>
  if (decide (i < (t.length : Int))) = true then
   if 0 ≤ i ∧ i < (t.length : Int) then
    if (decide ((t.getD i.toNat default) < 0)) = true then
     if 0 ≤ i ∧ i < (t.length : Int) then
      (F_spec_l2Gives s (IntKind.i64.wrap ((-1) - (t.getD i.toNat default)))).bind fun r =>
      if (out.length + r.length) * 8 ≤ 140737488355328 then
       if (decide (60 < ((out ++ r).length : Int))) = true then
        Option.map Sum.inr (
         some ([], false))
       else
        some (.inl ((out ++ r), (IntKind.i64.wrap (i + 1))))
      else none
     else none
    else
     if 0 ≤ i ∧ i < (t.length : Int) then
      if (out.length + 1) * 8 ≤ 140737488355328 then
       if (decide (60 < ((out ++ [(t.getD i.toNat default)]).length : Int))) = true then
        Option.map Sum.inr (
         some ([], false))
       else
        some (.inl ((out ++ [(t.getD i.toNat default)]), (IntKind.i64.wrap (i + 1))))
      else none
     else none
   else none
  else
   Option.map Sum.inr (
    some (out, true))
noncomputable def F_spec_l2Filled (s : (List (List Int))) (t : (List Int)) : Option ((List Int) × Bool) :=
 loopC (F_spec_l2Filled_l1 s t) ([], 0)
instance c_spec_l2Filled {s : (List (List Int))} {t : (List Int)} : HasC (F_spec_l2Filled s t) fun rr => PFunN Tryz.prog 113 [D_impl_Subst s, (slD 1 iD) t] [(slD 1 iD) rr.1, bD rr.2] := ⟨@fun rr h => by
  delta F_spec_l2Filled at h
  refine fn113.pureLN (vcm_sound ?_)
  delta mc113
  refine stp ?_
  refine m_lW h [4, 5, 6, 7, 9, 10, 11, 12, 13, 14, 15, 16, 17, 18, 19, 20, 21, 22, 23, 24, 25, 26, 27, 28, 29, 30, 31, 32, 33, 34, 35, 36, 37, 38, 39] (fun pp => [(6, .own 1 8 (List.map iD pp.1)), (7, .d (iD pp.2))]) (fun pp => [(2, .obj 48 [.d (slD 1 (slD 1 iD) s)]), (8, .tok 2 1 pp.1.length)]) ?_
  rintro ⟨out, i⟩ t1 h hb1
  unfold F_spec_l2Filled_l1 at h
  try dsimp only at h
  refine vcm_sound (stp ?_)
  refine iT h fun hc h => ?_
  refine ndI h fun hp h => ?_
  refine iF h fun hc h => ?_
  refine ndI h fun hp h => ?_
  refine ndI h fun hp h => ?_
  refine iF h fun hc h => ?_
  cases h
  refine ⟨_, rfl, ?_⟩
  refine (Weak.drop 34 (by omega)).trans ?_
  exact wk⟩
end Go.Proofs.YtklfjpilhbkekaaGreat
