/- Functions of the program and the equations that they compute; The law lifted to the statement; What the tool asks of the program for the law, by computation; nothing is assumed. -/
import Derived.Test.YtglpjlpmijfocaaGreatCf
import Derived.Carry
import Derived.Test.YtglpjlpmijfocaaGreatRows
import Derived.ProofKit
import Derived.JoinedOf
import Derived.KernelRfl
set_option linter.all false
noncomputable section
namespace Go.Proofs.YtglpjlpmijfocaaGreat
open Go Abx
attribute [local irreducible] vcm vgo vdr vrun vdrun MWp GhostQ BrC BrO BrG BrD BrH AmbO callR callD drQ EnvLe StoLe
set_option maxHeartbeats 4000000
def D_impl_reached (x : ((List Int) × Int × Int × Int × (List Int) × Int)) : D := .agg [(slD 1 iD) x.1, iD x.2.1, iD x.2.2.1, iD x.2.2.2.1, (slD 1 iD) x.2.2.2.2.1, iD x.2.2.2.2.2]
instance : Cel D_impl_reached 6 := ⟨fun _ => rfl⟩
attribute [go_sem] D_impl_reached
def mc58 : MCode :=
 (.seq (.reg (sq 2 [.mv (.const (.slice none 0 0))])) (.seq (.reg (sq 5 [.bsl 5 2 1 []] ++ sq 3 [mv 5])) (.seq (.seq (.reg (sq 4 [mi 0])) (.block 0 (.loop (.seq (.seq (.reg (sq 6 [mv 4, mv 0, ln 7, bn .lss 6 8])) (.cond (t0 9) .skip (.exit 0))) (.seq (.block 1 (.seq (.reg (sq 12 [mv 0, mv 4, ix 1 12 13, ld 14, bi .lss 15 0])) (.cond (t0 16) (.reg (sq 17 [mv 3, mv 0, mv 4, ix 1 18 19, ld 20, .bin .sub (i0 (-1)) (t0 21), cf 88 [17, 22]] ++ sq 3 [mv 23])) .skip))) (.reg (sq 10 [mv 4, bi .add 10 1] ++ sq 4 [mv 11]))))))) (.seq (.reg (sq 24 [mv 3] ++ sq 2 [mv 24])) .ret))))
theorem fn58 : MFn Tryz.prog 58 mc58 25 [.tmp 2] := ⟨_, Tryz.func58, by kernel_rfl, Tryz.ntmps58, by kernel_rfl⟩
def F_spec_l2Vars_l1 (t : (List Int)) : ((List Int) × Int) -> Option (((List Int) × Int) ⊕ (List Int))
 | (out, i) =>
  if (decide (i < (t.length : Int))) = true then
   if 0 <= i /\ i < (t.length : Int) then
    if (decide ((t.getD i.toNat default) < 0)) = true then
     if 0 <= i /\ i < (t.length : Int) then
      (F_spec_l1Into out (IntKind.i64.wrap ((-1) - (t.getD i.toNat default)))).bind fun r =>
      some (.inl (r, (IntKind.i64.wrap (i + 1))))
     else none
    else
     some (.inl (out, (IntKind.i64.wrap (i + 1))))
   else none
  else
   Option.map Sum.inr (
    some out)
def F_spec_l2Vars (t : (List Int)) : Option (List Int) :=
 loopC (F_spec_l2Vars_l1 t) ([], 0)
instance c_spec_l2Vars {t : (List Int)} : HasC (F_spec_l2Vars t) fun rr => PFun Tryz.prog 58 [(slD 1 iD) t] ((slD 1 iD) rr) := ⟨@fun rr h => by
 delta F_spec_l2Vars at h
 refine fn58.pureL (vcm_sound ?_)
 delta mc58
 refine stp ?_
 refine m_lW h [3, 4, 6, 7, 8, 9, 10, 11, 12, 13, 14, 15, 16, 17, 18, 19, 20, 21, 22, 23] (fun pp => [(3, .d (slD 1 iD pp.1)), (4, .d (iD pp.2))]) (fun pp => [(5, .tok 2 1 0)]) ?_
 rintro ⟨out, i⟩ t1 h hb1
 unfold F_spec_l2Vars_l1 at h
 try dsimp only at h
 refine vcm_sound (stp ?_)
 exact aut⟩
def mc22 : MCode :=
 (.seq (.reg (sq 2 [bo 2 30 0] ++ sq 4 [mb false])) (.seq (.reg (sq 5 [la 1 2, mv 1, cf 57 [5, 6], mv 7] ++ sg 8 true 9 [mv 1, cf 58 [9], ln 10, bi .eql 11 0] ++ sq 13 [pa 8 12] ++ sq 4 [mv 13])) .ret))
theorem fn22 : MFn Tryz.prog 22 mc22 14 [.tmp 4] := ⟨_, Tryz.func22, by kernel_rfl, Tryz.ntmps22, by kernel_rfl⟩
def F_spec_GroundIn (sig : (List Int)) (t : (List Int)) : Option Bool :=
 (F_spec_TermOk sig t).bind fun r =>
 if r = true then
  (F_spec_l2Vars t).bind fun r_1 =>
  some ((r_1.length : Int) == 0)
 else
  some false
instance c_spec_GroundIn {sig : (List Int)} {t : (List Int)} : HasC (F_spec_GroundIn sig t) fun rr => PFun Tryz.prog 22 [D_impl_Sig sig, (slD 1 iD) t] (bD rr) := ⟨@fun rr h => by
 delta F_spec_GroundIn at h
 refine fn22.pureL (vcm_sound ?_)
 delta mc22
 refine stp ?_
 exact aut⟩
def mc89 : MCode :=
 (.seq (.reg (sq 3 [bo 3 33 0] ++ sq 6 [mb false])) (.seq (.seq (.reg (sq 9 [la 2 3, cf 34 [9], nt 10, mv 11] ++ sg 12 false 13 [mv 1, bi .lss 13 0] ++ sq 15 [po 12 14, mv 15] ++ sg 16 false 17 [mv 1, bi .gtr 17 20] ++ sq 19 [po 16 18])) (.cond (t0 19) (.seq (.reg (sq 6 [mb false])) .ret) .skip)) (.seq (.seq (.reg (sq 20 [mv 2, ln 20, mi 0])) (.block 0 (.loop (.seq (.reg (sq 23 [bn .lss 22 21])) (.seq (.cond (t0 23) .skip (.exit 0)) (.seq (.block 1 (.seq (.reg (sq 24 [ix 1 20 22, ld 24] ++ sq 8 [mv 25])) (.seq (.reg (sq 26 [fa 0 3, la 1 26, mv 8, cf 96 [27, 28], nt 29])) (.cond (t0 30) (.seq (.reg (sq 6 [mb false])) .ret) .skip)))) (.reg (sq 31 [bi .add 22 1] ++ sq 22 [mv 31])))))))) (.seq (.reg (sq 6 [mb true])) .ret))))
theorem fn89 : MFn Tryz.prog 89 mc89 32 [.tmp 6] := ⟨_, Tryz.func89, by kernel_rfl, Tryz.ntmps89, by kernel_rfl⟩
def F_impl_reachOk_l1 (sys : ((List Int) × (List ((List Int) × (List Int))))) (ts : (List (List Int))) : Int -> Option (Int ⊕ Bool)
 | v22 =>
  if (decide (v22 < (ts.length : Int))) = true then
   if 0 <= v22 /\ v22 < (ts.length : Int) then
    (F_impl_TermOk sys.1 (ts.getD v22.toNat default)).bind fun r_1 =>
    if r_1 = true then
     some (.inl (IntKind.i64.wrap (v22 + 1)))
    else
     Option.map Sum.inr (
      some false)
   else none
  else
   Option.map Sum.inr (
    some true)
def F_impl_reachOk (sys : ((List Int) × (List ((List Int) × (List Int))))) (steps : Int) (ts : (List (List Int))) : Option Bool :=
 (F_impl_SystemOk sys).bind fun r =>
 if r = true then
  if (decide (steps < 0)) = true then
   some false
  else
   if (decide (20 < steps)) = true then
    some false
   else
    loopC (F_impl_reachOk_l1 sys ts) 0
 else
  some false
instance c_impl_reachOk {sys : ((List Int) × (List ((List Int) × (List Int))))} {steps : Int} {ts : (List (List Int))} : HasC (F_impl_reachOk sys steps ts) fun rr => PFun Tryz.prog 89 [D_impl_System sys, iD steps, (slD 1 (slD 1 iD)) ts] (bD rr) := ⟨@fun rr h => by
 delta F_impl_reachOk at h
 refine fn89.pureL (vcm_sound ?_)
 delta mc89
 refine stp ?_
 refine rC h fun r hr h => ?_
 refine iT h fun hc h => ?_
 refine iF h fun hc h => ?_
 refine iF h fun hc h => ?_
 refine m_lW h [6, 8, 22, 23, 24, 25, 26, 27, 28, 29, 30, 31] (fun pp => [(22, .d (iD pp))]) (fun pp => [(3, .obj 33 [.d (slD 1 iD sys.1), .d (slD 2 D_impl_Rule sys.2)])]) ?_
 rintro v22 t1 h hb1
 unfold F_impl_reachOk_l1 at h
 try dsimp only at h
 refine vcm_sound (stp ?_)
 exact aut⟩
def mc148 : MCode :=
 (.seq (.reg (sq 2 [bo 2 120 0, mb false])) (.seq (.reg (sq 4 [fa 0 2, ld 4, ld 1, cf 149 [5, 6]] ++ sq 3 [mv 7])) .ret))
theorem fn148 : MFn Tryz.prog 148 mc148 8 [.tmp 3] := ⟨_, Tryz.func148, by kernel_rfl, Tryz.ntmps148, by kernel_rfl⟩
def F_impl_found_1 (r : ((List Int) × Int × Int × Int × (List Int) × Int)) (o0 : (List Int)) : Option Bool :=
 (F_slices_Equal_int64_int64 r.1 o0).bind fun r_1 =>
 some r_1
instance c_impl_found_1 {r : ((List Int) × Int × Int × Int × (List Int) × Int)} {o0 : (List Int)} : HasC (F_impl_found_1 r o0) fun rr => ACalls Tryz.prog 148 [.d (.agg [slD 1 iD r.1, iD r.2.1, iD r.2.2.1, iD r.2.2.2.1, slD 1 iD r.2.2.2.2.1, iD r.2.2.2.2.2]), .ptr 0 0] [(0, .obj 22 [.d (slD 1 iD o0)])] 1 fun xx ss => xx = .d (bD rr) /\ ss = [(0, .obj 22 [.d (slD 1 iD o0)])] := ⟨@fun rr h => by
 delta F_impl_found_1 at h
 refine fn148.callsO (vcm_sound ?_)
 delta mc148
 refine stp ?_
 refine rC h fun r_1 hr_1 h => ?_
 cases h
 exact ⟨[2], by simp, don, don⟩⟩
def mc147 : MCode :=
 (.seq (.reg (sq 4 [mi 0])) (.seq (.seq (.reg (sq 6 [mv 0, ln 6, mi 0])) (.block 0 (.loop (.seq (.reg (sq 9 [bn .lss 8 7])) (.seq (.cond (t0 9) .skip (.exit 0)) (.seq (.block 1 (.seq (.reg (sq 10 [mv 8] ++ sq 5 [mv 10])) (.seq (.reg (sq 11 [mv 1, mv 0, mv 5, ix 6 12 13, la 6 14, .callv (t0 11) [(t0 15)]])) (.cond (t0 16) (.seq (.reg (sq 17 [mv 5] ++ sq 4 [mv 17])) .ret) .skip)))) (.reg (sq 18 [bi .add 8 1] ++ sq 8 [mv 18])))))))) (.seq (.reg (sq 4 [mi (-1)])) .ret)))
theorem fn147 : MFn Tryz.prog 147 mc147 19 [.tmp 4] := ⟨_, Tryz.func147, by kernel_rfl, Tryz.ntmps147, by kernel_rfl⟩
def F_slices_IndexFunc_impl_reached_impl_reached_l1 (s : (List ((List Int) × Int × Int × Int × (List Int) × Int))) (o0 : (List Int)) : Int -> Option (Int ⊕ Int)
 | v8 =>
  if (decide (v8 < (s.length : Int))) = true then
   if 0 <= v8 /\ v8 < (s.length : Int) then
    (F_impl_found_1 ((s.getD v8.toNat default).1, (s.getD v8.toNat default).2.1, (s.getD v8.toNat default).2.2.1, (s.getD v8.toNat default).2.2.2.1, (s.getD v8.toNat default).2.2.2.2.1, (s.getD v8.toNat default).2.2.2.2.2) o0).bind fun r =>
    if r = true then
     Option.map Sum.inr (
      some v8)
    else
     some (.inl (IntKind.i64.wrap (v8 + 1)))
   else none
  else
   Option.map Sum.inr (
    some (-1))
def F_slices_IndexFunc_impl_reached_impl_reached (s : (List ((List Int) × Int × Int × Int × (List Int) × Int))) (o0 : (List Int)) : Option Int :=
 loopC (F_slices_IndexFunc_impl_reached_impl_reached_l1 s o0) 0
instance c_slices_IndexFunc_impl_reached_impl_reached {s : (List ((List Int) × Int × Int × Int × (List Int) × Int))} {o0 : (List Int)} : HasC (F_slices_IndexFunc_impl_reached_impl_reached s o0) fun rr => ACalls Tryz.prog 147 [.d (slD 6 D_impl_reached s), .fn 148 [] [.ptr 0 0]] [(0, .obj 22 [.d (slD 1 iD o0)])] 1 fun xx ss => xx = .d (iD rr) /\ ss = [(0, .obj 22 [.d (slD 1 iD o0)])] := ⟨@fun rr h => by
 delta F_slices_IndexFunc_impl_reached_impl_reached at h
 refine fn147.callsO (vcm_sound ?_)
 delta mc147
 refine stp ?_
 refine m_lW h [4, 5, 8, 9, 10, 11, 12, 13, 14, 15, 16, 17, 18] (fun pp => [(8, .d (iD pp))]) (fun pp => [(0, .obj 22 [.d (slD 1 iD o0)])]) ?_
 rintro v8 t1 h hb1
 unfold F_slices_IndexFunc_impl_reached_impl_reached_l1 at h
 try dsimp only at h
 refine vcm_sound (stp ?_)
 refine iT h fun hc h => ?_
 refine ndI h fun hp h => ?_
 refine need_i (by kernel_rfl) ?_
 refine rCo [(0, 0)] [] h fun r hr h => ?_
 exact aut⟩
def mc121 : MCode :=
 (.seq (.reg (sq 3 [bo 3 22 1, mi 0])) (.seq (.reg (sq 5 [mv 0, .mkfn 148 [] [(t0 3)], cf 147 [5, 6]] ++ sq 4 [mv 7])) .ret))
theorem fn121 : MFn Tryz.prog 121 mc121 8 [.tmp 4] := ⟨_, Tryz.func121, by kernel_rfl, Tryz.ntmps121, by kernel_rfl⟩
def F_impl_found (all : (List ((List Int) × Int × Int × Int × (List Int) × Int))) (t : (List Int)) : Option Int :=
 (F_slices_IndexFunc_impl_reached_impl_reached all t).bind fun r =>
 some r
instance c_impl_found {all : (List ((List Int) × Int × Int × Int × (List Int) × Int))} {t : (List Int)} : HasC (F_impl_found all t) fun rr => PFun Tryz.prog 121 [(slD 6 D_impl_reached) all, (slD 1 iD) t] (iD rr) := ⟨@fun rr h => by
 delta F_impl_found at h
 refine fn121.pureL (vcm_sound ?_)
 delta mc121
 refine stp ?_
 refine rCo [(0, 3)] [] h fun r hr h => ?_
 exact aut⟩
def mc90 : MCode :=
 (.seq (.reg (sq 3 [bo 3 33 0] ++ sq 6 [.mv (.const (.slice none 0 0)), mb false])) (.seq (.reg (sq 14 [mv 1, cf 120 [14], .build [.sl 0 (some true) [], .lit (.int .i64 0), .lit (.int .i64 0), .lit (.int .i64 0), .sl 0 (some true) [], .lit (.int .i64 0)] [(0, 1, (t0 15)), (1, 1, (i0 (-1)))], .bsl 17 120 6 [(t0 16)]] ++ sq 8 [mv 17])) (.seq (.seq (.reg (sq 9 [mi 0])) (.block 0 (.loop (.seq (.seq (.reg (sq 18 [mv 9, mv 8, ln 19, bn .lss 18 20])) (.cond (t0 21) .skip (.exit 0))) (.seq (.block 1 (.seq (.seq (.reg (sq 24 [mv 8, mv 9, ix 6 24 25, fa 5 26, ld 27, mv 2, bn .eql 28 29])) (.cond (t0 30) (.exit 1) .skip)) (.seq (.draw (sq 32 [la 2 3, mv 8, mv 9, ix 6 33 34, fa 0 35, ld 36, cf 72 [32, 37]] ++ sq 31 [mv 38] ++ sq 39 [ex 31 0, ex 31 1] ++ sq 10 [mv 39, mv 40]) [[], [], [], [1, 2], [3], [4], [0, 5], [6], [7], [7], [8, 6, 0, 1, 2, 3, 4, 5, 6, 7, 8], [9, 10, 0, 1, 2, 3, 4, 5, 6, 7, 8, 9, 10]]) (.seq (.reg (sq 41 [mv 10, ln 41, mi 0])) (.block 2 (.loop (.seq (.reg (sq 44 [bn .lss 43 42])) (.seq (.cond (t0 44) .skip (.exit 2)) (.seq (.block 3 (.seq (.reg (sq 45 [ix 3 41 43, la 3 45] ++ sq 13 [.alloc 13 97 [.lit (.int .i64 0), .lit (.int .i64 0), .sl 0 (some true) []]] ++ s0 (sr 3 13 46))) (.seq (.seq (.reg (sq 47 [mv 8, fa 2 13, ld 48, cf 121 [47, 49], bi .geq 50 0])) (.cond (t0 51) (.exit 3) .skip)) (.seq (.seq (.reg (sq 52 [mv 8, ln 52, bi .eql 53 60])) (.cond (t0 54) (.seq (.reg (sq 55 [mv 8] ++ sq 6 [mv 55, mb false])) .ret) .skip)) (.draw (sq 56 [mv 8, fa 2 13, ld 57, mv 9, la 3 13, mv 8, mv 9, ix 6 61 62, fa 5 63, ld 64, bi .add 65 1, .build [.sl 0 (some true) [], .lit (.int .i64 0), .lit (.int .i64 0), .lit (.int .i64 0), .sl 0 (some true) [], .lit (.int .i64 0)] [(0, 1, (t0 58)), (1, 1, (t0 59)), (2, 3, (t0 60)), (5, 1, (t0 66))], .bsl 68 120 6 [(t0 67)], ap 69 120 6 80 56 68] ++ sq 8 [mv 69]) [[], [], [1], [], [], [], [], [5, 6], [7], [8], [9], [2, 3, 4, 10], [11], [0, 12], [13, 13, 0, 1, 2, 3, 4, 5, 6, 7, 8, 9, 10, 11, 12, 13]]))))) (.reg (sq 70 [bi .add 43 1] ++ sq 43 [mv 70]))))))))))) (.reg (sq 22 [mv 9, bi .add 22 1] ++ sq 9 [mv 23]))))))) (.seq (.reg (sq 71 [mv 8] ++ sq 6 [mv 71, mb true])) .ret))))
theorem fn90 : MFn Tryz.prog 90 mc90 72 [.tmp 6, .tmp 7] := ⟨_, Tryz.func90, by kernel_rfl, Tryz.ntmps90, by kernel_rfl⟩
def F_impl_reach_l2 (k : Int) (r_1 : ((List (Int × Int × (List Int))) × Bool)) : ((List ((List Int) × Int × Int × Int × (List Int) × Int)) × Int) -> Option (((List ((List Int) × Int × Int × Int × (List Int) × Int)) × Int) ⊕ (((List ((List Int) × Int × Int × Int × (List Int) × Int)) × Int) ⊕ ((List ((List Int) × Int × Int × Int × (List Int) × Int)) × Bool)))
 | (all_1, v43) =>
  if (decide (v43 < (r_1.1.length : Int))) = true then
   if 0 <= v43 /\ v43 < (r_1.1.length : Int) then
    (F_impl_found all_1 ((r_1.1.getD v43.toNat default).2.2)).bind fun r_2 =>
    if (decide (0 <= r_2)) = true then
     some (.inl (all_1, (IntKind.i64.wrap (v43 + 1))))
    else
     if ((all_1.length : Int) == 60) = true then
      Option.map Sum.inr (
       Option.map Sum.inr (
        some (all_1, false)))
     else
      if 0 <= k /\ k < (all_1.length : Int) then
       if (all_1.length + 1) * 80 <= 140737488355328 then
        some (.inl ((all_1 ++ [((r_1.1.getD v43.toNat default).2.2, k, (r_1.1.getD v43.toNat default).1, (r_1.1.getD v43.toNat default).2.1, (r_1.1.getD v43.toNat default).2.2, (IntKind.i64.wrap ((all_1.getD k.toNat default).2.2.2.2.2 + 1)))]), (IntKind.i64.wrap (v43 + 1))))
       else none
      else none
   else none
  else
   Option.map Sum.inr (
    some (.inl (all_1, (IntKind.i64.wrap (k + 1)))))
def F_impl_reach_l1 (sys : ((List Int) × (List ((List Int) × (List Int))))) (steps : Int) : ((List ((List Int) × Int × Int × Int × (List Int) × Int)) × Int) -> Option (((List ((List Int) × Int × Int × Int × (List Int) × Int)) × Int) ⊕ ((List ((List Int) × Int × Int × Int × (List Int) × Int)) × Bool))
 | (all, k) =>
  if (decide (k < (all.length : Int))) = true then
   if 0 <= k /\ k < (all.length : Int) then
    if ((all.getD k.toNat default).2.2.2.2.2 == steps) = true then
     some (.inl (all, (IntKind.i64.wrap (k + 1))))
    else
     if 0 <= k /\ k < (all.length : Int) then
      (F_impl_stepsFrom sys ((all.getD k.toNat default).1)).bind fun r_1 =>
      loopC (F_impl_reach_l2 k r_1) (all, 0)
     else none
   else none
  else
   Option.map Sum.inr (
    some (all, true))
def F_impl_reach (sys : ((List Int) × (List ((List Int) × (List Int))))) (t : (List Int)) (steps : Int) : Option ((List ((List Int) × Int × Int × Int × (List Int) × Int)) × Bool) :=
 (F_slices_Clone_int64_int64 t).bind fun r =>
 loopC (F_impl_reach_l1 sys steps) ([(r, (-1), 0, 0, [], 0)], 0)
instance c_impl_reach {sys : ((List Int) × (List ((List Int) × (List Int))))} {t : (List Int)} {steps : Int} : HasC (F_impl_reach sys t steps) fun rr => PFunN Tryz.prog 90 [D_impl_System sys, (slD 1 iD) t, iD steps] [(slD 6 D_impl_reached) rr.1, bD rr.2] := ⟨@fun rr h => by
 delta F_impl_reach at h
 refine fn90.pureLN (vcm_sound ?_)
 delta mc90
 refine stp ?_
 refine rC h fun r hr h => ?_
 refine m_lW h [6, 7, 8, 9, 10, 11, 13, 18, 19, 20, 21, 22, 23, 24, 25, 26, 27, 28, 29, 30, 31, 32, 33, 34, 35, 36, 37, 38, 39, 40, 41, 42, 43, 44, 45, 46, 47, 48, 49, 50, 51, 52, 53, 54, 55, 56, 57, 58, 59, 60, 61, 62, 63, 64, 65, 66, 67, 68, 69, 70] (fun pp => [(8, .own 6 17 (List.map D_impl_reached pp.1)), (9, .d (iD pp.2))]) (fun pp => [(3, .obj 33 [.d (slD 1 iD sys.1), .d (slD 2 D_impl_Rule sys.2)]), (17, .tok 120 6 pp.1.length)]) ?_
 rintro ⟨all, k⟩ t1 h hb1
 unfold F_impl_reach_l1 at h
 try dsimp only at h
 refine vcm_sound (stp ?_)
 refine iT h fun hc h => ?_
 refine ndI h fun hp h => ?_
 refine iF h fun hc h => ?_
 refine ndI h fun hp h => ?_
 refine dCN h fun r_1 hr_1 h => ?_
 refine drQ_of (by kernel_rfl) (stp ?_)
 refine m_lW h [6, 7, 8, 13, 43, 44, 45, 46, 47, 48, 49, 50, 51, 52, 53, 54, 55, 56, 57, 58, 59, 60, 61, 62, 63, 64, 65, 66, 67, 68, 69, 70] (fun pp => [(8, .own 6 17 (List.map D_impl_reached pp.1)), (43, .d (iD pp.2))]) (fun pp => [(3, .obj 33 [.d (slD 1 iD sys.1), .d (slD 2 D_impl_Rule sys.2)]), (17, .tok 120 6 pp.1.length)]) ?_
 rintro ⟨all_1, v43⟩ t2 h hb2
 unfold F_impl_reach_l2 at h
 try dsimp only at h
 refine vcm_sound (stp ?_)
 refine iT h fun hc h => ?_
 refine ndI h fun hp h => ?_
 refine rC h fun r_2 hr_2 h => ?_
 refine it h (fun hc h => ?_) fun hc h => ?_
 ·cases h
  refine ⟨_, rfl, ?_⟩
  refine (Weak.drop 13 (by omega)).trans ?_
  exact wk
 refine iF h fun hc h => ?_
 refine ndI h fun hp h => ?_
 refine ndI h fun hp h => ?_
 refine drQ_of (by kernel_rfl) (stp ?_)
 cases h
 refine ⟨_, rfl, ?_⟩
 refine (Weak.drop 13 (by omega)).trans ?_
 refine (Weak.drop 68 (by omega)).trans ?_
 exact wk⟩
def mc59 : MCode :=
 (.seq (.reg (sq 3 [bo 3 33 0] ++ sq 6 [.mv (.const (.slice none 0 0)), mb false])) (.seq (.seq (.reg (sq 13 [la 2 3, mv 2, mv 1, .bsl 16 22 1 [(t0 15)], cf 89 [13, 14, 16], nt 17])) (.cond (t0 18) (.seq (.reg (sq 6 [.mv (.const (.slice none 0 0)), mb false])) .ret) .skip)) (.seq (.reg (sq 20 [la 2 3, mv 1, mv 2, cf 90 [20, 21, 22]] ++ sq 19 [mv 23] ++ sq 24 [ex 19 0, ex 19 1] ++ sq 8 [mv 24, mv 25])) (.seq (.reg (sq 10 [.mv (.const (.slice none 0 0))])) (.seq (.seq (.reg (sq 26 [mv 8, ln 26, mi 0])) (.block 0 (.loop (.seq (.reg (sq 29 [bn .lss 28 27])) (.seq (.cond (t0 29) .skip (.exit 0)) (.seq (.block 1 (.seq (.reg (sq 30 [ix 6 26 28, la 6 30] ++ sq 12 [.alloc 12 120 [.sl 0 (some true) [], .lit (.int .i64 0), .lit (.int .i64 0), .lit (.int .i64 0), .sl 0 (some true) [], .lit (.int .i64 0)]] ++ s0 (sr 6 12 31))) (.reg (sq 32 [mv 10, fa 0 12, ld 33, .bsl 35 22 1 [(t0 34)], ap 36 22 1 24 32 35] ++ sq 10 [mv 36])))) (.reg (sq 37 [bi .add 28 1] ++ sq 28 [mv 37])))))))) (.seq (.reg (sq 38 [mv 10, mv 9] ++ sq 6 [mv 38, mv 39])) .ret))))))
theorem fn59 : MFn Tryz.prog 59 mc59 40 [.tmp 6, .tmp 7] := ⟨_, Tryz.func59, by kernel_rfl, Tryz.ntmps59, by kernel_rfl⟩
def F_impl_ReachOf_l1 (r_1 : ((List ((List Int) × Int × Int × Int × (List Int) × Int)) × Bool)) : ((List (List Int)) × Int) -> Option (((List (List Int)) × Int) ⊕ ((List (List Int)) × Bool))
 | (out, v28) =>
  if (decide (v28 < (r_1.1.length : Int))) = true then
   if 0 <= v28 /\ v28 < (r_1.1.length : Int) then
    if (out.length + 1) * 24 <= 140737488355328 then
     some (.inl ((out ++ [(r_1.1.getD v28.toNat default).1]), (IntKind.i64.wrap (v28 + 1))))
    else none
   else none
  else
   Option.map Sum.inr (
    some (out, r_1.2))
def F_impl_ReachOf (sys : ((List Int) × (List ((List Int) × (List Int))))) (t : (List Int)) (steps : Int) : Option ((List (List Int)) × Bool) :=
 (F_impl_reachOk sys steps [t]).bind fun r =>
 if r = true then
  (F_impl_reach sys t steps).bind fun r_1 =>
  loopC (F_impl_ReachOf_l1 r_1) ([], 0)
 else
  some ([], false)
instance c_impl_ReachOf {sys : ((List Int) × (List ((List Int) × (List Int))))} {t : (List Int)} {steps : Int} : HasC (F_impl_ReachOf sys t steps) fun rr => PFunN Tryz.prog 59 [D_impl_System sys, (slD 1 iD) t, iD steps] [(slD 1 (slD 1 iD)) rr.1, bD rr.2] := ⟨@fun rr h => by
 delta F_impl_ReachOf at h
 refine fn59.pureLN (vcm_sound ?_)
 delta mc59
 refine stp ?_
 refine rC h fun r hr h => ?_
 refine iT h fun hc h => ?_
 refine rCN h fun r_1 hr_1 h => ?_
 refine m_loopF h [10, 12, 28, 29, 30, 31, 32, 33, 34, 35, 36, 37] (fun pp => [(10, .own 1 36 (List.map (slD 1 iD) pp.1)), (28, .d (iD pp.2))]) (fun pp => [(3, .obj 33 [.d (slD 1 iD sys.1), .d (slD 2 D_impl_Rule sys.2)]), (16, .tok 22 1 1), (36, .tok 22 1 pp.1.length)]) ?_ ?_
 ·try dsimp only
  refine (Weak.thaw 10 36 22 1 rfl rfl).trans ?_
  exact wk
 rintro ⟨out, v28⟩ t1 h hb1
 unfold F_impl_ReachOf_l1 at h
 try dsimp only at h
 refine vcm_sound (stp ?_)
 refine iT h fun hc h => ?_
 refine ndI h fun hp h => ?_
 refine ndI h fun hp h => ?_
 cases h
 refine ⟨_, rfl, ?_⟩
 refine (Weak.drop 12 (by omega)).trans ?_
 refine (Weak.drop 35 (by omega)).trans ?_
 exact wk⟩
end Go.Proofs.YtglpjlpmijfocaaGreat
namespace Go.Proofs.YtglpjlpmijfocaaGreat
open Go Abx
attribute [local irreducible] vcm vgo vdr vrun vdrun MWp GhostQ BrC BrO BrG BrD BrH AmbO callR callD drQ EnvLe StoLe
set_option maxHeartbeats 4000000
def D_spec_l9Found (x : ((List (List Int)) × (List Int) × (List (Int × Int × (List Int))) × (List Int) × Bool)) : D := .agg [(slD 1 (slD 1 iD)) x.1, (slD 1 iD) x.2.1, (slD 3 D_impl_Step) x.2.2.1, (slD 1 iD) x.2.2.2.1, bD x.2.2.2.2]
instance : Cel D_spec_l9Found 5 := ⟨fun _ => rfl⟩
attribute [go_sem] D_spec_l9Found
def mc92 : MCode :=
 (.seq (.reg (sq 3 [bo 3 33 0] ++ sq 6 [.alloc 6 123 [.sl 0 (some true) [], .sl 0 (some true) [], .sl 0 (some true) [], .sl 0 (some true) [], .lit (.bool false)]])) (.seq (.reg (sq 11 [mv 1, cf 94 [11], .bsl 13 22 1 [(t0 12)], .bsl 14 2 1 [(i0 (-1))], .build [.lit (.int .i64 0), .lit (.int .i64 0), .sl 0 (some true) []] [], .bsl 16 97 3 [(t0 15)], .bsl 17 2 1 [(i0 0)], .build [.sl 0 (some true) [], .sl 0 (some true) [], .sl 0 (some true) [], .sl 0 (some true) [], .lit (.bool false)] [(0, 1, (t0 13)), (1, 1, (t0 14)), (2, 1, (t0 16)), (3, 1, (t0 17)), (4, 1, (.const (.bool true)))]] ++ sq 7 [.alloc 7 123 [.sl 0 (some true) [], .sl 0 (some true) [], .sl 0 (some true) [], .sl 0 (some true) [], .lit (.bool false)]] ++ s0 (sr 5 7 18))) (.seq (.seq (.reg (sq 8 [mi 0])) (.block 0 (.loop (.seq (.seq (.reg (sq 19 [mv 8, fa 0 7, ld 20, ln 21, bn .lss 19 22])) (.cond (t0 23) .skip (.exit 0))) (.seq (.block 1 (.seq (.seq (.reg (sq 26 [fa 3 7, ld 26, mv 8, ix 1 27 28, ld 29, mv 2, bn .eql 30 31])) (.cond (t0 32) (.exit 1) .skip)) (.seq (.draw (sq 33 [la 2 3, fa 0 7, ld 34, mv 8, ix 1 35 36, ld 37, cf 123 [33, 38]] ++ sq 9 [mv 39]) [[], [], [1], [], [2, 3], [4], [0, 5], [6, 6, 0, 1, 2, 3, 4, 5, 6]]) (.seq (.reg (sq 10 [mi 0])) (.block 2 (.loop (.seq (.seq (.reg (sq 40 [mv 10, mv 9, ln 41, bn .lss 40 42])) (.cond (t0 43) .skip (.exit 2))) (.seq (.block 3 (.seq (.seq (.draw (sq 46 [fa 0 7, ld 46, mv 9, mv 10, ix 3 48 49, fa 2 50, ld 51, cf 124 [47, 52], bi .geq 53 0]) [[], [0], [], [], [2, 3], [4], [5], [1, 6], [7]]) (.cond (t0 54) (.exit 3) .skip)) (.seq (.seq (.reg (sq 55 [fa 0 7, ld 55, ln 56, bi .eql 57 60])) (.cond (t0 58) (.seq (.reg (sq 59 [fa 4 7] ++ s0 (.store 1 (t0 59) (.const (.bool false))))) (.seq (.reg (sq 60 [la 5 7] ++ s0 (sr 5 6 60))) .ret)) .skip)) (.seq (.draw (sq 61 [fa 0 7, ld 61, mv 9, mv 10, ix 3 63 64, fa 2 65, ld 66, .bsl 68 22 1 [(t0 67)], ap 69 22 1 24 62 68, fa 0 7] ++ s0 (sr 1 70 69)) [[], [0], [], [], [2, 3], [4], [5], [6], [1, 7], [0, 1, 2, 3, 4, 5, 6, 7, 8], [9, 8, 8, 0, 1, 2, 3, 4, 5, 6, 7, 8]]) (.seq (.reg (sq 71 [fa 1 7, ld 71, mv 8, .bsl 74 2 1 [(t0 73)], ap 75 2 1 8 72 74, fa 1 7] ++ s0 (sr 1 76 75))) (.seq (.draw (sq 77 [fa 2 7, ld 77, mv 9, mv 10, ix 3 79 80, la 3 81, .bsl 83 97 3 [(t0 82)], ap 84 97 3 40 78 83, fa 2 7] ++ s0 (sr 1 85 84)) [[], [0], [], [], [2, 3], [4], [5], [1, 6], [0, 1, 2, 3, 4, 5, 6, 7], [8, 7, 7, 0, 1, 2, 3, 4, 5, 6, 7]]) (.draw (sq 86 [fa 3 7, ld 86, fa 3 7, ld 88, mv 8, ix 1 89 90, ld 91, bi .add 92 1, .bsl 94 2 1 [(t0 93)], ap 95 2 1 8 87 94, fa 3 7] ++ s0 (sr 1 96 95)) [[], [0], [], [2], [], [3, 4], [5], [6], [7], [1, 8], [0, 1, 2, 3, 4, 5, 6, 7, 8, 9], [10, 9, 9, 0, 1, 2, 3, 4, 5, 6, 7, 8, 9]]))))))) (.reg (sq 44 [mv 10, bi .add 44 1] ++ sq 10 [mv 45])))))))))) (.reg (sq 24 [mv 8, bi .add 24 1] ++ sq 8 [mv 25]))))))) (.seq (.reg (sq 97 [la 5 7] ++ s0 (sr 5 6 97))) .ret))))
theorem fn92 : MFn Tryz.prog 92 mc92 98 [.cell 6 5 true] := ⟨_, Tryz.func92, by kernel_rfl, Tryz.ntmps92, by kernel_rfl⟩
def F_spec_l9Find_l2 (i : Int) (r_1 : (List (Int × Int × (List Int)))) : (Int × (List (List Int)) × (List Int) × (List (Int × Int × (List Int))) × (List Int)) -> Option ((Int × (List (List Int)) × (List Int) × (List (Int × Int × (List Int))) × (List Int)) ⊕ ((Int × (List (List Int)) × (List Int) × (List (Int × Int × (List Int))) × (List Int)) ⊕ ((List (List Int)) × (List Int) × (List (Int × Int × (List Int))) × (List Int) × Bool)))
 | (k, f_4, f_5, f_6, f_7) =>
  if (decide (k < (r_1.length : Int))) = true then
   if 0 <= k /\ k < (r_1.length : Int) then
    (F_spec_l1TermPlace f_4 ((r_1.getD k.toNat default).2.2)).bind fun r_2 =>
    if (decide (0 <= r_2)) = true then
     some (.inl ((IntKind.i64.wrap (k + 1)), f_4, f_5, f_6, f_7))
    else
     if ((f_4.length : Int) == 60) = true then
      Option.map Sum.inr (
       Option.map Sum.inr (
        some (f_4, f_5, f_6, f_7, false)))
     else
      if 0 <= k /\ k < (r_1.length : Int) then
       if (f_4.length + 1) * 24 <= 140737488355328 then
        if (f_5.length + 1) * 8 <= 140737488355328 then
         if 0 <= k /\ k < (r_1.length : Int) then
          if (f_6.length + 1) * 40 <= 140737488355328 then
           if 0 <= i /\ i < (f_7.length : Int) then
            if (f_7.length + 1) * 8 <= 140737488355328 then
             some (.inl ((IntKind.i64.wrap (k + 1)), (f_4 ++ [(r_1.getD k.toNat default).2.2]), (f_5 ++ [i]), (f_6 ++ [((r_1.getD k.toNat default).1, (r_1.getD k.toNat default).2.1, (r_1.getD k.toNat default).2.2)]), (f_7 ++ [(IntKind.i64.wrap ((f_7.getD i.toNat default) + 1))])))
            else none
           else none
          else none
         else none
        else none
       else none
      else none
   else none
  else
   Option.map Sum.inr (
    some (.inl ((IntKind.i64.wrap (i + 1)), f_4, f_5, f_6, f_7)))
def F_spec_l9Find_l1 (sys : ((List Int) × (List ((List Int) × (List Int))))) (steps : Int) : (Int × (List (List Int)) × (List Int) × (List (Int × Int × (List Int))) × (List Int)) -> Option ((Int × (List (List Int)) × (List Int) × (List (Int × Int × (List Int))) × (List Int)) ⊕ ((List (List Int)) × (List Int) × (List (Int × Int × (List Int))) × (List Int) × Bool))
 | (i, f, f_1, f_2, f_3) =>
  if (decide (i < (f.length : Int))) = true then
   if 0 <= i /\ i < (f_3.length : Int) then
    if ((f_3.getD i.toNat default) == steps) = true then
     some (.inl ((IntKind.i64.wrap (i + 1)), f, f_1, f_2, f_3))
    else
     if 0 <= i /\ i < (f.length : Int) then
      (F_spec_l7Steps sys (f.getD i.toNat default)).bind fun r_1 =>
      loopC (F_spec_l9Find_l2 i r_1) (0, f, f_1, f_2, f_3)
     else none
   else none
  else
   Option.map Sum.inr (
    some (f, f_1, f_2, f_3, true))
def F_spec_l9Find (sys : ((List Int) × (List ((List Int) × (List Int))))) (t : (List Int)) (steps : Int) : Option ((List (List Int)) × (List Int) × (List (Int × Int × (List Int))) × (List Int) × Bool) :=
 (F_spec_l1Copy t).bind fun r =>
 loopC (F_spec_l9Find_l1 sys steps) (0, [r], [(-1)], [(0, 0, [])], [0])
instance c_spec_l9Find {sys : ((List Int) × (List ((List Int) × (List Int))))} {t : (List Int)} {steps : Int} : HasC (F_spec_l9Find sys t steps) fun rr => PFun Tryz.prog 92 [D_impl_System sys, (slD 1 iD) t, iD steps] (D_spec_l9Found rr) := ⟨@fun rr h => by
 delta F_spec_l9Find at h
 refine fn92.pureL (vcm_sound ?_)
 delta mc92
 refine stp ?_
 refine rCo [] [(3, 12)] h fun r hr h => ?_
 refine m_lW h [8, 9, 10, 19, 20, 21, 22, 23, 24, 25, 26, 27, 28, 29, 30, 31, 32, 33, 34, 35, 36, 37, 38, 39, 40, 41, 42, 43, 44, 45, 46, 47, 48, 49, 50, 51, 52, 53, 54, 55, 56, 57, 58, 59, 60, 61, 62, 63, 64, 65, 66, 67, 68, 69, 70, 71, 72, 73, 74, 75, 76, 77, 78, 79, 80, 81, 82, 83, 84, 85, 86, 87, 88, 89, 90, 91, 92, 93, 94, 95, 96] (fun pp => [(8, .d (iD pp.1))]) (fun pp => [(3, .obj 33 [.d (slD 1 iD sys.1), .d (slD 2 D_impl_Rule sys.2)]), (6, .obj 123 [.d (.sl 0 (some true) []), .d (.sl 0 (some true) []), .d (.sl 0 (some true) []), .d (.sl 0 (some true) []), .d (bD false)]), (7, .obj 123 [.own 1 13 (List.map (slD 1 iD) pp.2.1), .own 1 14 (List.map iD pp.2.2.1), .own 3 16 (List.map D_impl_Step pp.2.2.2.1), .own 1 17 (List.map iD pp.2.2.2.2), .d (bD true)]), (12, .tok 2 1 r.length), (13, .tok 22 1 pp.2.1.length), (14, .tok 2 1 pp.2.2.1.length), (16, .tok 97 3 pp.2.2.2.1.length), (17, .tok 2 1 pp.2.2.2.2.length)]) ?_
 rintro ⟨i, f, f_1, f_2, f_3⟩ t1 h hb1
 unfold F_spec_l9Find_l1 at h
 try dsimp only at h
 refine vcm_sound (stp ?_)
 refine iT h fun hc h => ?_
 refine ndI h fun hp h => ?_
 refine iF h fun hc h => ?_
 refine ndI h fun hp h => ?_
 refine dC h fun r_1 hr_1 h => ?_
 refine drQ_of (by kernel_rfl) (stp ?_)
 refine m_lW h [10, 40, 41, 42, 43, 44, 45, 46, 47, 48, 49, 50, 51, 52, 53, 54, 55, 56, 57, 58, 59, 60, 61, 62, 63, 64, 65, 66, 67, 68, 69, 70, 71, 72, 73, 74, 75, 76, 77, 78, 79, 80, 81, 82, 83, 84, 85, 86, 87, 88, 89, 90, 91, 92, 93, 94, 95, 96] (fun pp => [(10, .d (iD pp.1))]) (fun pp => [(3, .obj 33 [.d (slD 1 iD sys.1), .d (slD 2 D_impl_Rule sys.2)]), (6, .obj 123 [.d (.sl 0 (some true) []), .d (.sl 0 (some true) []), .d (.sl 0 (some true) []), .d (.sl 0 (some true) []), .d (bD false)]), (7, .obj 123 [.own 1 13 (List.map (slD 1 iD) pp.2.1), .own 1 14 (List.map iD pp.2.2.1), .own 3 16 (List.map D_impl_Step pp.2.2.2.1), .own 1 17 (List.map iD pp.2.2.2.2), .d (bD true)]), (12, .tok 2 1 r.length), (13, .tok 22 1 pp.2.1.length), (14, .tok 2 1 pp.2.2.1.length), (16, .tok 97 3 pp.2.2.2.1.length), (17, .tok 2 1 pp.2.2.2.2.length)]) ?_
 rintro ⟨k, f_4, f_5, f_6, f_7⟩ t2 h hb2
 unfold F_spec_l9Find_l2 at h
 try dsimp only at h
 refine vcm_sound (stp ?_)
 refine iT h fun hc h => ?_
 refine ndI h fun hp h => ?_
 refine dC h fun r_2 hr_2 h => ?_
 refine drQ_of (by kernel_rfl) (stp ?_)
 refine iF h fun hc h => ?_
 refine iF h fun hc h => ?_
 refine ndI h fun hp h => ?_
 refine ndI h fun hp h => ?_
 refine drQ_of (by kernel_rfl) (stp ?_)
 refine ndI h fun hp h => ?_
 refine ndI h fun hp h => ?_
 refine ndI h fun hp h => ?_
 refine drQ_of (by kernel_rfl) (stp ?_)
 refine ndI h fun hp h => ?_
 refine ndI h fun hp h => ?_
 refine drQ_of (by kernel_rfl) (stp ?_)
 cases h
 refine ⟨_, rfl, ?_⟩
 refine (Weak.drop 68 (by omega)).trans ?_
 refine (Weak.drop 74 (by omega)).trans ?_
 refine (Weak.drop 83 (by omega)).trans ?_
 refine (Weak.drop 94 (by omega)).trans ?_
 exact wk⟩
def mc93 : MCode :=
 (.seq (.reg (sq 2 [.mv (.const (.slice none 0 0))])) (.seq (.reg (sq 5 [.bsl 5 22 1 []] ++ sq 3 [mv 5])) (.seq (.seq (.reg (sq 4 [mi 0])) (.block 0 (.loop (.seq (.seq (.reg (sq 6 [mv 4, mv 0, ln 7, bn .lss 6 8])) (.cond (t0 9) .skip (.exit 0))) (.seq (.block 1 (.reg (sq 12 [mv 3, mv 0, mv 4, ix 1 13 14, ld 15, cf 94 [16], .bsl 18 22 1 [(t0 17)], ap 19 22 1 24 12 18] ++ sq 3 [mv 19]))) (.reg (sq 10 [mv 4, bi .add 10 1] ++ sq 4 [mv 11]))))))) (.seq (.reg (sq 20 [mv 3] ++ sq 2 [mv 20])) .ret))))
theorem fn93 : MFn Tryz.prog 93 mc93 21 [.tmp 2] := ⟨_, Tryz.func93, by kernel_rfl, Tryz.ntmps93, by kernel_rfl⟩
def F_spec_l1CopyTerms_l1 (list : (List (List Int))) : ((List (List Int)) × Int) -> Option (((List (List Int)) × Int) ⊕ (List (List Int)))
 | (out, i) =>
  if (decide (i < (list.length : Int))) = true then
   if 0 <= i /\ i < (list.length : Int) then
    (F_spec_l1Copy (list.getD i.toNat default)).bind fun r =>
    if (out.length + 1) * 24 <= 140737488355328 then
     some (.inl ((out ++ [r]), (IntKind.i64.wrap (i + 1))))
    else none
   else none
  else
   Option.map Sum.inr (
    some out)
def F_spec_l1CopyTerms (list : (List (List Int))) : Option (List (List Int)) :=
 loopC (F_spec_l1CopyTerms_l1 list) ([], 0)
instance c_spec_l1CopyTerms {list : (List (List Int))} : HasC (F_spec_l1CopyTerms list) fun rr => PFun Tryz.prog 93 [(slD 1 (slD 1 iD)) list] ((slD 1 (slD 1 iD)) rr) := ⟨@fun rr h => by
 delta F_spec_l1CopyTerms at h
 refine fn93.pureL (vcm_sound ?_)
 delta mc93
 refine stp ?_
 refine m_lW h [3, 4, 6, 7, 8, 9, 10, 11, 12, 13, 14, 15, 16, 17, 18, 19] (fun pp => [(3, .own 1 5 (List.map (slD 1 iD) pp.1)), (4, .d (iD pp.2))]) (fun pp => [(5, .tok 22 1 pp.1.length)]) ?_
 rintro ⟨out, i⟩ t1 h hb1
 unfold F_spec_l1CopyTerms_l1 at h
 try dsimp only at h
 refine vcm_sound (stp ?_)
 refine iT h fun hc h => ?_
 refine ndI h fun hp h => ?_
 refine rCo [] [(3, 17)] h fun r hr h => ?_
 refine ndI h fun hp h => ?_
 cases h
 refine ⟨_, rfl, ?_⟩
 refine (Weak.drop 17 (by omega)).trans ?_
 refine (Weak.drop 18 (by omega)).trans ?_
 exact wk⟩
def mc61 : MCode :=
 (.seq (.reg (sq 3 [bo 3 33 0] ++ sq 6 [.mv (.const (.slice none 0 0)), mb false])) (.seq (.seq (.reg (sq 9 [la 2 3, mv 1, mv 2, cf 91 [9, 10, 11], nt 12])) (.cond (t0 13) (.seq (.reg (sq 14 [.bsl 14 22 1 []] ++ sq 6 [mv 14, mb false])) .ret) .skip)) (.seq (.reg (sq 15 [la 2 3, mv 1, mv 2, cf 92 [15, 16, 17]] ++ sq 8 [.alloc 8 123 [.sl 0 (some true) [], .sl 0 (some true) [], .sl 0 (some true) [], .sl 0 (some true) [], .lit (.bool false)]] ++ s0 (sr 5 8 18))) (.seq (.draw (sq 19 [fa 0 8, ld 19, cf 93 [20], fa 4 8, ld 22] ++ sq 6 [mv 21, mv 23]) [[], [0], [1], [], [3], [2, 2, 0, 1, 2], [4, 5, 0, 1, 2, 3, 4, 5]]) .ret))))
theorem fn61 : MFn Tryz.prog 61 mc61 24 [.tmp 6, .tmp 7] := ⟨_, Tryz.func61, by kernel_rfl, Tryz.ntmps61, by kernel_rfl⟩
def F_spec_ReachOf (sys : ((List Int) × (List ((List Int) × (List Int))))) (t : (List Int)) (steps : Int) : Option ((List (List Int)) × Bool) :=
 (F_spec_l9Right sys t steps).bind fun r =>
 if r = true then
  (F_spec_l9Find sys t steps).bind fun r_1 =>
  (F_spec_l1CopyTerms r_1.1).bind fun r_2 =>
  some (r_2, r_1.2.2.2.2)
 else
  some ([], false)
instance c_spec_ReachOf {sys : ((List Int) × (List ((List Int) × (List Int))))} {t : (List Int)} {steps : Int} : HasC (F_spec_ReachOf sys t steps) fun rr => PFunN Tryz.prog 61 [D_impl_System sys, (slD 1 iD) t, iD steps] [(slD 1 (slD 1 iD)) rr.1, bD rr.2] := ⟨@fun rr h => by
 delta F_spec_ReachOf at h
 refine fn61.pureLN (vcm_sound ?_)
 delta mc61
 refine stp ?_
 exact aut⟩
def mc25 : MCode :=
 (.seq (.reg (sq 3 [bo 3 33 0] ++ sq 6 [mi 0])) (.seq (.reg (sq 12 [la 2 3, mv 1, mv 2, cf 61 [12, 13, 14]] ++ sq 11 [mv 15] ++ sq 16 [ex 11 0, ex 11 1] ++ sq 7 [mv 16, mv 17])) (.seq (.seq (.reg (sq 18 [mv 8, nt 18])) (.cond (t0 19) (.seq (.reg (sq 6 [mi (-1)])) .ret) .skip)) (.seq (.reg (sq 9 [mi 0])) (.seq (.seq (.reg (sq 10 [mi 0])) (.block 0 (.loop (.seq (.seq (.reg (sq 20 [mv 10, mv 7, ln 21, bn .lss 20 22])) (.cond (t0 23) .skip (.exit 0))) (.seq (.block 1 (.reg (sq 26 [mv 9, mv 7, mv 10, ix 1 27 28, ld 29, ln 30, cf 47 [26, 31]] ++ sq 9 [mv 32]))) (.reg (sq 24 [mv 10, bi .add 24 1] ++ sq 10 [mv 25]))))))) (.seq (.reg (sq 33 [mv 9] ++ sq 6 [mv 33])) .ret))))))
theorem fn25 : MFn Tryz.prog 25 mc25 34 [.tmp 6] := ⟨_, Tryz.func25, by kernel_rfl, Tryz.ntmps25, by kernel_rfl⟩
def F_spec_GrowthOf_l1 (r : ((List (List Int)) × Bool)) : (Int × Int) -> Option ((Int × Int) ⊕ Int)
 | (most, i) =>
  if (decide (i < (r.1.length : Int))) = true then
   if 0 <= i /\ i < (r.1.length : Int) then
    (F_spec_l1Max most ((r.1.getD i.toNat default).length : Int)).bind fun r_1 =>
    some (.inl (r_1, (IntKind.i64.wrap (i + 1))))
   else none
  else
   Option.map Sum.inr (
    some most)
def F_spec_GrowthOf (sys : ((List Int) × (List ((List Int) × (List Int))))) (t : (List Int)) (steps : Int) : Option Int :=
 (F_spec_ReachOf sys t steps).bind fun r =>
 if r.2 = true then
  loopC (F_spec_GrowthOf_l1 r) (0, 0)
 else
  some (-1)
instance c_spec_GrowthOf {sys : ((List Int) × (List ((List Int) × (List Int))))} {t : (List Int)} {steps : Int} : HasC (F_spec_GrowthOf sys t steps) fun rr => PFun Tryz.prog 25 [D_impl_System sys, (slD 1 iD) t, iD steps] (iD rr) := ⟨@fun rr h => by
 delta F_spec_GrowthOf at h
 refine fn25.pureL (vcm_sound ?_)
 delta mc25
 refine stp ?_
 refine rCN h fun r hr h => ?_
 refine iT h fun hc h => ?_
 refine m_lW h [9, 10, 20, 21, 22, 23, 24, 25, 26, 27, 28, 29, 30, 31, 32] (fun pp => [(9, .d (iD pp.1)), (10, .d (iD pp.2))]) (fun pp => [(3, .obj 33 [.d (slD 1 iD sys.1), .d (slD 2 D_impl_Rule sys.2)])]) ?_
 rintro ⟨most, i⟩ t1 h hb1
 unfold F_spec_GrowthOf_l1 at h
 try dsimp only at h
 refine vcm_sound (stp ?_)
 exact aut⟩
end Go.Proofs.YtglpjlpmijfocaaGreat
namespace Go.Proofs.YtglpjlpmijfocaaGreat
open Go Abx
attribute [local irreducible] vcm vgo vdr vrun vdrun MWp GhostQ BrC BrO BrG BrD BrH AmbO callR callD drQ EnvLe StoLe
set_option maxHeartbeats 4000000
def mc60 : MCode :=
 (.seq (.reg (sq 2 [mi 0])) (.seq (.reg (sq 3 [mv 0, ln 3] ++ sq 2 [mv 4])) .ret))
theorem fn60 : MFn Tryz.prog 60 mc60 5 [.tmp 2] := ⟨_, Tryz.func60, by kernel_rfl, Tryz.ntmps60, by kernel_rfl⟩
def F_impl_GrowthOf_1 (u : (List Int)) : Option Int :=
 some (u.length : Int)
instance c_impl_GrowthOf_1 {u : (List Int)} : HasC (F_impl_GrowthOf_1 u) fun rr => PFun Tryz.prog 60 [(slD 1 iD) u] (iD rr) := ⟨@fun rr h => by
 delta F_impl_GrowthOf_1 at h
 refine fn60.pureL (vcm_sound ?_)
 delta mc60
 refine stp ?_
 exact aut⟩
def F_impl_greatest_s3_l1 (ts : (List (List Int))) : (Int × Int) -> Option ((Int × Int) ⊕ Int)
 | (out, v11) =>
  if (decide (v11 < (ts.length : Int))) = true then
   if 0 <= v11 /\ v11 < (ts.length : Int) then
    (F_impl_GrowthOf_1 (ts.getD v11.toNat default)).bind fun r =>
    if (decide (r < 0)) = true then
     Option.map Sum.inr (
      some (-1))
    else
     some (.inl ((if r > out then r else out), (IntKind.i64.wrap (v11 + 1))))
   else none
  else
   Option.map Sum.inr (
    some out)
def F_impl_greatest_s3 (ts : (List (List Int))) : Option Int :=
 loopC (F_impl_greatest_s3_l1 ts) (0, 0)
instance c_impl_greatest_s3 {ts : (List (List Int))} : HasC (F_impl_greatest_s3 ts) fun rr => ACalls Tryz.prog 36 [.d (slD 1 (slD 1 iD) ts), .fn 60 [] []] [] 0 fun xx ss => xx = .d (iD rr) /\ ss = [] := ⟨@fun rr h => by
 delta F_impl_greatest_s3 at h
 refine fn36.callsO (vcm_sound ?_)
 delta mc36
 refine stp ?_
 refine m_lW h [4, 5, 7, 8, 11, 12, 13, 14, 15, 16, 17, 18, 19, 20, 21, 22, 23] (fun pp => [(5, .d (iD pp.1)), (11, .d (iD pp.2))]) (fun pp => []) ?_
 rintro ⟨out, v11⟩ t1 h hb1
 unfold F_impl_greatest_s3_l1 at h
 try dsimp only at h
 refine vcm_sound (stp ?_)
 refine iT h fun hc h => ?_
 refine ndI h fun hp h => ?_
 refine need_i (by kernel_rfl) ?_
 exact aut⟩
def mc24 : MCode :=
 (.seq (.reg (sq 3 [bo 3 33 0] ++ sq 6 [mi 0])) (.seq (.reg (sq 10 [la 2 3, mv 1, mv 2, cf 59 [10, 11, 12]] ++ sq 9 [mv 13] ++ sq 14 [ex 9 0, ex 9 1] ++ sq 7 [mv 14, mv 15])) (.seq (.seq (.reg (sq 16 [mv 8, nt 16])) (.cond (t0 17) (.seq (.reg (sq 6 [mi (-1)])) .ret) .skip)) (.seq (.reg (sq 18 [mv 7, .callf 36 [(t0 18), (.func 60)]] ++ sq 6 [mv 19])) .ret))))
theorem fn24 : MFn Tryz.prog 24 mc24 20 [.tmp 6] := ⟨_, Tryz.func24, by kernel_rfl, Tryz.ntmps24, by kernel_rfl⟩
def F_impl_GrowthOf (sys : ((List Int) × (List ((List Int) × (List Int))))) (t : (List Int)) (steps : Int) : Option Int :=
 (F_impl_ReachOf sys t steps).bind fun r =>
 if r.2 = true then
  (F_impl_greatest_s3 r.1).bind fun r_1 =>
  some r_1
 else
  some (-1)
instance c_impl_GrowthOf {sys : ((List Int) × (List ((List Int) × (List Int))))} {t : (List Int)} {steps : Int} : HasC (F_impl_GrowthOf sys t steps) fun rr => PFun Tryz.prog 24 [D_impl_System sys, (slD 1 iD) t, iD steps] (iD rr) := ⟨@fun rr h => by
 delta F_impl_GrowthOf at h
 refine fn24.pureL (vcm_sound ?_)
 delta mc24
 refine stp ?_
 refine rCN h fun r hr h => ?_
 refine iT h fun hc h => ?_
 refine rCo [] [] h fun r_1 hr_1 h => ?_
 exact aut⟩
end Go.Proofs.YtglpjlpmijfocaaGreat
namespace Go.Proofs.YtglpjlpmijfocaaGreat
open Go Abx Tm
theorem F_impl_ruleAt_eq {s : Sys} {t : List Int} (hs : sysOk s = true) (ht : termOk s.1 t = true) {i : Nat} (hi : i < t.length) : F_impl_ruleAt s t i = some (ruleI s (at' s.1 t i)) := by
 obtain ⟨ha, hl, hr⟩ := sysOk_iff.1 hs
 obtain ⟨_, t1, t2, t3⟩ := termOk_iff.1 ht
 obtain ⟨q, hd, hu, hul, _⟩ := at_place ht hi
 unfold F_impl_ruleAt
 refine loop_first (fun j r hj hm hg => ?_) (by simp [F_impl_ruleAt_l1])
 obtain ⟨hL, _⟩ := ruleOk_iff.1 (hr r hm)
 obtain ⟨_, _, l2, l3⟩ := termOk_iff.1 hL
 obtain ⟨r5, e1, e2⟩ := (F_impl_match_ok ha l3 hu l2 hul).get
 have e3 := match_isSome e2
 simp only [F_impl_ruleAt_l1, F_impl_redex, F_impl_instance, show (j : Int) < s.2.length by omega, decide_true, if_true, show (0 : Int) <= j by omega, and_self, Int.toNat_natCast, hg, w64 (n := (j : Int) + 1) (by omega) (by omega)]
 rw [F_impl_subAt_eq ha (show List.length _ < _ by omega) (fun x hx => (t3.all x hx).1) hd hu, Option.bind_some, e1]
 simp only [Option.bind_some, e3]
 cases (mat s.1 r.1 (at' s.1 t i) none24).isSome <;> simp
theorem F_spec_l8Redex_eq {s : Sys} {t : List Int} (hs : sysOk s = true) (ht : termOk s.1 t = true) {i : Nat} (hi : i < t.length) : F_spec_l8Redex s t i = some (ruleI s (at' s.1 t i)) := by
 obtain ⟨ha, hl, hr⟩ := sysOk_iff.1 hs
 obtain ⟨_, t1, t2, t3⟩ := termOk_iff.1 ht
 obtain ⟨q, hd, hu, hul, _⟩ := at_place ht hi
 unfold F_spec_l8Redex
 rw [F_spec_l1Sub_eq ha (show List.length _ < _ by omega) hd hu, Option.bind_some]
 refine loop_first (fun j r hj hm hg => ?_) (by simp [F_spec_l8Redex_l1])
 obtain ⟨hL, _⟩ := ruleOk_iff.1 (hr r hm)
 obtain ⟨_, _, l2, l3⟩ := termOk_iff.1 hL
 obtain ⟨r5, e1, e2⟩ := (F_spec_l4Match_ok ha l3 hu l2 hul).get
 have e3 := match_isSome e2
 simp only [F_spec_l8Redex_l1, show (j : Int) < s.2.length by omega, decide_true, if_true, show (0 : Int) <= j by omega, and_self, Int.toNat_natCast, hg, w64 (n := (j : Int) + 1) (by omega) (by omega)]
 rw [e1, Option.bind_some, e3]
 cases (mat s.1 r.1 (at' s.1 t i) none24).isSome <;> simp
theorem F_impl_redexes_eq {s : Sys} {t : List Int} (hs : sysOk s = true) (ht : termOk s.1 t = true) : F_impl_redexes s t = some (posR s t) := by
 obtain ⟨_, t1, t2, t3⟩ := termOk_iff.1 ht
 unfold F_impl_redexes
 refine loop_filter (n := t.length) (p := isR s t) (g := fun i => (i : Int)) (fun i out hi ho => ?_) (by simp [F_impl_redexes_l1, posR])
 simp only [F_impl_redexes_l1, show (i : Int) < t.length by omega, decide_true, if_true, show (0 : Int) <= i by omega, and_self, Int.toNat_natCast, getD_get hi, w64 (n := (i : Int) + 1) (by omega) (by omega)]
 by_cases h0 : 0 <= t[i]
 ·simp only [h0, decide_true, if_true]
  rw [F_impl_ruleAt_eq hs ht hi, Option.bind_some, if_pos (show (out.length + 1) * 8 <= 140737488355328 by omega)]
  unfold isR
  by_cases h1 : 0 <= ruleI s (at' s.1 t i)
  ·simp [h1]
  ·simp [h1]
 ·obtain ⟨_, _, _, _, u, e⟩ := at_place ht hi
  have : isR s t i = false := by
   unfold isR
   rw [e, ruleI_var hs (by omega)]; rfl
  simp [h0, this]
theorem F_spec_RedexesIn_eq {s : Sys} {t : List Int} (hs : sysOk s = true) (ht : termOk s.1 t = true) : F_spec_RedexesIn s t = some (posR s t) := by
 obtain ⟨_, t1, t2, t3⟩ := termOk_iff.1 ht
 unfold F_spec_RedexesIn
 refine loop_filter (n := t.length) (p := isR s t) (g := fun i => (i : Int)) (fun i out hi ho => ?_) (by simp [F_spec_RedexesIn_l1, posR])
 simp only [F_spec_RedexesIn_l1, show (i : Int) < t.length by omega, decide_true, if_true, F_spec_l7Right_eq, hs, ht, Bool.and_self, Option.bind_some, w64 (n := (i : Int) + 1) (by omega) (by omega)]
 rw [F_spec_l8Redex_eq hs ht hi, Option.bind_some, if_pos (show (out.length + 1) * 8 <= 140737488355328 by omega)]
 unfold isR
 by_cases h1 : 0 <= ruleI s (at' s.1 t i)
 ·simp [h1]
 ·simp [h1]
theorem F_impl_inmost_eq {s : Sys} {t : List Int} (hs : sysOk s = true) (ht : termOk s.1 t = true) : F_impl_inmost s t = some (inmL s t) := by
 obtain ⟨ha, t1, t2, t3⟩ := termOk_iff.1 ht
 have hl := posR_len (s := s) (t := t)
 unfold F_impl_inmost
 rw [F_impl_redexes_eq hs ht, Option.bind_some]
 refine loop_filter (n := (posR s t).length) (p := keepB s t (posR s t)) (g := fun k => (posR s t).getD k default) (fun k out hk ho => ?_) (by simp [F_impl_inmost_l1, inmL])
 obtain ⟨i, e, hi, _⟩ := posR_mem (getD_mem hk)
 simp only [F_impl_inmost_l1, show (k : Int) < (posR s t).length by omega, decide_true, if_true, show (0 : Int) <= k by omega, and_self, Int.toNat_natCast, w64 (n := (k : Int) + 1) (by omega) (by omega), show (out.length + 1) * 8 <= 140737488355328 by omega]
 unfold keepB
 by_cases hlast : k + 1 = (posR s t).length
 ·have h1 : (((k : Int) + 1) == (((posR s t).length : Nat) : Int)) = true := by rw [beq_iff_eq]; omega
  simp [h1, hlast]
 ·have h1 : (((k : Int) + 1) == (((posR s t).length : Nat) : Int)) = false := by rw [beq_eq_false_iff_ne]; omega
  have hk1 : k + 1 < (posR s t).length := by omega
  have hlt : (posR s t).getD k default <= (posR s t).getD (k + 1) default := by
   rw [getD_get hk, getD_get hk1]
   exact Int.le_of_lt (List.pairwise_iff_getElem.1 (posR_sorted s t) k (k + 1) hk hk1 (by omega))
  simp only [h1, Bool.false_eq_true, if_false, show (0 : Int) <= (k : Int) + 1 by omega, show (k : Int) + 1 < (posR s t).length by omega, and_self, if_true, show ((k : Int) + 1).toNat = k + 1 by omega, hlast, decide_false, Bool.false_or]
  unfold F_impl_inside
  simp only [hlt, decide_true, if_true]
  have he := F_impl_endAt_eq ha (show Small t by show List.length _ < _; omega) (fun x hx => (t3.all x hx).1) (i := i) (by omega)
  rw [<- e] at he
  rw [he, Option.bind_some, Option.bind_some, show i = ((posR s t).getD k default).toNat by omega]
  by_cases hc : endI s.1 t ((posR s t).getD k default).toNat <= (posR s t).getD (k + 1) default
  ·simp only [hc, show ¬ (posR s t).getD (k + 1) default < endI s.1 t ((posR s t).getD k default).toNat by omega, decide_true, decide_false, Bool.false_eq_true, if_false, if_true]
  ·simp only [hc, show (posR s t).getD (k + 1) default < endI s.1 t ((posR s t).getD k default).toNat by omega, decide_true, decide_false, Bool.false_eq_true, if_false, if_true]
theorem F_spec_InmostIn_eq {s : Sys} {t : List Int} (hs : sysOk s = true) (ht : termOk s.1 t = true) : F_spec_InmostIn s t = some (inmL s t) := by
 obtain ⟨ha, t1, t2, t3⟩ := termOk_iff.1 ht
 have hl := posR_len (s := s) (t := t)
 unfold F_spec_InmostIn
 rw [F_spec_RedexesIn_eq hs ht, Option.bind_some]
 refine loop_filter (n := (posR s t).length) (p := keepB s t (posR s t)) (g := fun k => (posR s t).getD k default) (fun k out hk ho => ?_) (by simp [F_spec_InmostIn_l1, inmL])
 obtain ⟨i, e, hi, _⟩ := posR_mem (getD_mem hk)
 have he := F_spec_l1End_eq ha (show Small t by show List.length _ < _; omega) (i := i) (by omega)
 rw [<- e] at he
 simp only [F_spec_InmostIn_l1, show (k : Int) < (posR s t).length by omega, decide_true, if_true, show (0 : Int) <= k by omega, and_self, Int.toNat_natCast, w64 (n := (k : Int) + 1) (by omega) (by omega), show (out.length + 1) * 8 <= 140737488355328 by omega, he, Option.bind_some]
 unfold keepB
 by_cases hlast : k + 1 = (posR s t).length
 ·have h1 : (((k : Int) + 1) == (((posR s t).length : Nat) : Int)) = true := by rw [beq_iff_eq]; omega
  simp [h1, hlast]
 ·have h1 : (((k : Int) + 1) == (((posR s t).length : Nat) : Int)) = false := by rw [beq_eq_false_iff_ne]; omega
  simp only [h1, Bool.false_eq_true, if_false, show (0 : Int) <= (k : Int) + 1 by omega, show (k : Int) + 1 < (posR s t).length by omega, and_self, if_true, show ((k : Int) + 1).toNat = k + 1 by omega, hlast, decide_false, Bool.false_or]
  rw [show i = ((posR s t).getD k default).toNat by omega]
  by_cases hc : endI s.1 t ((posR s t).getD k default).toNat <= (posR s t).getD (k + 1) default
  ·simp only [hc, decide_true, if_true]
  ·simp only [hc, decide_false, Bool.false_eq_true, if_false]
theorem F_impl_pick_eq {s : Sys} {t : List Int} (hs : sysOk s = true) (ht : termOk s.1 t = true) : F_impl_pick s t 1 = some (pickI s t) := by
 unfold F_impl_pick pickI
 rw [F_impl_redexes_eq hs ht, Option.bind_some, w64 (n := (1 : Int) - 1) (by omega) (by omega)]
 by_cases h : posR s t = []
 ·rw [if_pos h, h]; rfl
 ·have h0 := List.length_pos_iff.2 h
  have h1 : (((posR s t).length : Int) == 0) = false := beq_eq_false_iff_ne.2 (by omega)
  have h2 : (((1 : Int) - 1) == 0) = true := rfl
  have h3 := inmL_ne h
  simp only [h1, Bool.false_eq_true, if_false, h2, if_true, h]
  unfold F_impl_choice_inmost
  have e : F_impl_inmost (s.1, s.2) t = some (inmL s t) := F_impl_inmost_eq hs ht
  simp only [e, Option.bind_some]
  rw [if_pos (by omega), Option.bind_some]
theorem F_spec_l8Right_eq {s : Sys} {t : List Int} (hs : sysOk s = true) (ht : termOk s.1 t = true) : F_spec_l8Right s t 1 = some true := by
 unfold F_spec_l8Right
 rw [F_spec_l7Right_eq, Option.bind_some, hs, ht]
 simp only [Bool.and_self, if_true]
 rw [F_spec_l1In_eq, Option.bind_some]; rfl
theorem F_spec_PickBy_eq {s : Sys} {t : List Int} (hs : sysOk s = true) (ht : termOk s.1 t = true) :
 F_spec_PickBy s t 1 = some (if posR s t = [] then (0, 0, false) else (pickI s t, ruleI s (at' s.1 t (pickI s t).toNat), true)) := by
 unfold F_spec_PickBy F_spec_l8Places
 have h2 : ((1 : Int) == 1) = true := rfl
 rw [F_spec_l8Right_eq hs ht, Option.bind_some, if_pos rfl, if_pos h2, F_spec_InmostIn_eq hs ht, Option.bind_some, Option.bind_some]
 by_cases h : posR s t = []
 ·have : inmL s t = [] := List.eq_nil_iff_forall_not_mem.2 fun x hx => by have := inmL_mem hx; rw [h] at this; cases this
  rw [if_pos h, this]; rfl
 ·have h3 := inmL_ne h
  have h1 : (((inmL s t).length : Int) == 0) = false := beq_eq_false_iff_ne.2 (by omega)
  obtain ⟨i, e, hi, _⟩ := pickI_at h
  have e' : (inmL s t).getD 0 default = pickI s t := by unfold pickI; rw [if_neg h]
  simp only [h1, Bool.false_eq_true, if_false, h, e']
  rw [if_pos (by omega), if_pos (by omega), e, F_spec_l8Redex_eq hs ht hi, Option.bind_some, Int.toNat_natCast]
theorem F_spec_NormalIn_eq {s : Sys} {t : List Int} (hs : sysOk s = true) (ht : termOk s.1 t = true) : F_spec_NormalIn s t = some (decide (posR s t = [])) := by
 obtain ⟨ha, hl, hr⟩ := sysOk_iff.1 hs
 obtain ⟨_, t1, t2, t3⟩ := termOk_iff.1 ht
 unfold F_spec_NormalIn
 rw [F_spec_l7Right_eq, Option.bind_some, hs, ht]
 simp only [Bool.and_self, if_true]
 have key : Okk True (F_spec_l7Redexes s t) fun m => (m = 0 ↔ posR s t = []) := by
  unfold F_spec_l7Redexes
  refine Okk.loop (fun q : Int × Int => ∃ i : Nat, q.2 = i /\ i <= t.length /\ 0 <= q.1 /\ q.1 <= 12 * i /\ (q.1 = 0 ↔ ∀ j, j < i -> ruleI s (at' s.1 t j) = -1)) (fun q : Int × Int => t.length - q.2.toNat) ⟨0, rfl, by omega, by omega, by simp, by simp⟩ ?_
  rintro ⟨many, _⟩ ⟨i, rfl, h1, h2, h3, h4⟩
  simp only at h2 h3 h4
  simp only [F_spec_l7Redexes_l1]
  by_cases hi : i < t.length
  ·obtain ⟨q, hd, hu, hul, _⟩ := at_place ht hi
   simp only [show (i : Int) < t.length by omega, decide_true, if_true]
   refine Okk.loop (fun q : Int × Int => ∃ j : Nat, q.2 = j /\ j <= s.2.length /\ many <= q.1 /\ q.1 <= many + j /\ (q.1 = many ↔ ∀ r ∈ s.2.take j, (mat s.1 r.1 (at' s.1 t i) none24).isSome = false)) (fun q : Int × Int => s.2.length - q.2.toNat) ⟨0, rfl, by omega, by simp, by simp, by simp⟩ ?_
   rintro ⟨m2, _⟩ ⟨j, rfl, hj, h5, h6, h7⟩
   simp only at h5 h6 h7
   simp only [F_spec_l7Redexes_l2]
   by_cases hlt : j < s.2.length
   ·obtain ⟨hL, _⟩ := ruleOk_iff.1 (hr _ (getD_mem hlt))
    obtain ⟨_, _, l2, l3⟩ := termOk_iff.1 hL
    simp only [show (j : Int) < s.2.length by omega, decide_true, if_true, show (0 : Int) <= j by omega, and_self, Int.toNat_natCast, w64 (n := (j : Int) + 1) (by omega) (by omega), w64 (n := m2 + 1) (by omega) (by omega)]
    rw [F_spec_l1Sub_eq ha (show List.length _ < _ by omega) hd hu, Option.bind_some]
    have ht1 : s.2.take (j + 1) = s.2.take j ++ [s.2[j]] := by rw [List.take_add_one, List.getElem?_eq_getElem hlt]; rfl
    refine Okk.bind (F_spec_l4Match_ok ha l3 hu l2 hul) fun r1 hr1 => ?_
    have e3 := match_isSome hr1
    rw [getD_get hlt] at e3
    refine Okk.ite (fun hc => .some ⟨⟨j + 1, by simp, hlt, by simp only; omega, by simp only; omega, ?_⟩, by simp; omega⟩) fun hc => .some ⟨⟨j + 1, by simp, hlt, h5, by simp only; omega, ?_⟩, by simp; omega⟩
    ·simp only
     rw [hc] at e3
     constructor
     ·intro h; omega
     ·intro h
      have := h (s.2[j]) (by rw [ht1]; exact List.mem_append_right _ (List.mem_singleton.2 rfl))
      rw [<- e3] at this; cases this
    ·simp only
     rw [hc] at e3
     rw [h7, ht1]
     constructor
     ·intro h r hm
      rcases List.mem_append.1 hm with hm | hm
      ·exact h r hm
      ·rw [List.mem_singleton.1 hm]; exact e3.symm
     ·intro h r hm; exact h r (List.mem_append_left _ hm)
   ·obtain rfl : j = s.2.length := by omega
    rw [List.take_length] at h7
    simp only [Int.lt_irrefl, decide_false, Bool.false_eq_true, if_false, Option.map_some, w64 (n := (i : Int) + 1) (by omega) (by omega)]
    refine .some ⟨⟨i + 1, by simp, hi, by simp only; omega, by simp only; omega, ?_⟩, by simp; omega⟩
    simp only
    constructor
    ·intro h k hk
     by_cases hki : k < i
     ·exact h4.1 (by omega) k hki
     ·obtain rfl : k = i := by omega
      exact firstI_none (h7.1 (by omega))
    ·intro h
     have e1 : many = 0 := h4.2 fun k hk => h k (by omega)
     have e2 : m2 = many := h7.2 fun r hm => by
      cases hp : (mat s.1 r.1 (at' s.1 t i) none24).isSome with
      | false => rfl
      | true =>
       have := firstI_at (p := fun r : List Int × List Int => (mat s.1 r.1 (at' s.1 t i) none24).isSome) hm hp
       have h0 := h i (by omega)
       unfold ruleI at h0
       omega
     omega
  ·obtain rfl : i = t.length := by omega
   simp only [Int.lt_irrefl, decide_false, Bool.false_eq_true, if_false, Option.map_some]
   refine .some ?_
   simp only [Rnd]
   rw [h4, posR_nil]
 obtain ⟨m, e1, e2⟩ := key.get
 rw [e1, Option.bind_some]
 congr 1
 by_cases h : posR s t = []
 ·rw [decide_eq_true h, e2.2 h]; rfl
 ·rw [decide_eq_false h]
  exact beq_eq_false_iff_ne.2 fun e => h (e2.1 e)
theorem impl_walk_loop {s : Sys} (hs : sysOk s = true) {fuel : Int} (hf : fuel <= 60) {r : List Int} : ∀ (n : Nat) {t : List Int} {w : List Stp}, termOk s.1 t = true -> (w.length : Int) + n = fuel ->
 loopC (F_impl_walkBy_l1 s 1 fuel r) (t, w) = some ((r, w ++ (wlk s n t).1), (wlk s n t).2) := by
 intro n
 induction n with
 | zero =>
  intro t w ht hn
  refine loopC_inr ?_
  simp only [F_impl_walkBy_l1, F_impl_pick_eq hs ht, Option.bind_some, wlk]
  by_cases h : posR s t = []
  ·have : pickI s t = -1 := by unfold pickI; rw [if_pos h]
   simp [this, h]
  ·obtain ⟨i, e, hi, h0⟩ := pickI_at h
   simp [e, h, show ¬ (i : Int) < 0 by omega, show (w.length : Int) = fuel by omega]
 | succ n ih =>
  intro t w ht hn
  by_cases h : posR s t = []
  ·refine loopC_inr ?_
   have : pickI s t = -1 := by unfold pickI; rw [if_pos h]
   simp [F_impl_walkBy_l1, F_impl_pick_eq hs ht, wlk, this, h]
  ·obtain ⟨i, e, hi, h0⟩ := pickI_at h
   have h1 := ruleI_lt s (at' s.1 t i)
   have hne : ((w.length : Int) == fuel) = false := beq_eq_false_iff_ne.2 (by omega)
   have hst := F_impl_step_eq hs ht hi (rule := (ruleI s (at' s.1 t i)).toNat) (by omega)
   rw [show (((ruleI s (at' s.1 t i)).toNat : Nat) : Int) = ruleI s (at' s.1 t i) by omega] at hst
   have step : F_impl_walkBy_l1 s 1 fuel r (t, w) = (match stepO s t i (ruleI s (at' s.1 t i)).toNat with
    | none => some (.inr ((r, w), false))
    | some u => some (.inl (u, w ++ [((i : Int), ruleI s (at' s.1 t i), u)]))) := by
    simp only [F_impl_walkBy_l1, F_impl_pick_eq hs ht, Option.bind_some, e, show ¬ (i : Int) < 0 by omega, decide_false, Bool.false_eq_true, if_false, hne, F_impl_ruleAt_eq hs ht hi, hst]
    cases stepO s t i (ruleI s (at' s.1 t i)).toNat with
    | none => simp [encO]
    | some u => simp only [encO, if_true]; rw [if_pos (by omega)]
   simp only [wlk, h, if_false, e, Int.toNat_natCast]
   cases hu : stepO s t i (ruleI s (at' s.1 t i)).toNat with
   | none =>
    rw [hu] at step
    rw [loopC_inr step]; simp
   | some u =>
    rw [hu] at step
    rw [loopC_inl step]
    have h2 := (pick_step hs ht h (u := u) (by rw [e, Int.toNat_natCast]; exact hu)).2
    rw [ih h2 (by simp; omega)]
    simp
theorem F_impl_walkBy_eq {s : Sys} {t : List Int} (hs : sysOk s = true) (ht : termOk s.1 t = true) {fuel : Int} (h0 : 0 <= fuel) (h60 : fuel <= 60) : F_impl_walkBy s t 1 fuel = some ((t, (wlk s fuel.toNat t).1), (wlk s fuel.toNat t).2) := by
 unfold F_impl_walkBy
 rw [F_slices_Clone_eq (show List.length _ < _ by have := (termOk_iff.1 ht).2.2.1; omega), Option.bind_some, impl_walk_loop hs h60 fuel.toNat ht (by simp; omega)]
 simp
theorem spec_walk_loop {s : Sys} (hs : sysOk s = true) {fuel : Int} (hf : fuel <= 60) {r : List Int} : ∀ (n : Nat) {t : List Int} {w : List Stp}, termOk s.1 t = true -> (w.length : Int) + n = fuel ->
 loopC (F_spec_WalkBy_l1 s 1 fuel r) (t, w) = some ((r, w ++ (wlk s n t).1), (wlk s n t).2) := by
 intro n
 induction n with
 | zero =>
  intro t w ht hn
  refine loopC_inr ?_
  simp [F_spec_WalkBy_l1, F_spec_NormalIn_eq hs ht, wlk, show ¬ (w.length : Int) < fuel by omega]
 | succ n ih =>
  intro t w ht hn
  have hlt : (w.length : Int) < fuel := by omega
  by_cases h : posR s t = []
  ·refine loopC_inr ?_
   simp [F_spec_WalkBy_l1, F_spec_PickBy_eq hs ht, F_spec_NormalIn_eq hs ht, wlk, h, hlt]
  ·obtain ⟨i, e, hi, h0⟩ := pickI_at h
   have h1 := ruleI_lt s (at' s.1 t i)
   have hst := F_spec_l7Step_eq hs ht hi (rule := (ruleI s (at' s.1 t i)).toNat) (by omega)
   rw [show (((ruleI s (at' s.1 t i)).toNat : Nat) : Int) = ruleI s (at' s.1 t i) by omega] at hst
   have step : F_spec_WalkBy_l1 s 1 fuel r (t, w) = (match stepO s t i (ruleI s (at' s.1 t i)).toNat with
    | none => some (.inr ((r, w), false))
    | some u => some (.inl (u, w ++ [((i : Int), ruleI s (at' s.1 t i), u)]))) := by
    simp only [F_spec_WalkBy_l1, hlt, decide_true, if_true, F_spec_PickBy_eq hs ht, h, if_false, Option.bind_some, e, Int.toNat_natCast, hst]
    cases hu : stepO s t i (ruleI s (at' s.1 t i)).toNat with
    | none => simp [encO, F_spec_NormalIn_eq hs ht, h]
    | some u =>
     have := stepO_sm hu
     simp only [encO, if_true]
     rw [if_pos (by omega), F_spec_l1Copy_eq (show List.length _ < _ by omega), Option.bind_some]
   simp only [wlk, h, if_false, e, Int.toNat_natCast]
   cases hu : stepO s t i (ruleI s (at' s.1 t i)).toNat with
   | none =>
    rw [hu] at step
    rw [loopC_inr step]; simp
   | some u =>
    rw [hu] at step
    rw [loopC_inl step]
    have h2 := (pick_step hs ht h (u := u) (by rw [e, Int.toNat_natCast]; exact hu)).2
    rw [ih h2 (by simp; omega)]
    simp
theorem F_spec_WalkBy_eq {s : Sys} {t : List Int} (hs : sysOk s = true) (ht : termOk s.1 t = true) {fuel : Int} (h0 : 0 <= fuel) (h60 : fuel <= 60) : F_spec_WalkBy s t 1 fuel = some ((t, (wlk s fuel.toNat t).1), (wlk s fuel.toNat t).2) := by
 have hl := (termOk_iff.1 ht).2.2.1
 unfold F_spec_WalkBy
 rw [F_spec_l8Right_eq hs ht, Option.bind_some, if_pos rfl, F_spec_l1In_eq, Option.bind_some, if_pos (by simp [h0, h60]), F_spec_l1Copy_eq (show List.length _ < _ by omega), Option.bind_some, Option.bind_some, spec_walk_loop hs h60 fuel.toNat ht (by simp; omega)]
 simp
theorem F_spec_l2Vars_ok {t : List Int} (ht : t.length <= 60) (hx : ∀ x ∈ t, -24 <= x) : Okk True (F_spec_l2Vars t) fun o => o.length = 0 ↔ ∀ x ∈ t, 0 <= x := by
 unfold F_spec_l2Vars
 refine Okk.loop (fun s : List Int × Int => ∃ i : Nat, s.2 = (i : Int) /\ i <= t.length /\ s.1.length <= i /\ (s.1.length = 0 ↔ ∀ x ∈ t.take i, 0 <= x)) (fun s : List Int × Int => t.length - s.2.toNat) ⟨0, rfl, by omega, by simp, by simp⟩ ?_
 rintro ⟨o, i'⟩ ⟨i, h1, h2, h3, h4⟩
 simp only at h1 h3 h4
 subst h1
 unfold F_spec_l2Vars_l1
 by_cases hi : i < t.length
 ·have hi' : (i : Int) < t.length := by omega
  have htk : t.take (i + 1) = t.take i ++ [t[i]] := List.take_succ_eq_append_getElem hi
  simp only [hi', decide_true, if_true, show (0 : Int) <= i by omega, and_self, Int.toNat_natCast, getD_get hi, w64 (n := (i : Int) + 1) (by omega) (by omega)]
  by_cases hn : t[i] < 0
  ·simp only [hn, decide_true, if_true]
   refine .bind (F_spec_l1Into_ok (by show o.length < _; omega) _) fun r hr => ?_
   refine .some ⟨⟨i + 1, by simp, by omega, by simp; omega, ?_⟩, by simp; omega⟩
   rw [htk]
   constructor
   ·intro h; simp only at h; omega
   ·intro h
    have := h t[i] (List.mem_append_right _ (List.mem_singleton.2 rfl))
    omega
  ·simp only [hn, decide_false, Bool.false_eq_true, if_false]
   refine .some ⟨⟨i + 1, by simp, by omega, by simp; omega, ?_⟩, by simp; omega⟩
   rw [htk]
   simp only [h4, List.mem_append, List.mem_singleton]
   constructor
   ·rintro h x (hx | rfl)
    ·exact h x hx
    ·omega
   ·intro h x hx; exact h x (.inl hx)
 ·have hi' : ¬ (i : Int) < t.length := by omega
  simp only [hi', decide_false, Bool.false_eq_true, if_false, Option.map_some]
  rw [List.take_of_length_le (by omega)] at h4
  exact .some h4
theorem F_spec_GroundIn_eq (a t : List Int) : F_spec_GroundIn a t = some (grB a t) := by
 unfold F_spec_GroundIn grB
 rw [F_spec_TermOk_eq, Option.bind_some]
 cases ht : termOk a t with
 | false => simp
 | true =>
  obtain ⟨h1, h2, h3, h4⟩ := termOk_iff.1 ht
  obtain ⟨o, e⟩ := (F_spec_l2Vars_ok h3 fun x hx => (h4.all x hx).1).2 trivial
  have ho := (F_spec_l2Vars_ok h3 fun x hx => (h4.all x hx).1).1 o e
  simp only [if_true, e, Option.bind_some, Bool.true_and, Option.some.injEq]
  rw [Bool.eq_iff_iff]
  simp only [beq_iff_eq, List.all_eq_true, decide_eq_true_eq]
  have ho' : o.length = 0 ↔ ∀ x ∈ t, 0 <= x := ho
  rw [<- ho']; omega
theorem F_impl_CountBy_eq (s : Sys) (t : List Int) (fuel : Int) : F_impl_CountBy s t 1 fuel = some (cntB s t fuel) := by
 unfold F_impl_CountBy F_impl_WalkBy F_impl_strategyOk cntB
 rw [F_impl_SystemOk_eq, Option.bind_some]
 cases hs : sysOk s with
 | false => simp
 | true =>
  simp only [if_true, F_impl_TermOk_eq, Option.bind_some]
  cases ht : termOk s.1 t with
  | false => simp
  | true =>
   simp only [if_true, show (1 : Int) <= 1 by decide, show (1 : Int) <= 3 by decide, decide_true, and_self, true_and]
   by_cases h0 : fuel < 0
   ·simp [h0, show ¬ 0 <= fuel by omega]
   ·by_cases h6 : 60 < fuel
    ·simp [h0, h6, show ¬ fuel <= 60 by omega]
    ·simp only [h0, h6, decide_false, Bool.false_eq_true, if_false, F_impl_walkBy_eq hs ht (show 0 <= fuel by omega) (show fuel <= 60 by omega), Option.bind_some, show 0 <= fuel by omega, show fuel <= 60 by omega, and_self, if_true]
     cases (wlk s fuel.toNat t).2 <;> simp
theorem F_spec_CountBy_eq (s : Sys) (t : List Int) (fuel : Int) : F_spec_CountBy s t 1 fuel = some (cntB s t fuel) := by
 unfold F_spec_CountBy cntB
 by_cases h : (sysOk s = true /\ termOk s.1 t = true) /\ 0 <= fuel /\ fuel <= 60
 ·rw [if_pos h, F_spec_WalkBy_eq h.1.1 h.1.2 h.2.1 h.2.2, Option.bind_some]
  simp only
  cases (wlk s fuel.toNat t).2 <;> simp
 ·rw [if_neg h]
  have e : F_spec_WalkBy s t 1 fuel = some (([], []), false) := by
   unfold F_spec_WalkBy F_spec_l8Right
   rw [F_spec_l7Right_eq, Option.bind_some]
   cases hs : sysOk s with
   | false => simp
   | true =>
    cases ht : termOk s.1 t with
    | false => simp
    | true =>
     simp only [Bool.and_self, if_true, F_spec_l1In_eq, Option.bind_some]
     have hf : ¬ (0 <= fuel /\ fuel <= 60) := fun hf => h ⟨⟨hs, ht⟩, hf⟩
     rw [if_pos (by decide), if_neg (by simpa using hf)]
  rw [e]; rfl
theorem F_spec_InmostTime_eq (s : Sys) (n fuel : Int) : F_spec_InmostTime s n fuel = some (inm s n fuel) := by
 unfold F_spec_InmostTime inm
 rw [F_spec_BasicsOf_eq, Option.bind_some]
 have hl := bsc_len s n
 generalize bsc s n = q at *
 cases hq : q.2 with
 | false => simp
 | true =>
  simp only [if_true, F_spec_l1In_eq, Option.bind_some, true_and]
  by_cases h0 : 0 <= fuel /\ fuel <= 60
  ·rw [if_pos h0, if_pos (by simpa using h0)]
   have := loopC_is (f := F_spec_InmostTime_l1 s fuel q) (fun x => some (gmx (fun t => cntB s t fuel) (q.1.drop x.2.toNat) x.1)) (fun x : Int × Int => ∃ i : Nat, x.2 = (i : Int) /\ i <= q.1.length) (fun x : Int × Int => q.1.length - x.2.toNat) ?_ (0, 0) ⟨0, rfl, by omega⟩
   ·simpa using this
   ·rintro ⟨m, i'⟩ ⟨i, h1, h2⟩
    simp only at h1
    subst h1
    by_cases hi : i < q.1.length
    ·by_cases hc : cntB s q.1[i] fuel < 0
     ·refine .inr ⟨-1, ?_, ?_⟩
      ·simp only [F_spec_InmostTime_l1, show (i : Int) < q.1.length by omega, decide_true, if_true, show (0 : Int) <= i by omega, and_self, Int.toNat_natCast, getD_get hi, F_spec_CountBy_eq, Option.bind_some, hc, Option.map_some]
      ·simp only [Int.toNat_natCast]
       rw [List.drop_eq_getElem_cons hi, gmx, if_pos hc]
     ·refine .inl ⟨(max m (cntB s q.1[i] fuel), ((i + 1 : Nat) : Int)), ?_, ⟨i + 1, rfl, by omega⟩, by simp; omega, ?_⟩
      ·simp only [F_spec_InmostTime_l1, show (i : Int) < q.1.length by omega, decide_true, if_true, show (0 : Int) <= i by omega, and_self, Int.toNat_natCast, getD_get hi, F_spec_CountBy_eq, Option.bind_some, hc, decide_false, Bool.false_eq_true, if_false, w64 (n := (i : Int) + 1) (by omega) (by omega), F_spec_l1Max_eq]
       rfl
      ·simp only [Int.toNat_natCast]
       rw [List.drop_eq_getElem_cons hi, gmx, if_neg hc]
    ·obtain rfl : i = q.1.length := by omega
     exact .inr ⟨m, by simp [F_spec_InmostTime_l1], by simp [gmx]⟩
  ·rw [if_neg h0, if_neg (by simpa using h0)]
theorem F_impl_InmostTime_eq (s : Sys) (n fuel : Int) : F_impl_InmostTime s n fuel = some (inm s n fuel) := by
 unfold F_impl_InmostTime inm
 rw [F_impl_BasicsOf_eq, Option.bind_some]
 have hl := bsc_len s n
 generalize bsc s n = q at *
 cases hq : q.2 with
 | false => simp
 | true =>
  by_cases h0 : fuel < 0
  ·simp [h0, show ¬ 0 <= fuel by omega]
  ·by_cases h6 : 60 < fuel
   ·simp [h0, h6, show ¬ fuel <= 60 by omega]
   ·simp only [if_true, h0, h6, decide_false, Bool.false_eq_true, if_false, show 0 <= fuel by omega, show fuel <= 60 by omega, and_self]
    suffices h : F_impl_greatest_s2 q.1 s.1 s.2 fuel = some (gmx (fun t => cntB s t fuel) q.1 0) by rw [h]; rfl
    unfold F_impl_greatest_s2
    have := loopC_is (f := F_impl_greatest_s2_l1 q.1 s.1 s.2 fuel) (fun x => some (gmx (fun t => cntB s t fuel) (q.1.drop x.2.toNat) x.1)) (fun x : Int × Int => ∃ i : Nat, x.2 = (i : Int) /\ i <= q.1.length) (fun x : Int × Int => q.1.length - x.2.toNat) ?_ (0, 0) ⟨0, rfl, by omega⟩
    ·simpa using this
    ·rintro ⟨m, i'⟩ ⟨i, h1, h2⟩
     simp only at h1
     subst h1
     by_cases hi : i < q.1.length
     ·have e : F_impl_CountBy (s.1, s.2) q.1[i] 1 fuel = some (cntB s q.1[i] fuel) := F_impl_CountBy_eq s _ fuel
      by_cases hc : cntB s q.1[i] fuel < 0
      ·refine .inr ⟨-1, ?_, ?_⟩
       ·simp only [F_impl_greatest_s2_l1, show (i : Int) < q.1.length by omega, decide_true, if_true, show (0 : Int) <= i by omega, and_self, Int.toNat_natCast, getD_get hi, F_impl_InmostTime_1, e, Option.bind_some, hc, Option.map_some]
       ·simp only [Int.toNat_natCast]
        rw [List.drop_eq_getElem_cons hi, gmx, if_pos hc]
      ·refine .inl ⟨(max m (cntB s q.1[i] fuel), ((i + 1 : Nat) : Int)), ?_, ⟨i + 1, rfl, by omega⟩, by simp; omega, ?_⟩
       ·simp only [F_impl_greatest_s2_l1, show (i : Int) < q.1.length by omega, decide_true, if_true, show (0 : Int) <= i by omega, and_self, Int.toNat_natCast, getD_get hi, F_impl_InmostTime_1, e, Option.bind_some, hc, decide_false, Bool.false_eq_true, if_false, w64 (n := (i : Int) + 1) (by omega) (by omega)]
        refine congrArg (fun x => some (Sum.inl x)) (Prod.ext ?_ (by simp))
        show (if cntB s q.1[i] fuel > m then _ else _) = _
        split <;> omega
       ·simp only [Int.toNat_natCast]
        rw [List.drop_eq_getElem_cons hi, gmx, if_neg hc]
     ·obtain rfl : i = q.1.length := by omega
      exact .inr ⟨m, by simp [F_impl_greatest_s2_l1], by simp [gmx]⟩
end Go.Proofs.YtglpjlpmijfocaaGreat
namespace Go.Proofs.YtglpjlpmijfocaaGreat
open Go Abx Tm
abbrev RT := List Int × Int
def rIn (d : Int) : LL -> List RT -> List RT × Bool
 | [], R => (R, true)
 | u :: us, R => if u ∈ R.map (·.1) then rIn d us R else if R.length = 60 then (R, false) else rIn d us (R ++ [(u, d + 1)])
def rOut (s : Sys) (steps : Int) : Nat -> Nat -> List RT -> List RT × Bool
 | 0, _, R => (R, true)
 | f + 1, k, R => if k < R.length then
  if (R.getD k default).2 = steps then rOut s steps f (k + 1) R
  else if (rIn (R.getD k default).2 ((stL s (R.getD k default).1).map (·.2.2)) R).2 = true then rOut s steps f (k + 1) (rIn (R.getD k default).2 ((stL s (R.getD k default).1).map (·.2.2)) R).1
   else rIn (R.getD k default).2 ((stL s (R.getD k default).1).map (·.2.2)) R
  else (R, true)
structure RI (s : Sys) (steps : Int) (R : List RT) : Prop where
 len : R.length <= 60
 el : ∀ x ∈ R, termOk s.1 x.1 = true /\ 0 <= x.2 /\ x.2 <= steps
theorem rIn_ok {s : Sys} {steps d : Int} (hd : 0 <= d /\ d < steps) : ∀ {us : LL} {R : List RT}, (∀ u ∈ us, termOk s.1 u = true) -> RI s steps R -> RI s steps (rIn d us R).1
 | [], R, _, h => h
 | u :: us, R, hu, h => by
  unfold rIn
  split
  ·exact rIn_ok hd (fun v hv => hu v (List.mem_cons_of_mem _ hv)) h
  ·split
   ·exact h
   ·rename_i hn
    refine rIn_ok hd (fun v hv => hu v (List.mem_cons_of_mem _ hv)) ⟨?_, fun x hx => ?_⟩
    ·have := h.len
     simp; omega
    ·rcases List.mem_append.1 hx with hx | hx
     ·exact h.el x hx
     ·rw [List.mem_singleton.1 hx]
      exact ⟨hu u List.mem_cons_self, by simp; omega, by simp; omega⟩
theorem rIn_len {d : Int} : ∀ {us : LL} {R : List RT}, R.length <= (rIn d us R).1.length
 | [], R => Nat.le_refl _
 | u :: us, R => by
  unfold rIn
  split
  ·exact rIn_len
  ·split
   ·exact Nat.le_refl _
   ·have := rIn_len (d := d) (us := us) (R := R ++ [(u, d + 1)])
    rw [List.length_append] at this; simp at this; omega
theorem step_us {s : Sys} {t : List Int} (hs : sysOk s = true) (ht : termOk s.1 t = true) : ∀ u ∈ (stL s t).map (·.2.2), termOk s.1 u = true := fun u hu => by
 obtain ⟨x, hx, rfl⟩ := List.mem_map.1 hu
 exact stL_ok hs ht x hx
abbrev I6 := List Int × Int × Int × Int × List Int × Int
def aI (all : List I6) : List RT := all.map fun r => (r.1, r.2.2.2.2.2)
theorem aI_len (all : List I6) : (aI all).length = all.length := by simp [aI]
theorem aI_get {all : List I6} {k : Nat} (hk : k < all.length) : (aI all).getD k default = ((all.getD k default).1, (all.getD k default).2.2.2.2.2) := by
 rw [getD_get (by rw [aI_len]; exact hk), getD_get hk]; simp [aI]
theorem F_impl_found_eq {all : List I6} {t : List Int} (hl : all.length <= 60) (hs : ∀ r ∈ all, Small r.1) : F_impl_found all t = some (firstI (fun r : I6 => r.1 == t) all) := by
 unfold F_impl_found
 suffices h : F_slices_IndexFunc_impl_reached_impl_reached all t = some (firstI (fun r : I6 => r.1 == t) all) by rw [h]; rfl
 unfold F_slices_IndexFunc_impl_reached_impl_reached
 refine loop_first (fun i x hi hx hg => ?_) (by simp [F_slices_IndexFunc_impl_reached_impl_reached_l1])
 simp only [F_slices_IndexFunc_impl_reached_impl_reached_l1, show (i : Int) < all.length by omega, decide_true, if_true, show (0 : Int) <= i by omega, and_self, Int.toNat_natCast, hg, w64 (n := (i : Int) + 1) (by omega) (by omega), Option.map_some, F_impl_found_1, F_slices_Equal_eq (hs x hx), Option.bind_some]
 cases x.1 == t <;> rfl
theorem aI_mem {all : List I6} {t : List Int} : (all.any fun r : I6 => r.1 == t) = decide (t ∈ (aI all).map (·.1)) := by
 rw [Bool.eq_iff_iff, List.any_eq_true, decide_eq_true_iff]
 constructor
 ·rintro ⟨x, hx, he⟩
  exact List.mem_map.2 ⟨(x.1, x.2.2.2.2.2), List.mem_map.2 ⟨x, hx, rfl⟩, beq_iff_eq.1 he⟩
 ·intro h
  obtain ⟨y, hy, he⟩ := List.mem_map.1 h
  obtain ⟨x, hx, rfl⟩ := List.mem_map.1 hy
  exact ⟨x, hx, beq_iff_eq.2 he⟩
theorem impl_rl2 {s : Sys} {steps d : Int} (h20 : steps <= 20) (hd : 0 <= d /\ d < steps) {L : List Stp} (hL : L.length <= 720) (hT : ∀ x ∈ L, termOk s.1 x.2.2 = true) {b : Bool} {k : Nat} : ∀ (r : List Stp) {i : Nat} {all : List I6},
 L.drop i = r -> i <= L.length -> k < all.length -> (all.getD k default).2.2.2.2.2 = d -> RI s steps (aI all) ->
 ∃ all', aI all' = (rIn d (r.map (·.2.2)) (aI all)).1 /\ loopC (F_impl_reach_l2 (k : Int) (L, b)) (all, (i : Int)) = some (if (rIn d (r.map (·.2.2)) (aI all)).2 = true then .inl (all', (k : Int) + 1) else .inr (all', false))
 | [], i, all, he, hi, hk, hq, h => by
  have hn : L.length <= i := by simpa using he
  have hl := h.len
  rw [aI_len] at hl
  refine ⟨all, rfl, loopC_inr ?_⟩
  simp only [F_impl_reach_l2, show ¬ (i : Int) < L.length by omega, decide_false, Bool.false_eq_true, if_false, Option.map_some, List.map_nil, rIn, if_true, w64 (n := (k : Int) + 1) (by omega) (by omega)]
 | x :: r, i, all, he, hi, hk, hq, h => by
  obtain ⟨h1, h2, h3⟩ := drop_cons he
  have hx : termOk s.1 x.2.2 = true := by rw [<- h2]; exact hT _ (getD_mem h1)
  have hl := h.len
  rw [aI_len] at hl
  have hsm : ∀ r ∈ all, Small r.1 := fun r hr => by
   have := ok_sm (h.el (r.1, r.2.2.2.2.2) (List.mem_map.2 ⟨r, hr, rfl⟩)).1
   show r.1.length < _
   simp only at this; omega
  have hfd := F_impl_found_eq (t := x.2.2) hl hsm
  have hany : decide (0 <= firstI (fun r : I6 => r.1 == x.2.2) all) = decide (x.2.2 ∈ (aI all).map (·.1)) := by rw [any_first, aI_mem]
  have base : F_impl_reach_l2 (k : Int) (L, b) (all, (i : Int)) = some (if x.2.2 ∈ (aI all).map (·.1) then .inl (all, (i : Int) + 1) else if all.length = 60 then .inr (.inr (all, false)) else .inl (all ++ [(x.2.2, (k : Int), x.1, x.2.1, x.2.2, d + 1)], (i : Int) + 1)) := by
   simp only [F_impl_reach_l2, show (i : Int) < L.length by omega, decide_true, if_true, show (0 : Int) <= i by omega, and_self, Int.toNat_natCast, h2, hfd, Option.bind_some, hany, w64 (n := (i : Int) + 1) (by omega) (by omega), show (0 : Int) <= k by omega, show (k : Int) < all.length by omega, hq, w64 (n := d + 1) (by omega) (by omega), show (all.length + 1) * 80 <= 140737488355328 by omega]
   by_cases hm : x.2.2 ∈ (aI all).map (·.1)
   ·simp [hm]
   ·simp only [hm, decide_false, Bool.false_eq_true, if_false]
    by_cases h60 : all.length = 60
    ·rw [if_pos (by simpa using (by omega : (all.length : Int) = 60)), if_pos h60]; rfl
    ·rw [if_neg (by simpa using (by omega : (all.length : Int) ≠ 60)), if_neg h60]
  rw [List.map_cons]
  unfold rIn
  by_cases hm : x.2.2 ∈ (aI all).map (·.1)
  ·rw [if_pos hm] at base ⊢
   obtain ⟨all', e1, e2⟩ := impl_rl2 (k := k) h20 hd hL hT r (i := i + 1) h3 (by omega) hk hq h
   exact ⟨all', e1, (loopC_inl base).trans e2⟩
  ·rw [if_neg hm] at base ⊢
   by_cases h60 : all.length = 60
   ·rw [if_pos h60] at base
    rw [if_pos (by rw [aI_len]; exact h60)]
    exact ⟨all, rfl, loopC_inr base⟩
   ·rw [if_neg h60] at base
    rw [if_neg (by rw [aI_len]; exact h60)]
    have ea : aI (all ++ [(x.2.2, (k : Int), x.1, x.2.1, x.2.2, d + 1)]) = aI all ++ [(x.2.2, d + 1)] := by simp [aI]
    have hn : RI s steps (aI all ++ [(x.2.2, d + 1)]) := ⟨by rw [List.length_append, aI_len]; simp; omega, fun y hy => by
     rcases List.mem_append.1 hy with hy | hy
     ·exact h.el y hy
     ·rw [List.mem_singleton.1 hy]; exact ⟨hx, by simp; omega, by simp; omega⟩⟩
    obtain ⟨all', e1, e2⟩ := impl_rl2 (k := k) h20 hd hL hT r (i := i + 1) (all := all ++ [(x.2.2, (k : Int), x.1, x.2.1, x.2.2, d + 1)]) h3 (by omega) (by simp; omega)
     (by rw [List.getD_eq_getElem?_getD, List.getElem?_append_left hk, <- List.getD_eq_getElem?_getD]; exact hq) (by rw [ea]; exact hn)
    rw [ea] at e1 e2
    exact ⟨all', e1, (loopC_inl base).trans e2⟩
theorem impl_rl1 {s : Sys} {steps : Int} (hs : sysOk s = true) (h20 : 0 <= steps /\ steps <= 20) : ∀ (f : Nat) {k : Nat} {all : List I6}, 61 <= k + f -> k <= all.length -> RI s steps (aI all) ->
 ∃ all', aI all' = (rOut s steps f k (aI all)).1 /\ loopC (F_impl_reach_l1 s steps) (all, (k : Int)) = some (all', (rOut s steps f k (aI all)).2)
 | 0, k, all, hf, hk, h => by
  have := h.len
  rw [aI_len] at this; omega
 | f + 1, k, all, hf, hk, h => by
  have hl := h.len
  rw [aI_len] at hl
  unfold rOut
  by_cases hlt : k < all.length
  ·have ge := aI_get hlt
   have hel := h.el _ (getD_mem (by rw [aI_len]; exact hlt : k < (aI all).length))
   rw [if_pos (by rw [aI_len]; exact hlt)]
   rw [ge] at hel ⊢
   simp only at hel ⊢
   by_cases hst : (all.getD k default).2.2.2.2.2 = steps
   ·rw [if_pos hst]
    obtain ⟨all', e1, e2⟩ := impl_rl1 hs h20 f (k := k + 1) (by omega) (by omega) h
    refine ⟨all', e1, (loopC_inl ?_).trans e2⟩
    simp only [F_impl_reach_l1, show (k : Int) < all.length by omega, decide_true, if_true, show (0 : Int) <= k by omega, and_self, Int.toNat_natCast, hst, beq_self_eq_true, w64 (n := (k : Int) + 1) (by omega) (by omega)]
    rfl
   ·rw [if_neg hst]
    obtain ⟨all', e1, e2⟩ := impl_rl2 (s := s) (b := lgB s (all.getD k default).1) h20.2 (d := (all.getD k default).2.2.2.2.2) ⟨hel.2.1, by omega⟩ (stL_720 hs hel.1) (stL_ok hs hel.1) (k := k) (stL s (all.getD k default).1) (i := 0) rfl (by omega) hlt rfl h
    have hR := rIn_ok (s := s) (steps := steps) (d := (all.getD k default).2.2.2.2.2) ⟨hel.2.1, by omega⟩ (step_us hs hel.1) h
    have base : F_impl_reach_l1 s steps (all, (k : Int)) = some (if (rIn (all.getD k default).2.2.2.2.2 ((stL s (all.getD k default).1).map (·.2.2)) (aI all)).2 = true then .inl (all', (k : Int) + 1) else .inr (all', false)) := by
     have hne : ((all.getD k default).2.2.2.2.2 == steps) = false := by simpa using hst
     simp only [F_impl_reach_l1, show (k : Int) < all.length by omega, decide_true, if_true, show (0 : Int) <= k by omega, and_self, Int.toNat_natCast, hne, Bool.false_eq_true, if_false, F_impl_stepsFrom_eq hs hel.1, Option.bind_some]
     exact e2
    cases hb : (rIn (all.getD k default).2.2.2.2.2 ((stL s (all.getD k default).1).map (·.2.2)) (aI all)).2 with
    | true =>
     rw [hb, if_pos rfl] at base
     rw [if_pos rfl]
     have hk' : k + 1 <= all'.length := by
      have a1 := congrArg List.length e1
      rw [aI_len] at a1
      have a2 := rIn_len (d := (all.getD k default).2.2.2.2.2) (us := (stL s (all.getD k default).1).map (·.2.2)) (R := aI all)
      rw [aI_len] at a2; omega
     obtain ⟨a2, e3, e4⟩ := impl_rl1 hs h20 f (k := k + 1) (all := all') (by omega) hk' (by rw [e1]; exact hR)
     rw [e1] at e3 e4
     exact ⟨a2, e3, (loopC_inl base).trans e4⟩
    | false =>
     rw [hb, if_neg (by simp)] at base
     rw [if_neg (by simp)]
     exact ⟨all', e1, by rw [hb]; exact loopC_inr base⟩
  ·rw [if_neg (by rw [aI_len]; exact hlt)]
   refine ⟨all, rfl, loopC_inr ?_⟩
   simp only [F_impl_reach_l1, show ¬ (k : Int) < all.length by omega, decide_false, Bool.false_eq_true, if_false, Option.map_some]
end Go.Proofs.YtglpjlpmijfocaaGreat
namespace Go.Proofs.YtglpjlpmijfocaaGreat
open Go Abx Tm
theorem any_mem {l : LL} {t : List Int} : (l.any fun x => x == t) = decide (t ∈ l) := by
 rw [Bool.eq_iff_iff, List.any_eq_true, decide_eq_true_iff]
 exact ⟨fun ⟨x, hx, he⟩ => by rw [<- beq_iff_eq.1 he]; exact hx, fun h => ⟨t, h, beq_iff_eq.2 rfl⟩⟩
theorem map_getD {α β : Type} [Inhabited α] [Inhabited β] {xs : List α} {g : α -> β} {i : Nat} (h : i < xs.length) : (xs.map g).getD i default = g (xs.getD i default) := by
 rw [getD_get (by simpa using h), getD_get h, List.getElem_map]
theorem spec_rl2 {s : Sys} {steps d : Int} (h20 : steps <= 20) (hd : 0 <= d /\ d < steps) {L : List Stp} (hL : L.length <= 720) (hT : ∀ x ∈ L, termOk s.1 x.2.2 = true) {i : Nat} : ∀ (r : List Stp) {k : Nat} {R : List RT} {f5 : List Int} {f6 : List Stp},
 L.drop k = r -> k <= L.length -> i < R.length -> (R.getD i default).2 = d -> f5.length = R.length -> f6.length = R.length -> RI s steps R ->
 ∃ f5' f6', f5'.length = (rIn d (r.map (·.2.2)) R).1.length /\ f6'.length = (rIn d (r.map (·.2.2)) R).1.length /\
  loopC (F_spec_l9Find_l2 (i : Int) L) ((k : Int), R.map (·.1), f5, f6, R.map (·.2)) = some (if (rIn d (r.map (·.2.2)) R).2 = true then .inl ((i : Int) + 1, (rIn d (r.map (·.2.2)) R).1.map (·.1), f5', f6', (rIn d (r.map (·.2.2)) R).1.map (·.2)) else .inr ((rIn d (r.map (·.2.2)) R).1.map (·.1), f5', f6', (rIn d (r.map (·.2.2)) R).1.map (·.2), false))
 | [], k, R, f5, f6, he, hk, hi, hq, h5, h6, h => by
  have hn : L.length <= k := by simpa using he
  have hl := h.len
  refine ⟨f5, f6, h5, h6, loopC_inr ?_⟩
  simp only [F_spec_l9Find_l2, show ¬ (k : Int) < L.length by omega, decide_false, Bool.false_eq_true, if_false, Option.map_some, List.map_nil, rIn, if_true, w64 (n := (i : Int) + 1) (by omega) (by omega)]
 | x :: r, k, R, f5, f6, he, hk, hi, hq, h5, h6, h => by
  obtain ⟨h1, h2, h3⟩ := drop_cons he
  have hx : termOk s.1 x.2.2 = true := by rw [<- h2]; exact hT _ (getD_mem h1)
  have hl := h.len
  have hsm : ∀ t ∈ R.map (·.1), Small t := fun t ht => by
   obtain ⟨y, hy, rfl⟩ := List.mem_map.1 ht
   have := ok_sm (h.el y hy).1
   show y.1.length < _; omega
  have hfd := F_spec_l1TermPlace_eq (l := R.map (·.1)) (by simp; omega) hsm x.2.2
  have hany : decide (0 <= firstI (fun y => y == x.2.2) (R.map (·.1))) = decide (x.2.2 ∈ R.map (·.1)) := by rw [any_first, any_mem]
  have hgd : (R.map (·.2)).getD i default = d := by rw [map_getD hi]; exact hq
  have base : F_spec_l9Find_l2 (i : Int) L ((k : Int), R.map (·.1), f5, f6, R.map (·.2)) = some (if x.2.2 ∈ R.map (·.1) then .inl ((k : Int) + 1, R.map (·.1), f5, f6, R.map (·.2)) else if R.length = 60 then .inr (.inr (R.map (·.1), f5, f6, R.map (·.2), false)) else .inl ((k : Int) + 1, (R ++ [(x.2.2, d + 1)]).map (·.1), f5 ++ [(i : Int)], f6 ++ [(x.1, x.2.1, x.2.2)], (R ++ [(x.2.2, d + 1)]).map (·.2))) := by
   simp only [F_spec_l9Find_l2, show (k : Int) < L.length by omega, decide_true, if_true, show (0 : Int) <= k by omega, and_self, Int.toNat_natCast, h2, hfd, Option.bind_some, hany, w64 (n := (k : Int) + 1) (by omega) (by omega), show (0 : Int) <= i by omega, List.length_map, show (i : Int) < R.length by omega, hgd, w64 (n := d + 1) (by omega) (by omega), show (R.length + 1) * 24 <= 140737488355328 by omega, show (R.length + 1) * 8 <= 140737488355328 by omega, show (f5.length + 1) * 8 <= 140737488355328 by omega, show (f6.length + 1) * 40 <= 140737488355328 by omega]
   by_cases hm : x.2.2 ∈ R.map (·.1)
   ·simp [hm]
   ·simp only [hm, decide_false, Bool.false_eq_true, if_false]
    by_cases h60 : R.length = 60
    ·rw [if_pos (by simpa using (by omega : (R.length : Int) = 60)), if_pos h60]; rfl
    ·rw [if_neg (by simpa using (by omega : (R.length : Int) ≠ 60)), if_neg h60]; simp
  rw [List.map_cons]
  unfold rIn
  by_cases hm : x.2.2 ∈ R.map (·.1)
  ·rw [if_pos hm] at base ⊢
   obtain ⟨a5, a6, e1, e2, e3⟩ := spec_rl2 (i := i) h20 hd hL hT r (k := k + 1) h3 (by omega) hi hq h5 h6 h
   exact ⟨a5, a6, e1, e2, (loopC_inl base).trans e3⟩
  ·rw [if_neg hm] at base ⊢
   by_cases h60 : R.length = 60
   ·rw [if_pos h60] at base ⊢
    exact ⟨f5, f6, h5, h6, loopC_inr base⟩
   ·rw [if_neg h60] at base ⊢
    have hn : RI s steps (R ++ [(x.2.2, d + 1)]) := ⟨by rw [List.length_append]; simp; omega, fun y hy => by
     rcases List.mem_append.1 hy with hy | hy
     ·exact h.el y hy
     ·rw [List.mem_singleton.1 hy]; exact ⟨hx, by simp; omega, by simp; omega⟩⟩
    obtain ⟨a5, a6, e1, e2, e3⟩ := spec_rl2 (i := i) h20 hd hL hT r (k := k + 1) (R := R ++ [(x.2.2, d + 1)]) (f5 := f5 ++ [(i : Int)]) (f6 := f6 ++ [(x.1, x.2.1, x.2.2)]) h3 (by omega) (by simp; omega)
     (by rw [List.getD_eq_getElem?_getD, List.getElem?_append_left hi, <- List.getD_eq_getElem?_getD]; exact hq) (by simp; omega) (by simp; omega) hn
    exact ⟨a5, a6, e1, e2, (loopC_inl base).trans e3⟩
theorem spec_rl1 {s : Sys} {steps : Int} (hs : sysOk s = true) (h20 : 0 <= steps /\ steps <= 20) : ∀ (f : Nat) {k : Nat} {R : List RT} {f5 : List Int} {f6 : List Stp}, 61 <= k + f -> k <= R.length -> f5.length = R.length -> f6.length = R.length -> RI s steps R ->
 ∃ f5' f6', loopC (F_spec_l9Find_l1 s steps) ((k : Int), R.map (·.1), f5, f6, R.map (·.2)) = some ((rOut s steps f k R).1.map (·.1), f5', f6', (rOut s steps f k R).1.map (·.2), (rOut s steps f k R).2) /\ RI s steps (rOut s steps f k R).1
 | 0, k, R, f5, f6, hf, hk, h5, h6, h => by
  have := h.len
  omega
 | f + 1, k, R, f5, f6, hf, hk, h5, h6, h => by
  have hl := h.len
  unfold rOut
  by_cases hlt : k < R.length
  ·have hel := h.el _ (getD_mem hlt)
   have ge1 := map_getD (g := fun x : RT => x.1) hlt
   have ge2 := map_getD (g := fun x : RT => x.2) hlt
   rw [if_pos hlt]
   by_cases hst : (R.getD k default).2 = steps
   ·rw [if_pos hst]
    obtain ⟨a5, a6, e1, e2⟩ := spec_rl1 hs h20 f (k := k + 1) (by omega) (by omega) h5 h6 h
    refine ⟨a5, a6, (loopC_inl ?_).trans e1, e2⟩
    simp only [F_spec_l9Find_l1, List.length_map, show (k : Int) < R.length by omega, decide_true, if_true, show (0 : Int) <= k by omega, and_self, Int.toNat_natCast, ge2, hst, beq_self_eq_true, w64 (n := (k : Int) + 1) (by omega) (by omega)]
    rfl
   ·rw [if_neg hst]
    obtain ⟨a5, a6, l5, l6, e2⟩ := spec_rl2 (s := s) h20.2 (d := (R.getD k default).2) ⟨hel.2.1, by omega⟩ (stL_720 hs hel.1) (stL_ok hs hel.1) (i := k) (stL s (R.getD k default).1) (k := 0) rfl (by omega) hlt rfl h5 h6 h
    have hR := rIn_ok (s := s) (steps := steps) (d := (R.getD k default).2) ⟨hel.2.1, by omega⟩ (step_us hs hel.1) h
    have hlen := rIn_len (d := (R.getD k default).2) (us := (stL s (R.getD k default).1).map (·.2.2)) (R := R)
    have base : F_spec_l9Find_l1 s steps ((k : Int), R.map (·.1), f5, f6, R.map (·.2)) = some (if (rIn (R.getD k default).2 ((stL s (R.getD k default).1).map (·.2.2)) R).2 = true then .inl ((k : Int) + 1, (rIn (R.getD k default).2 ((stL s (R.getD k default).1).map (·.2.2)) R).1.map (·.1), a5, a6, (rIn (R.getD k default).2 ((stL s (R.getD k default).1).map (·.2.2)) R).1.map (·.2)) else .inr ((rIn (R.getD k default).2 ((stL s (R.getD k default).1).map (·.2.2)) R).1.map (·.1), a5, a6, (rIn (R.getD k default).2 ((stL s (R.getD k default).1).map (·.2.2)) R).1.map (·.2), false)) := by
     have hne : ((R.getD k default).2 == steps) = false := by simpa using hst
     simp only [F_spec_l9Find_l1, List.length_map, show (k : Int) < R.length by omega, decide_true, if_true, show (0 : Int) <= k by omega, and_self, Int.toNat_natCast, ge1, ge2, hne, Bool.false_eq_true, if_false, F_spec_l7Steps_eq hs hel.1, Option.bind_some]
     exact e2
    cases hb : (rIn (R.getD k default).2 ((stL s (R.getD k default).1).map (·.2.2)) R).2 with
    | true =>
     rw [hb, if_pos rfl] at base
     rw [if_pos rfl]
     obtain ⟨b5, b6, e3, e4⟩ := spec_rl1 hs h20 f (k := k + 1) (R := (rIn (R.getD k default).2 ((stL s (R.getD k default).1).map (·.2.2)) R).1) (f5 := a5) (f6 := a6) (by omega) (by omega) l5 l6 hR
     exact ⟨b5, b6, (loopC_inl base).trans e3, e4⟩
    | false =>
     rw [hb, if_neg (by simp)] at base
     rw [if_neg (by simp)]
     exact ⟨a5, a6, by rw [hb]; exact loopC_inr base, hR⟩
  ·rw [if_neg hlt]
   refine ⟨f5, f6, loopC_inr ?_, h⟩
   simp only [F_spec_l9Find_l1, List.length_map, show ¬ (k : Int) < R.length by omega, decide_false, Bool.false_eq_true, if_false, Option.map_some]
def rch (s : Sys) (t : List Int) (steps : Int) : List RT × Bool := rOut s steps 61 0 [(t, 0)]
def rchO (s : Sys) (t : List Int) (steps : Int) : LL × Bool := if rightB s t steps = true then ((rch s t steps).1.map (·.1), (rch s t steps).2) else ([], false)
theorem ri0 {s : Sys} {t : List Int} {steps : Int} (ht : termOk s.1 t = true) (h : 0 <= steps) : RI s steps [(t, 0)] := ⟨by simp, fun x hx => by
 rw [List.mem_singleton.1 hx]; exact ⟨ht, by simp, h⟩⟩
theorem F_impl_reachOk_eq (s : Sys) (steps : Int) (t : List Int) : F_impl_reachOk s steps [t] = some (rightB s t steps) := by
 unfold F_impl_reachOk rightB
 rw [F_impl_SystemOk_eq, Option.bind_some]
 cases hs : sysOk s with
 | false => simp
 | true =>
  simp only [if_true, Bool.true_and]
  by_cases h1 : steps < 0
  ·rw [if_pos (by simpa using h1)]
   have : ¬ (0 <= steps /\ steps <= 20) := by omega
   simp [this]
  ·rw [if_neg (by simpa using h1)]
   by_cases h2 : 20 < steps
   ·rw [if_pos (by simpa using h2)]
    have : ¬ (0 <= steps /\ steps <= 20) := by omega
    simp [this]
   ·rw [if_neg (by simpa using h2)]
    have h3 : 0 <= steps /\ steps <= 20 := by omega
    have e1 : F_impl_reachOk_l1 s [t] 1 = some (.inr true) := by simp [F_impl_reachOk_l1]
    have e0 : F_impl_reachOk_l1 s [t] 0 = some (if termOk s.1 t = true then .inl 1 else .inr false) := by
     simp only [F_impl_reachOk_l1, List.length_singleton, show (0 : Int) < ((1 : Nat) : Int) by decide, decide_true, if_true, Int.le_refl, and_self]
     rw [show [t].getD (0 : Int).toNat default = t from rfl, F_impl_TermOk_eq, Option.bind_some, w64 (n := 0 + 1) (by decide) (by decide)]
     cases termOk s.1 t <;> rfl
    cases ht : termOk s.1 t with
    | true =>
     rw [ht, if_pos rfl] at e0
     rw [loopC_inl e0, loopC_inr e1]; simp [h3]
    | false =>
     rw [ht, if_neg (by simp)] at e0
     rw [loopC_inr e0]; simp
theorem F_impl_ReachOf_eq (s : Sys) (t : List Int) (steps : Int) : F_impl_ReachOf s t steps = some (rchO s t steps) := by
 unfold F_impl_ReachOf rchO
 rw [F_impl_reachOk_eq, Option.bind_some]
 cases hr : rightB s t steps with
 | false => simp
 | true =>
  obtain ⟨h1, h2, h3⟩ := rightB_iff.1 hr
  have hsm := ok_sm h2
  have ri := ri0 (s := s) h2 h3.1
  obtain ⟨all, e1, e2⟩ := impl_rl1 h1 h3 61 (k := 0) (all := [(t, -1, 0, 0, [], 0)]) (by omega) (by omega) ri
  rw [show aI [(t, -1, 0, 0, [], 0)] = [(t, 0)] from rfl] at e1 e2
  have el : F_impl_reach s t steps = some (all, (rch s t steps).2) := by
   unfold F_impl_reach
   rw [F_slices_Clone_eq (l := t) (by show t.length < _; omega), Option.bind_some]
   exact e2
  rw [if_pos rfl, if_pos rfl, el, Option.bind_some]
  obtain ⟨_, _, _, hR⟩ := spec_rl1 h1 h3 61 (k := 0) (R := [(t, 0)]) (f5 := [0]) (f6 := [(0, 0, [])]) (by omega) (by omega) rfl rfl ri
  have hlen : all.length <= 60 := by
   have a1 := congrArg List.length e1
   rw [aI_len] at a1
   have := hR.len; omega
  have hm : all.map (·.1) = (rch s t steps).1.map (·.1) := by
   unfold rch; rw [<- e1]; unfold aI; rw [List.map_map]; rfl
  rw [<- hm]
  have A := loop_st (n := all.length) (fun i => ((all.map (·.1)).take i, (i : Int))) (c := (all.map (·.1), (rch s t steps).2)) (f := F_impl_ReachOf_l1 (all, (rch s t steps).2)) (fun i hi => by
   have hi' : i < (all.map (·.1)).length := by simpa using hi
   rw [List.take_succ_eq_append_getElem hi', List.getElem_map]
   simp only [F_impl_ReachOf_l1, show (i : Int) < all.length by omega, decide_true, if_true, show (0 : Int) <= i by omega, and_self, Int.toNat_natCast, getD_get hi, w64 (n := (i : Int) + 1) (by omega) (by omega)]
   rw [if_pos (by simp only [List.length_take, List.length_map]; omega)]
   rfl) (by
   rw [List.take_of_length_le (by simp)]
   simp only [F_impl_ReachOf_l1, show ¬ (all.length : Int) < all.length by omega, decide_false, Bool.false_eq_true, if_false, Option.map_some])
  simpa using A
theorem F_spec_l9Right_eq (s : Sys) (t : List Int) (steps : Int) : F_spec_l9Right s t steps = some (rightB s t steps) := by
 unfold F_spec_l9Right F_spec_l7Right rightB
 rw [F_spec_SystemOk_eq, Option.bind_some]
 cases hs : sysOk s with
 | false => simp
 | true =>
  simp only [if_true, F_spec_TermOk_eq, Option.bind_some, Bool.true_and]
  cases termOk s.1 t with
  | false => simp
  | true => simp [F_spec_l1In_eq]
theorem F_spec_l1CopyTerms_eq {l : LL} (hl : l.length <= 60) (hs : ∀ t ∈ l, Small t) : F_spec_l1CopyTerms l = some l := by
 unfold F_spec_l1CopyTerms
 have A := loop_st (n := l.length) (fun i => (l.take i, (i : Int))) (c := l) (f := F_spec_l1CopyTerms_l1 l) (fun i hi => by
  rw [List.take_succ_eq_append_getElem hi]
  simp only [F_spec_l1CopyTerms_l1, show (i : Int) < l.length by omega, decide_true, if_true, show (0 : Int) <= i by omega, and_self, Int.toNat_natCast, getD_get hi, F_spec_l1Copy_eq (hs _ (List.getElem_mem hi)), Option.bind_some, w64 (n := (i : Int) + 1) (by omega) (by omega)]
  rw [if_pos (by simp only [List.length_take]; omega)]
  rfl) (by
  rw [List.take_length]
  simp only [F_spec_l1CopyTerms_l1, show ¬ (l.length : Int) < l.length by omega, decide_false, Bool.false_eq_true, if_false, Option.map_some])
 simpa using A
theorem rch_ri {s : Sys} {t : List Int} {steps : Int} (h : rightB s t steps = true) : RI s steps (rch s t steps).1 := by
 obtain ⟨h1, h2, h3⟩ := rightB_iff.1 h
 obtain ⟨_, _, _, hR⟩ := spec_rl1 h1 h3 61 (k := 0) (R := [(t, 0)]) (f5 := [0]) (f6 := [(0, 0, [])]) (by omega) (by omega) rfl rfl (ri0 (s := s) h2 h3.1)
 exact hR
theorem rch_sm {s : Sys} {t : List Int} {steps : Int} (h : rightB s t steps = true) : ((rch s t steps).1.map (·.1)).length <= 60 /\ ∀ u ∈ (rch s t steps).1.map (·.1), u.length <= 60 := by
 have hR := rch_ri h
 refine ⟨by rw [List.length_map]; exact hR.len, fun u hu => ?_⟩
 obtain ⟨y, hy, rfl⟩ := List.mem_map.1 hu
 exact ok_sm (hR.el y hy).1
theorem F_spec_ReachOf_eq (s : Sys) (t : List Int) (steps : Int) : F_spec_ReachOf s t steps = some (rchO s t steps) := by
 unfold F_spec_ReachOf rchO
 rw [F_spec_l9Right_eq, Option.bind_some]
 cases hr : rightB s t steps with
 | false => simp
 | true =>
  obtain ⟨h1, h2, h3⟩ := rightB_iff.1 hr
  have hsm := ok_sm h2
  obtain ⟨a5, a6, e1, hR⟩ := spec_rl1 h1 h3 61 (k := 0) (R := [(t, 0)]) (f5 := [-1]) (f6 := [(0, 0, [])]) (by omega) (by omega) rfl rfl (ri0 (s := s) h2 h3.1)
  have el : F_spec_l9Find s t steps = some ((rch s t steps).1.map (·.1), a5, a6, (rch s t steps).1.map (·.2), (rch s t steps).2) := by
   unfold F_spec_l9Find
   rw [F_spec_l1Copy_eq (l := t) (by show t.length < _; omega), Option.bind_some]
   exact e1
  obtain ⟨q1, q2⟩ := rch_sm hr
  rw [if_pos rfl, if_pos rfl, el, Option.bind_some]
  simp only
  rw [F_spec_l1CopyTerms_eq q1 (fun u hu => by have := q2 u hu; show u.length < _; omega), Option.bind_some]
def lmx : LL -> Int -> Int
 | [], m => m
 | t :: ts, m => lmx ts (max m (t.length : Int))
def gwO (s : Sys) (t : List Int) (steps : Int) : Int := if (rchO s t steps).2 = true then lmx (rchO s t steps).1 0 else -1
theorem rchO_sm (s : Sys) (t : List Int) (steps : Int) : (rchO s t steps).1.length <= 60 := by
 unfold rchO
 split
 ·rename_i h; exact (rch_sm h).1
 ·simp
theorem spec_lmx {q : LL × Bool} (hl : q.1.length <= 60) : ∀ (r : LL) {i : Nat} {m : Int}, q.1.drop i = r -> i <= q.1.length -> loopC (F_spec_GrowthOf_l1 q) (m, (i : Int)) = some (lmx r m)
 | [], i, m, hd, hi => by
  refine loopC_inr ?_
  have : q.1.length <= i := by simpa using hd
  simp only [F_spec_GrowthOf_l1, show ¬ (i : Int) < q.1.length by omega, decide_false, Bool.false_eq_true, if_false, Option.map_some, lmx]
 | t :: r, i, m, hd, hi => by
  obtain ⟨h1, h2, h3⟩ := drop_cons hd
  have e : F_spec_GrowthOf_l1 q (m, (i : Int)) = some (.inl (max m (t.length : Int), (i : Int) + 1)) := by
   simp only [F_spec_GrowthOf_l1, show (i : Int) < q.1.length by omega, decide_true, if_true, show (0 : Int) <= i by omega, and_self, Int.toNat_natCast, h2, Option.bind_some, F_spec_l1Max_eq, w64 (n := (i : Int) + 1) (by omega) (by omega)]
  rw [loopC_inl e]
  exact spec_lmx hl r (i := i + 1) h3 (by omega)
theorem impl_lmx {ts : LL} (hl : ts.length <= 60) : ∀ (r : LL) {i : Nat} {m : Int}, ts.drop i = r -> i <= ts.length -> loopC (F_impl_greatest_s3_l1 ts) (m, (i : Int)) = some (lmx r m)
 | [], i, m, hd, hi => by
  refine loopC_inr ?_
  have : ts.length <= i := by simpa using hd
  simp only [F_impl_greatest_s3_l1, show ¬ (i : Int) < ts.length by omega, decide_false, Bool.false_eq_true, if_false, Option.map_some, lmx]
 | t :: r, i, m, hd, hi => by
  obtain ⟨h1, h2, h3⟩ := drop_cons hd
  have hmx : (if (t.length : Int) > m then (t.length : Int) else m) = max m (t.length : Int) := by split <;> omega
  have e : F_impl_greatest_s3_l1 ts (m, (i : Int)) = some (.inl (max m (t.length : Int), (i : Int) + 1)) := by
   simp only [F_impl_greatest_s3_l1, F_impl_GrowthOf_1, show (i : Int) < ts.length by omega, decide_true, if_true, show (0 : Int) <= i by omega, and_self, Int.toNat_natCast, h2, Option.bind_some, show ¬ (t.length : Int) < 0 by omega, decide_false, Bool.false_eq_true, if_false, hmx, w64 (n := (i : Int) + 1) (by omega) (by omega)]
  rw [loopC_inl e]
  exact impl_lmx hl r (i := i + 1) h3 (by omega)
theorem F_spec_GrowthOf_eq (s : Sys) (t : List Int) (steps : Int) : F_spec_GrowthOf s t steps = some (gwO s t steps) := by
 unfold F_spec_GrowthOf gwO
 rw [F_spec_ReachOf_eq, Option.bind_some]
 have hl := rchO_sm s t steps
 generalize rchO s t steps = q at *
 cases hq : q.2 with
 | false => simp
 | true =>
  rw [if_pos rfl, if_pos rfl]
  exact spec_lmx hl q.1 (i := 0) rfl (by omega)
theorem F_impl_GrowthOf_eq (s : Sys) (t : List Int) (steps : Int) : F_impl_GrowthOf s t steps = some (gwO s t steps) := by
 unfold F_impl_GrowthOf gwO
 rw [F_impl_ReachOf_eq, Option.bind_some]
 have hl := rchO_sm s t steps
 generalize rchO s t steps = q at *
 cases hq : q.2 with
 | false => simp
 | true =>
  rw [if_pos rfl, if_pos rfl]
  have : F_impl_greatest_s3 q.1 = some (lmx q.1 0) := impl_lmx hl q.1 (i := 0) rfl (by omega)
  rw [this]; rfl
theorem gwO_zero {s : Sys} {t : List Int} (hs : sysOk s = true) (ht : termOk s.1 t = true) : gwO s t 0 = (t.length : Int) := by
 have h : rightB s t 0 = true := rightB_iff.2 ⟨hs, ht, by decide, by decide⟩
 have e : rch s t 0 = ([(t, 0)], true) := by unfold rch; simp [rOut]
 unfold gwO rchO
 rw [if_pos h, e]
 show (if true = true then lmx [t] 0 else -1) = _
 rw [if_pos rfl]
 unfold lmx lmx
 omega
end Go.Proofs.YtglpjlpmijfocaaGreat
namespace Go.Proofs.YtglpjlpmijfocaaGreat
open Go Abx
attribute [local irreducible] vcm vgo vdr vrun vdrun MWp GhostQ BrC BrO BrG BrD BrH AmbO callR callD drQ EnvLe StoLe
set_option maxHeartbeats 4000000
def mc13 : MCode :=
 (.seq (.reg (sq 2 [mb false])) (.seq (.reg (sq 3 [mv 0, ln 3, bi .gtr 4 4096] ++ sq 2 [mv 5])) .ret))
theorem fn13 : MFn Tryz.prog 13 mc13 6 [.tmp 2] := ⟨_, Tryz.func13, by kernel_rfl, Tryz.ntmps13, by kernel_rfl⟩
def F_laws_big (code : (List Int)) : Option Bool :=
 some (decide (4096 < (code.length : Int)))
instance c_laws_big {code : (List Int)} : HasC (F_laws_big code) fun rr => PFun Tryz.prog 13 [(slD 1 (kD .u8)) code] (bD rr) := ⟨@fun rr h => by
 delta F_laws_big at h
 refine fn13.pureL (vcm_sound ?_)
 delta mc13
 refine stp ?_
 exact aut⟩
def mc14 : MCode :=
 (.seq (.reg (sq 4 [.mv (.const (.pointer none))])) (.seq (.reg (sq 7 [mv 0, mv 1, .bin .mul (t0 8) (.const (.int .u64 7919)), mv 0, ln 10, .conv .u64 (t0 11), bn .add 9 12, .build [.sl 0 (some true) [], .lit (.int .i64 0), .lit (.int .u64 0)] [(0, 1, (t0 7)), (2, 1, (t0 13))], bo 15 65 14] ++ sq 5 [mv 15])) (.seq (.seq (.reg (sq 6 [mi 0])) (.block 0 (.loop (.seq (.seq (.reg (sq 16 [mv 6, mv 0, ln 17, bn .lss 16 18])) (.cond (t0 19) .skip (.exit 0))) (.seq (.block 1 (.draw (sq 22 [mv 5, mv 5, .nilc (t0 23), fa 2 24, ld 25, .bin .mul (t0 26) (.const (.int .u64 1099511628211)), mv 0, mv 6, ix 1 28 29, ld 30, .conv .u64 (t0 31), bn .add 27 32, .bin .add (t0 33) (.const (.int .u64 3)), .nilc (t0 22), fa 2 35] ++ s0 (sr 1 36 34)) [[], [], [1], [2], [3], [4], [], [], [6, 7], [8], [9], [5, 10], [11], [0, 0, 1, 2, 3, 4, 5, 6, 7, 8, 9, 10, 11, 12], [13, 0, 1, 2, 3, 4, 5, 6, 7, 8, 9, 10, 11, 12], [14, 12, 0, 1, 2, 3, 4, 5, 6, 7, 8, 9, 10, 11, 12]])) (.reg (sq 20 [mv 6, bi .add 20 1] ++ sq 6 [mv 21]))))))) (.seq (.reg (sq 37 [mv 5] ++ sq 4 [mv 37])) .ret))))
theorem fn14 : MFn Tryz.prog 14 mc14 38 [.tmp 4] := ⟨_, Tryz.func14, by kernel_rfl, Tryz.ntmps14, by kernel_rfl⟩
def F_laws_roll_l1 (code : (List Int)) : (Int × Int) -> Option ((Int × Int) ⊕ ((List Int) × Int × Int))
 | (i, o15) =>
  if (decide (i < (code.length : Int))) = true then
   if 0 <= i /\ i < (code.length : Int) then
    some (.inl ((IntKind.i64.wrap (i + 1)), (IntKind.u64.wrap ((IntKind.u64.wrap ((IntKind.u64.wrap (o15 * 1099511628211)) + (IntKind.u64.wrap (code.getD i.toNat default)))) + 3))))
   else none
  else
   Option.map Sum.inr (
    some (code, 0, o15))
def F_laws_roll (code : (List Int)) (seed : Int) : Option ((List Int) × Int × Int) :=
 loopC (F_laws_roll_l1 code) (0, (IntKind.u64.wrap ((IntKind.u64.wrap (seed * 7919)) + (IntKind.u64.wrap (code.length : Int)))))
instance c_laws_roll {code : (List Int)} {seed : Int} : HasC (F_laws_roll code seed) fun rr => ACalls Tryz.prog 14 [.d (slD 1 (kD .u8) code), .d (.lit (.int .u64 seed))] [] 0 fun xx ss => xx = .ptr 15 0 /\ ss = [(15, .obj 65 [.d (slD 1 (kD .u8) rr.1), .d (iD rr.2.1), .d (.lit (.int .u64 rr.2.2))])] := ⟨@fun rr h => by
 delta F_laws_roll at h
 refine fn14.callsO (vcm_sound ?_)
 delta mc14
 refine stp ?_
 refine m_lW h [6, 16, 17, 18, 19, 20, 21, 22, 23, 24, 25, 26, 27, 28, 29, 30, 31, 32, 33, 34, 35, 36] (fun pp => [(6, .d (iD pp.1))]) (fun pp => [(15, .obj 65 [.d (slD 1 (kD .u8) code), .d (iD 0), .d (.lit (.int .u64 pp.2))])]) ?_
 rintro ⟨i, o15⟩ t1 h hb1
 unfold F_laws_roll_l1 at h
 try dsimp only at h
 refine vcm_sound (stp ?_)
 exact aut⟩
def mc43 : MCode :=
 (.seq (.reg (sq 0 [.alloc 0 30 [.sl 0 (some true) []]])) (.seq (.reg (sq 1 [.bsl 1 2 1 [(i0 2), (i0 1), (i0 0)], .build [.sl 0 (some true) []] [(0, 1, (t0 1))]] ++ s0 (sr 1 0 2))) .ret))
theorem fn43 : MFn Tryz.prog 43 mc43 3 [.cell 0 1 true] := ⟨_, Tryz.func43, by kernel_rfl, Tryz.ntmps43, by kernel_rfl⟩
def F_laws_w6Sig  : Option (List Int) :=
 some [2, 1, 0]
instance c_laws_w6Sig : HasC (F_laws_w6Sig) fun rr => PFun Tryz.prog 43 [] (D_impl_Sig rr) := ⟨@fun rr h => by
 delta F_laws_w6Sig at h
 refine fn43.pureL (vcm_sound ?_)
 delta mc43
 refine stp ?_
 exact aut⟩
end Go.Proofs.YtglpjlpmijfocaaGreat
namespace Abx
open Go
theorem EnvLe_j1 : ∀ {xs : List AV} {i : Nat}, EnvLe xs (xs.set i .junk)
 | [], _ => trivial
 | x :: xs, 0 => ⟨AV.le_junk x, .refl xs⟩
 | x :: xs, i + 1 => ⟨AV.le_refl x, EnvLe_j1⟩
theorem EnvLe.trans' : ∀ {xs ys zs : List AV}, EnvLe xs ys -> EnvLe ys zs -> EnvLe xs zs
 | [], [], [], _, _ => trivial
 | _ :: _, _ :: _, _ :: _, h, h' => ⟨fun β O w v hx => h'.1 β O w v (h.1 β O w v hx), EnvLe.trans' h.2 h'.2⟩
 | [], _ :: _, _, h, _ => h.elim
 | _ :: _, [], _, h, _ => h.elim
 | [], [], _ :: _, _, h => h.elim
 | _ :: _, _ :: _, [], _, h => h.elim
theorem EnvLe_junkAll : ∀ {ws : List Nat} {xs : List AV}, EnvLe xs (junkAll xs ws)
 | [], xs => .refl xs
 | _ :: ws, _ => EnvLe.trans' EnvLe_j1 (EnvLe_junkAll (ws := ws))
theorem StoLe_rf (s : Sto) : StoLe s s := by
 induction s with
 | nil => exact stoN
 | cons x s ih => exact stoC (ObLe.refl _) ih
end Abx
namespace Go.Proofs.YtglpjlpmijfocaaGreat
open Go Abx
attribute [local irreducible] vcm vgo vdr vrun vdrun MWp GhostQ BrC BrO BrG BrD BrH AmbO callR callD drQ EnvLe StoLe
set_option maxHeartbeats 4000000
def mc16 : MCode :=
 (.seq (.reg (sq 4 [mi 0])) (.seq (.reg (sq 6 [mv 0, mv 0, .nilc (t0 7), fa 2 8, ld 9, .bin .mul (t0 10) (.const (.int .u64 6364136223846793005)), .bin .add (t0 11) (.const (.int .u64 1442695040888963407)), .nilc (t0 6), fa 2 13] ++ s0 (sr 1 14 12))) (.seq (.reg (sq 15 [mv 0, .nilc (t0 15), fa 2 16, ld 17, .bin .shr (t0 18) (.const (.int .u64 33)), .bin .and (t0 19) (.const (.int .u64 16777215)), .conv .i64 (t0 20)] ++ sq 5 [mv 21])) (.seq (.seq (.draw (sq 22 [mv 0, .nilc (t0 22), fa 1 23, ld 24, mv 0, .nilc (t0 26), fa 0 27, ld 28, ln 29, bn .lss 25 30]) [[], [0], [1], [2], [], [4], [5], [6], [7], [3, 8]]) (.cond (t0 31) (.seq (.draw (sq 32 [mv 5, mv 0, .nilc (t0 33), fa 0 34, ld 35, mv 0, .nilc (t0 37), fa 1 38, ld 39, ix 1 36 40, ld 41, .conv .i64 (t0 42), bn .add 32 43] ++ sq 5 [mv 44]) [[], [], [1], [2], [3], [], [5], [6], [7], [4, 8], [9], [10], [0, 11], [12, 0, 1, 2, 3, 4, 5, 6, 7, 8, 9, 10, 11, 12]]) (.reg (sq 45 [mv 0, mv 0, .nilc (t0 46), fa 1 47, ld 48, bi .add 49 1, .nilc (t0 45), fa 1 51] ++ s0 (sr 1 52 50)))) .skip)) (.seq (.reg (sq 53 [mv 5, mv 1, bn .rem 53 54] ++ sq 4 [mv 55])) .ret)))))
theorem fn16 : MFn Tryz.prog 16 mc16 56 [.tmp 4] := ⟨_, Tryz.func16, by kernel_rfl, Tryz.ntmps16, by kernel_rfl⟩
def F_laws_dice_below (n : Int) (d0 : (List Int)) (d1 : Int) (d2 : Int) : Option (Int × Int × Int) :=
 if (decide (d1 < (d0.length : Int))) = true then
  if 0 <= d1 /\ d1 < (d0.length : Int) then
   if n ≠ 0 then
    some (((IntKind.i64.wrap ((IntKind.i64.wrap (andI .u64 (shrI .u64 (IntKind.u64.wrap ((IntKind.u64.wrap (d2 * 6364136223846793005)) + 1442695040888963407)) 33) 16777215)) + (IntKind.i64.wrap (d0.getD d1.toNat default)))).tmod n), (IntKind.i64.wrap (d1 + 1)), (IntKind.u64.wrap ((IntKind.u64.wrap (d2 * 6364136223846793005)) + 1442695040888963407)))
   else none
  else none
 else
  if n ≠ 0 then
   some (((IntKind.i64.wrap (andI .u64 (shrI .u64 (IntKind.u64.wrap ((IntKind.u64.wrap (d2 * 6364136223846793005)) + 1442695040888963407)) 33) 16777215)).tmod n), d1, (IntKind.u64.wrap ((IntKind.u64.wrap (d2 * 6364136223846793005)) + 1442695040888963407)))
  else none
instance c_laws_dice_below {n : Int} {d0 : (List Int)} {d1 : Int} {d2 : Int} : HasC (F_laws_dice_below n d0 d1 d2) fun rr => ACalls Tryz.prog 16 [.ptr 0 0, .d (iD n)] [(0, .obj 65 [.d (slD 1 (kD .u8) d0), .d (iD d1), .d (.lit (.int .u64 d2))])] 1 fun xx ss => xx = .d (iD rr.1) /\ ss = [(0, .obj 65 [.d (slD 1 (kD .u8) d0), .d (iD rr.2.1), .d (.lit (.int .u64 rr.2.2))])] := ⟨@fun rr h => by
 delta F_laws_dice_below at h
 refine fn16.callsO (vcm_sound ?_)
 delta mc16
 refine stp ?_
 exact aut⟩
def mc15 : MCode :=
 (.seq (.reg (sq 2 [.alloc 2 33 [.sl 0 (some true) [], .sl 0 (some true) []]])) (.seq (.reg (sq 4 [cf 43 [], .bsl 5 2 1 [(i0 0), (i0 2), (i0 (-1))], .bsl 6 2 1 [(i0 (-1))], .build [.sl 0 (some true) [], .sl 0 (some true) []] [(0, 1, (t0 5)), (1, 1, (t0 6))], .bsl 8 2 1 [(i0 0), (i0 1), (i0 (-1)), (i0 (-2))], .bsl 9 2 1 [(i0 1), (i0 0), (i0 (-1)), (i0 (-2))], .build [.sl 0 (some true) [], .sl 0 (some true) []] [(0, 1, (t0 8)), (1, 1, (t0 9))], .bsl 11 68 2 [(t0 7), (t0 10)], .build [.sl 0 (some true) [], .sl 0 (some true) []] [(0, 1, (t0 4)), (1, 1, (t0 11))]] ++ sq 3 [.alloc 3 33 [.sl 0 (some true) [], .sl 0 (some true) []]] ++ s0 (sr 2 3 12))) (.seq (.seq (.reg (sq 13 [mv 0, .callf 16 [(t0 13), (i0 4)]])) (.ghost (.block 0 (.seq (.reg (sq 16 [bi .eql 14 0] ++ sq 15 [mv 16])) (.cond (t0 15) (.reg (sq 17 [fa 1 3, ld 17, .bsl 19 2 1 [(i0 0), (i0 (-1)), (i0 2)], .bsl 20 2 1 [(i0 (-1))], .build [.sl 0 (some true) [], .sl 0 (some true) []] [(0, 1, (t0 19)), (1, 1, (t0 20))], .bsl 22 2 1 [(i0 0), (i0 (-1)), (i0 1), (i0 (-2))], .bsl 23 2 1 [(i0 1), (i0 0), (i0 (-1)), (i0 (-2))], .build [.sl 0 (some true) [], .sl 0 (some true) []] [(0, 1, (t0 22)), (1, 1, (t0 23))], .bsl 25 68 2 [(t0 21), (t0 24)], ap 26 68 2 48 18 25, fa 1 3] ++ s0 (sr 1 27 26))) (.seq (.reg (sq 29 [bi .eql 14 1] ++ sq 28 [mv 29])) (.cond (t0 28) (.reg (sq 30 [.bsl 30 2 1 [(i0 1), (i0 1), (i0 (-1))], .bsl 31 2 1 [(i0 (-1))], .build [.sl 0 (some true) [], .sl 0 (some true) []] [(0, 1, (t0 30)), (1, 1, (t0 31))], .bsl 33 2 1 [(i0 0), (i0 2), (i0 (-1))], .bsl 34 2 1 [(i0 (-1))], .build [.sl 0 (some true) [], .sl 0 (some true) []] [(0, 1, (t0 33)), (1, 1, (t0 34))], .bsl 36 68 2 [(t0 32), (t0 35)], fa 1 3] ++ s0 (sr 1 37 36))) (.seq (.reg (sq 39 [bi .eql 14 2] ++ sq 38 [mv 39])) (.cond (t0 38) (.reg (sq 40 [.bsl 40 2 1 [(i0 0), (i0 0), (i0 (-1)), (i0 (-2)), (i0 (-3))], .bsl 41 2 1 [(i0 0), (i0 (-1)), (i0 0), (i0 (-2)), (i0 (-3))], .build [.sl 0 (some true) [], .sl 0 (some true) []] [(0, 1, (t0 40)), (1, 1, (t0 41))], .bsl 43 2 1 [(i0 0), (i0 2), (i0 (-1))], .bsl 44 2 1 [(i0 (-1))], .build [.sl 0 (some true) [], .sl 0 (some true) []] [(0, 1, (t0 43)), (1, 1, (t0 44))], .bsl 46 2 1 [(i0 0), (i0 (-1)), (i0 2)], .bsl 47 2 1 [(i0 (-1))], .build [.sl 0 (some true) [], .sl 0 (some true) []] [(0, 1, (t0 46)), (1, 1, (t0 47))], .bsl 49 68 2 [(t0 42), (t0 45), (t0 48)], fa 1 3] ++ s0 (sr 1 50 49))) .skip))))))))) (.seq (.reg (sq 51 [la 2 3] ++ s0 (sr 2 2 51))) .ret))))
theorem fn15 : MFn Tryz.prog 15 mc15 52 [.cell 2 2 true] := ⟨_, Tryz.func15, by kernel_rfl, Tryz.ntmps15, by kernel_rfl⟩
def F_laws_w6System (d0 : (List Int)) (d1 : Int) (d2 : Int) : Option (((List Int) × (List ((List Int) × (List Int)))) × Int × Int) :=
 (F_laws_w6Sig).bind fun r =>
 (F_laws_dice_below 4 d0 d1 d2).bind fun r_1 =>
 if (r_1.1 == 0) = true then
  if (2 + 2) * 48 <= 140737488355328 then
   some ((r, [([0, 2, (-1)], [(-1)]), ([0, 1, (-1), (-2)], [1, 0, (-1), (-2)]), ([0, (-1), 2], [(-1)]), ([0, (-1), 1, (-2)], [1, 0, (-1), (-2)])]), r_1.2.1, r_1.2.2)
  else none
 else
  if (r_1.1 == 1) = true then
   some ((r, [([1, 1, (-1)], [(-1)]), ([0, 2, (-1)], [(-1)])]), r_1.2.1, r_1.2.2)
  else
   if (r_1.1 == 2) = true then
    some ((r, [([0, 0, (-1), (-2), (-3)], [0, (-1), 0, (-2), (-3)]), ([0, 2, (-1)], [(-1)]), ([0, (-1), 2], [(-1)])]), r_1.2.1, r_1.2.2)
   else
    some ((r, [([0, 2, (-1)], [(-1)]), ([0, 1, (-1), (-2)], [1, 0, (-1), (-2)])]), r_1.2.1, r_1.2.2)
instance c_laws_w6System {d0 : (List Int)} {d1 : Int} {d2 : Int} : HasC (F_laws_w6System d0 d1 d2) fun rr => ACalls Tryz.prog 15 [.ptr 0 0] [(0, .obj 65 [.d (slD 1 (kD .u8) d0), .d (iD d1), .d (.lit (.int .u64 d2))])] 1 fun xx ss => xx = .d (.agg [slD 1 iD rr.1.1, slD 2 D_impl_Rule rr.1.2]) /\ ss = [(0, .obj 65 [.d (slD 1 (kD .u8) d0), .d (iD rr.2.1), .d (.lit (.int .u64 rr.2.2))])] := ⟨@fun rr h => by
 delta F_laws_w6System at h
 refine fn15.callsO (vcm_sound ?_)
 delta mc15
 refine stp ?_
 refine rC h fun r hr h => ?_
 refine rCo [(0, 0)] [] h fun r_1 hr_1 h => ?_
 refine GhostQ.of ((Weak.leS EnvLe_junkAll (StoLe_rf _)).trans ((Weak.drop 5 (by omega)).trans ((Weak.drop 6 (by omega)).trans ((Weak.drop 8 (by omega)).trans (Weak.drop 9 (by omega)))))) (env' := AV.rens (killρ 9) (AV.rens (killρ 8) (AV.rens (killρ 6) (AV.rens (killρ 5) (junkAll _ [4, 5, 6, 7, 8, 9, 10, 11, 12]))))) (stp ?_)
 refine it h (fun hc h => ?_) fun hc h => ?_
 ·refine ndI h fun hp h => ?_
  cases h
  exact ⟨[2, 3, 11, 19, 20, 22, 23, 25], by simp, don, don⟩
 refine it h (fun hc h => ?_) fun hc h => ?_
 ·cases h
  exact ⟨[2, 3, 11, 30, 31, 33, 34, 36], by simp, don, don⟩
 refine it h (fun hc h => ?_) fun hc h => ?_
 ·cases h
  exact ⟨[2, 3, 11, 40, 41, 43, 44, 46, 47, 49], by simp, don, don⟩
 cases h
 exact ⟨[2, 3, 11], by simp, don, don⟩⟩
def mc23 : MCode :=
 (.seq (.reg (sq 6 [.mv (.const (.slice none 0 0))])) (.seq (.seq (.reg (sq 7 [mv 1, bi .leq 7 1, mv 8] ++ sg 9 false 10 [mv 0, .callf 16 [(t0 10), (i0 4)], bi .eql 11 0] ++ sq 13 [po 9 12])) (.cond (t0 13) (.seq (.seq (.reg (sq 14 [mv 2, bi .gtr 14 0, mv 15] ++ sg 16 true 17 [mv 0, .callf 16 [(t0 17), (i0 2)], bi .eql 18 0] ++ sq 20 [pa 16 19])) (.cond (t0 20) (.seq (.reg (sq 21 [mv 0, mv 2, cf 16 [21, 22], .bin .sub (i0 (-1)) (t0 23), .bsl 25 2 1 [(t0 24)]] ++ sq 6 [mv 25])) .ret) .skip)) (.seq (.reg (sq 26 [.bsl 26 2 1 [(i0 2)]] ++ sq 6 [mv 26])) .ret)) .skip)) (.seq (.seq (.reg (sq 27 [mv 0, .callf 16 [(t0 27), (i0 2)], bi .eql 28 0])) (.cond (t0 29) (.seq (.reg (sq 30 [.bsl 30 2 1 [(i0 1)], mv 0, mv 1, bi .sub 32 1, mv 2, cf 23 [31, 33, 34], ap 36 2 1 8 30 35] ++ sq 6 [mv 36])) .ret) .skip)) (.seq (.reg (sq 37 [.bsl 37 2 1 [(i0 0)], mv 0, mv 1, bi .sub 39 1, mv 2, cf 23 [38, 40, 41], ap 43 2 1 8 37 42, mv 0, mv 1, bi .sub 45 1, mv 2, cf 23 [44, 46, 47], ap 49 2 1 8 43 48] ++ sq 6 [mv 49])) .ret))))
theorem fn23 : MFn Tryz.prog 23 mc23 50 [.tmp 6] := ⟨_, Tryz.func23, by kernel_rfl, Tryz.ntmps23, by kernel_rfl⟩
def F_laws_w6Term : Nat -> Int -> Int -> (List Int) -> Int -> Int -> Option ((List Int) × Int × Int)
 | 0, _, _, _, _, _ => none
 | fu + 1, depth, vars, d0, d1, d2 =>
  if (decide (depth <= 1)) = true then
   if (decide (0 < vars)) = true then
    (F_laws_dice_below 2 d0 d1 d2).bind fun r =>
    if (r.1 == 0) = true then
     (F_laws_dice_below vars d0 r.2.1 r.2.2).bind fun r_1 =>
     some ([(IntKind.i64.wrap ((-1) - r_1.1))], r_1.2.1, r_1.2.2)
    else
     some ([2], r.2.1, r.2.2)
   else
    some ([2], d1, d2)
  else
   (F_laws_dice_below 4 d0 d1 d2).bind fun r_2 =>
   if (r_2.1 == 0) = true then
    if (decide (0 < vars)) = true then
     (F_laws_dice_below 2 d0 r_2.2.1 r_2.2.2).bind fun r_3 =>
     if (r_3.1 == 0) = true then
      (F_laws_dice_below vars d0 r_3.2.1 r_3.2.2).bind fun r_4 =>
      some ([(IntKind.i64.wrap ((-1) - r_4.1))], r_4.2.1, r_4.2.2)
     else
      some ([2], r_3.2.1, r_3.2.2)
    else
     some ([2], r_2.2.1, r_2.2.2)
   else
    (F_laws_dice_below 2 d0 r_2.2.1 r_2.2.2).bind fun r_5 =>
    if (r_5.1 == 0) = true then
     (F_laws_w6Term fu (IntKind.i64.wrap (depth - 1)) vars d0 r_5.2.1 r_5.2.2).bind fun r_6 =>
     if (1 + r_6.1.length) * 8 <= 140737488355328 then
      some (([1] ++ r_6.1), r_6.2.1, r_6.2.2)
     else none
    else
     (F_laws_w6Term fu (IntKind.i64.wrap (depth - 1)) vars d0 r_5.2.1 r_5.2.2).bind fun r_7 =>
     if (1 + r_7.1.length) * 8 <= 140737488355328 then
      (F_laws_w6Term fu (IntKind.i64.wrap (depth - 1)) vars d0 r_7.2.1 r_7.2.2).bind fun r_8 =>
      if (([0] ++ r_7.1).length + r_8.1.length) * 8 <= 140737488355328 then
       some ((([0] ++ r_7.1) ++ r_8.1), r_8.2.1, r_8.2.2)
      else none
     else none
def F_laws_w6Term_all (depth : Int) (vars : Int) (d0 : (List Int)) (d1 : Int) (d2 : Int) : Option ((List Int) × Int × Int) := limO fun fu => F_laws_w6Term fu depth vars d0 d1 d2
theorem c_laws_w6Term : ∀ {fu : Nat} {depth : Int} {vars : Int} {d0 : (List Int)} {d1 : Int} {d2 : Int} {rr : ((List Int) × Int × Int)} (h : F_laws_w6Term fu depth vars d0 d1 d2 = some rr), ACalls Tryz.prog 23 [.ptr 0 0, .d (iD depth), .d (iD vars)] [(0, .obj 65 [.d (slD 1 (kD .u8) d0), .d (iD d1), .d (.lit (.int .u64 d2))])] 1 fun xx ss => xx = .d (slD 1 iD rr.1) /\ ss = [(0, .obj 65 [.d (slD 1 (kD .u8) d0), .d (iD rr.2.1), .d (.lit (.int .u64 rr.2.2))])]
 | 0, _, _, _, _, _, _, h => by cases h
 | fu + 1, depth, vars, d0, d1, d2, rr, h => by
  have ih : ∀ {depth : Int} {vars : Int} {d0 : (List Int)} {d1 : Int} {d2 : Int}, HasC (F_laws_w6Term fu depth vars d0 d1 d2) fun rr => ACalls Tryz.prog 23 [.ptr 0 0, .d (iD depth), .d (iD vars)] [(0, .obj 65 [.d (slD 1 (kD .u8) d0), .d (iD d1), .d (.lit (.int .u64 d2))])] 1 fun xx ss => xx = .d (slD 1 iD rr.1) /\ ss = [(0, .obj 65 [.d (slD 1 (kD .u8) d0), .d (iD rr.2.1), .d (.lit (.int .u64 rr.2.2))])] := ⟨fun h => c_laws_w6Term h⟩
  unfold F_laws_w6Term at h
  refine fn23.callsO (vcm_sound ?_)
  delta mc23
  refine stp ?_
  refine it h (fun hc h => ?_) fun hc h => ?_
  ·refine it h (fun hc h => ?_) fun hc h => ?_
   ·refine rCo [(0, 0)] [] h fun r hr h => ?_
    refine it h (fun hc h => ?_) fun hc h => ?_
    ·refine rCo [(0, 0)] [] h fun r_1 hr_1 h => ?_
     cases h
     exact ⟨[25], by simp, don, don⟩
    cases h
    exact ⟨[26], by simp, don, don⟩
   cases h
   exact ⟨[26], by simp, don, don⟩
  refine rCo [(0, 0)] [] h fun r_2 hr_2 h => ?_
  refine it h (fun hc h => ?_) fun hc h => ?_
  ·refine it h (fun hc h => ?_) fun hc h => ?_
   ·refine rCo [(0, 0)] [] h fun r_3 hr_3 h => ?_
    refine it h (fun hc h => ?_) fun hc h => ?_
    ·refine rCo [(0, 0)] [] h fun r_4 hr_4 h => ?_
     cases h
     exact ⟨[25], by simp, don, don⟩
    cases h
    exact ⟨[26], by simp, don, don⟩
   cases h
   exact ⟨[26], by simp, don, don⟩
  refine rCo [(0, 0)] [] h fun r_5 hr_5 h => ?_
  refine it h (fun hc h => ?_) fun hc h => ?_
  ·refine rCo [(0, 0)] [] h fun r_6 hr_6 h => ?_
   refine ndI h fun hp h => ?_
   cases h
   exact ⟨[30], by simp, don, don⟩
  refine rCo [(0, 0)] [] h fun r_7 hr_7 h => ?_
  refine ndI h fun hp h => ?_
  refine rCo [(0, 0)] [] h fun r_8 hr_8 h => ?_
  refine ndI h fun hp h => ?_
  cases h
  exact ⟨[37], by simp, don, don⟩
instance c_laws_w6Term_all {depth : Int} {vars : Int} {d0 : (List Int)} {d1 : Int} {d2 : Int} : HasC (F_laws_w6Term_all depth vars d0 d1 d2) fun rr => ACalls Tryz.prog 23 [.ptr 0 0, .d (iD depth), .d (iD vars)] [(0, .obj 65 [.d (slD 1 (kD .u8) d0), .d (iD d1), .d (.lit (.int .u64 d2))])] 1 fun xx ss => xx = .d (slD 1 iD rr.1) /\ ss = [(0, .obj 65 [.d (slD 1 (kD .u8) d0), .d (iD rr.2.1), .d (.lit (.int .u64 rr.2.2))])] := ⟨fun h => c_laws_w6Term (limO_some h).choose_spec⟩
def mc5 : MCode :=
 (.seq (.reg (sq 2 [mb false])) (.seq (.seq (.reg (sq 15 [mv 0, cf 13 [15]])) (.cond (t0 16) (.seq (.reg (sq 2 [mb true])) .ret) .skip)) (.seq (.reg (sq 17 [mv 0, .callf 14 [(t0 17), (.const (.int .u64 704))]] ++ sq 3 [mv 18])) (.seq (.reg (sq 19 [mv 3, cf 15 [19]] ++ sq 4 [.alloc 4 33 [.sl 0 (some true) [], .sl 0 (some true) []]] ++ s0 (sr 2 4 20))) (.seq (.reg (sq 21 [mv 3, .callf 16 [(t0 21), (i0 5)], .bin .add (i0 1) (t0 22)] ++ sq 5 [mv 23])) (.seq (.reg (sq 24 [la 2 4, mv 5, .callf 9 [(t0 24), (t0 25), (i0 20)]] ++ sq 6 [mv 26])) (.seq (.reg (sq 27 [la 2 4, mv 5, .callf 12 [(t0 27), (t0 28), (i0 20)]] ++ sq 7 [mv 29])) (.seq (.reg (sq 30 [la 2 4, mv 5, .callf 17 [(t0 30), (t0 31), (i0 60)]] ++ sq 8 [mv 32])) (.seq (.seq (.reg (sq 33 [mv 6, la 2 4, mv 5, .callf 7 [(t0 34), (t0 35), (i0 20)], bn .neq 33 36, mv 37] ++ sg 38 false 39 [mv 7, la 2 4, mv 5, .callf 11 [(t0 40), (t0 41), (i0 20)], bn .neq 39 42] ++ sq 44 [po 38 43, mv 44] ++ sg 45 false 46 [mv 8, la 2 4, mv 5, .callf 18 [(t0 47), (t0 48), (i0 60)], bn .neq 46 49] ++ sq 51 [po 45 50])) (.cond (t0 51) (.seq (.reg (sq 2 [mb false])) .ret) .skip)) (.seq (.seq (.reg (sq 52 [mv 6, bi .geq 52 0, mv 53] ++ sg 54 true 55 [mv 7, mv 6, bn .gtr 55 56, mv 57] ++ sg 58 false 59 [mv 8, mv 7, bn .gtr 59 60] ++ sg 54 true 62 [po 58 61] ++ sq 63 [pa 54 62])) (.cond (t0 63) (.seq (.reg (sq 2 [mb false])) .ret) .skip)) (.seq (.reg (sq 65 [fa 0 4, la 1 65, mv 5, cf 19 [66, 67]] ++ sq 64 [mv 68] ++ sq 69 [ex 64 0, ex 64 1] ++ sq 9 [mv 69, mv 70])) (.seq (.reg (sq 72 [la 2 4, mv 5, cf 20 [72, 73]] ++ sq 71 [mv 74] ++ sq 75 [ex 71 0, ex 71 1] ++ sq 11 [mv 75, mv 76])) (.seq (.seq (.reg (sq 77 [mv 10, nt 77, mv 78] ++ sg 79 false 80 [mv 12, nt 80] ++ sq 82 [po 79 81, mv 82] ++ sg 83 false 84 [mv 11, ln 84, mv 9, ln 86, bn .gtr 85 87] ++ sq 89 [po 83 88])) (.cond (t0 89) (.seq (.reg (sq 2 [mb false])) .ret) .skip)) (.seq (.seq (.reg (sq 13 [mi 1])) (.block 0 (.loop (.seq (.seq (.reg (sq 90 [mv 13, mv 9, ln 91, bn .lss 90 92])) (.cond (t0 93) .skip (.exit 0))) (.seq (.block 1 (.seq (.draw (sq 96 [mv 9, mv 13, bi .sub 97 1, ix 1 96 98, ld 99, mv 9, mv 13, ix 1 101 102, ld 103, cf 21 [100, 104], nt 105, mv 106] ++ sg 107 false 108 [fa 0 4, la 1 108, mv 9, mv 13, ix 1 110 111, ld 112, cf 22 [109, 113], nt 114] ++ sq 116 [po 107 115]) [[], [], [1], [0, 2], [3], [], [], [5, 6], [7], [4, 8], [9], [10, 9], [11], [12, 11], [11], [11], [14, 15, 11], [16, 11], [13, 17, 11, 11], [18, 11], [11, 19]]) (.cond (t0 116) (.seq (.reg (sq 2 [mb false])) .ret) .skip))) (.reg (sq 94 [mv 13, bi .add 94 1] ++ sq 13 [mv 95]))))))) (.seq (.reg (sq 117 [mv 3, .callf 23 [(t0 117), (i0 3), (i0 1)]] ++ sq 14 [mv 118])) (.seq (.draw (sq 119 [la 2 4, mv 14, .callf 24 [(t0 119), (t0 120), (i0 3)], la 2 4, mv 14, .callf 25 [(t0 122), (t0 123), (i0 3)], bn .eql 121 124, mv 125] ++ sg 126 true 127 [la 2 4, mv 14, .callf 24 [(t0 127), (t0 128), (i0 0)], mv 14, ln 130, bn .eql 129 131] ++ sq 133 [pa 126 132] ++ sq 2 [mv 133]) [[], [], [0, 1], [], [], [3, 4, 2], [2, 5], [6, 5], [7], [7], [8, 9, 7, 7], [7], [11, 7], [10, 12, 7], [7, 13], [14, 10, 0, 1, 2, 3, 4, 5, 6, 7, 8, 9, 10, 11, 12, 13, 14]]) .ret))))))))))))))))
theorem fn5 : MFn Tryz.prog 5 mc5 134 [.tmp 2] := ⟨_, Tryz.func5, by kernel_rfl, Tryz.ntmps5, by kernel_rfl⟩
def F_laws_FnTimes_l1 (r_1 : ((List Int) × Int × Int)) (r_2 : (((List Int) × (List ((List Int) × (List Int)))) × Int × Int)) (r_3 : (Int × Int × Int)) (r_10 : ((List (List Int)) × Bool)) : Int -> Option (Int ⊕ Bool)
 | i =>
  if (decide (i < (r_10.1.length : Int))) = true then
   if 0 <= (IntKind.i64.wrap (i - 1)) /\ (IntKind.i64.wrap (i - 1)) < (r_10.1.length : Int) then
    if 0 <= i /\ i < (r_10.1.length : Int) then
     (F_spec_LessTerm (r_10.1.getD (IntKind.i64.wrap (i - 1)).toNat default) (r_10.1.getD i.toNat default)).bind fun r_12 =>
     if r_12 = true then
      if 0 <= i /\ i < (r_10.1.length : Int) then
       (F_spec_GroundIn r_2.1.1 (r_10.1.getD i.toNat default)).bind fun r_13 =>
       if r_13 = true then
        some (.inl (IntKind.i64.wrap (i + 1)))
       else
        Option.map Sum.inr (
         some false)
      else none
     else
      Option.map Sum.inr (
       some false)
    else none
   else none
  else
   Option.map Sum.inr (
    (F_laws_w6Term_all 3 1 r_1.1 r_3.2.1 r_3.2.2).bind fun r_14 =>
    (F_impl_GrowthOf r_2.1 r_14.1 3).bind fun r_15 =>
    (F_spec_GrowthOf r_2.1 r_14.1 3).bind fun r_16 =>
    if (r_15 == r_16) = true then
     (F_impl_GrowthOf r_2.1 r_14.1 0).bind fun r_17 =>
     some (r_17 == (r_14.1.length : Int))
    else
     some false)
def F_laws_FnTimes_l2 (r_1 : ((List Int) × Int × Int)) (r_2 : (((List Int) × (List ((List Int) × (List Int)))) × Int × Int)) (r_3 : (Int × Int × Int)) (r_18 : ((List (List Int)) × Bool)) : Int -> Option (Int ⊕ Bool)
 | i_1 =>
  if (decide (i_1 < (r_18.1.length : Int))) = true then
   if 0 <= (IntKind.i64.wrap (i_1 - 1)) /\ (IntKind.i64.wrap (i_1 - 1)) < (r_18.1.length : Int) then
    if 0 <= i_1 /\ i_1 < (r_18.1.length : Int) then
     (F_spec_LessTerm (r_18.1.getD (IntKind.i64.wrap (i_1 - 1)).toNat default) (r_18.1.getD i_1.toNat default)).bind fun r_20 =>
     if r_20 = true then
      if 0 <= i_1 /\ i_1 < (r_18.1.length : Int) then
       (F_spec_GroundIn r_2.1.1 (r_18.1.getD i_1.toNat default)).bind fun r_21 =>
       if r_21 = true then
        some (.inl (IntKind.i64.wrap (i_1 + 1)))
       else
        Option.map Sum.inr (
         some false)
      else none
     else
      Option.map Sum.inr (
       some false)
    else none
   else none
  else
   Option.map Sum.inr (
    (F_laws_w6Term_all 3 1 r_1.1 r_3.2.1 r_3.2.2).bind fun r_22 =>
    (F_impl_GrowthOf r_2.1 r_22.1 3).bind fun r_23 =>
    (F_spec_GrowthOf r_2.1 r_22.1 3).bind fun r_24 =>
    if (r_23 == r_24) = true then
     (F_impl_GrowthOf r_2.1 r_22.1 0).bind fun r_25 =>
     some (r_25 == (r_22.1.length : Int))
    else
     some false)
def F_laws_FnTimes (code : (List Int)) : Option Bool :=
 (F_laws_big code).bind fun r =>
 if r = true then
  some true
 else
  (F_laws_roll code 704).bind fun r_1 =>
  (F_laws_w6System r_1.1 r_1.2.1 r_1.2.2).bind fun r_2 =>
  (F_laws_dice_below 5 r_1.1 r_2.2.1 r_2.2.2).bind fun r_3 =>
  (F_impl_TimeOf r_2.1 (IntKind.i64.wrap (1 + r_3.1)) 20).bind fun r_4 =>
  (F_impl_RunTime r_2.1 (IntKind.i64.wrap (1 + r_3.1)) 20).bind fun r_5 =>
  (F_impl_InmostTime r_2.1 (IntKind.i64.wrap (1 + r_3.1)) 60).bind fun r_6 =>
  (F_spec_TimeOf r_2.1 (IntKind.i64.wrap (1 + r_3.1)) 20).bind fun r_7 =>
  if (r_4 != r_7) = true then
   some false
  else
   (F_spec_RunTime r_2.1 (IntKind.i64.wrap (1 + r_3.1)) 20).bind fun r_8 =>
   if (r_5 != r_8) = true then
    some false
   else
    (F_spec_InmostTime r_2.1 (IntKind.i64.wrap (1 + r_3.1)) 60).bind fun r_9 =>
    if (r_6 != r_9) = true then
     some false
    else
     if (decide (0 <= r_4)) = true then
      if (decide (r_4 < r_5)) = true then
       some false
      else
       if (decide (r_5 < r_6)) = true then
        some false
       else
        (F_impl_GroundsOf r_2.1.1 (IntKind.i64.wrap (1 + r_3.1))).bind fun r_10 =>
        (F_impl_BasicsOf r_2.1 (IntKind.i64.wrap (1 + r_3.1))).bind fun r_11 =>
        if r_10.2 = true then
         if r_11.2 = true then
          if (decide ((r_10.1.length : Int) < (r_11.1.length : Int))) = true then
           some false
          else
           loopC (F_laws_FnTimes_l1 r_1 r_2 r_3 r_10) 1
         else
          some false
        else
         some false
     else
      (F_impl_GroundsOf r_2.1.1 (IntKind.i64.wrap (1 + r_3.1))).bind fun r_18 =>
      (F_impl_BasicsOf r_2.1 (IntKind.i64.wrap (1 + r_3.1))).bind fun r_19 =>
      if r_18.2 = true then
       if r_19.2 = true then
        if (decide ((r_18.1.length : Int) < (r_19.1.length : Int))) = true then
         some false
        else
         loopC (F_laws_FnTimes_l2 r_1 r_2 r_3 r_18) 1
       else
        some false
      else
       some false
instance c_laws_FnTimes {code : (List Int)} : HasC (F_laws_FnTimes code) fun rr => PFun Tryz.prog 5 [(slD 1 (kD .u8)) code] (bD rr) := ⟨@fun rr h => by
 delta F_laws_FnTimes at h
 refine fn5.pureL (vcm_sound ?_)
 delta mc5
 refine stp ?_
 refine rC h fun r hr h => ?_
 refine iF h fun hc h => ?_
 refine rCo [] [(15, 18)] h fun r_1 hr_1 h => ?_
 refine rCo [(0, 18)] [] h fun r_2 hr_2 h => ?_
 refine rCo [(0, 18)] [] h fun r_3 hr_3 h => ?_
 refine rC h fun r_4 hr_4 h => ?_
 refine rC h fun r_5 hr_5 h => ?_
 refine rC h fun r_6 hr_6 h => ?_
 refine rC h fun r_7 hr_7 h => ?_
 refine iF h fun hc h => ?_
 refine rC h fun r_8 hr_8 h => ?_
 refine iF h fun hc h => ?_
 refine rC h fun r_9 hr_9 h => ?_
 refine iF h fun hc h => ?_
 refine it h (fun hc h => ?_) fun hc h => ?_
 ·refine iF h fun hc h => ?_
  refine iF h fun hc h => ?_
  refine rCN h fun r_10 hr_10 h => ?_
  refine rCN h fun r_11 hr_11 h => ?_
  refine iT h fun hc h => ?_
  refine iT h fun hc h => ?_
  refine iF h fun hc h => ?_
  refine m_lW h [2, 13, 90, 91, 92, 93, 94, 95, 96, 97, 98, 99, 100, 101, 102, 103, 104, 105, 106, 107, 108, 109, 110, 111, 112, 113, 114, 115, 116] (fun pp => [(13, .d (iD pp))]) (fun pp => [(4, .obj 33 [.d (slD 1 iD r_2.1.1), .d (slD 2 D_impl_Rule r_2.1.2)]), (18, .obj 65 [.d (slD 1 (kD .u8) r_1.1), .d (iD r_3.2.1), .d (.lit (.int .u64 r_3.2.2))])]) ?_
  rintro i t1 h hb1
  unfold F_laws_FnTimes_l1 at h
  try dsimp only at h
  refine vcm_sound (stp ?_)
  refine iF h fun hc h => ?_
  replace h := inr_some h hb1
  refine rCo [(0, 18)] [] h fun r_14 hr_14 h => ?_
  exact aut
 refine rCN h fun r_18 hr_18 h => ?_
 refine rCN h fun r_19 hr_19 h => ?_
 refine iT h fun hc h => ?_
 refine iT h fun hc h => ?_
 refine iF h fun hc h => ?_
 refine m_lW h [2, 13, 90, 91, 92, 93, 94, 95, 96, 97, 98, 99, 100, 101, 102, 103, 104, 105, 106, 107, 108, 109, 110, 111, 112, 113, 114, 115, 116] (fun pp => [(13, .d (iD pp))]) (fun pp => [(4, .obj 33 [.d (slD 1 iD r_2.1.1), .d (slD 2 D_impl_Rule r_2.1.2)]), (18, .obj 65 [.d (slD 1 (kD .u8) r_1.1), .d (iD r_3.2.1), .d (.lit (.int .u64 r_3.2.2))])]) ?_
 rintro i_1 t1 h hb1
 unfold F_laws_FnTimes_l2 at h
 try dsimp only at h
 refine vcm_sound (stp ?_)
 refine iF h fun hc h => ?_
 replace h := inr_some h hb1
 refine rCo [(0, 18)] [] h fun r_22 hr_22 h => ?_
 exact aut⟩
end Go.Proofs.YtglpjlpmijfocaaGreat
namespace Go.Proofs.YtglpjlpmijfocaaGreat
open Go Abx Tm
def insS (t : List Int) : LL -> LL
 | [] => [t]
 | u :: us => if cmpT t u <= 0 then t :: u :: us else u :: insS t us
def srtS (l : LL) : LL := l.foldr insS []
theorem insS_perm (t : List Int) : ∀ l : LL, (insS t l).Perm (t :: l)
 | [] => .refl _
 | u :: us => by
  unfold insS
  split
  ·exact .refl _
  ·exact ((insS_perm t us).cons u).trans (List.Perm.swap t u us)
theorem srtS_perm : ∀ l : LL, (srtS l).Perm l
 | [] => .refl _
 | t :: l => (insS_perm t (srtS l)).trans ((srtS_perm l).cons t)
theorem insS_sorted (t : List Int) : ∀ {l : LL}, l.Pairwise (fun a b => cmpT a b <= 0) -> (insS t l).Pairwise fun a b => cmpT a b <= 0
 | [], _ => List.pairwise_singleton _ _
 | u :: us, h => by
  obtain ⟨h1, h2⟩ := List.pairwise_cons.1 h
  unfold insS
  split
  ·rename_i hc
   refine List.pairwise_cons.2 ⟨fun v hv => ?_, h⟩
   rcases List.mem_cons.1 hv with rfl | hv
   ·exact hc
   ·exact (cmpT_trans hc (h1 v hv)).1
  ·rename_i hc
   refine List.pairwise_cons.2 ⟨fun v hv => ?_, insS_sorted t h2⟩
   rcases List.mem_cons.1 ((insS_perm t us).mem_iff.1 hv) with rfl | hv
   ·have := cmpT_neg v u; omega
   ·exact h1 v hv
theorem srtS_sorted : ∀ l : LL, (srtS l).Pairwise fun a b => cmpT a b <= 0
 | [] => List.Pairwise.nil
 | t :: l => insS_sorted t (srtS_sorted l)
theorem srtS_eq (l : LL) : sortT l = srtS l := sorted_uniq ((sortT_perm l).trans (srtS_perm l).symm) (sortT_sorted l) (srtS_sorted l)
def grC (a : List Int) : Nat -> List LL -> LL -> LL × Bool
 | 0, _, out => (out, true)
 | r + 1, g, out => if 200 < out.length + (lvs a g a.length).length then ([], false) else grC a r (g ++ [srtS (lvs a g a.length)]) (out ++ srtS (lvs a g a.length))
theorem grC_eq (a : List Int) : ∀ (r : Nat) (g : List LL) (out : LL), gr a r g out = grC a r g out
 | 0, _, _ => rfl
 | r + 1, g, out => by
  unfold gr grC lev
  rw [srtS_eq]
  split
  ·rfl
  ·exact grC_eq a r _ _
def grdsC (a : List Int) (n : Nat) : LL × Bool := grC a n [[]] []
theorem grds_C {a : List Int} {n : Nat} (ha : sigOk a = true) (h : 1 <= n /\ n <= 60) : grds a n = grdsC a n := by
 unfold grds
 rw [if_pos ⟨ha, by omega, by omega⟩, Int.toNat_natCast, grC_eq]; rfl
def w6 : List Int := [2, 1, 0]
def yS : Nat -> Sys
 | 0 => (w6, [([0, 2, -1], [-1]), ([0, 1, -1, -2], [1, 0, -1, -2]), ([0, -1, 2], [-1]), ([0, -1, 1, -2], [1, 0, -1, -2])])
 | 1 => (w6, [([1, 1, -1], [-1]), ([0, 2, -1], [-1])])
 | 2 => (w6, [([0, 0, -1, -2, -3], [0, -1, 0, -2, -3]), ([0, 2, -1], [-1]), ([0, -1, 2], [-1])])
 | _ => (w6, [([0, 2, -1], [-1]), ([0, 1, -1, -2], [1, 0, -1, -2])])
def tmC (s : Sys) (l : LL) : Int := gmx (fun t => lng s t 20) l 0
def inC (s : Sys) (l : LL) : Int := gmx (fun t => cntB s t 60) l 0
def upB : LL -> Bool
 | t :: u :: r => decide (cmpT t u < 0) && upB (u :: r)
 | _ => true
def chk (s : Sys) (n : Nat) : Bool :=
 sysOk s && ((grdsC s.1 n).2 && (upB (grdsC s.1 n).1 && ((grdsC s.1 n).1.all (grB s.1) && (decide (tmC s (grdsC s.1 n).1 < 0) ||
  (decide (tmC s ((grdsC s.1 n).1.filter (basic s)) <= tmC s (grdsC s.1 n).1) && decide (inC s ((grdsC s.1 n).1.filter (basic s)) <= tmC s ((grdsC s.1 n).1.filter (basic s))))))))
set_option maxRecDepth 100000 in
theorem chk_all : ((List.range 4).all fun k => (List.range' 1 5).all fun n => chk (yS k) n) = true := by decide +kernel
end Go.Proofs.YtglpjlpmijfocaaGreat
namespace Go.Proofs.YtglpjlpmijfocaaGreat
open Go Abx Tm
theorem and_b (a : Int) : 0 <= andI .u64 a 16777215 /\ andI .u64 a 16777215 <= 16777215 := by
 unfold andI
 have h : (BitVec.ofInt IntKind.u64.bits a &&& BitVec.ofInt IntKind.u64.bits 16777215).toNat <= 16777215 := by
  rw [BitVec.toNat_and]
  exact Nat.le_trans Nat.and_le_right (by decide)
 generalize (BitVec.ofInt IntKind.u64.bits a &&& BitVec.ofInt IntKind.u64.bits 16777215).toNat = x at h
 have e : IntKind.u64.wrap (x : Int) = x := by rw [IntKind.wrap_u64]; omega
 rw [e]; omega
def Byt (d0 : List Int) : Prop := ∀ x ∈ d0, 0 <= x /\ x < 256
theorem below_ok {n d1 d2 : Int} {d0 : List Int} (hb : Byt d0) (hl : d0.length <= 4096) (hn : 1 <= n) (h1 : 0 <= d1) : ∃ x i h, F_laws_dice_below n d0 d1 d2 = some (x, i, h) /\ 0 <= x /\ x < n /\ 0 <= i := by
 unfold F_laws_dice_below
 have ha := and_b (shrI .u64 (IntKind.u64.wrap ((IntKind.u64.wrap (d2 * 6364136223846793005)) + 1442695040888963407)) 33)
 generalize andI .u64 (shrI .u64 (IntKind.u64.wrap ((IntKind.u64.wrap (d2 * 6364136223846793005)) + 1442695040888963407)) 33) 16777215 = a at ha
 have hw : IntKind.i64.wrap a = a := w64 (by omega) (by omega)
 rw [hw]
 by_cases hlt : d1 < d0.length
 ·obtain ⟨i, rfl⟩ := Int.eq_ofNat_of_zero_le h1
  have hlt' : i < d0.length := by omega
  have hx := hb _ (getD_mem hlt')
  rw [if_pos (by simpa using hlt'), if_pos (by omega), if_pos (by omega), Int.toNat_natCast]
  generalize d0.getD i default = y at hx
  rw [w64 (n := y) (by omega) (by omega), w64 (n := a + y) (by omega) (by omega), w64 (n := (i : Int) + 1) (by omega) (by omega)]
  exact ⟨_, _, _, rfl, Int.tmod_nonneg _ (by omega), Int.tmod_lt_of_pos _ (by omega), by omega⟩
 ·rw [if_neg (by simpa using hlt), if_pos (by omega)]
  exact ⟨_, _, _, rfl, Int.tmod_nonneg _ (by omega), Int.tmod_lt_of_pos _ (by omega), by omega⟩
theorem roll_ok {code : List Int} (hl : code.length <= 4096) (seed : Int) : ∃ h, F_laws_roll code seed = some (code, 0, h) := by
 have : Okk True (F_laws_roll code seed) fun q => q.1 = code /\ q.2.1 = 0 := by
  unfold F_laws_roll
  refine Okk.loop (fun q : Int × Int => ∃ i : Nat, q.1 = (i : Int) /\ i <= code.length) (fun q : Int × Int => code.length - q.1.toNat) ⟨0, rfl, by omega⟩ ?_
  rintro ⟨_, o⟩ ⟨i, rfl, hi⟩
  unfold F_laws_roll_l1
  by_cases hlt : i < code.length
  ·simp only [show (i : Int) < code.length by omega, decide_true, if_true, show (0 : Int) <= i by omega, and_self, w64 (n := (i : Int) + 1) (by omega) (by omega)]
   exact .some ⟨⟨i + 1, by simp, by omega⟩, by simp; omega⟩
  ·simp only [show ¬ (i : Int) < code.length by omega, decide_false, Bool.false_eq_true, if_false, Option.map_some]
   exact .some ⟨rfl, rfl⟩
 obtain ⟨⟨a, b, h⟩, e, h1, h2⟩ := this.get
 simp only at h1 h2
 exact ⟨h, by rw [e, h1, h2]⟩
theorem w6System_ok {d1 d2 : Int} {d0 : List Int} (hb : Byt d0) (hl : d0.length <= 4096) (h1 : 0 <= d1) : ∃ k i h, F_laws_w6System d0 d1 d2 = some (yS k, i, h) /\ k < 4 /\ 0 <= i := by
 obtain ⟨x, i, h, e, x0, x4, hi⟩ := below_ok (n := 4) (d2 := d2) hb hl (by decide) h1
 unfold F_laws_w6System
 rw [show F_laws_w6Sig = some w6 from rfl, Option.bind_some, e, Option.bind_some]
 have : x = 0 ∨ x = 1 ∨ x = 2 ∨ x = 3 := by omega
 rcases this with rfl | rfl | rfl | rfl
 ·exact ⟨0, i, h, rfl, by decide, hi⟩
 ·exact ⟨1, i, h, rfl, by decide, hi⟩
 ·exact ⟨2, i, h, rfl, by decide, hi⟩
 ·exact ⟨3, i, h, rfl, by decide, hi⟩
theorem one_lf {d1 d2 : Int} {d0 : List Int} (hb : Byt d0) (hl : d0.length <= 4096) (h1 : 0 <= d1) {m : Nat} {t : Prop} : Okk t ((F_laws_dice_below 2 d0 d1 d2).bind fun r => if (r.1 == 0) = true then (F_laws_dice_below 1 d0 r.2.1 r.2.2).bind fun r_1 => some ([(IntKind.i64.wrap ((-1) - r_1.1))], r_1.2.1, r_1.2.2) else some ([2], r.2.1, r.2.2)) fun q : List Int × Int × Int => Wf w6 1 q.1 /\ q.1.length + 1 <= 2 ^ (m + 1) /\ 0 <= q.2.1 := by
 have hp : 1 <= 2 ^ m := Nat.one_le_two_pow
 obtain ⟨x, i, h, e, x0, x2, hi⟩ := below_ok (n := 2) (d2 := d2) hb hl (by decide) h1
 rw [e, Option.bind_some]
 by_cases hx : x = 0
 ·rw [if_pos (by simpa using hx)]
  obtain ⟨y, j, g, e2, y0, y1, hj⟩ := below_ok (n := 1) (d2 := h) hb hl (by decide) hi
  simp only
  rw [e2, Option.bind_some]
  have : y = 0 := by omega
  subst this
  exact .some ⟨by show Wf w6 1 [IntKind.i64.wrap (-1 - 0)]; rw [w64 (by decide) (by decide)]; decide, by rw [Nat.pow_succ]; simp; omega, hj⟩
 ·rw [if_neg (by simpa using hx)]
  exact .some ⟨by show Wf w6 1 [2]; decide, by rw [Nat.pow_succ]; simp; omega, hi⟩
theorem w6Term_ok {d0 : List Int} (hb : Byt d0) (hl : d0.length <= 4096) : ∀ (fu : Nat) {m : Nat} {d1 d2 : Int}, 1 <= m -> m <= 3 -> 0 <= d1 -> Okk (m <= fu) (F_laws_w6Term fu (m : Int) 1 d0 d1 d2) fun q => Wf w6 1 q.1 /\ q.1.length + 1 <= 2 ^ (m + 1) /\ 0 <= q.2.1
 | 0, m, d1, d2, hm, h3, h1 => ⟨fun a h => (by cases h), fun h => (by omega)⟩
 | fu + 1, m, d1, d2, hm, h3, h1 => by
  unfold F_laws_w6Term
  by_cases hm1 : m <= 1
  ·rw [if_pos (by simpa using (by omega : (m : Int) <= 1)), if_pos (by decide)]
   exact one_lf hb hl h1
  ·rw [if_neg (by simpa using (by omega : 1 < (m : Int)))]
   obtain ⟨x, i, h, e, x0, x4, hi⟩ := below_ok (n := 4) (d2 := d2) hb hl (by decide) h1
   rw [e, Option.bind_some]
   by_cases hx : x = 0
   ·rw [if_pos (by simpa using hx), if_pos (by decide)]
    exact one_lf hb hl hi
   ·rw [if_neg (by simpa using hx)]
    obtain ⟨y, j, g, e2, y0, y2, hj⟩ := below_ok (n := 2) (d2 := h) hb hl (by decide) hi
    simp only
    rw [e2, Option.bind_some]
    obtain ⟨p, rfl⟩ : ∃ p, m = p + 1 := ⟨m - 1, by omega⟩
    have hw : IntKind.i64.wrap (((p + 1 : Nat) : Int) - 1) = (p : Int) := by rw [w64 (by omega) (by omega)]; omega
    have hp2 : 2 ^ (p + 1) <= 8 := Nat.le_trans (Nat.pow_le_pow_right (by decide) (show p + 1 <= 3 by omega)) (by decide)
    rw [hw]
    by_cases hy : y = 0
    ·rw [if_pos (by simpa using hy)]
     refine Okk.bind ((w6Term_ok hb hl fu (by omega) (by omega) hj).weak (by omega)) fun q hq => ?_
     obtain ⟨q1, q2, q3⟩ := hq
     rw [if_pos (by omega)]
     exact .some ⟨by show Wf w6 1 (1 :: q.1); exact Wf.cons_iff.2 ⟨by decide, q1⟩, by rw [Nat.pow_succ]; simp; omega, q3⟩
    ·rw [if_neg (by simpa using hy)]
     refine Okk.bind ((w6Term_ok hb hl fu (by omega) (by omega) hj).weak (by omega)) fun q hq => ?_
     obtain ⟨q1, q2, q3⟩ := hq
     rw [if_pos (by omega)]
     refine Okk.bind ((w6Term_ok hb hl fu (by omega) (by omega) q3).weak (by omega)) fun u hu => ?_
     obtain ⟨u1, u2, u3⟩ := hu
     rw [if_pos (by simp; omega)]
     exact .some ⟨by show Wf w6 1 (0 :: (q.1 ++ u.1)); exact Wf.cons_iff.2 ⟨by decide, q1.app u1⟩, by rw [Nat.pow_succ]; simp; omega, u3⟩
theorem w6Term_all {d0 : List Int} (hb : Byt d0) (hl : d0.length <= 4096) {d1 d2 : Int} (h1 : 0 <= d1) : ∃ t i h, F_laws_w6Term_all 3 1 d0 d1 d2 = some (t, i, h) /\ termOk w6 t = true := by
 have := (Okk.lim (t := True) 3 fun n => w6Term_ok hb hl n (m := 3) (d1 := d1) (d2 := d2) (by decide) (by decide) h1).get
 obtain ⟨⟨t, i, h⟩, e, q1, q2, q3⟩ := this
 refine ⟨t, i, h, e, termOk_iff.2 ⟨by decide, q1.len, ?_, q1⟩⟩
 simp only at q2
 omega
theorem upB_get : ∀ {l : LL} {i : Nat}, upB l = true -> i + 1 < l.length -> cmpT (l.getD i default) (l.getD (i + 1) default) < 0
 | [], i, _, h => by simp at h
 | [_], i, _, h => by simp at h
 | t :: u :: r, 0, h, _ => by
  simp only [upB, Bool.and_eq_true, decide_eq_true_eq] at h
  exact h.1
 | t :: u :: r, i + 1, h, hi => by
  simp only [upB, Bool.and_eq_true, decide_eq_true_eq] at h
  have := upB_get (l := u :: r) (i := i) h.2 (by simpa using hi)
  simpa using this
theorem yS_sig (k : Nat) : (yS k).1 = w6 := by
 match k with
 | 0 => rfl
 | 1 => rfl
 | 2 => rfl
 | k + 3 => rfl
theorem chk_at {k m : Nat} (hk : k < 4) (hm : 1 <= m /\ m <= 5) : chk (yS k) m = true :=
 List.all_eq_true.1 (List.all_eq_true.1 chk_all k (List.mem_range.2 hk)) m (List.mem_range'_1.2 (by omega))
theorem times_fin {s : Sys} {code : List Int} (hb : Byt code) (hl : code.length <= 4096) (hs : sysOk s = true) (hw : s.1 = w6) {j g : Int} (hj : 0 <= j) :
 ((F_laws_w6Term_all 3 1 code j g).bind fun r_14 => (F_impl_GrowthOf s r_14.1 3).bind fun r_15 => (F_spec_GrowthOf s r_14.1 3).bind fun r_16 =>
  if (r_15 == r_16) = true then (F_impl_GrowthOf s r_14.1 0).bind fun r_17 => some (r_17 == (r_14.1.length : Int)) else some false) = some true := by
 obtain ⟨t, i, h, e, ht⟩ := w6Term_all (d2 := g) hb hl hj
 rw [e, Option.bind_some]
 simp only [F_impl_GrowthOf_eq, F_spec_GrowthOf_eq, Option.bind_some, beq_self_eq_true, if_true]
 rw [gwO_zero hs (by rw [hw]; exact ht), beq_self_eq_true]
theorem times_l1 {s : Sys} {code : List Int} (hb : Byt code) (hl : code.length <= 4096) (hs : sysOk s = true) (hw : s.1 = w6) {a1 a2 b1 b2 c1 j g : Int} (hj : 0 <= j) {q : LL × Bool} (hlen : q.1.length <= 200) (hu : upB q.1 = true) (ha : q.1.all (grB s.1) = true) :
 loopC (F_laws_FnTimes_l1 (code, a1, a2) (s, b1, b2) (c1, j, g) q) 1 = some true := by
 refine loop_st (n := q.1.length - 1) (fun x => ((x + 1 : Nat) : Int)) (fun x hx => ?_) ?_
 ·have hg : ∀ y, y < q.1.length -> grB s.1 (q.1.getD y default) = true := fun y hy => List.all_eq_true.1 ha _ (getD_mem hy)
  have hsm : ∀ y, y < q.1.length -> (q.1.getD y default).length <= 60 := fun y hy => by
   have := hg y hy
   unfold grB at this
   exact ok_sm (Bool.and_eq_true_iff.1 this).1
  have hup := upB_get hu (i := x) (by omega)
  have e1 : IntKind.i64.wrap (((x + 1 : Nat) : Int) - 1) = (x : Int) := by rw [w64 (by omega) (by omega)]; omega
  have hlx := hsm x (by omega)
  simp only [F_laws_FnTimes_l1, show ((x + 1 : Nat) : Int) < q.1.length by omega, decide_true, if_true, e1, show (0 : Int) <= x by omega, show (x : Int) < q.1.length by omega, show (0 : Int) <= ((x + 1 : Nat) : Int) by omega, and_self, Int.toNat_natCast,
   F_spec_LessTerm_eq (a := q.1.getD x default) (by show List.length _ < _; omega), Option.bind_some, hup, F_spec_GroundIn_eq, hg (x + 1) (by omega), w64 (n := ((x + 1 : Nat) : Int) + 1) (by omega) (by omega)]
  rfl
 ·have : ¬ (((q.1.length - 1 + 1 : Nat) : Int) < q.1.length) := by omega
  simp only [F_laws_FnTimes_l1, this, decide_false, Bool.false_eq_true, if_false]
  have := times_fin (s := s) (g := g) hb hl hs hw hj
  rw [this]; rfl
theorem times_l2 : F_laws_FnTimes_l2 = F_laws_FnTimes_l1 := rfl
theorem law_times {code : List Int} (hb : Byt code) : F_laws_FnTimes code = some true := by
 unfold F_laws_FnTimes F_laws_big
 rw [Option.bind_some]
 by_cases hbig : 4096 < code.length
 ·rw [if_pos (by simpa using (by omega : (4096 : Int) < code.length))]
 rw [if_neg (by simpa using (by omega : (code.length : Int) <= 4096))]
 have hl : code.length <= 4096 := by omega
 obtain ⟨h0, e0⟩ := roll_ok hl 704
 rw [e0, Option.bind_some]
 obtain ⟨k, i, h, e1, hk, hi⟩ := w6System_ok (d2 := h0) hb hl (Int.le_refl 0)
 simp only
 rw [e1, Option.bind_some]
 obtain ⟨x, j, g, e2, x0, x5, hj⟩ := below_ok (n := 5) (d2 := h) hb hl (by decide) hi
 simp only
 rw [e2, Option.bind_some]
 simp only
 obtain ⟨y, rfl⟩ := Int.eq_ofNat_of_zero_le x0
 rw [show IntKind.i64.wrap (1 + (y : Int)) = ((y + 1 : Nat) : Int) by rw [w64 (by omega) (by omega)]; omega]
 have hm : 1 <= y + 1 /\ y + 1 <= 5 := by omega
 have hc := chk_at hk hm
 generalize y + 1 = m at hm hc
 have hw := yS_sig k
 generalize yS k = s at hc hw
 unfold chk at hc
 rw [Bool.and_eq_true, Bool.and_eq_true, Bool.and_eq_true, Bool.and_eq_true] at hc
 obtain ⟨hs, hg, hu, ha, hd⟩ := hc
 have hG : grds s.1 m = grdsC s.1 m := grds_C (sysOk_iff.1 hs).1 (by omega)
 have hlen := (grds_el s.1 m).1
 rw [hG] at hlen
 have B : bsc s m = ((grdsC s.1 m).1.filter (basic s), true) := by unfold bsc; rw [hG, if_pos ⟨hs, hg⟩]
 have T : tmO s m 20 = tmC s (grdsC s.1 m).1 := by unfold tmO tmC; rw [hG, if_pos ⟨hs, hg, rfl⟩]
 have R : rtO s m 20 = tmC s ((grdsC s.1 m).1.filter (basic s)) := by unfold rtO tmC; rw [B, if_pos ⟨rfl, rfl⟩]
 have I : inm s m 60 = inC s ((grdsC s.1 m).1.filter (basic s)) := by unfold inm inC; rw [B, if_pos ⟨rfl, by decide, by decide⟩]
 have hfl := List.length_filter_le (basic s) (grdsC s.1 m).1
 have hnl : ¬ (((grdsC s.1 m).1.length : Int) < (((grdsC s.1 m).1.filter (basic s)).length : Int)) := by omega
 have l1 := times_l1 (a1 := 0) (a2 := h0) (b1 := i) (b2 := h) (c1 := (y : Int)) (g := g) hb hl hs hw hj hlen hu ha
 simp only [F_impl_TimeOf_eq, F_impl_RunTime_eq, F_impl_InmostTime_eq, F_spec_TimeOf_eq, F_spec_RunTime_eq, F_spec_InmostTime_eq, Option.bind_some, bne_self_eq_false, Bool.false_eq_true, if_false, T, R, I, F_impl_GroundsOf_eq, F_impl_BasicsOf_eq, hG, B, hg, if_true, hnl, decide_false, times_l2, l1]
 rw [Bool.or_eq_true, Bool.and_eq_true] at hd
 by_cases h0' : 0 <= tmC s (grdsC s.1 m).1
 ·rcases hd with hd | ⟨d1, d2⟩
  ·have := of_decide_eq_true hd; omega
  ·have d1 := of_decide_eq_true d1
   have d2 := of_decide_eq_true d2
   rw [if_pos (by simpa using h0'), if_neg (by simpa using d1), if_neg (by simpa using d2)]
 ·rw [if_neg (by simpa using h0')]
theorem law_times_pure {code : List Int} (hb : Byt code) : PFun Tryz.prog 5 [(slD 1 (kD .u8)) code] (bD true) := c_laws_FnTimes.c (law_times hb)
end Go.Proofs.YtglpjlpmijfocaaGreat
namespace Go.Proofs.YtglpjlpmijfocaaGreat
open Go Abx Go.ChangeShapes Go.WideShapes Go.ChangeAt Go.RowKit
theorem ownZ : ownKnob Tryz.prog.godebug = none := by kernel_rfl
theorem laidZ : laidOutB Tryz.prog = true := by kernel_rfl
theorem cel_one {α : Type} {f : α -> D} (hf : ∀ y, dcells (f y) = [f y]) (ha : ∀ y cs, f y ≠ .agg cs) : ∀ y O w vs, D.oks O w (dcells (f y)) vs -> D.cel O w (f y) vs := fun y O w vs h => by
 rw [hf] at h
 obtain ⟨v, r, e, _, h2, h3⟩ := h
 have h3' : r = [] := h3
 subst h3'
 have := ha y
 cases hy : f y with
 | agg cs => exact absurd hy (this cs)
 | _ => rw [hy] at h2; exact ⟨v, e, h2⟩
theorem rd5 : Rd Tryz.prog 5 1 (kD .u8) (fun x : Int => (Lit.int .u8 x).wf = true) := Rd.intk Tryz.underlying5 (by kernel_rfl)
theorem rd37 : Rd Tryz.prog 37 1 (slD 1 (kD .u8)) (fun x : (List Int) => (BigL x /\ ∀ y0 : Int, y0 ∈ x -> ((Lit.int .u8 y0).wf = true))) := Rd.slice Tryz.underlying37 (by kernel_rfl) (by decide) rd5 (cel_one (fun _ => rfl) (fun _ _ h => nomatch h))
end Go.Proofs.YtglpjlpmijfocaaGreat
namespace Go.Proofs.YtglpjlpmijfocaaGreat
open Go Abx Go.ChangeShapes Go.WideShapes Go.ChangeAt Go.RowKit
section
variable {H : Type} {enc : TypeId × Value -> H} {P : Program} {w : World} {base : Nat} {spare : Nat -> Bool} {held : Bool}
theorem trodAll_5x {t0 : TypeId} {args : Array Value} {ds : List (DataW H)} {ps : List MemPlace} (h : DataW.TrodAll enc P w base spare held [t0] args.toList ds ps) :
 ∃ v0 d0 p0, args = #[v0] /\ ds = [d0] /\ ps = p0 /\ DataW.Trod enc P w base spare held t0 v0 d0 p0 := by
 obtain ⟨v0, vs0, d0, ds0, p0, q0, hargs, rfl, rfl, k0, h0⟩ := trodAll_cons h
 obtain ⟨rfl, rfl, rfl⟩ := trodAll_nil h0
 exact ⟨v0, d0, p0, by cases args; simp_all, rfl, by simp, k0⟩
end
theorem law_walk5 {W : World} {v0 : Value} {x0 : (List Int)} (g0 : (BigL x0 /\ ∀ y0 : Int, y0 ∈ x0 -> ((Lit.int .u8 y0).wf = true))) (h0 : D.ok NoO W ((slD 1 (kD .u8)) x0) v0) :
 Calls Tryz.prog 5 #[v0] W fun e W' => e = .returned (.bool true) /\ Below W.heap.size W W' :=
 (pure_belowN (show PFun Tryz.prog 5 [(slD 1 (kD .u8)) x0] (bD true) from law_times_pure (hb := fun y hy => by have h := g0.2 y hy; rw [Lit.wf, Bool.and_eq_true, decide_eq_true_eq, decide_eq_true_eq, show IntKind.u8.min = 0 from rfl, show IntKind.u8.max = 255 from rfl] at h; omega)) (vs := #[v0]) (fun _ _ => trivial) ⟨v0, _, rfl, h0, rfl⟩).mono fun _ _ ⟨⟨_, h1, h2⟩, h3⟩ => by
  simp only [D.ok] at h2
  exact ⟨by rw [h1, h2.1], h3⟩
set_option maxRecDepth 100000 in
theorem fnTimes_lifted (os : Os) (started : os.Started) (H : Type) (enc : TypeId × Value -> H) :
 ReturnsInHanded {} Tryz.checked os 5 .any (Rows.fnTimesSpec.pre6 enc Tryz.prog Tryz.f5 Rows.fnTimesRow.domain false) (Rows.fnTimesSpec.post enc Tryz.prog Tryz.f5 false true false false) := by
 refine returnsInHanded_of_change (C := Tryz.checked) ownZ started (by kernel_rfl) Tryz.func5
  (ChangeSpec.witness6 (enc := enc) (C := Tryz.checked) false ⟨#[], #[.slice none 0 0], []⟩ 8 (by kernel_rfl) (by kernel_rfl) (by kernel_rfl) (by kernel_rfl)) ?_
 intro W base args ds gs before hval0 hW hcnd _
 have hval : ∀ (j : Nat) t v, Tryz.f5.params[j]? = some t -> args[j]? = some v -> Value.okWide Tryz.prog W .any base t v := hval0
 have hW' := hW
 obtain ⟨p, q, hA0, hV, rfl, hfz, hnd⟩ := hW
 have hA : DataW.TrodAll enc Tryz.prog W 0 (fun _ => true) true Tryz.f5.params.toList args.toList ds p := hA0
 rw [Tryz.params5] at hA hval
 obtain ⟨v0, d0, p0, rfl, rfl, hpp, t0⟩ := trodAll_5x hA
 obtain rfl : p0 = p := hpp.symm
 obtain ⟨rfl, rfl⟩ := trodVars_none hV
 have k0 := t0
 have lt0 : ∀ x ∈ p0, x.block < W.heap.size := by obtain ⟨m, hm⟩ := t0; exact DataW.trod_lt m _ _ _ hm
 obtain ⟨a0, l0, c0, rfl⟩ := okWide_slice Tryz.underlying37 (hval 0 _ v0 rfl rfl)
 obtain ⟨x0, g0, h0⟩ := rd37.cell (fun _ => rfl) rfl t0
 clear hA0 hval0
 refine (law_walk5 g0 h0).mono fun e W' ⟨he, bel⟩ => ?_
 subst he
 have s0 := Below.trod laidZ (by kernel_rfl) (of_decide_eq_true (by kernel_rfl)) k0 bel lt0
 exact ⟨_, rfl, _, _, _, [], _, [], hW', trodAll_mk1 (shut_bool Tryz.underlying4 _), trodAll_mk1 s0, rfl, bel.frame _, fun h => by cases h⟩
end Go.Proofs.YtglpjlpmijfocaaGreat
namespace Go.Proofs.YtglpjlpmijfocaaGreat
open Go Go.ChangeShapes Go.WideShapes Go.ChangeAt Go.RowKit
theorem and2b5 {a b : Bool} (ha : a = true) (hb : b = true) : (a && b) = true := by rw [ha, hb]; rfl
set_option maxRecDepth 100000 in
set_option maxHeartbeats 4000000 in
theorem closed5 : joinedFacts Tryz.prog 5 Tryz.f5 Rows.fnTimesSpec Rows.fnTimesRow = true := by
 unfold joinedFacts
 with_reducible repeat' refine and2b5 ?_ ?_
 all_goals as_aux_lemma => kernel_rfl
end Go.Proofs.YtglpjlpmijfocaaGreat
