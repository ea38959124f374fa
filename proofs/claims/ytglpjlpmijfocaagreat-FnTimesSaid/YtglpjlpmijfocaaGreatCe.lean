/- Functions of the program and the equations that they compute; The layer of data and running functions, and its rules; Plain theory of terms and what the equations of the functions come to; nothing is assumed. -/
import Derived.Test.YtglpjlpmijfocaaGreatCd
import Derived.Below
import Derived.Shelf.Strings.BuilderK
import Derived.WalkKit
import Derived.BigCall
import Derived.KernelRfl
import Derived.Shelf.SlSortCmp.NoneTotal
set_option linter.all false
noncomputable section
namespace Go.Proofs.YtglpjlpmijfocaaGreat
open Go Abx
attribute [local irreducible] vcm vgo vdr vrun vdrun MWp GhostQ BrC BrO BrG BrD BrH AmbO callR callD drQ EnvLe StoLe
set_option maxHeartbeats 4000000
def D_impl_Subst (x : (List (List Int))) : D := .agg [(slD 1 (slD 1 iD)) x]
instance : Cel D_impl_Subst 1 := ⟨fun _ => rfl⟩
attribute [go_sem] D_impl_Subst
def mc153 : MCode :=
 (.seq (.reg (sq 3 [bo 3 30 0] ++ sq 6 [.mv (.const (.slice none 0 0))])) (.seq (.reg (sq 7 [mv 1, mv 2, la 1 3, mv 1, mv 2, cf 127 [9, 10, 11], .slc (t0 7) 1 (some (t0 8)) (some (t0 12)) none] ++ sq 6 [mv 13])) .ret))
theorem fn153 : MFn Tryz.prog 153 mc153 14 [.tmp 6] := ⟨_, Tryz.func153, by kernel_rfl, Tryz.ntmps153, by kernel_rfl⟩
def F_impl_subAt (sig : (List Int)) (t : (List Int)) (at' : Int) : Option (List Int) :=
 (F_impl_endAt sig t at').bind fun r =>
 if 0 <= at' /\ at' <= r /\ r <= (t.length : Int) then
  some ((t.take r.toNat).drop at'.toNat)
 else none
instance c_impl_subAt {sig : (List Int)} {t : (List Int)} {at' : Int} : HasC (F_impl_subAt sig t at') fun rr => PFun Tryz.prog 153 [D_impl_Sig sig, (slD 1 iD) t, iD at'] ((slD 1 iD) rr) := ⟨@fun rr h => by
 delta F_impl_subAt at h
 refine fn153.pureL (vcm_sound ?_)
 delta mc153
 refine stp ?_
 exact aut⟩
def mc149 : MCode :=
 (.seq (.reg (sq 4 [mb false])) (.seq (.seq (.reg (sq 6 [mv 0, ln 6, mv 1, ln 8, bn .neq 7 9])) (.cond (t0 10) (.seq (.reg (sq 4 [mb false])) .ret) .skip)) (.seq (.seq (.reg (sq 11 [mv 0, ln 11, mi 0])) (.block 0 (.loop (.seq (.reg (sq 14 [bn .lss 13 12])) (.seq (.cond (t0 14) .skip (.exit 0)) (.seq (.block 1 (.seq (.reg (sq 15 [mv 13] ++ sq 5 [mv 15])) (.seq (.draw (sq 16 [mv 0, mv 5, ix 1 16 17, ld 18, mv 1, mv 5, ix 1 20 21, ld 22, bn .neq 19 23]) [[], [], [0, 1], [2], [], [], [4, 5], [6], [3, 7]]) (.cond (t0 24) (.seq (.reg (sq 4 [mb false])) .ret) .skip)))) (.reg (sq 25 [bi .add 13 1] ++ sq 13 [mv 25])))))))) (.seq (.reg (sq 4 [mb true])) .ret))))
theorem fn149 : MFn Tryz.prog 149 mc149 26 [.tmp 4] := ⟨_, Tryz.func149, by kernel_rfl, Tryz.ntmps149, by kernel_rfl⟩
def F_slices_Equal_int64_int64_l1 (s1 : (List Int)) (s2 : (List Int)) : Int -> Option (Int ⊕ Bool)
 | v13 =>
  if (decide (v13 < (s1.length : Int))) = true then
   if 0 <= v13 /\ v13 < (s1.length : Int) then
    if 0 <= v13 /\ v13 < (s2.length : Int) then
     if ((s1.getD v13.toNat default) != (s2.getD v13.toNat default)) = true then
      Option.map Sum.inr (
       some false)
     else
      some (.inl (IntKind.i64.wrap (v13 + 1)))
    else none
   else none
  else
   Option.map Sum.inr (
    some true)
def F_slices_Equal_int64_int64 (s1 : (List Int)) (s2 : (List Int)) : Option Bool :=
 if ((s1.length : Int) != (s2.length : Int)) = true then
  some false
 else
  loopC (F_slices_Equal_int64_int64_l1 s1 s2) 0
instance c_slices_Equal_int64_int64 {s1 : (List Int)} {s2 : (List Int)} : HasC (F_slices_Equal_int64_int64 s1 s2) fun rr => PFun Tryz.prog 149 [(slD 1 iD) s1, (slD 1 iD) s2] (bD rr) := ⟨@fun rr h => by
 delta F_slices_Equal_int64_int64 at h
 refine fn149.pureL (vcm_sound ?_)
 delta mc149
 refine stp ?_
 refine iF h fun hc h => ?_
 refine m_lW h [4, 5, 13, 14, 15, 16, 17, 18, 19, 20, 21, 22, 23, 24, 25] (fun pp => [(13, .d (iD pp))]) (fun pp => []) ?_
 rintro v13 t1 h hb1
 unfold F_slices_Equal_int64_int64_l1 at h
 try dsimp only at h
 refine vcm_sound (stp ?_)
 exact aut⟩
def mc168 : MCode :=
 (.seq (.reg (sq 4 [bo 4 30 0] ++ sq 7 [bo 7 207 3, .alloc 8 207 [.sl 0 (some true) [], .sl 0 (some true) [], .sl 0 (some true) [], .sl 0 (some true) [], .sl 0 (some true) [], .sl 0 (some true) [], .sl 0 (some true) [], .sl 0 (some true) [], .sl 0 (some true) [], .sl 0 (some true) [], .sl 0 (some true) [], .sl 0 (some true) [], .sl 0 (some true) [], .sl 0 (some true) [], .sl 0 (some true) [], .sl 0 (some true) [], .sl 0 (some true) [], .sl 0 (some true) [], .sl 0 (some true) [], .sl 0 (some true) [], .sl 0 (some true) [], .sl 0 (some true) [], .sl 0 (some true) [], .sl 0 (some true) []], mb false])) (.seq (.reg (sq 10 [mi 0])) (.seq (.seq (.reg (sq 14 [mv 1, ln 14, mi 0])) (.block 0 (.loop (.seq (.reg (sq 17 [bn .lss 16 15])) (.seq (.cond (t0 17) .skip (.exit 0)) (.seq (.block 1 (.seq (.reg (sq 18 [ix 1 14 16, ld 18] ++ sq 12 [mv 19])) (.seq (.seq (.reg (sq 20 [mv 10, mv 2, ln 21, bn .geq 20 22])) (.cond (t0 23) (.seq (.reg (sq 24 [la 24 7] ++ s0 (sr 24 8 24) ++ sq 9 [mb false])) .ret) .skip)) (.seq (.seq (.reg (sq 25 [mv 12, bi .geq 25 0])) (.cond (t0 26) (.seq (.seq (.reg (sq 27 [mv 2, mv 10, ix 1 27 28, ld 29, mv 12, bn .neq 30 31])) (.cond (t0 32) (.seq (.reg (sq 33 [la 24 7] ++ s0 (sr 24 8 33) ++ sq 9 [mb false])) .ret) .skip)) (.seq (.reg (sq 34 [mv 10, bi .add 34 1] ++ sq 10 [mv 35])) (.exit 1))) .skip)) (.seq (.reg (sq 36 [la 1 4, mv 2, mv 10, cf 153 [36, 37, 38]] ++ sq 13 [mv 39])) (.seq (.seq (.reg (sq 40 [mv 12, .bin .sub (i0 (-1)) (t0 40), .ixaA 1 24 (t0 7) (t0 41), ld 42, .eqnil false (t0 43)])) (.cond (t0 44) (.reg (sq 45 [mv 12, .bin .sub (i0 (-1)) (t0 45), mv 13, .ixaA 1 24 (t0 7) (t0 46)] ++ s0 (sr 1 48 47))) (.seq (.reg (sq 49 [mv 12, .bin .sub (i0 (-1)) (t0 49), .ixaA 1 24 (t0 7) (t0 50), ld 51, mv 13, cf 149 [52, 53], nt 54])) (.cond (t0 55) (.seq (.reg (sq 56 [la 24 7] ++ s0 (sr 24 8 56) ++ sq 9 [mb false])) .ret) .skip)))) (.reg (sq 57 [mv 10, mv 13, ln 58, bn .add 57 59] ++ sq 10 [mv 60])))))))) (.reg (sq 61 [bi .add 16 1] ++ sq 16 [mv 61])))))))) (.seq (.reg (sq 62 [la 24 7] ++ s0 (sr 24 8 62) ++ sq 9 [mb true])) .ret))))
theorem fn168 : MFn Tryz.prog 168 mc168 63 [.cell 8 24 true, .tmp 9] := ⟨_, Tryz.func168, by kernel_rfl, Tryz.ntmps168, by kernel_rfl⟩
def F_impl_matchInto_l1 (sig : (List Int)) (p : (List Int)) (t : (List Int)) : (Int × Int × (List (List Int))) -> Option ((Int × Int × (List (List Int))) ⊕ ((List (List Int)) × Bool))
 | (at', v16, b_1) =>
  if (decide (v16 < (p.length : Int))) = true then
   if 0 <= v16 /\ v16 < (p.length : Int) then
    if (decide ((t.length : Int) <= at')) = true then
     if b_1.length = 24 then
      if b_1.length = 24 then
       Option.map Sum.inr (
        some (b_1, false))
      else none
     else none
    else
     if (decide (0 <= (p.getD v16.toNat default))) = true then
      if 0 <= at' /\ at' < (t.length : Int) then
       if ((t.getD at'.toNat default) != (p.getD v16.toNat default)) = true then
        if b_1.length = 24 then
         if b_1.length = 24 then
          Option.map Sum.inr (
           some (b_1, false))
         else none
        else none
       else
        some (.inl ((IntKind.i64.wrap (at' + 1)), (IntKind.i64.wrap (v16 + 1)), b_1))
      else none
     else
      (F_impl_subAt sig t at').bind fun r =>
      if 0 <= (IntKind.i64.wrap ((-1) - (p.getD v16.toNat default))) /\ (IntKind.i64.wrap ((-1) - (p.getD v16.toNat default))) < 24 /\ (IntKind.i64.wrap ((-1) - (p.getD v16.toNat default))) < (b_1.length : Int) then
       if (b_1.getD (IntKind.i64.wrap ((-1) - (p.getD v16.toNat default))).toNat default).isEmpty = true then
        if 0 <= (IntKind.i64.wrap ((-1) - (p.getD v16.toNat default))) /\ (IntKind.i64.wrap ((-1) - (p.getD v16.toNat default))) < 24 /\ (IntKind.i64.wrap ((-1) - (p.getD v16.toNat default))) < (b_1.length : Int) then
         if 0 < r.length then
          some (.inl ((IntKind.i64.wrap (at' + (r.length : Int))), (IntKind.i64.wrap (v16 + 1)), (b_1.set (IntKind.i64.wrap ((-1) - (p.getD v16.toNat default))).toNat r)))
         else none
        else none
       else
        if 0 <= (IntKind.i64.wrap ((-1) - (p.getD v16.toNat default))) /\ (IntKind.i64.wrap ((-1) - (p.getD v16.toNat default))) < 24 /\ (IntKind.i64.wrap ((-1) - (p.getD v16.toNat default))) < (b_1.length : Int) then
         (F_slices_Equal_int64_int64 (b_1.getD (IntKind.i64.wrap ((-1) - (p.getD v16.toNat default))).toNat default) r).bind fun r_1 =>
         if r_1 = true then
          some (.inl ((IntKind.i64.wrap (at' + (r.length : Int))), (IntKind.i64.wrap (v16 + 1)), b_1))
         else
          if b_1.length = 24 then
           if b_1.length = 24 then
            Option.map Sum.inr (
             some (b_1, false))
           else none
          else none
        else none
      else none
   else none
  else
   Option.map Sum.inr (
    if b_1.length = 24 then
     if b_1.length = 24 then
      some (b_1, true)
     else none
    else none)
def F_impl_matchInto (sig : (List Int)) (p : (List Int)) (t : (List Int)) (b : (List (List Int))) : Option ((List (List Int)) × Bool) :=
 loopC (F_impl_matchInto_l1 sig p t) (0, 0, b)
instance c_impl_matchInto {sig : (List Int)} {p : (List Int)} {t : (List Int)} {b : (List (List Int))} : HasC (F_impl_matchInto sig p t b) fun rr => PFunN Tryz.prog 168 [D_impl_Sig sig, (slD 1 iD) p, (slD 1 iD) t, (arD (nzD 1 iD)) b] [(arD (nzD 1 iD)) rr.1, bD rr.2] := ⟨@fun rr h => by
 delta F_impl_matchInto at h
 refine fn168.pureLN (vcm_sound ?_)
 delta mc168
 refine stp ?_
 refine m_lW h [9, 10, 12, 13, 16, 17, 18, 19, 20, 21, 22, 23, 24, 25, 26, 27, 28, 29, 30, 31, 32, 33, 34, 35, 36, 37, 38, 39, 40, 41, 42, 43, 44, 45, 46, 47, 48, 49, 50, 51, 52, 53, 54, 55, 56, 57, 58, 59, 60, 61] (fun pp => [(10, .d (iD pp.1)), (16, .d (iD pp.2.1))]) (fun pp => [(4, .obj 30 [.d (slD 1 iD sig)]), (7, .obj 207 (List.map (aD (nzD 1 iD)) pp.2.2)), (8, .obj 207 [.d (.sl 0 (some true) []), .d (.sl 0 (some true) []), .d (.sl 0 (some true) []), .d (.sl 0 (some true) []), .d (.sl 0 (some true) []), .d (.sl 0 (some true) []), .d (.sl 0 (some true) []), .d (.sl 0 (some true) []), .d (.sl 0 (some true) []), .d (.sl 0 (some true) []), .d (.sl 0 (some true) []), .d (.sl 0 (some true) []), .d (.sl 0 (some true) []), .d (.sl 0 (some true) []), .d (.sl 0 (some true) []), .d (.sl 0 (some true) []), .d (.sl 0 (some true) []), .d (.sl 0 (some true) []), .d (.sl 0 (some true) []), .d (.sl 0 (some true) []), .d (.sl 0 (some true) []), .d (.sl 0 (some true) []), .d (.sl 0 (some true) []), .d (.sl 0 (some true) [])])]) ?_
 rintro ⟨at', v16, b_1⟩ t1 h hb1
 unfold F_impl_matchInto_l1 at h
 try dsimp only at h
 refine vcm_sound (stp ?_)
 refine iT h fun hc h => ?_
 refine ndI h fun hp h => ?_
 refine iF h fun hc h => ?_
 refine iF h fun hc h => ?_
 refine rC h fun r hr h => ?_
 refine ndI h fun hp h => ?_
 refine iT h fun hc h => ?_
 refine ndI h fun hp h => ?_
 refine ndI h fun hp h => ?_
 cases h
 refine ⟨_, rfl, ?_⟩
 refine (Weak.leS (s' := [(4, .obj 30 [.d (slD 1 iD sig)]), (7, .obj 207 (List.map (aD (nzD 1 iD)) (b_1.set (IntKind.i64.wrap ((-1) - (p.getD v16.toNat default))).toNat r))), (8, .obj 207 [.d (.sl 0 (some true) []), .d (.sl 0 (some true) []), .d (.sl 0 (some true) []), .d (.sl 0 (some true) []), .d (.sl 0 (some true) []), .d (.sl 0 (some true) []), .d (.sl 0 (some true) []), .d (.sl 0 (some true) []), .d (.sl 0 (some true) []), .d (.sl 0 (some true) []), .d (.sl 0 (some true) []), .d (.sl 0 (some true) []), .d (.sl 0 (some true) []), .d (.sl 0 (some true) []), .d (.sl 0 (some true) []), .d (.sl 0 (some true) []), .d (.sl 0 (some true) []), .d (.sl 0 (some true) []), .d (.sl 0 (some true) []), .d (.sl 0 (some true) []), .d (.sl 0 (some true) []), .d (.sl 0 (some true) []), .d (.sl 0 (some true) []), .d (.sl 0 (some true) [])])]) (EnvLe.refl _) (by exact (stoC (ObLe.refl _) (stoC ⟨rfl, lob_set' (by omega) (by first | exact (le_nz_t (by omega)).2 trivial | exact (le_nzown_t (by omega)).2 trivial)⟩ (stoC (ObLe.refl _) stoN))))).trans ?_
 exact wk⟩
def mc170 : MCode :=
 (.seq (.reg (sq 1 [bo 1 207 0, .alloc 2 171 [.sl 0 (some true) []]])) (.seq (.reg (sq 3 [.slcA (t0 1) 1 24 none none none, .build [.sl 0 (some true) []] [(0, 1, (t0 3))]] ++ s0 (sr 1 2 4))) .ret))
theorem fn170 : MFn Tryz.prog 170 mc170 5 [.cell 2 1 true] := ⟨_, Tryz.func170, by kernel_rfl, Tryz.ntmps170, by kernel_rfl⟩
def F_impl_bindings_subst (b : (List (List Int))) : Option (List (List Int)) :=
 if b.length = 24 then
  some b
 else none
instance c_impl_bindings_subst {b : (List (List Int))} : HasC (F_impl_bindings_subst b) fun rr => PFun Tryz.prog 170 [(arD (nzD 1 iD)) b] (D_impl_Subst rr) := ⟨@fun rr h => by
 delta F_impl_bindings_subst at h
 refine fn170.pureD (vcm_sound ?_)
 delta mc170
 refine stp ?_
 refine ndI h fun hp h => ?_
 cases h
 exact ⟨_, _, (Done.frzL 1 (nzD 1 iD) b (by omega) rfl), frd⟩⟩
def mc174 : MCode :=
 (.seq (.reg (sq 2 [.mv (.const (.slice none 0 0))])) (.seq (.reg (sq 3 [mv 0, .bin .sub (i0 (-1)) (t0 3), .bsl 5 2 1 [(t0 4)]] ++ sq 2 [mv 5])) .ret))
theorem fn174 : MFn Tryz.prog 174 mc174 6 [.tmp 2] := ⟨_, Tryz.func174, by kernel_rfl, Tryz.ntmps174, by kernel_rfl⟩
def F_impl_variable (i : Int) : Option (List Int) :=
 some [(IntKind.i64.wrap ((-1) - i))]
instance c_impl_variable {i : Int} : HasC (F_impl_variable i) fun rr => PFun Tryz.prog 174 [iD i] ((slD 1 iD) rr) := ⟨@fun rr h => by
 delta F_impl_variable at h
 refine fn174.pureL (vcm_sound ?_)
 delta mc174
 refine stp ?_
 exact aut⟩
def mc120 : MCode :=
 (.seq (.reg (sq 2 [.mv (.const (.slice none 0 0))])) (.seq (.seq (.reg (sq 3 [mv 0, .eqnil false (t0 3)])) (.cond (t0 4) (.seq (.reg (sq 2 [.mv (.const (.slice none 0 0))])) .ret) .skip)) (.seq (.reg (sq 5 [.bsl 5 2 1 [], mv 0, ap 7 2 1 8 5 6] ++ sq 2 [mv 7])) .ret)))
theorem fn120 : MFn Tryz.prog 120 mc120 8 [.tmp 2] := ⟨_, Tryz.func120, by kernel_rfl, Tryz.ntmps120, by kernel_rfl⟩
def F_slices_Clone_int64_int64 (s : (List Int)) : Option (List Int) :=
 ambO s (
  some []) (
  if (0 + s.length) * 8 <= 140737488355328 then
   some s
  else none)
instance c_slices_Clone_int64_int64 {s : (List Int)} : HasC (F_slices_Clone_int64_int64 s) fun rr => PFun Tryz.prog 120 [(slD 1 iD) s] ((slD 1 iD) rr) := ⟨@fun rr h => by
 delta F_slices_Clone_int64_int64 at h
 refine fn120.pureL (vcm_sound ?_)
 delta mc120
 refine stp ?_
 have h1 := amb_some h
 refine AmbO.of (fun he => ?_) ?_
 ·replace h := h1.1 (by simpa using he)
  clear h1
  refine stp ?_
  exact aut
 ·replace h := h1.2
  clear h1
  refine stp ?_
  exact aut⟩
def mc169 : MCode :=
 (.seq (.reg (sq 1 [bo 1 171 0, .alloc 2 171 [.sl 0 (some true) []]])) (.seq (.reg (sq 3 [.alloc 3 171 [.sl 0 (some true) []]])) (.seq (.seq (.reg (sq 6 [fa 0 1, ld 6, ln 7, mi 0])) (.block 0 (.loop (.seq (.reg (sq 10 [bn .lss 9 8])) (.seq (.cond (t0 10) .skip (.exit 0)) (.seq (.block 1 (.seq (.reg (sq 11 [mv 9, ix 1 7 9, ld 12] ++ sq 4 [mv 11, mv 13])) (.seq (.seq (.reg (sq 14 [mv 5, ln 14, bi .eql 15 0, mv 16] ++ sg 17 false 18 [mv 5, mv 4, cf 174 [19], cf 149 [18, 20]] ++ sq 22 [po 17 21])) (.cond (t0 22) (.exit 1) .skip)) (.seq (.block 2 (.loop (.seq (.seq (.reg (sq 23 [fa 0 3, ld 23, ln 24, mv 4, bn .lss 25 26])) (.cond (t0 27) .skip (.exit 2))) (.block 3 (.reg (sq 28 [fa 0 3, ld 28, .bsl 30 22 1 [(.const (.slice none 0 0))], ap 31 22 1 24 29 30, fa 0 3] ++ s0 (sr 1 32 31))))))) (.draw (sq 33 [fa 0 3, ld 33, mv 5, cf 120 [35], .bsl 37 22 1 [(t0 36)], ap 38 22 1 24 34 37, fa 0 3] ++ s0 (sr 1 39 38)) [[], [0], [], [2], [3], [1, 4, 3], [0, 1, 2, 3, 4, 5], [6, 5, 5, 0, 1, 2, 3, 4, 5]]))))) (.reg (sq 40 [bi .add 9 1] ++ sq 9 [mv 40])))))))) (.seq (.reg (sq 41 [la 1 3] ++ s0 (sr 1 2 41))) .ret))))
theorem fn169 : MFn Tryz.prog 169 mc169 42 [.cell 2 1 true] := ⟨_, Tryz.func169, by kernel_rfl, Tryz.ntmps169, by kernel_rfl⟩
def F_impl_plain_l2 (s : (List (List Int))) (v9 : Int) : (List (List Int)) -> Option ((List (List Int)) ⊕ ((Int × (List (List Int))) ⊕ (List (List Int))))
 | out_1 =>
  if (decide ((out_1.length : Int) < v9)) = true then
   if (out_1.length + 1) * 24 <= 140737488355328 then
    some (.inl (out_1 ++ [[]]))
   else none
  else
   Option.map Sum.inr (
    (F_slices_Clone_int64_int64 (s.getD v9.toNat default)).bind fun r_2 =>
    if (out_1.length + 1) * 24 <= 140737488355328 then
     some (.inl ((IntKind.i64.wrap (v9 + 1)), (out_1 ++ [r_2])))
    else none)
def F_impl_plain_l1 (s : (List (List Int))) : (Int × (List (List Int))) -> Option ((Int × (List (List Int))) ⊕ (List (List Int)))
 | (v9, out) =>
  if (decide (v9 < (s.length : Int))) = true then
   if 0 <= v9 /\ v9 < (s.length : Int) then
    if (((s.getD v9.toNat default).length : Int) == 0) = true then
     some (.inl ((IntKind.i64.wrap (v9 + 1)), out))
    else
     (F_impl_variable v9).bind fun r =>
     (F_slices_Equal_int64_int64 (s.getD v9.toNat default) r).bind fun r_1 =>
     if r_1 = true then
      some (.inl ((IntKind.i64.wrap (v9 + 1)), out))
     else
      loopC (F_impl_plain_l2 s v9) out
   else none
  else
   Option.map Sum.inr (
    some out)
def F_impl_plain (s : (List (List Int))) : Option (List (List Int)) :=
 loopC (F_impl_plain_l1 s) (0, [])
instance c_impl_plain {s : (List (List Int))} : HasC (F_impl_plain s) fun rr => PFun Tryz.prog 169 [D_impl_Subst s] (D_impl_Subst rr) := ⟨@fun rr h => by
 delta F_impl_plain at h
 refine fn169.pureL (vcm_sound ?_)
 delta mc169
 refine stp ?_
 refine m_loopF h [4, 5, 9, 10, 11, 12, 13, 14, 15, 16, 17, 18, 19, 20, 21, 22, 23, 24, 25, 26, 27, 28, 29, 30, 31, 32, 33, 34, 35, 36, 37, 38, 39, 40] (fun pp => [(9, .d (iD pp.1))]) (fun pp => [(1, .obj 171 [.d (slD 1 (slD 1 iD) s)]), (2, .obj 171 [.d (.sl 0 (some true) [])]), (3, .obj 171 [.own 1 38 (List.map (slD 1 iD) pp.2)]), (38, .tok 22 1 pp.2.length)]) ?_ ?_
 ·try dsimp only
  refine (Weak.thawCell 3 0 38 22 1 rfl rfl rfl).trans ?_
  exact wk
 rintro ⟨v9, out⟩ t1 h hb1
 unfold F_impl_plain_l1 at h
 try dsimp only at h
 refine vcm_sound (stp ?_)
 refine iT h fun hc h => ?_
 refine ndI h fun hp h => ?_
 refine iF h fun hc h => ?_
 refine rC h fun r hr h => ?_
 refine rC h fun r_1 hr_1 h => ?_
 refine iF h fun hc h => ?_
 refine m_lW h [23, 24, 25, 26, 27, 28, 29, 30, 31, 32] (fun pp => []) (fun pp => [(1, .obj 171 [.d (slD 1 (slD 1 iD) s)]), (2, .obj 171 [.d (.sl 0 (some true) [])]), (3, .obj 171 [.own 1 38 (List.map (slD 1 iD) pp)]), (38, .tok 22 1 pp.length)]) ?_
 rintro out_1 t2 h hb2
 unfold F_impl_plain_l2 at h
 try dsimp only at h
 refine vcm_sound (stp ?_)
 refine it h (fun hc h => ?_) fun hc h => ?_
 ·refine ndI h fun hp h => ?_
  cases h
  refine ⟨_, rfl, ?_⟩
  refine (Weak.drop 30 (by omega)).trans ?_
  exact wk
 replace h := inr_some h hb2
 refine dC h fun r_2 hr_2 h => ?_
 refine ndI h fun hp h => ?_
 refine drQ_of (by kernel_rfl) (stp ?_)
 cases h
 refine ⟨_, rfl, ?_⟩
 refine (Weak.drop 37 (by omega)).trans ?_
 exact wk⟩
def mc154 : MCode :=
 (.seq (.reg (sq 3 [bo 3 30 0] ++ sq 6 [.alloc 6 171 [.sl 0 (some true) []], mb false])) (.seq (.reg (sq 11 [la 1 3, mv 1, mv 2, .build [.sl 0 (some true) [], .sl 0 (some true) [], .sl 0 (some true) [], .sl 0 (some true) [], .sl 0 (some true) [], .sl 0 (some true) [], .sl 0 (some true) [], .sl 0 (some true) [], .sl 0 (some true) [], .sl 0 (some true) [], .sl 0 (some true) [], .sl 0 (some true) [], .sl 0 (some true) [], .sl 0 (some true) [], .sl 0 (some true) [], .sl 0 (some true) [], .sl 0 (some true) [], .sl 0 (some true) [], .sl 0 (some true) [], .sl 0 (some true) [], .sl 0 (some true) [], .sl 0 (some true) [], .sl 0 (some true) [], .sl 0 (some true) []] [], cf 168 [11, 12, 13, 14]] ++ sq 10 [mv 15] ++ sq 16 [ex 10 0, ex 10 1] ++ sq 8 [.alloc 8 207 [.sl 0 (some true) [], .sl 0 (some true) [], .sl 0 (some true) [], .sl 0 (some true) [], .sl 0 (some true) [], .sl 0 (some true) [], .sl 0 (some true) [], .sl 0 (some true) [], .sl 0 (some true) [], .sl 0 (some true) [], .sl 0 (some true) [], .sl 0 (some true) [], .sl 0 (some true) [], .sl 0 (some true) [], .sl 0 (some true) [], .sl 0 (some true) [], .sl 0 (some true) [], .sl 0 (some true) [], .sl 0 (some true) [], .sl 0 (some true) [], .sl 0 (some true) [], .sl 0 (some true) [], .sl 0 (some true) [], .sl 0 (some true) []]] ++ s0 (sr 24 8 16) ++ sq 9 [mv 17])) (.seq (.seq (.reg (sq 18 [mv 9, nt 18])) (.cond (t0 19) (.seq (.reg (sq 20 [.build [.sl 0 (some true) []] []] ++ s0 (sr 1 6 20) ++ sq 7 [mb false])) .ret) .skip)) (.seq (.reg (sq 21 [la 24 8, cf 170 [21], cf 169 [22]] ++ s0 (sr 1 6 23) ++ sq 7 [mb true])) .ret))))
theorem fn154 : MFn Tryz.prog 154 mc154 24 [.cell 6 1 true, .tmp 7] := ⟨_, Tryz.func154, by kernel_rfl, Tryz.ntmps154, by kernel_rfl⟩
def F_impl_match (sig : (List Int)) (p : (List Int)) (t : (List Int)) : Option ((List (List Int)) × Bool) :=
 (F_impl_matchInto sig p t (List.replicate 24 [])).bind fun r =>
 if r.1.length = 24 then
  if r.2 = true then
   if r.1.length = 24 then
    (F_impl_bindings_subst r.1).bind fun r_1 =>
    (F_impl_plain r_1).bind fun r_2 =>
    some (r_2, true)
   else none
  else
   some ([], false)
 else none
instance c_impl_match {sig : (List Int)} {p : (List Int)} {t : (List Int)} : HasC (F_impl_match sig p t) fun rr => PFunN Tryz.prog 154 [D_impl_Sig sig, (slD 1 iD) p, (slD 1 iD) t] [D_impl_Subst rr.1, bD rr.2] := ⟨@fun rr h => by
 delta F_impl_match at h
 refine fn154.pureLN (vcm_sound ?_)
 delta mc154
 refine stp ?_
 exact aut⟩
def mc94 : MCode :=
 (.seq (.reg (sq 2 [.mv (.const (.slice none 0 0))])) (.seq (.reg (sq 3 [.bsl 3 2 1 [], mv 0, ap 5 2 1 8 3 4] ++ sq 2 [mv 5])) .ret))
theorem fn94 : MFn Tryz.prog 94 mc94 6 [.tmp 2] := ⟨_, Tryz.func94, by kernel_rfl, Tryz.ntmps94, by kernel_rfl⟩
def F_spec_l1Copy (l : (List Int)) : Option (List Int) :=
 if (0 + l.length) * 8 <= 140737488355328 then
  some l
 else none
instance c_spec_l1Copy {l : (List Int)} : HasC (F_spec_l1Copy l) fun rr => ACalls Tryz.prog 94 [.d (slD 1 iD l)] [] 0 fun xx ss => xx = .own 1 3 (List.map iD rr) /\ ss = [(3, .tok 2 1 rr.length)] := ⟨@fun rr h => by
 delta F_spec_l1Copy at h
 refine fn94.callsO (vcm_sound ?_)
 delta mc94
 refine stp ?_
 exact aut⟩
def mc138 : MCode :=
 (.seq (.reg (sq 3 [bo 3 30 0] ++ sq 6 [.mv (.const (.slice none 0 0))])) (.seq (.reg (sq 7 [mv 1, mv 2, la 1 3, mv 1, mv 2, cf 87 [9, 10, 11], .slc (t0 7) 1 (some (t0 8)) (some (t0 12)) none, cf 94 [13]] ++ sq 6 [mv 14])) .ret))
theorem fn138 : MFn Tryz.prog 138 mc138 15 [.tmp 6] := ⟨_, Tryz.func138, by kernel_rfl, Tryz.ntmps138, by kernel_rfl⟩
def F_spec_l1Sub (sig : (List Int)) (t : (List Int)) (at' : Int) : Option (List Int) :=
 (F_spec_l1End sig t at').bind fun r =>
 if 0 <= at' /\ at' <= r /\ r <= (t.length : Int) then
  (F_spec_l1Copy ((t.take r.toNat).drop at'.toNat)).bind fun r_1 =>
  some r_1
 else none
instance c_spec_l1Sub {sig : (List Int)} {t : (List Int)} {at' : Int} : HasC (F_spec_l1Sub sig t at') fun rr => PFun Tryz.prog 138 [D_impl_Sig sig, (slD 1 iD) t, iD at'] ((slD 1 iD) rr) := ⟨@fun rr h => by
 delta F_spec_l1Sub at h
 refine fn138.pureL (vcm_sound ?_)
 delta mc138
 refine stp ?_
 refine rC h fun r hr h => ?_
 refine ndI h fun hp h => ?_
 refine rCo [] [(3, 14)] h fun r_1 hr_1 h => ?_
 exact aut⟩
def mc150 : MCode :=
 (.seq (.reg (sq 4 [mb false])) (.seq (.seq (.reg (sq 6 [mv 0, ln 6, mv 1, ln 8, bn .neq 7 9])) (.cond (t0 10) (.seq (.reg (sq 4 [mb false])) .ret) .skip)) (.seq (.seq (.reg (sq 5 [mi 0])) (.block 0 (.loop (.seq (.seq (.reg (sq 11 [mv 5, mv 0, ln 12, bn .lss 11 13])) (.cond (t0 14) .skip (.exit 0))) (.seq (.block 1 (.seq (.draw (sq 17 [mv 0, mv 5, ix 1 17 18, ld 19, mv 1, mv 5, ix 1 21 22, ld 23, bn .neq 20 24]) [[], [], [0, 1], [2], [], [], [4, 5], [6], [3, 7]]) (.cond (t0 25) (.seq (.reg (sq 4 [mb false])) .ret) .skip))) (.reg (sq 15 [mv 5, bi .add 15 1] ++ sq 5 [mv 16]))))))) (.seq (.reg (sq 4 [mb true])) .ret))))
theorem fn150 : MFn Tryz.prog 150 mc150 26 [.tmp 4] := ⟨_, Tryz.func150, by kernel_rfl, Tryz.ntmps150, by kernel_rfl⟩
def F_spec_SameTerm_l1 (a : (List Int)) (b : (List Int)) : Int -> Option (Int ⊕ Bool)
 | i =>
  if (decide (i < (a.length : Int))) = true then
   if 0 <= i /\ i < (a.length : Int) then
    if 0 <= i /\ i < (b.length : Int) then
     if ((a.getD i.toNat default) != (b.getD i.toNat default)) = true then
      Option.map Sum.inr (
       some false)
     else
      some (.inl (IntKind.i64.wrap (i + 1)))
    else none
   else none
  else
   Option.map Sum.inr (
    some true)
def F_spec_SameTerm (a : (List Int)) (b : (List Int)) : Option Bool :=
 if ((a.length : Int) != (b.length : Int)) = true then
  some false
 else
  loopC (F_spec_SameTerm_l1 a b) 0
instance c_spec_SameTerm {a : (List Int)} {b : (List Int)} : HasC (F_spec_SameTerm a b) fun rr => PFun Tryz.prog 150 [(slD 1 iD) a, (slD 1 iD) b] (bD rr) := ⟨@fun rr h => by
 delta F_spec_SameTerm at h
 refine fn150.pureL (vcm_sound ?_)
 delta mc150
 refine stp ?_
 refine iF h fun hc h => ?_
 refine m_lW h [4, 5, 11, 12, 13, 14, 15, 16, 17, 18, 19, 20, 21, 22, 23, 24, 25] (fun pp => [(5, .d (iD pp))]) (fun pp => []) ?_
 rintro i t1 h hb1
 unfold F_spec_SameTerm_l1 at h
 try dsimp only at h
 refine vcm_sound (stp ?_)
 exact aut⟩
def mc165 : MCode :=
 (.seq (.reg (sq 2 [bo 2 171 0] ++ sq 4 [.mv (.const (.slice none 0 0))])) (.seq (.seq (.reg (sq 5 [mv 1, fa 0 2, ld 6, ln 7, bn .lss 5 8, mv 9] ++ sg 10 true 11 [fa 0 2, ld 11, mv 1, ix 1 12 13, ld 14, ln 15, bi .gtr 16 0] ++ sq 18 [pa 10 17])) (.cond (t0 18) (.seq (.reg (sq 19 [fa 0 2, ld 19, mv 1, ix 1 20 21, ld 22, cf 94 [23]] ++ sq 4 [mv 24])) .ret) .skip)) (.seq (.reg (sq 25 [mv 1, .bin .sub (i0 (-1)) (t0 25), .bsl 27 2 1 [(t0 26)]] ++ sq 4 [mv 27])) .ret)))
theorem fn165 : MFn Tryz.prog 165 mc165 28 [.tmp 4] := ⟨_, Tryz.func165, by kernel_rfl, Tryz.ntmps165, by kernel_rfl⟩
def F_spec_l2Gives (s : (List (List Int))) (i : Int) : Option (List Int) :=
 if (decide (i < (s.length : Int))) = true then
  if 0 <= i /\ i < (s.length : Int) then
   if (decide (0 < ((s.getD i.toNat default).length : Int))) = true then
    if 0 <= i /\ i < (s.length : Int) then
     (F_spec_l1Copy (s.getD i.toNat default)).bind fun r =>
     some r
    else none
   else
    some [(IntKind.i64.wrap ((-1) - i))]
  else none
 else
  some [(IntKind.i64.wrap ((-1) - i))]
instance c_spec_l2Gives {s : (List (List Int))} {i : Int} : HasC (F_spec_l2Gives s i) fun rr => PFun Tryz.prog 165 [D_impl_Subst s, iD i] ((slD 1 iD) rr) := ⟨@fun rr h => by
 delta F_spec_l2Gives at h
 refine fn165.pureL (vcm_sound ?_)
 delta mc165
 refine stp ?_
 refine iT h fun hc h => ?_
 refine ndI h fun hp h => ?_
 refine iT h fun hc h => ?_
 refine ndI h fun hp h => ?_
 refine rCo [] [(3, 24)] h fun r hr h => ?_
 exact aut⟩
def mc164 : MCode :=
 (.seq (.reg (sq 1 [bo 1 171 0, .alloc 2 171 [.sl 0 (some true) []]])) (.seq (.reg (sq 6 [.build [.sl 0 (some true) []] []] ++ sq 3 [.alloc 3 171 [.sl 0 (some true) []]] ++ s0 (sr 1 3 6))) (.seq (.seq (.reg (sq 4 [mi 0])) (.block 0 (.loop (.seq (.seq (.reg (sq 7 [mv 4, fa 0 1, ld 8, ln 9, bn .lss 7 10])) (.cond (t0 11) .skip (.exit 0))) (.seq (.block 1 (.seq (.reg (sq 14 [la 1 1, mv 4, cf 165 [14, 15]] ++ sq 5 [mv 16])) (.seq (.seq (.reg (sq 17 [mv 5, ln 17, bi .eql 18 1, mv 19] ++ sg 20 true 21 [mv 5, .ixa 1 (t0 21) (i0 0), ld 22, mv 4, .bin .sub (i0 (-1)) (t0 24), bn .eql 23 25] ++ sq 27 [pa 20 26])) (.cond (t0 27) (.reg (sq 28 [.bsl 28 2 1 []] ++ sq 5 [mv 28])) .skip)) (.reg (sq 29 [fa 0 3, ld 29, mv 5, .bsl 32 22 1 [(t0 31)], ap 33 22 1 24 30 32, fa 0 3] ++ s0 (sr 1 34 33)))))) (.reg (sq 12 [mv 4, bi .add 12 1] ++ sq 4 [mv 13]))))))) (.seq (.block 2 (.loop (.seq (.seq (.reg (sq 35 [fa 0 3, ld 35, ln 36, bi .gtr 37 0, mv 38] ++ sg 39 true 40 [fa 0 3, ld 40, fa 0 3, ld 42, ln 43, bi .sub 44 1, ix 1 41 45, ld 46, ln 47, bi .eql 48 0] ++ sq 50 [pa 39 49])) (.cond (t0 50) .skip (.exit 2))) (.block 3 (.reg (sq 51 [fa 0 3, ld 51, fa 0 3, ld 53, ln 54, bi .sub 55 1, .slc (t0 52) 1 none (some (t0 56)) none, fa 0 3] ++ s0 (sr 1 58 57))))))) (.seq (.reg (sq 59 [la 1 3] ++ s0 (sr 1 2 59))) .ret)))))
theorem fn164 : MFn Tryz.prog 164 mc164 60 [.cell 2 1 true] := ⟨_, Tryz.func164, by kernel_rfl, Tryz.ntmps164, by kernel_rfl⟩
def F_spec_l2Plain_l2  : (List (List Int)) -> Option ((List (List Int)) ⊕ (List (List Int)))
 | out_1 =>
  if (decide (0 < (out_1.length : Int))) = true then
   if 0 <= (IntKind.i64.wrap ((out_1.length : Int) - 1)) /\ (IntKind.i64.wrap ((out_1.length : Int) - 1)) < (out_1.length : Int) then
    if (((out_1.getD (IntKind.i64.wrap ((out_1.length : Int) - 1)).toNat default).length : Int) == 0) = true then
     if 0 <= (IntKind.i64.wrap ((out_1.length : Int) - 1)) /\ (IntKind.i64.wrap ((out_1.length : Int) - 1)) <= (out_1.length : Int) then
      some (.inl (out_1.take (IntKind.i64.wrap ((out_1.length : Int) - 1)).toNat))
     else none
    else
     Option.map Sum.inr (
      some out_1)
   else none
  else
   Option.map Sum.inr (
    some out_1)
def F_spec_l2Plain_l1 (s : (List (List Int))) : (Int × (List (List Int))) -> Option ((Int × (List (List Int))) ⊕ (List (List Int)))
 | (i, out) =>
  if (decide (i < (s.length : Int))) = true then
   (F_spec_l2Gives s i).bind fun r =>
   if ((r.length : Int) == 1) = true then
    if 0 <= 0 /\ 0 < (r.length : Int) then
     if ((r.getD 0 default) == (IntKind.i64.wrap ((-1) - i))) = true then
      if (out.length + 1) * 24 <= 140737488355328 then
       some (.inl ((IntKind.i64.wrap (i + 1)), (out ++ [[]])))
      else none
     else
      if (out.length + 1) * 24 <= 140737488355328 then
       some (.inl ((IntKind.i64.wrap (i + 1)), (out ++ [r])))
      else none
    else none
   else
    if (out.length + 1) * 24 <= 140737488355328 then
     some (.inl ((IntKind.i64.wrap (i + 1)), (out ++ [r])))
    else none
  else
   Option.map Sum.inr (
    loopC (F_spec_l2Plain_l2) out)
def F_spec_l2Plain (s : (List (List Int))) : Option (List (List Int)) :=
 loopC (F_spec_l2Plain_l1 s) (0, [])
instance c_spec_l2Plain {s : (List (List Int))} : HasC (F_spec_l2Plain s) fun rr => PFun Tryz.prog 164 [D_impl_Subst s] (D_impl_Subst rr) := ⟨@fun rr h => by
 delta F_spec_l2Plain at h
 refine fn164.pureL (vcm_sound ?_)
 delta mc164
 refine stp ?_
 refine m_loopF h [4, 5, 7, 8, 9, 10, 11, 12, 13, 14, 15, 16, 17, 18, 19, 20, 21, 22, 23, 24, 25, 26, 27, 28, 29, 30, 31, 32, 33, 34] (fun pp => [(4, .d (iD pp.1))]) (fun pp => [(1, .obj 171 [.d (slD 1 (slD 1 iD) s)]), (2, .obj 171 [.d (.sl 0 (some true) [])]), (3, .obj 171 [.own 1 33 (List.map (slD 1 iD) pp.2)]), (33, .tok 22 1 pp.2.length)]) ?_ ?_
 ·try dsimp only
  refine (Weak.thawCell 3 0 33 22 1 rfl rfl rfl).trans ?_
  exact wk
 rintro ⟨i, out⟩ t1 h hb1
 unfold F_spec_l2Plain_l1 at h
 try dsimp only at h
 refine vcm_sound (stp ?_)
 refine it h (fun hc h => ?_) fun hc h => ?_
 ·refine rC h fun r hr h => ?_
  refine it h (fun hc h => ?_) fun hc h => ?_
  ·refine ndI h fun hp h => ?_
   refine it h (fun hc h => ?_) fun hc h => ?_
   ·refine ndI h fun hp h => ?_
    cases h
    refine ⟨_, rfl, ?_⟩
    refine (Weak.drop 28 (by omega)).trans ?_
    refine (Weak.drop 32 (by omega)).trans ?_
    exact wk
   refine ndI h fun hp h => ?_
   cases h
   refine ⟨_, rfl, ?_⟩
   refine (Weak.drop 32 (by omega)).trans ?_
   exact wk
  refine ndI h fun hp h => ?_
  cases h
  refine ⟨_, rfl, ?_⟩
  refine (Weak.drop 32 (by omega)).trans ?_
  exact wk
 replace h := inr_some h hb1
 refine m_loopF h [35, 36, 37, 38, 39, 40, 41, 42, 43, 44, 45, 46, 47, 48, 49, 50, 51, 52, 53, 54, 55, 56, 57, 58] (fun pp => []) (fun pp => [(1, .obj 171 [.d (slD 1 (slD 1 iD) s)]), (2, .obj 171 [.d (.sl 0 (some true) [])]), (3, .obj 171 [.d (slD 1 (slD 1 iD) pp)])]) ?_ ?_
 ·try dsimp only
  refine (Weak.drop 33 (by omega)).trans ?_
  exact wk
 rintro out_1 t1 h hb1
 unfold F_spec_l2Plain_l2 at h
 try dsimp only at h
 refine vcm_sound (stp ?_)
 exact aut⟩
def mc137 : MCode :=
 (.seq (.reg (sq 3 [bo 3 30 0] ++ sq 6 [.alloc 6 171 [.sl 0 (some true) []], mb false])) (.seq (.reg (sq 13 [.mksl 13 22 1 24 [.sl 0 (some true) []] false (i0 24) (i0 24), .build [.sl 0 (some true) []] [(0, 1, (t0 13))]] ++ sq 8 [.alloc 8 171 [.sl 0 (some true) []]] ++ s0 (sr 1 8 14))) (.seq (.reg (sq 9 [mi 0])) (.seq (.seq (.reg (sq 10 [mi 0])) (.block 0 (.loop (.seq (.seq (.reg (sq 15 [mv 10, mv 1, ln 16, bn .lss 15 17])) (.cond (t0 18) .skip (.exit 0))) (.seq (.block 1 (.seq (.seq (.reg (sq 21 [mv 9, mv 2, ln 22, bn .geq 21 23])) (.cond (t0 24) (.seq (.reg (sq 25 [.build [.sl 0 (some true) []] []] ++ s0 (sr 1 6 25) ++ sq 7 [mb false])) .ret) .skip)) (.seq (.seq (.reg (sq 26 [mv 1, mv 10, ix 1 26 27, ld 28, bi .geq 29 0])) (.cond (t0 30) (.seq (.seq (.draw (sq 31 [mv 1, mv 10, ix 1 31 32, ld 33, mv 2, mv 9, ix 1 35 36, ld 37, bn .neq 34 38]) [[], [], [0, 1], [2], [], [], [4, 5], [6], [3, 7]]) (.cond (t0 39) (.seq (.reg (sq 40 [.build [.sl 0 (some true) []] []] ++ s0 (sr 1 6 40) ++ sq 7 [mb false])) .ret) .skip)) (.seq (.reg (sq 41 [mv 9, bi .add 41 1] ++ sq 9 [mv 42])) (.exit 1))) .skip)) (.seq (.reg (sq 43 [la 1 3, mv 2, mv 9, cf 138 [43, 44, 45]] ++ sq 11 [mv 46])) (.seq (.draw (sq 47 [fa 0 8, ld 47, mv 1, mv 10, ix 1 49 50, ld 51, .bin .sub (i0 (-1)) (t0 52), ix 1 48 53, ld 54] ++ sq 12 [mv 55]) [[], [0], [], [], [2, 3], [4], [5], [1, 6], [7], [8, 0, 1, 2, 3, 4, 5, 6, 7, 8]]) (.seq (.seq (.reg (sq 56 [mv 12, ln 56, bi .gtr 57 0, mv 58] ++ sg 59 true 60 [mv 12, mv 11, cf 150 [60, 61], nt 62] ++ sq 64 [pa 59 63])) (.cond (t0 64) (.seq (.reg (sq 65 [.build [.sl 0 (some true) []] []] ++ s0 (sr 1 6 65) ++ sq 7 [mb false])) .ret) .skip)) (.seq (.draw (sq 66 [fa 0 8, ld 66, mv 1, mv 10, ix 1 68 69, ld 70, .bin .sub (i0 (-1)) (t0 71), mv 11, ix 1 67 72] ++ s0 (sr 1 74 73)) [[], [0], [], [], [2, 3], [4], [5], [], [1, 6, 0, 1, 2, 3, 4, 5, 6, 7], [8, 7, 0, 1, 2, 3, 4, 5, 6, 7]]) (.reg (sq 75 [mv 9, mv 11, ln 76, bn .add 75 77] ++ sq 9 [mv 78]))))))))) (.reg (sq 19 [mv 10, bi .add 19 1] ++ sq 10 [mv 20]))))))) (.seq (.reg (sq 79 [la 1 8, cf 164 [79]] ++ s0 (sr 1 6 80) ++ sq 7 [mb true])) .ret)))))
theorem fn137 : MFn Tryz.prog 137 mc137 81 [.cell 6 1 true, .tmp 7] := ⟨_, Tryz.func137, by kernel_rfl, Tryz.ntmps137, by kernel_rfl⟩
def F_spec_l4Match_l1 (sig : (List Int)) (p : (List Int)) (t : (List Int)) : (Int × Int × (List (List Int))) -> Option ((Int × Int × (List (List Int))) ⊕ ((List (List Int)) × Bool))
 | (k, i, l13) =>
  if (decide (i < (p.length : Int))) = true then
   if (decide ((t.length : Int) <= k)) = true then
    Option.map Sum.inr (
     some ([], false))
   else
    if 0 <= i /\ i < (p.length : Int) then
     if (decide (0 <= (p.getD i.toNat default))) = true then
      if 0 <= i /\ i < (p.length : Int) then
       if 0 <= k /\ k < (t.length : Int) then
        if ((p.getD i.toNat default) != (t.getD k.toNat default)) = true then
         Option.map Sum.inr (
          some ([], false))
        else
         some (.inl ((IntKind.i64.wrap (k + 1)), (IntKind.i64.wrap (i + 1)), l13))
       else none
      else none
     else
      (F_spec_l1Sub sig t k).bind fun r =>
      if 0 <= i /\ i < (p.length : Int) then
       if 0 <= (IntKind.i64.wrap ((-1) - (p.getD i.toNat default))) /\ (IntKind.i64.wrap ((-1) - (p.getD i.toNat default))) < (24 : Int) /\ (IntKind.i64.wrap ((-1) - (p.getD i.toNat default))) < (l13.length : Int) then
        if (decide (0 < ((l13.getD (IntKind.i64.wrap ((-1) - (p.getD i.toNat default))).toNat default).length : Int))) = true then
         (F_spec_SameTerm (l13.getD (IntKind.i64.wrap ((-1) - (p.getD i.toNat default))).toNat default) r).bind fun r_1 =>
         if r_1 = true then
          if 0 <= i /\ i < (p.length : Int) then
           if 0 <= (IntKind.i64.wrap ((-1) - (p.getD i.toNat default))) /\ (IntKind.i64.wrap ((-1) - (p.getD i.toNat default))) < (24 : Int) /\ (IntKind.i64.wrap ((-1) - (p.getD i.toNat default))) < (l13.length : Int) then
            some (.inl ((IntKind.i64.wrap (k + (r.length : Int))), (IntKind.i64.wrap (i + 1)), (l13.set (IntKind.i64.wrap ((-1) - (p.getD i.toNat default))).toNat r)))
           else none
          else none
         else
          Option.map Sum.inr (
           some ([], false))
        else
         if 0 <= i /\ i < (p.length : Int) then
          if 0 <= (IntKind.i64.wrap ((-1) - (p.getD i.toNat default))) /\ (IntKind.i64.wrap ((-1) - (p.getD i.toNat default))) < (24 : Int) /\ (IntKind.i64.wrap ((-1) - (p.getD i.toNat default))) < (l13.length : Int) then
           some (.inl ((IntKind.i64.wrap (k + (r.length : Int))), (IntKind.i64.wrap (i + 1)), (l13.set (IntKind.i64.wrap ((-1) - (p.getD i.toNat default))).toNat r)))
          else none
         else none
       else none
      else none
    else none
  else
   Option.map Sum.inr (
    if l13.length = 24 then
     (F_spec_l2Plain l13).bind fun r_2 =>
     some (r_2, true)
    else none)
def F_spec_l4Match (sig : (List Int)) (p : (List Int)) (t : (List Int)) : Option ((List (List Int)) × Bool) :=
 loopC (F_spec_l4Match_l1 sig p t) (0, 0, (List.replicate 24 []))
instance c_spec_l4Match {sig : (List Int)} {p : (List Int)} {t : (List Int)} : HasC (F_spec_l4Match sig p t) fun rr => PFunN Tryz.prog 137 [D_impl_Sig sig, (slD 1 iD) p, (slD 1 iD) t] [D_impl_Subst rr.1, bD rr.2] := ⟨@fun rr h => by
 delta F_spec_l4Match at h
 refine fn137.pureLN (vcm_sound ?_)
 delta mc137
 refine stp ?_
 refine nds ?_
 refine m_lW h [7, 9, 10, 11, 12, 15, 16, 17, 18, 19, 20, 21, 22, 23, 24, 25, 26, 27, 28, 29, 30, 31, 32, 33, 34, 35, 36, 37, 38, 39, 40, 41, 42, 43, 44, 45, 46, 47, 48, 49, 50, 51, 52, 53, 54, 55, 56, 57, 58, 59, 60, 61, 62, 63, 64, 65, 66, 67, 68, 69, 70, 71, 72, 73, 74, 75, 76, 77, 78] (fun pp => [(9, .d (iD pp.1)), (10, .d (iD pp.2.1))]) (fun pp => [(3, .obj 30 [.d (slD 1 iD sig)]), (6, .obj 171 [.d (.sl 0 (some true) [])]), (8, .obj 171 [.msl 1 13 0 24]), (13, .obj 22 (List.map (aD (slD 1 iD)) pp.2.2))]) ?_
 rintro ⟨k, i, l13⟩ t1 h hb1
 unfold F_spec_l4Match_l1 at h
 try dsimp only at h
 refine vcm_sound (stp ?_)
 refine iF h fun hc h => ?_
 replace h := inr_some h hb1
 refine ndI h fun hp h => ?_
 refine callR_freezeL 13 (slD 1 iD) l13 (by omega) rfl (fun _ => rfl) (stp ?_)
 refine rC h fun r_2 hr_2 h => ?_
 exact aut⟩
def mc171 : MCode :=
 (.seq (.reg (sq 1 [bo 1 171 0, .mv (.const .nilFunc)])) (.seq (.reg (sq 3 [.mkfn 175 [] [(t0 1)]] ++ sq 2 [mv 3])) .ret))
theorem fn171 : MFn Tryz.prog 171 mc171 4 [.tmp 2] := ⟨_, Tryz.func171, by kernel_rfl, Tryz.ntmps171, by kernel_rfl⟩
def F_impl_Subst_lookup (s : (List (List Int))) : Option (List (List Int)) :=
 some s
instance c_impl_Subst_lookup {s : (List (List Int))} : HasC (F_impl_Subst_lookup s) fun rr => ACalls Tryz.prog 171 [.d (.agg [slD 1 (slD 1 iD) s])] [] 0 fun xx ss => xx = .fn 175 [] [.ptr 1 0] /\ ss = [(1, .obj 171 [.d (slD 1 (slD 1 iD) rr)])] := ⟨@fun rr h => by
 delta F_impl_Subst_lookup at h
 refine fn171.callsO (vcm_sound ?_)
 delta mc171
 refine stp ?_
 exact aut⟩
def mc176 : MCode :=
 (.seq (.reg (sq 2 [bo 2 171 0] ++ sq 4 [.mv (.const (.slice none 0 0))])) (.seq (.seq (.reg (sq 5 [mv 1, fa 0 2, ld 6, ln 7, bn .geq 5 8, mv 9] ++ sg 10 false 11 [fa 0 2, ld 11, mv 1, ix 1 12 13, ld 14, ln 15, bi .eql 16 0] ++ sq 18 [po 10 17])) (.cond (t0 18) (.seq (.reg (sq 4 [.mv (.const (.slice none 0 0))])) .ret) .skip)) (.seq (.reg (sq 19 [fa 0 2, ld 19, mv 1, ix 1 20 21, ld 22] ++ sq 4 [mv 23])) .ret)))
theorem fn176 : MFn Tryz.prog 176 mc176 24 [.tmp 4] := ⟨_, Tryz.func176, by kernel_rfl, Tryz.ntmps176, by kernel_rfl⟩
def F_impl_Subst_byVar (s : (List (List Int))) (i : Int) : Option (List Int) :=
 if (decide ((s.length : Int) <= i)) = true then
  some []
 else
  if 0 <= i /\ i < (s.length : Int) then
   if (((s.getD i.toNat default).length : Int) == 0) = true then
    some []
   else
    if 0 <= i /\ i < (s.length : Int) then
     if 0 < (s.getD i.toNat default).length then
      some (s.getD i.toNat default)
     else none
    else none
  else none
instance c_impl_Subst_byVar {s : (List (List Int))} {i : Int} : HasC (F_impl_Subst_byVar s i) fun rr => PFun Tryz.prog 176 [D_impl_Subst s, iD i] ((nzD 1 iD) rr) := ⟨@fun rr h => by
 delta F_impl_Subst_byVar at h
 refine fn176.pureL (vcm_sound ?_)
 delta mc176
 refine stp ?_
 refine iF h fun hc h => ?_
 refine ndI h fun hp h => ?_
 refine iF h fun hc h => ?_
 refine ndI h fun hp h => ?_
 refine ndI h fun hp h => ?_
 cases h
 exact (le_nz_t (by omega)).2 trivial⟩
def mc175 : MCode :=
 (.seq (.reg (sq 3 [.mv (.const (.slice none 0 0))])) (.seq (.seq (.reg (sq 4 [mv 0, bi .geq 4 0])) (.cond (t0 5) (.seq (.reg (sq 3 [.mv (.const (.slice none 0 0))])) .ret) .skip)) (.seq (.reg (sq 6 [la 1 1, mv 0, .bin .sub (i0 (-1)) (t0 7), cf 176 [6, 8]] ++ sq 3 [mv 9])) .ret)))
theorem fn175 : MFn Tryz.prog 175 mc175 10 [.tmp 3] := ⟨_, Tryz.func175, by kernel_rfl, Tryz.ntmps175, by kernel_rfl⟩
def F_impl_Subst_lookup_1 (n : Int) (o0 : (List (List Int))) : Option (List Int) :=
 if (decide (0 <= n)) = true then
  some []
 else
  (F_impl_Subst_byVar o0 (IntKind.i64.wrap ((-1) - n))).bind fun r =>
  some r
instance c_impl_Subst_lookup_1 {n : Int} {o0 : (List (List Int))} : HasC (F_impl_Subst_lookup_1 n o0) fun rr => ACalls Tryz.prog 175 [.d (iD n), .ptr 0 0] [(0, .obj 171 [.d (slD 1 (slD 1 iD) o0)])] 1 fun xx ss => xx = .d (nzD 1 iD rr) /\ ss = [(0, .obj 171 [.d (slD 1 (slD 1 iD) o0)])] := ⟨@fun rr h => by
 delta F_impl_Subst_lookup_1 at h
 refine fn175.callsO (vcm_sound ?_)
 delta mc175
 refine stp ?_
 exact aut⟩
def mc155 : MCode :=
 (.seq (.reg (sq 2 [bo 2 171 0] ++ sq 4 [.mv (.const (.slice none 0 0)), mb false])) (.seq (.reg (sq 11 [la 1 2, cf 171 [11]] ++ sq 6 [mv 12])) (.seq (.reg (sq 13 [mv 1, ln 13, .mksl 15 2 1 8 [.lit (.int .i64 0)] true (i0 0) (t0 14)] ++ sq 7 [mv 15])) (.seq (.seq (.reg (sq 16 [mv 1, ln 16, mi 0])) (.block 0 (.loop (.seq (.reg (sq 19 [bn .lss 18 17])) (.seq (.cond (t0 19) .skip (.exit 0)) (.seq (.block 1 (.seq (.reg (sq 20 [ix 1 16 18, ld 20] ++ sq 9 [mv 21])) (.seq (.seq (.reg (sq 22 [mv 6, mv 9, .callv (t0 22) [(t0 23)]] ++ sq 10 [mv 24])) (.seq (.reg (sq 25 [mv 10, .eqnil false (t0 25)])) (.cond (t0 26) (.reg (sq 27 [mv 7, mv 9, .bsl 29 2 1 [(t0 28)], ap 30 2 1 8 27 29] ++ sq 7 [mv 30])) (.reg (sq 31 [mv 7, mv 10, ap 33 2 1 8 31 32] ++ sq 7 [mv 33]))))) (.seq (.reg (sq 34 [mv 7, ln 34, bi .gtr 35 60])) (.cond (t0 36) (.seq (.reg (sq 4 [.mv (.const (.slice none 0 0)), mb false])) .ret) .skip))))) (.reg (sq 37 [bi .add 18 1] ++ sq 18 [mv 37])))))))) (.seq (.reg (sq 38 [mv 7] ++ sq 4 [mv 38, mb true])) .ret)))))
theorem fn155 : MFn Tryz.prog 155 mc155 39 [.tmp 4, .tmp 5] := ⟨_, Tryz.func155, by kernel_rfl, Tryz.ntmps155, by kernel_rfl⟩
def F_impl_fill_l1 (t : (List Int)) (r : (List (List Int))) : ((List Int) × Int) -> Option (((List Int) × Int) ⊕ ((List Int) × Bool))
 | (out, v18) =>
  if (decide (v18 < (t.length : Int))) = true then
   if 0 <= v18 /\ v18 < (t.length : Int) then
    (F_impl_Subst_lookup_1 (t.getD v18.toNat default) r).bind fun r_1 =>
    if r_1.isEmpty = true then
     if (out.length + 1) * 8 <= 140737488355328 then
      if (decide (60 < ((out ++ [(t.getD v18.toNat default)]).length : Int))) = true then
       Option.map Sum.inr (
        some ([], false))
      else
       some (.inl ((out ++ [(t.getD v18.toNat default)]), (IntKind.i64.wrap (v18 + 1))))
     else none
    else
     if (out.length + r_1.length) * 8 <= 140737488355328 then
      if (decide (60 < ((out ++ r_1).length : Int))) = true then
       Option.map Sum.inr (
        some ([], false))
      else
       some (.inl ((out ++ r_1), (IntKind.i64.wrap (v18 + 1))))
     else none
   else none
  else
   Option.map Sum.inr (
    some (out, true))
def F_impl_fill (s : (List (List Int))) (t : (List Int)) : Option ((List Int) × Bool) :=
 (F_impl_Subst_lookup s).bind fun r =>
 if 0 <= (t.length : Int) /\ 8 * (t.length : Int) <= 281474976710656 then
  loopC (F_impl_fill_l1 t r) ([], 0)
 else none
instance c_impl_fill {s : (List (List Int))} {t : (List Int)} : HasC (F_impl_fill s t) fun rr => PFunN Tryz.prog 155 [D_impl_Subst s, (slD 1 iD) t] [(slD 1 iD) rr.1, bD rr.2] := ⟨@fun rr h => by
 delta F_impl_fill at h
 refine fn155.pureLN (vcm_sound ?_)
 delta mc155
 refine stp ?_
 refine rCo [] [(1, 12)] h fun r hr h => ?_
 refine ndI h fun hp h => ?_
 refine m_lW h [4, 5, 7, 9, 10, 18, 19, 20, 21, 22, 23, 24, 25, 26, 27, 28, 29, 30, 31, 32, 33, 34, 35, 36, 37] (fun pp => [(7, .own 1 15 (List.map iD pp.1)), (18, .d (iD pp.2))]) (fun pp => [(2, .obj 171 [.d (slD 1 (slD 1 iD) s)]), (12, .obj 171 [.d (slD 1 (slD 1 iD) r)]), (15, .tok 2 1 pp.1.length)]) ?_
 rintro ⟨out, v18⟩ t1 h hb1
 unfold F_impl_fill_l1 at h
 try dsimp only at h
 refine vcm_sound (stp ?_)
 refine iT h fun hc h => ?_
 refine ndI h fun hp h => ?_
 refine need_i (by kernel_rfl) ?_
 refine rCo [(0, 12)] [] h fun r_1 hr_1 h => ?_
 refine iT h fun hc h => ?_
 refine ndI h fun hp h => ?_
 refine iF h fun hc h => ?_
 cases h
 refine ⟨_, rfl, ?_⟩
 refine (Weak.drop 29 (by omega)).trans ?_
 exact wk⟩
def mc139 : MCode :=
 (.seq (.reg (sq 2 [bo 2 171 0] ++ sq 4 [.mv (.const (.slice none 0 0)), mb false])) (.seq (.reg (sq 8 [.bsl 8 2 1 []] ++ sq 6 [mv 8])) (.seq (.seq (.reg (sq 7 [mi 0])) (.block 0 (.loop (.seq (.seq (.reg (sq 9 [mv 7, mv 1, ln 10, bn .lss 9 11])) (.cond (t0 12) .skip (.exit 0))) (.seq (.block 1 (.seq (.seq (.reg (sq 15 [mv 1, mv 7, ix 1 15 16, ld 17, bi .lss 18 0])) (.cond (t0 19) (.draw (sq 20 [mv 6, la 1 2, mv 1, mv 7, ix 1 22 23, ld 24, .bin .sub (i0 (-1)) (t0 25), cf 165 [21, 26], ap 28 2 1 8 20 27] ++ sq 6 [mv 28]) [[], [], [], [], [2, 3], [4], [5], [1, 6], [0, 7, 7], [8, 8, 0, 1, 2, 3, 4, 5, 6, 7, 8]]) (.reg (sq 29 [mv 6, mv 1, mv 7, ix 1 30 31, ld 32, .bsl 34 2 1 [(t0 33)], ap 35 2 1 8 29 34] ++ sq 6 [mv 35])))) (.seq (.reg (sq 36 [mv 6, ln 36, bi .gtr 37 60])) (.cond (t0 38) (.seq (.reg (sq 39 [.bsl 39 2 1 []] ++ sq 4 [mv 39, mb false])) .ret) .skip)))) (.reg (sq 13 [mv 7, bi .add 13 1] ++ sq 7 [mv 14]))))))) (.seq (.reg (sq 40 [mv 6] ++ sq 4 [mv 40, mb true])) .ret))))
theorem fn139 : MFn Tryz.prog 139 mc139 41 [.tmp 4, .tmp 5] := ⟨_, Tryz.func139, by kernel_rfl, Tryz.ntmps139, by kernel_rfl⟩
def F_spec_l2Filled_l1 (s : (List (List Int))) (t : (List Int)) : ((List Int) × Int) -> Option (((List Int) × Int) ⊕ ((List Int) × Bool))
 | (out, i) =>
  if (decide (i < (t.length : Int))) = true then
   if 0 <= i /\ i < (t.length : Int) then
    if (decide ((t.getD i.toNat default) < 0)) = true then
     if 0 <= i /\ i < (t.length : Int) then
      (F_spec_l2Gives s (IntKind.i64.wrap ((-1) - (t.getD i.toNat default)))).bind fun r =>
      if (out.length + r.length) * 8 <= 140737488355328 then
       if (decide (60 < ((out ++ r).length : Int))) = true then
        Option.map Sum.inr (
         some ([], false))
       else
        some (.inl ((out ++ r), (IntKind.i64.wrap (i + 1))))
      else none
     else none
    else
     if 0 <= i /\ i < (t.length : Int) then
      if (out.length + 1) * 8 <= 140737488355328 then
       if (decide (60 < ((out ++ [(t.getD i.toNat default)]).length : Int))) = true then
        Option.map Sum.inr (
         some ([], false))
       else
        some (.inl ((out ++ [(t.getD i.toNat default)]), (IntKind.i64.wrap (i + 1))))
      else none
     else none
   else none
  else
   Option.map Sum.inr (
    some (out, true))
def F_spec_l2Filled (s : (List (List Int))) (t : (List Int)) : Option ((List Int) × Bool) :=
 loopC (F_spec_l2Filled_l1 s t) ([], 0)
instance c_spec_l2Filled {s : (List (List Int))} {t : (List Int)} : HasC (F_spec_l2Filled s t) fun rr => PFunN Tryz.prog 139 [D_impl_Subst s, (slD 1 iD) t] [(slD 1 iD) rr.1, bD rr.2] := ⟨@fun rr h => by
 delta F_spec_l2Filled at h
 refine fn139.pureLN (vcm_sound ?_)
 delta mc139
 refine stp ?_
 refine m_lW h [4, 5, 6, 7, 9, 10, 11, 12, 13, 14, 15, 16, 17, 18, 19, 20, 21, 22, 23, 24, 25, 26, 27, 28, 29, 30, 31, 32, 33, 34, 35, 36, 37, 38, 39] (fun pp => [(6, .own 1 8 (List.map iD pp.1)), (7, .d (iD pp.2))]) (fun pp => [(2, .obj 171 [.d (slD 1 (slD 1 iD) s)]), (8, .tok 2 1 pp.1.length)]) ?_
 rintro ⟨out, i⟩ t1 h hb1
 unfold F_spec_l2Filled_l1 at h
 try dsimp only at h
 refine vcm_sound (stp ?_)
 refine iT h fun hc h => ?_
 refine ndI h fun hp h => ?_
 refine iF h fun hc h => ?_
 refine ndI h fun hp h => ?_
 refine ndI h fun hp h => ?_
 refine iF h fun hc h => ?_
 cases h
 refine ⟨_, rfl, ?_⟩
 refine (Weak.drop 34 (by omega)).trans ?_
 exact wk⟩
end Go.Proofs.YtglpjlpmijfocaaGreat
namespace Go.Proofs.YtglpjlpmijfocaaGreat
open Go Abx
attribute [local irreducible] vcm vgo vdr vrun vdrun MWp GhostQ BrC BrO BrG BrD BrH AmbO callR callD drQ EnvLe StoLe
set_option maxHeartbeats 4000000
def D_impl_Step (x : (Int × Int × (List Int))) : D := .agg [iD x.1, iD x.2.1, (slD 1 iD) x.2.2]
instance : Cel D_impl_Step 3 := ⟨fun _ => rfl⟩
attribute [go_sem] D_impl_Step
def mc152 : MCode :=
 (.seq (.reg (sq 3 [bo 3 30 0] ++ sq 6 [mb false])) (.seq (.reg (sq 10 [la 1 3, mv 1, mv 2, cf 154 [10, 11, 12]] ++ sq 9 [mv 13] ++ sq 14 [ex 9 0, ex 9 1] ++ sq 7 [.alloc 7 171 [.sl 0 (some true) []]] ++ s0 (sr 1 7 14) ++ sq 8 [mv 15])) (.seq (.reg (sq 16 [mv 8] ++ sq 6 [mv 16])) .ret)))
theorem fn152 : MFn Tryz.prog 152 mc152 17 [.tmp 6] := ⟨_, Tryz.func152, by kernel_rfl, Tryz.ntmps152, by kernel_rfl⟩
def F_impl_instance (sig : (List Int)) (p : (List Int)) (t : (List Int)) : Option Bool :=
 (F_impl_match sig p t).bind fun r =>
 some r.2
instance c_impl_instance {sig : (List Int)} {p : (List Int)} {t : (List Int)} : HasC (F_impl_instance sig p t) fun rr => PFun Tryz.prog 152 [D_impl_Sig sig, (slD 1 iD) p, (slD 1 iD) t] (bD rr) := ⟨@fun rr h => by
 delta F_impl_instance at h
 refine fn152.pureL (vcm_sound ?_)
 delta mc152
 refine stp ?_
 exact aut⟩
def mc130 : MCode :=
 (.seq (.reg (sq 4 [bo 4 33 0] ++ sq 8 [mb false])) (.seq (.draw (sq 9 [fa 0 4, la 1 9, fa 1 4, ld 11, mv 3, ix 2 12 13, fa 0 14, ld 15, fa 0 4, la 1 17, mv 1, mv 2, cf 153 [18, 19, 20], cf 152 [10, 16, 21]] ++ sq 8 [mv 22]) [[], [0], [], [2], [], [3, 4], [5], [6], [], [8], [], [], [9, 10, 11], [1, 7, 12, 12], [13, 13, 0, 1, 2, 3, 4, 5, 6, 7, 8, 9, 10, 11, 12, 13]]) .ret))
theorem fn130 : MFn Tryz.prog 130 mc130 23 [.tmp 8] := ⟨_, Tryz.func130, by kernel_rfl, Tryz.ntmps130, by kernel_rfl⟩
def F_impl_redex (sys : ((List Int) × (List ((List Int) × (List Int))))) (t : (List Int)) (at' : Int) (rule : Int) : Option Bool :=
 if 0 <= rule /\ rule < (sys.2.length : Int) then
  (F_impl_subAt sys.1 t at').bind fun r =>
  (F_impl_instance sys.1 ((sys.2.getD rule.toNat default).1) r).bind fun r_1 =>
  some r_1
 else none
instance c_impl_redex {sys : ((List Int) × (List ((List Int) × (List Int))))} {t : (List Int)} {at' : Int} {rule : Int} : HasC (F_impl_redex sys t at' rule) fun rr => PFun Tryz.prog 130 [D_impl_System sys, (slD 1 iD) t, iD at', iD rule] (bD rr) := ⟨@fun rr h => by
 delta F_impl_redex at h
 refine fn130.pureL (vcm_sound ?_)
 delta mc130
 refine stp ?_
 exact aut⟩
def F_slices_Grow_int64_int64 (n : Int) : Option (List Int) := if 0 <= n /\ n * 8 <= 140737488355328 then some [] else none
instance c_slices_Grow_int64_int64 {n : Int} : HasC (F_slices_Grow_int64_int64 n) fun rr => ACalls Tryz.prog 80 [.d (.sl 0 (some true) []), .d (iD n)] [] 0 fun xx ss => xx = .own 1 0 (List.map iD rr) /\ ss = [(0, .tok 2 1 rr.length)] := ⟨fun h => by
 obtain ⟨hp, h⟩ := need_some h
 cases h
 exact grow_nil (i0 := Tryz.t2) (z := _) Tryz.grow80 (by kernel_rfl) rfl (by decide) (by decide) (by decide) (by decide) hp.1 hp.2⟩
def mc51 : MCode :=
 (.seq (.reg (sq 2 [.mv (.const (.slice none 0 0))])) (.seq (.reg (sq 3 [mi 0])) (.seq (.seq (.reg (sq 9 [mv 0, ln 9, mi 0])) (.block 0 (.loop (.seq (.reg (sq 12 [bn .lss 11 10])) (.seq (.cond (t0 12) .skip (.exit 0)) (.seq (.block 1 (.seq (.reg (sq 13 [ix 1 9 11, ld 13] ++ sq 5 [mv 14])) (.seq (.reg (sq 15 [mv 3, mv 5, ln 16, bn .add 15 17] ++ sq 3 [mv 18])) (.seq (.reg (sq 19 [mv 3, bi .lss 19 0])) (.cond (t0 20) (.reg (sq 21 [.dead] ++ s0 .dead)) .skip))))) (.reg (sq 22 [bi .add 11 1] ++ sq 11 [mv 22])))))))) (.seq (.reg (sq 23 [mv 3, .callf 80 [(.const (.slice none 0 0)), (t0 23)]] ++ sq 6 [mv 24])) (.seq (.seq (.reg (sq 25 [mv 0, ln 25, mi 0])) (.block 2 (.loop (.seq (.reg (sq 28 [bn .lss 27 26])) (.seq (.cond (t0 28) .skip (.exit 2)) (.seq (.block 3 (.seq (.reg (sq 29 [ix 1 25 27, ld 29] ++ sq 8 [mv 30])) (.reg (sq 31 [mv 6, mv 8, ap 33 2 1 8 31 32] ++ sq 6 [mv 33])))) (.reg (sq 34 [bi .add 27 1] ++ sq 27 [mv 34])))))))) (.seq (.reg (sq 35 [mv 6] ++ sq 2 [mv 35])) .ret))))))
theorem fn51 : MFn Tryz.prog 51 mc51 36 [.tmp 2] := ⟨_, Tryz.func51, by kernel_rfl, Tryz.ntmps51, by kernel_rfl⟩
def F_slices_Concat_int64_int64_l2 (slices : (List (List Int))) : ((List Int) × Int) -> Option (((List Int) × Int) ⊕ (List Int))
 | (newslice, v27) =>
  if (decide (v27 < (slices.length : Int))) = true then
   if 0 <= v27 /\ v27 < (slices.length : Int) then
    if (newslice.length + (slices.getD v27.toNat default).length) * 8 <= 140737488355328 then
     some (.inl ((newslice ++ (slices.getD v27.toNat default)), (IntKind.i64.wrap (v27 + 1))))
    else none
   else none
  else
   Option.map Sum.inr (
    some newslice)
def F_slices_Concat_int64_int64_l1 (slices : (List (List Int))) : (Int × Int) -> Option ((Int × Int) ⊕ (List Int))
 | (size, v11) =>
  if (decide (v11 < (slices.length : Int))) = true then
   if 0 <= v11 /\ v11 < (slices.length : Int) then
    if (decide ((IntKind.i64.wrap (size + ((slices.getD v11.toNat default).length : Int))) < 0)) = true then
     none
    else
     some (.inl ((IntKind.i64.wrap (size + ((slices.getD v11.toNat default).length : Int))), (IntKind.i64.wrap (v11 + 1))))
   else none
  else
   Option.map Sum.inr (
    (F_slices_Grow_int64_int64 size).bind fun r =>
    loopC (F_slices_Concat_int64_int64_l2 slices) (r, 0))
def F_slices_Concat_int64_int64 (slices : (List (List Int))) : Option (List Int) :=
 loopC (F_slices_Concat_int64_int64_l1 slices) (0, 0)
instance c_slices_Concat_int64_int64 {slices : (List (List Int))} : HasC (F_slices_Concat_int64_int64 slices) fun rr => ACalls Tryz.prog 51 [.d (slD 1 (slD 1 iD) slices)] [] 0 fun xx ss => xx = .own 1 24 (List.map iD rr) /\ ss = [(24, .tok 2 1 rr.length)] := ⟨@fun rr h => by
 delta F_slices_Concat_int64_int64 at h
 refine fn51.callsO (vcm_sound ?_)
 delta mc51
 refine stp ?_
 refine m_lW h [3, 5, 11, 12, 13, 14, 15, 16, 17, 18, 19, 20, 21, 22] (fun pp => [(3, .d (iD pp.1)), (11, .d (iD pp.2))]) (fun pp => []) ?_
 rintro ⟨size, v11⟩ t1 h hb1
 unfold F_slices_Concat_int64_int64_l1 at h
 try dsimp only at h
 refine vcm_sound (stp ?_)
 refine iF h fun hc h => ?_
 replace h := inr_some h hb1
 refine rCo [] [(0, 24)] h fun r hr h => ?_
 refine m_lW h [6, 8, 27, 28, 29, 30, 31, 32, 33, 34] (fun pp => [(6, .own 1 24 (List.map iD pp.1)), (27, .d (iD pp.2))]) (fun pp => [(24, .tok 2 1 pp.1.length)]) ?_
 rintro ⟨newslice, v27⟩ t1 h hb1
 unfold F_slices_Concat_int64_int64_l2 at h
 try dsimp only at h
 refine vcm_sound (stp ?_)
 exact aut⟩
def mc156 : MCode :=
 (.seq (.reg (sq 4 [bo 4 30 0] ++ sq 8 [.mv (.const (.slice none 0 0)), mb false])) (.seq (.draw (sq 11 [mv 1, mv 2, .slc (t0 11) 1 none (some (t0 12)) none, mv 3, mv 1, la 1 4, mv 1, mv 2, cf 127 [16, 17, 18], .slc (t0 15) 1 (some (t0 19)) none none, .bsl 21 22 1 [(t0 13), (t0 14), (t0 20)], cf 51 [21]] ++ sq 10 [mv 22]) [[], [], [0, 1], [], [], [], [], [], [5, 6, 7], [4, 8], [2, 3, 9], [10, 8], [11, 11, 0, 1, 2, 3, 4, 5, 6, 7, 8, 9, 10, 11]]) (.seq (.seq (.reg (sq 23 [mv 10, ln 23, bi .gtr 24 60])) (.cond (t0 25) (.seq (.reg (sq 8 [.mv (.const (.slice none 0 0)), mb false])) .ret) .skip)) (.seq (.reg (sq 26 [mv 10] ++ sq 8 [mv 26, mb true])) .ret))))
theorem fn156 : MFn Tryz.prog 156 mc156 27 [.tmp 8, .tmp 9] := ⟨_, Tryz.func156, by kernel_rfl, Tryz.ntmps156, by kernel_rfl⟩
def F_impl_put (sig : (List Int)) (t : (List Int)) (at' : Int) (u : (List Int)) : Option ((List Int) × Bool) :=
 if 0 <= at' /\ at' <= (t.length : Int) then
  (F_impl_endAt sig t at').bind fun r =>
  if 0 <= r /\ r <= (t.length : Int) then
   (F_slices_Concat_int64_int64 [(t.take at'.toNat), u, (t.drop r.toNat)]).bind fun r_1 =>
   if (decide (60 < (r_1.length : Int))) = true then
    some ([], false)
   else
    some (r_1, true)
  else none
 else none
instance c_impl_put {sig : (List Int)} {t : (List Int)} {at' : Int} {u : (List Int)} : HasC (F_impl_put sig t at' u) fun rr => PFunN Tryz.prog 156 [D_impl_Sig sig, (slD 1 iD) t, iD at', (slD 1 iD) u] [(slD 1 iD) rr.1, bD rr.2] := ⟨@fun rr h => by
 delta F_impl_put at h
 refine fn156.pureLN (vcm_sound ?_)
 delta mc156
 refine stp ?_
 refine ndI h fun hp h => ?_
 refine dC h fun r hr h => ?_
 refine ndI h fun hp h => ?_
 refine dCo [] [(24, 22)] h fun r_1 hr_1 h => ?_
 exact aut⟩
def mc131 : MCode :=
 (.seq (.reg (sq 4 [bo 4 33 0] ++ sq 8 [.mv (.const (.slice none 0 0)), mb false])) (.seq (.draw (sq 14 [fa 0 4, la 1 14, fa 1 4, ld 16, mv 3, ix 2 17 18, fa 0 19, ld 20, fa 0 4, la 1 22, mv 1, mv 2, cf 153 [23, 24, 25], cf 154 [15, 21, 26]] ++ sq 13 [mv 27] ++ sq 28 [ex 13 0, ex 13 1] ++ sq 10 [.alloc 10 171 [.sl 0 (some true) []]] ++ s0 (sr 1 10 28) ++ sq 11 [mv 29]) [[], [0], [], [2], [], [3, 4], [5], [6], [], [8], [], [], [9, 10, 11], [1, 7, 12, 12], [13], [14], [14], [], [17, 15, 13, 0, 1, 2, 3, 4, 5, 6, 7, 8, 9, 10, 11, 12, 13, 14, 15, 17], [16, 18, 0, 1, 2, 3, 4, 5, 6, 7, 8, 9, 10, 11, 12, 13, 14, 15, 16, 17, 18]]) (.seq (.seq (.reg (sq 30 [mv 11, nt 30])) (.cond (t0 31) (.seq (.reg (sq 8 [.mv (.const (.slice none 0 0)), mb false])) .ret) .skip)) (.seq (.draw (sq 33 [la 1 10, fa 1 4, ld 34, mv 3, ix 2 35 36, fa 1 37, ld 38, cf 155 [33, 39]] ++ sq 32 [mv 40] ++ sq 41 [ex 32 0, ex 32 1] ++ sq 12 [mv 41] ++ sq 11 [mv 42]) [[], [], [1], [], [2, 3], [4], [5], [0, 6], [7], [8], [8], [9, 7, 0, 1, 2, 3, 4, 5, 6, 7, 8, 9], [10, 11, 0, 1, 2, 3, 4, 5, 6, 7, 8, 9, 10, 11]]) (.seq (.seq (.reg (sq 43 [mv 11, nt 43])) (.cond (t0 44) (.seq (.reg (sq 8 [.mv (.const (.slice none 0 0)), mb false])) .ret) .skip)) (.seq (.reg (sq 45 [fa 0 4, la 1 45, mv 1, mv 2, mv 12, cf 156 [46, 47, 48, 49], ex 50 0, ex 50 1] ++ sq 8 [mv 51, mv 52])) .ret))))))
theorem fn131 : MFn Tryz.prog 131 mc131 53 [.tmp 8, .tmp 9] := ⟨_, Tryz.func131, by kernel_rfl, Tryz.ntmps131, by kernel_rfl⟩
def F_impl_step (sys : ((List Int) × (List ((List Int) × (List Int))))) (t : (List Int)) (at' : Int) (rule : Int) : Option ((List Int) × Bool) :=
 if 0 <= rule /\ rule < (sys.2.length : Int) then
  (F_impl_subAt sys.1 t at').bind fun r =>
  (F_impl_match sys.1 ((sys.2.getD rule.toNat default).1) r).bind fun r_1 =>
  if r_1.2 = true then
   if 0 <= rule /\ rule < (sys.2.length : Int) then
    (F_impl_fill r_1.1 ((sys.2.getD rule.toNat default).2)).bind fun r_2 =>
    if r_2.2 = true then
     (F_impl_put sys.1 t at' r_2.1).bind fun r_3 =>
     some r_3
    else
     some ([], false)
   else none
  else
   some ([], false)
 else none
instance c_impl_step {sys : ((List Int) × (List ((List Int) × (List Int))))} {t : (List Int)} {at' : Int} {rule : Int} : HasC (F_impl_step sys t at' rule) fun rr => PFunN Tryz.prog 131 [D_impl_System sys, (slD 1 iD) t, iD at', iD rule] [(slD 1 iD) rr.1, bD rr.2] := ⟨@fun rr h => by
 delta F_impl_step at h
 refine fn131.pureLN (vcm_sound ?_)
 delta mc131
 refine stp ?_
 exact aut⟩
def mc140 : MCode :=
 (.seq (.reg (sq 4 [bo 4 30 0] ++ sq 8 [.mv (.const (.slice none 0 0)), mb false])) (.seq (.reg (sq 11 [mv 1, mv 2, .slc (t0 11) 1 none (some (t0 12)) none, cf 94 [13], mv 3, ap 16 2 1 8 14 15] ++ sq 10 [mv 16])) (.seq (.reg (sq 17 [mv 10, mv 1, la 1 4, mv 1, mv 2, cf 87 [19, 20, 21], .slc (t0 18) 1 (some (t0 22)) none none, ap 24 2 1 8 17 23] ++ sq 10 [mv 24])) (.seq (.seq (.reg (sq 25 [mv 10, ln 25, bi .gtr 26 60])) (.cond (t0 27) (.seq (.reg (sq 28 [.bsl 28 2 1 []] ++ sq 8 [mv 28, mb false])) .ret) .skip)) (.seq (.reg (sq 29 [mv 10] ++ sq 8 [mv 29, mb true])) .ret)))))
theorem fn140 : MFn Tryz.prog 140 mc140 30 [.tmp 8, .tmp 9] := ⟨_, Tryz.func140, by kernel_rfl, Tryz.ntmps140, by kernel_rfl⟩
def F_spec_l3Put (sig : (List Int)) (t : (List Int)) (at' : Int) (u : (List Int)) : Option ((List Int) × Bool) :=
 if 0 <= at' /\ at' <= (t.length : Int) then
  (F_spec_l1Copy (t.take at'.toNat)).bind fun r =>
  if (r.length + u.length) * 8 <= 140737488355328 then
   (F_spec_l1End sig t at').bind fun r_1 =>
   if 0 <= r_1 /\ r_1 <= (t.length : Int) then
    if ((r ++ u).length + (t.drop r_1.toNat).length) * 8 <= 140737488355328 then
     if (decide (60 < (((r ++ u) ++ (t.drop r_1.toNat)).length : Int))) = true then
      some ([], false)
     else
      some (((r ++ u) ++ (t.drop r_1.toNat)), true)
    else none
   else none
  else none
 else none
instance c_spec_l3Put {sig : (List Int)} {t : (List Int)} {at' : Int} {u : (List Int)} : HasC (F_spec_l3Put sig t at' u) fun rr => PFunN Tryz.prog 140 [D_impl_Sig sig, (slD 1 iD) t, iD at', (slD 1 iD) u] [(slD 1 iD) rr.1, bD rr.2] := ⟨@fun rr h => by
 delta F_spec_l3Put at h
 refine fn140.pureLN (vcm_sound ?_)
 delta mc140
 refine stp ?_
 refine ndI h fun hp h => ?_
 refine rCo [] [(3, 14)] h fun r hr h => ?_
 exact aut⟩
def mc105 : MCode :=
 (.seq (.reg (sq 4 [bo 4 33 0] ++ sq 8 [.mv (.const (.slice none 0 0)), mb false])) (.seq (.reg (sq 15 [fa 1 4, ld 15, mv 3, ix 2 16 17, la 2 18] ++ sq 10 [.alloc 10 68 [.sl 0 (some true) [], .sl 0 (some true) []]] ++ s0 (sr 2 10 19))) (.seq (.draw (sq 21 [fa 0 4, la 1 21, fa 0 10, ld 23, fa 0 4, la 1 25, mv 1, mv 2, cf 138 [26, 27, 28], cf 137 [22, 24, 29]] ++ sq 20 [mv 30] ++ sq 31 [ex 20 0, ex 20 1] ++ sq 11 [.alloc 11 171 [.sl 0 (some true) []]] ++ s0 (sr 1 11 31) ++ sq 12 [mv 32]) [[], [0], [], [2], [], [4], [], [], [5, 6, 7], [1, 3, 8, 8], [9], [10], [10], [], [13, 11, 9, 0, 1, 2, 3, 4, 5, 6, 7, 8, 9, 10, 11, 13], [12, 14, 0, 1, 2, 3, 4, 5, 6, 7, 8, 9, 10, 11, 12, 13, 14]]) (.seq (.seq (.reg (sq 33 [mv 12, nt 33])) (.cond (t0 34) (.seq (.reg (sq 35 [.bsl 35 2 1 []] ++ sq 8 [mv 35, mb false])) .ret) .skip)) (.seq (.reg (sq 37 [la 1 11, fa 1 10, ld 38, cf 139 [37, 39]] ++ sq 36 [mv 40] ++ sq 41 [ex 36 0, ex 36 1] ++ sq 13 [mv 41, mv 42])) (.seq (.seq (.reg (sq 43 [mv 14, nt 43])) (.cond (t0 44) (.seq (.reg (sq 45 [.bsl 45 2 1 []] ++ sq 8 [mv 45, mb false])) .ret) .skip)) (.seq (.reg (sq 46 [fa 0 4, la 1 46, mv 1, mv 2, mv 13, cf 140 [47, 48, 49, 50], ex 51 0, ex 51 1] ++ sq 8 [mv 52, mv 53])) .ret)))))))
theorem fn105 : MFn Tryz.prog 105 mc105 54 [.tmp 8, .tmp 9] := ⟨_, Tryz.func105, by kernel_rfl, Tryz.ntmps105, by kernel_rfl⟩
def F_spec_l7Step (sys : ((List Int) × (List ((List Int) × (List Int))))) (t : (List Int)) (at' : Int) (rule : Int) : Option ((List Int) × Bool) :=
 if 0 <= rule /\ rule < (sys.2.length : Int) then
  (F_spec_l1Sub sys.1 t at').bind fun r =>
  (F_spec_l4Match sys.1 ((sys.2.getD rule.toNat default).1) r).bind fun r_1 =>
  if r_1.2 = true then
   (F_spec_l2Filled r_1.1 ((sys.2.getD rule.toNat default).2)).bind fun r_2 =>
   if r_2.2 = true then
    (F_spec_l3Put sys.1 t at' r_2.1).bind fun r_3 =>
    some r_3
   else
    some ([], false)
  else
   some ([], false)
 else none
instance c_spec_l7Step {sys : ((List Int) × (List ((List Int) × (List Int))))} {t : (List Int)} {at' : Int} {rule : Int} : HasC (F_spec_l7Step sys t at' rule) fun rr => PFunN Tryz.prog 105 [D_impl_System sys, (slD 1 iD) t, iD at', iD rule] [(slD 1 iD) rr.1, bD rr.2] := ⟨@fun rr h => by
 delta F_spec_l7Step at h
 refine fn105.pureLN (vcm_sound ?_)
 delta mc105
 refine stp ?_
 exact aut⟩
def mc123 : MCode :=
 (.seq (.reg (sq 2 [bo 2 33 0] ++ sq 4 [.mv (.const (.slice none 0 0))])) (.seq (.reg (sq 10 [.bsl 10 97 3 []] ++ sq 5 [mv 10])) (.seq (.seq (.reg (sq 6 [mi 0])) (.block 0 (.loop (.seq (.seq (.reg (sq 11 [mv 6, mv 1, ln 12, bn .lss 11 13])) (.cond (t0 14) .skip (.exit 0))) (.seq (.block 1 (.seq (.reg (sq 7 [mi 0])) (.block 2 (.loop (.seq (.seq (.reg (sq 17 [mv 7, fa 1 2, ld 18, ln 19, bn .lss 17 20])) (.cond (t0 21) .skip (.exit 2))) (.seq (.block 3 (.seq (.reg (sq 25 [la 2 2, mv 1, mv 6, mv 7, cf 105 [25, 26, 27, 28]] ++ sq 24 [mv 29] ++ sq 30 [ex 24 0, ex 24 1] ++ sq 8 [mv 30, mv 31])) (.seq (.reg (sq 32 [mv 9])) (.cond (t0 32) (.reg (sq 33 [mv 5, mv 6, mv 7, mv 8, .build [.lit (.int .i64 0), .lit (.int .i64 0), .sl 0 (some true) []] [(0, 1, (t0 34)), (1, 1, (t0 35)), (2, 1, (t0 36))], .bsl 38 97 3 [(t0 37)], ap 39 97 3 40 33 38] ++ sq 5 [mv 39])) .skip)))) (.reg (sq 22 [mv 7, bi .add 22 1] ++ sq 7 [mv 23])))))))) (.reg (sq 15 [mv 6, bi .add 15 1] ++ sq 6 [mv 16]))))))) (.seq (.reg (sq 40 [mv 5] ++ sq 4 [mv 40])) .ret))))
theorem fn123 : MFn Tryz.prog 123 mc123 41 [.tmp 4] := ⟨_, Tryz.func123, by kernel_rfl, Tryz.ntmps123, by kernel_rfl⟩
def F_spec_l7Steps_l2 (sys : ((List Int) × (List ((List Int) × (List Int))))) (t : (List Int)) (at' : Int) : ((List (Int × Int × (List Int))) × Int) -> Option (((List (Int × Int × (List Int))) × Int) ⊕ (((List (Int × Int × (List Int))) × Int) ⊕ (List (Int × Int × (List Int)))))
 | (out_1, rule) =>
  if (decide (rule < (sys.2.length : Int))) = true then
   (F_spec_l7Step sys t at' rule).bind fun r =>
   if r.2 = true then
    if (out_1.length + 1) * 40 <= 140737488355328 then
     some (.inl ((out_1 ++ [(at', rule, r.1)]), (IntKind.i64.wrap (rule + 1))))
    else none
   else
    some (.inl (out_1, (IntKind.i64.wrap (rule + 1))))
  else
   Option.map Sum.inr (
    some (.inl (out_1, (IntKind.i64.wrap (at' + 1)))))
def F_spec_l7Steps_l1 (sys : ((List Int) × (List ((List Int) × (List Int))))) (t : (List Int)) : ((List (Int × Int × (List Int))) × Int) -> Option (((List (Int × Int × (List Int))) × Int) ⊕ (List (Int × Int × (List Int))))
 | (out, at') =>
  if (decide (at' < (t.length : Int))) = true then
   loopC (F_spec_l7Steps_l2 sys t at') (out, 0)
  else
   Option.map Sum.inr (
    some out)
def F_spec_l7Steps (sys : ((List Int) × (List ((List Int) × (List Int))))) (t : (List Int)) : Option (List (Int × Int × (List Int))) :=
 loopC (F_spec_l7Steps_l1 sys t) ([], 0)
instance c_spec_l7Steps {sys : ((List Int) × (List ((List Int) × (List Int))))} {t : (List Int)} : HasC (F_spec_l7Steps sys t) fun rr => PFun Tryz.prog 123 [D_impl_System sys, (slD 1 iD) t] ((slD 3 D_impl_Step) rr) := ⟨@fun rr h => by
 delta F_spec_l7Steps at h
 refine fn123.pureL (vcm_sound ?_)
 delta mc123
 refine stp ?_
 refine m_lW h [5, 6, 7, 8, 9, 11, 12, 13, 14, 15, 16, 17, 18, 19, 20, 21, 22, 23, 24, 25, 26, 27, 28, 29, 30, 31, 32, 33, 34, 35, 36, 37, 38, 39] (fun pp => [(5, .own 3 10 (List.map D_impl_Step pp.1)), (6, .d (iD pp.2))]) (fun pp => [(2, .obj 33 [.d (slD 1 iD sys.1), .d (slD 2 D_impl_Rule sys.2)]), (10, .tok 97 3 pp.1.length)]) ?_
 rintro ⟨out, at'⟩ t1 h hb1
 unfold F_spec_l7Steps_l1 at h
 try dsimp only at h
 refine vcm_sound (stp ?_)
 refine iT h fun hc h => ?_
 refine m_lW h [5, 7, 8, 9, 17, 18, 19, 20, 21, 22, 23, 24, 25, 26, 27, 28, 29, 30, 31, 32, 33, 34, 35, 36, 37, 38, 39] (fun pp => [(5, .own 3 10 (List.map D_impl_Step pp.1)), (7, .d (iD pp.2))]) (fun pp => [(2, .obj 33 [.d (slD 1 iD sys.1), .d (slD 2 D_impl_Rule sys.2)]), (10, .tok 97 3 pp.1.length)]) ?_
 rintro ⟨out_1, rule⟩ t2 h hb2
 unfold F_spec_l7Steps_l2 at h
 try dsimp only at h
 refine vcm_sound (stp ?_)
 refine iT h fun hc h => ?_
 refine rCN h fun r hr h => ?_
 refine iT h fun hc h => ?_
 refine ndI h fun hp h => ?_
 cases h
 refine ⟨_, rfl, ?_⟩
 refine (Weak.drop 38 (by omega)).trans ?_
 exact wk⟩
def mc125 : MCode :=
 (.seq (.reg (sq 2 [bo 2 33 0] ++ sq 4 [mi 0])) (.seq (.reg (sq 5 [mi 0])) (.seq (.seq (.reg (sq 6 [mi 0])) (.block 0 (.loop (.seq (.seq (.reg (sq 10 [mv 6, mv 1, ln 11, bn .lss 10 12])) (.cond (t0 13) .skip (.exit 0))) (.seq (.block 1 (.seq (.reg (sq 7 [mi 0])) (.block 2 (.loop (.seq (.seq (.reg (sq 16 [mv 7, fa 1 2, ld 17, ln 18, bn .lss 16 19])) (.cond (t0 20) .skip (.exit 2))) (.seq (.block 3 (.seq (.draw (sq 24 [fa 0 2, la 1 24, fa 1 2, ld 26, mv 7, ix 2 27 28, fa 0 29, ld 30, fa 0 2, la 1 32, mv 1, mv 6, cf 138 [33, 34, 35], cf 137 [25, 31, 36]] ++ sq 23 [mv 37] ++ sq 38 [ex 23 0, ex 23 1] ++ sq 8 [.alloc 8 171 [.sl 0 (some true) []]] ++ s0 (sr 1 8 38) ++ sq 9 [mv 39]) [[], [0], [], [2], [], [3, 4], [5], [6], [], [8], [], [], [9, 10, 11], [1, 7, 12, 12], [13], [14], [14], [], [17, 15, 13, 0, 1, 2, 3, 4, 5, 6, 7, 8, 9, 10, 11, 12, 13, 14, 15, 17], [16, 18, 0, 1, 2, 3, 4, 5, 6, 7, 8, 9, 10, 11, 12, 13, 14, 15, 16, 17, 18]]) (.seq (.reg (sq 40 [mv 9])) (.cond (t0 40) (.reg (sq 41 [mv 5, bi .add 41 1] ++ sq 5 [mv 42])) .skip)))) (.reg (sq 21 [mv 7, bi .add 21 1] ++ sq 7 [mv 22])))))))) (.reg (sq 14 [mv 6, bi .add 14 1] ++ sq 6 [mv 15]))))))) (.seq (.reg (sq 43 [mv 5] ++ sq 4 [mv 43])) .ret))))
theorem fn125 : MFn Tryz.prog 125 mc125 44 [.tmp 4] := ⟨_, Tryz.func125, by kernel_rfl, Tryz.ntmps125, by kernel_rfl⟩
def F_spec_l7Redexes_l2 (sys : ((List Int) × (List ((List Int) × (List Int))))) (t : (List Int)) (at' : Int) : (Int × Int) -> Option ((Int × Int) ⊕ ((Int × Int) ⊕ Int))
 | (many_1, rule) =>
  if (decide (rule < (sys.2.length : Int))) = true then
   if 0 <= rule /\ rule < (sys.2.length : Int) then
    (F_spec_l1Sub sys.1 t at').bind fun r =>
    (F_spec_l4Match sys.1 ((sys.2.getD rule.toNat default).1) r).bind fun r_1 =>
    if r_1.2 = true then
     some (.inl ((IntKind.i64.wrap (many_1 + 1)), (IntKind.i64.wrap (rule + 1))))
    else
     some (.inl (many_1, (IntKind.i64.wrap (rule + 1))))
   else none
  else
   Option.map Sum.inr (
    some (.inl (many_1, (IntKind.i64.wrap (at' + 1)))))
def F_spec_l7Redexes_l1 (sys : ((List Int) × (List ((List Int) × (List Int))))) (t : (List Int)) : (Int × Int) -> Option ((Int × Int) ⊕ Int)
 | (many, at') =>
  if (decide (at' < (t.length : Int))) = true then
   loopC (F_spec_l7Redexes_l2 sys t at') (many, 0)
  else
   Option.map Sum.inr (
    some many)
def F_spec_l7Redexes (sys : ((List Int) × (List ((List Int) × (List Int))))) (t : (List Int)) : Option Int :=
 loopC (F_spec_l7Redexes_l1 sys t) (0, 0)
instance c_spec_l7Redexes {sys : ((List Int) × (List ((List Int) × (List Int))))} {t : (List Int)} : HasC (F_spec_l7Redexes sys t) fun rr => PFun Tryz.prog 125 [D_impl_System sys, (slD 1 iD) t] (iD rr) := ⟨@fun rr h => by
 delta F_spec_l7Redexes at h
 refine fn125.pureL (vcm_sound ?_)
 delta mc125
 refine stp ?_
 refine m_lW h [5, 6, 7, 8, 9, 10, 11, 12, 13, 14, 15, 16, 17, 18, 19, 20, 21, 22, 23, 24, 25, 26, 27, 28, 29, 30, 31, 32, 33, 34, 35, 36, 37, 38, 39, 40, 41, 42] (fun pp => [(5, .d (iD pp.1)), (6, .d (iD pp.2))]) (fun pp => [(2, .obj 33 [.d (slD 1 iD sys.1), .d (slD 2 D_impl_Rule sys.2)])]) ?_
 rintro ⟨many, at'⟩ t1 h hb1
 unfold F_spec_l7Redexes_l1 at h
 try dsimp only at h
 refine vcm_sound (stp ?_)
 refine iT h fun hc h => ?_
 refine m_lW h [5, 7, 8, 9, 16, 17, 18, 19, 20, 21, 22, 23, 24, 25, 26, 27, 28, 29, 30, 31, 32, 33, 34, 35, 36, 37, 38, 39, 40, 41, 42] (fun pp => [(5, .d (iD pp.1)), (7, .d (iD pp.2))]) (fun pp => [(2, .obj 33 [.d (slD 1 iD sys.1), .d (slD 2 D_impl_Rule sys.2)])]) ?_
 rintro ⟨many_1, rule⟩ t2 h hb2
 unfold F_spec_l7Redexes_l2 at h
 try dsimp only at h
 refine vcm_sound (stp ?_)
 refine iT h fun hc h => ?_
 refine ndI h fun hp h => ?_
 refine dC h fun r hr h => ?_
 refine dCN h fun r_1 hr_1 h => ?_
 refine drQ_of (by kernel_rfl) (stp ?_)
 refine it h (fun hc h => ?_) fun hc h => ?_
 ·cases h
  refine ⟨_, rfl, ?_⟩
  refine (Weak.drop 8 (by omega)).trans ?_
  exact wk
 cases h
 refine ⟨_, rfl, ?_⟩
 refine (Weak.drop 8 (by omega)).trans ?_
 exact wk⟩
def mc124 : MCode :=
 (.seq (.reg (sq 4 [mi 0])) (.seq (.seq (.reg (sq 5 [mi 0])) (.block 0 (.loop (.seq (.seq (.reg (sq 6 [mv 5, mv 0, ln 7, bn .lss 6 8])) (.cond (t0 9) .skip (.exit 0))) (.seq (.block 1 (.seq (.reg (sq 12 [mv 0, mv 5, ix 1 12 13, ld 14, mv 1, cf 150 [15, 16]])) (.cond (t0 17) (.seq (.reg (sq 18 [mv 5] ++ sq 4 [mv 18])) .ret) .skip))) (.reg (sq 10 [mv 5, bi .add 10 1] ++ sq 5 [mv 11]))))))) (.seq (.reg (sq 4 [mi (-1)])) .ret)))
theorem fn124 : MFn Tryz.prog 124 mc124 19 [.tmp 4] := ⟨_, Tryz.func124, by kernel_rfl, Tryz.ntmps124, by kernel_rfl⟩
def F_spec_l1TermPlace_l1 (list : (List (List Int))) (t : (List Int)) : Int -> Option (Int ⊕ Int)
 | i =>
  if (decide (i < (list.length : Int))) = true then
   if 0 <= i /\ i < (list.length : Int) then
    (F_spec_SameTerm (list.getD i.toNat default) t).bind fun r =>
    if r = true then
     Option.map Sum.inr (
      some i)
    else
     some (.inl (IntKind.i64.wrap (i + 1)))
   else none
  else
   Option.map Sum.inr (
    some (-1))
def F_spec_l1TermPlace (list : (List (List Int))) (t : (List Int)) : Option Int :=
 loopC (F_spec_l1TermPlace_l1 list t) 0
instance c_spec_l1TermPlace {list : (List (List Int))} {t : (List Int)} : HasC (F_spec_l1TermPlace list t) fun rr => PFun Tryz.prog 124 [(slD 1 (slD 1 iD)) list, (slD 1 iD) t] (iD rr) := ⟨@fun rr h => by
 delta F_spec_l1TermPlace at h
 refine fn124.pureL (vcm_sound ?_)
 delta mc124
 refine stp ?_
 refine m_lW h [4, 5, 6, 7, 8, 9, 10, 11, 12, 13, 14, 15, 16, 17, 18] (fun pp => [(5, .d (iD pp))]) (fun pp => []) ?_
 rintro i t1 h hb1
 unfold F_spec_l1TermPlace_l1 at h
 try dsimp only at h
 refine vcm_sound (stp ?_)
 exact aut⟩
def mc95 : MCode :=
 (.seq (.reg (sq 2 [bo 2 33 0] ++ sq 4 [.mv (.const (.slice none 0 0)), mb false])) (.seq (.reg (sq 10 [.bsl 10 22 1 []] ++ sq 6 [mv 10])) (.seq (.seq (.reg (sq 7 [mi 0])) (.block 0 (.loop (.seq (.seq (.reg (sq 11 [mv 7, mv 1, ln 12, bn .lss 11 13])) (.cond (t0 14) .skip (.exit 0))) (.seq (.block 1 (.seq (.draw (sq 17 [la 2 2, mv 1, mv 7, ix 1 18 19, ld 20, cf 123 [17, 21]] ++ sq 8 [mv 22]) [[], [], [], [1, 2], [3], [0, 4], [5, 5, 0, 1, 2, 3, 4, 5]]) (.seq (.seq (.draw (sq 23 [mv 8, ln 23, la 2 2, mv 1, mv 7, ix 1 26 27, ld 28, cf 125 [25, 29], bn .lss 24 30]) [[], [0], [], [], [], [3, 4], [5], [2, 6], [1, 7]]) (.cond (t0 31) (.seq (.reg (sq 32 [.bsl 32 22 1 []] ++ sq 4 [mv 32, mb false])) .ret) .skip)) (.seq (.seq (.reg (sq 9 [mi 0])) (.block 2 (.loop (.seq (.seq (.reg (sq 33 [mv 9, mv 8, ln 34, bn .lss 33 35])) (.cond (t0 36) .skip (.exit 2))) (.seq (.block 3 (.seq (.reg (sq 39 [mv 6, mv 8, mv 9, ix 3 40 41, fa 2 42, ld 43, cf 124 [39, 44], bi .lss 45 0])) (.cond (t0 46) (.reg (sq 47 [mv 6, mv 8, mv 9, ix 3 48 49, fa 2 50, ld 51, .bsl 53 22 1 [(t0 52)], ap 54 22 1 24 47 53] ++ sq 6 [mv 54])) .skip))) (.reg (sq 37 [mv 9, bi .add 37 1] ++ sq 9 [mv 38]))))))) (.seq (.reg (sq 55 [mv 6, ln 55, bi .gtr 56 60])) (.cond (t0 57) (.seq (.reg (sq 58 [.bsl 58 22 1 []] ++ sq 4 [mv 58, mb false])) .ret) .skip)))))) (.reg (sq 15 [mv 7, bi .add 15 1] ++ sq 7 [mv 16]))))))) (.seq (.reg (sq 59 [mv 6] ++ sq 4 [mv 59, mb true])) .ret))))
theorem fn95 : MFn Tryz.prog 95 mc95 60 [.tmp 4, .tmp 5] := ⟨_, Tryz.func95, by kernel_rfl, Tryz.ntmps95, by kernel_rfl⟩
def F_spec_l9Next_l2 (i : Int) (r : (List (Int × Int × (List Int)))) : ((List (List Int)) × Int) -> Option (((List (List Int)) × Int) ⊕ (((List (List Int)) × Int) ⊕ ((List (List Int)) × Bool)))
 | (out_1, k) =>
  if (decide (k < (r.length : Int))) = true then
   if 0 <= k /\ k < (r.length : Int) then
    (F_spec_l1TermPlace out_1 ((r.getD k.toNat default).2.2)).bind fun r_2 =>
    if (decide (r_2 < 0)) = true then
     if 0 <= k /\ k < (r.length : Int) then
      if (out_1.length + 1) * 24 <= 140737488355328 then
       some (.inl ((out_1 ++ [(r.getD k.toNat default).2.2]), (IntKind.i64.wrap (k + 1))))
      else none
     else none
    else
     some (.inl (out_1, (IntKind.i64.wrap (k + 1))))
   else none
  else
   Option.map Sum.inr (
    if (decide (60 < (out_1.length : Int))) = true then
     Option.map Sum.inr (
      some ([], false))
    else
     some (.inl (out_1, (IntKind.i64.wrap (i + 1)))))
def F_spec_l9Next_l1 (sys : ((List Int) × (List ((List Int) × (List Int))))) (level : (List (List Int))) : ((List (List Int)) × Int) -> Option (((List (List Int)) × Int) ⊕ ((List (List Int)) × Bool))
 | (out, i) =>
  if (decide (i < (level.length : Int))) = true then
   if 0 <= i /\ i < (level.length : Int) then
    (F_spec_l7Steps sys (level.getD i.toNat default)).bind fun r =>
    if 0 <= i /\ i < (level.length : Int) then
     (F_spec_l7Redexes sys (level.getD i.toNat default)).bind fun r_1 =>
     if (decide ((r.length : Int) < r_1)) = true then
      Option.map Sum.inr (
       some ([], false))
     else
      loopC (F_spec_l9Next_l2 i r) (out, 0)
    else none
   else none
  else
   Option.map Sum.inr (
    some (out, true))
def F_spec_l9Next (sys : ((List Int) × (List ((List Int) × (List Int))))) (level : (List (List Int))) : Option ((List (List Int)) × Bool) :=
 loopC (F_spec_l9Next_l1 sys level) ([], 0)
instance c_spec_l9Next {sys : ((List Int) × (List ((List Int) × (List Int))))} {level : (List (List Int))} : HasC (F_spec_l9Next sys level) fun rr => PFunN Tryz.prog 95 [D_impl_System sys, (slD 1 (slD 1 iD)) level] [(slD 1 (slD 1 iD)) rr.1, bD rr.2] := ⟨@fun rr h => by
 delta F_spec_l9Next at h
 refine fn95.pureLN (vcm_sound ?_)
 delta mc95
 refine stp ?_
 refine m_lW h [4, 5, 6, 7, 8, 9, 11, 12, 13, 14, 15, 16, 17, 18, 19, 20, 21, 22, 23, 24, 25, 26, 27, 28, 29, 30, 31, 32, 33, 34, 35, 36, 37, 38, 39, 40, 41, 42, 43, 44, 45, 46, 47, 48, 49, 50, 51, 52, 53, 54, 55, 56, 57, 58] (fun pp => [(6, .own 1 10 (List.map (slD 1 iD) pp.1)), (7, .d (iD pp.2))]) (fun pp => [(2, .obj 33 [.d (slD 1 iD sys.1), .d (slD 2 D_impl_Rule sys.2)]), (10, .tok 22 1 pp.1.length)]) ?_
 rintro ⟨out, i⟩ t1 h hb1
 unfold F_spec_l9Next_l1 at h
 try dsimp only at h
 refine vcm_sound (stp ?_)
 refine iT h fun hc h => ?_
 refine ndI h fun hp h => ?_
 refine dC h fun r hr h => ?_
 refine drQ_of (by kernel_rfl) (stp ?_)
 refine ndI h fun hp h => ?_
 refine dC h fun r_1 hr_1 h => ?_
 refine drQ_of (by kernel_rfl) (stp ?_)
 refine iF h fun hc h => ?_
 refine m_lW h [6, 9, 33, 34, 35, 36, 37, 38, 39, 40, 41, 42, 43, 44, 45, 46, 47, 48, 49, 50, 51, 52, 53, 54] (fun pp => [(6, .own 1 10 (List.map (slD 1 iD) pp.1)), (9, .d (iD pp.2))]) (fun pp => [(2, .obj 33 [.d (slD 1 iD sys.1), .d (slD 2 D_impl_Rule sys.2)]), (10, .tok 22 1 pp.1.length)]) ?_
 rintro ⟨out_1, k⟩ t2 h hb2
 unfold F_spec_l9Next_l2 at h
 try dsimp only at h
 refine vcm_sound (stp ?_)
 refine iT h fun hc h => ?_
 refine ndI h fun hp h => ?_
 refine rC h fun r_2 hr_2 h => ?_
 refine iT h fun hc h => ?_
 refine ndI h fun hp h => ?_
 refine ndI h fun hp h => ?_
 cases h
 refine ⟨_, rfl, ?_⟩
 refine (Weak.drop 53 (by omega)).trans ?_
 exact wk⟩
def mc122 : MCode :=
 (.seq (.reg (sq 2 [bo 2 33 0] ++ sq 4 [mb false])) (.seq (.reg (sq 5 [la 2 2, cf 29 [5], mv 6] ++ sg 7 true 8 [fa 0 2, la 1 8, mv 1, cf 57 [9, 10]] ++ sq 12 [pa 7 11] ++ sq 4 [mv 12])) .ret))
theorem fn122 : MFn Tryz.prog 122 mc122 13 [.tmp 4] := ⟨_, Tryz.func122, by kernel_rfl, Tryz.ntmps122, by kernel_rfl⟩
def F_spec_l7Right (sys : ((List Int) × (List ((List Int) × (List Int))))) (t : (List Int)) : Option Bool :=
 (F_spec_SystemOk sys).bind fun r =>
 if r = true then
  (F_spec_TermOk sys.1 t).bind fun r_1 =>
  some r_1
 else
  some false
instance c_spec_l7Right {sys : ((List Int) × (List ((List Int) × (List Int))))} {t : (List Int)} : HasC (F_spec_l7Right sys t) fun rr => PFun Tryz.prog 122 [D_impl_System sys, (slD 1 iD) t] (bD rr) := ⟨@fun rr h => by
 delta F_spec_l7Right at h
 refine fn122.pureL (vcm_sound ?_)
 delta mc122
 refine stp ?_
 exact aut⟩
def mc91 : MCode :=
 (.seq (.reg (sq 3 [bo 3 33 0] ++ sq 6 [mb false])) (.seq (.reg (sq 7 [la 2 3, mv 1, cf 122 [7, 8], mv 9] ++ sg 10 true 11 [mv 2, .callf 30 [(t0 11), (i0 0), (i0 20)]] ++ sq 13 [pa 10 12] ++ sq 6 [mv 13])) .ret))
theorem fn91 : MFn Tryz.prog 91 mc91 14 [.tmp 6] := ⟨_, Tryz.func91, by kernel_rfl, Tryz.ntmps91, by kernel_rfl⟩
def F_spec_l9Right (sys : ((List Int) × (List ((List Int) × (List Int))))) (t : (List Int)) (steps : Int) : Option Bool :=
 (F_spec_l7Right sys t).bind fun r =>
 if r = true then
  (F_spec_l1In steps 0 20).bind fun r_1 =>
  some r_1
 else
  some false
instance c_spec_l9Right {sys : ((List Int) × (List ((List Int) × (List Int))))} {t : (List Int)} {steps : Int} : HasC (F_spec_l9Right sys t steps) fun rr => PFun Tryz.prog 91 [D_impl_System sys, (slD 1 iD) t, iD steps] (bD rr) := ⟨@fun rr h => by
 delta F_spec_l9Right at h
 refine fn91.pureL (vcm_sound ?_)
 delta mc91
 refine stp ?_
 exact aut⟩
def mc68 : MCode :=
 (.seq (.reg (sq 3 [bo 3 33 0] ++ sq 6 [mi 0])) (.seq (.seq (.reg (sq 11 [la 2 3, mv 1, mv 2, cf 91 [11, 12, 13], nt 14])) (.cond (t0 15) (.seq (.reg (sq 6 [mi (-1)])) .ret) .skip)) (.seq (.reg (sq 16 [mv 1, cf 94 [16], .bsl 18 22 1 [(t0 17)]] ++ sq 7 [mv 18])) (.seq (.seq (.reg (sq 8 [mi 0])) (.block 0 (.loop (.seq (.seq (.reg (sq 19 [mv 8, mv 2, bn .leq 19 20])) (.cond (t0 21) .skip (.exit 0))) (.seq (.block 1 (.seq (.reg (sq 25 [la 2 3, mv 7, cf 95 [25, 26]] ++ sq 24 [mv 27] ++ sq 28 [ex 24 0, ex 24 1] ++ sq 9 [mv 28, mv 29])) (.seq (.seq (.reg (sq 30 [mv 10, nt 30])) (.cond (t0 31) (.seq (.reg (sq 6 [mi (-1)])) .ret) .skip)) (.seq (.seq (.reg (sq 32 [mv 9, ln 32, bi .eql 33 0])) (.cond (t0 34) (.seq (.reg (sq 35 [mv 8] ++ sq 6 [mv 35])) .ret) .skip)) (.reg (sq 36 [mv 9] ++ sq 7 [mv 36])))))) (.reg (sq 22 [mv 8, bi .add 22 1] ++ sq 8 [mv 23]))))))) (.seq (.reg (sq 6 [mi (-1)])) .ret)))))
theorem fn68 : MFn Tryz.prog 68 mc68 37 [.tmp 6] := ⟨_, Tryz.func68, by kernel_rfl, Tryz.ntmps68, by kernel_rfl⟩
def F_spec_LongestOf_l1 (sys : ((List Int) × (List ((List Int) × (List Int))))) (steps : Int) : ((List (List Int)) × Int) -> Option (((List (List Int)) × Int) ⊕ Int)
 | (level, k) =>
  if (decide (k <= steps)) = true then
   (F_spec_l9Next sys level).bind fun r_2 =>
   if r_2.2 = true then
    if ((r_2.1.length : Int) == 0) = true then
     Option.map Sum.inr (
      some k)
    else
     some (.inl (r_2.1, (IntKind.i64.wrap (k + 1))))
   else
    Option.map Sum.inr (
     some (-1))
  else
   Option.map Sum.inr (
    some (-1))
def F_spec_LongestOf (sys : ((List Int) × (List ((List Int) × (List Int))))) (t : (List Int)) (steps : Int) : Option Int :=
 (F_spec_l9Right sys t steps).bind fun r =>
 if r = true then
  (F_spec_l1Copy t).bind fun r_1 =>
  loopC (F_spec_LongestOf_l1 sys steps) ([r_1], 0)
 else
  some (-1)
instance c_spec_LongestOf {sys : ((List Int) × (List ((List Int) × (List Int))))} {t : (List Int)} {steps : Int} : HasC (F_spec_LongestOf sys t steps) fun rr => PFun Tryz.prog 68 [D_impl_System sys, (slD 1 iD) t, iD steps] (iD rr) := ⟨@fun rr h => by
 delta F_spec_LongestOf at h
 refine fn68.pureL (vcm_sound ?_)
 delta mc68
 refine stp ?_
 refine rC h fun r hr h => ?_
 refine iT h fun hc h => ?_
 refine rCo [] [(3, 17)] h fun r_1 hr_1 h => ?_
 refine m_lW h [6, 7, 8, 9, 10, 19, 20, 21, 22, 23, 24, 25, 26, 27, 28, 29, 30, 31, 32, 33, 34, 35, 36] (fun pp => [(7, .d (slD 1 (slD 1 iD) pp.1)), (8, .d (iD pp.2))]) (fun pp => [(3, .obj 33 [.d (slD 1 iD sys.1), .d (slD 2 D_impl_Rule sys.2)]), (17, .tok 2 1 r_1.length), (18, .tok 22 1 1)]) ?_
 rintro ⟨level, k⟩ t1 h hb1
 unfold F_spec_LongestOf_l1 at h
 try dsimp only at h
 refine vcm_sound (stp ?_)
 exact aut⟩
end Go.Proofs.YtglpjlpmijfocaaGreat
namespace Go.Proofs.YtglpjlpmijfocaaGreat
open Go Abx
attribute [local irreducible] vcm vgo vdr vrun vdrun MWp GhostQ BrC BrO BrG BrD BrH AmbO callR callD drQ EnvLe StoLe IWp
set_option maxHeartbeats 4000000
abbrev SysT := List Int × List (List Int × List Int)
abbrev StpT := (Int × Int × List Int) × Bool
def redexIn (sys : SysT) (t : List Int) (at' : Nat) : Nat -> Option (List StpT)
 | 0 => some []
 | k + 1 =>
  if (decide (t.getD at' default < 0)) = true then redexIn sys t at' k
  else
   (F_impl_redex sys t (at' : Int) ((sys.2.length - (k + 1) : Nat) : Int)).bind fun r =>
   if r = true then
    (F_impl_step sys t (at' : Int) ((sys.2.length - (k + 1) : Nat) : Int)).bind fun v =>
    (redexIn sys t at' k).map fun l => (((at' : Int), ((sys.2.length - (k + 1) : Nat) : Int), v.1), v.2) :: l
   else redexIn sys t at' k
def redexOut (sys : SysT) (t : List Int) : Nat -> Option (List StpT)
 | 0 => some []
 | k + 1 => (redexIn sys t (t.length - (k + 1)) sys.2.length).bind fun xs => (redexOut sys t k).map fun ys => xs ++ ys
def F_redexEls (sys : SysT) (t : List Int) : Option (List StpT) := redexOut sys t t.length
theorem i_yieldE {P : Program} {l : Nat} {ms : List MOper} (pre post : List MOper) (d : Nat) (g : Operand) (args : List Operand) {Q : IPost} {env : List AV} {x : List D} {r : List (List D)} (hms : ms = pre ++ ⟨some d, .callv g args, none⟩ :: post)
 (hpre : vops P 0 pre env [] (fun env' s' => ∃ env1, Weak 0 env' s' env1 [] /\ AV.rens (fun _ => none) env1 = env1 /\ ev env1 g = .d (.lit (.func (.yield l) #[] #[])) /\ args.map (ev env1) = x.map .d /\
  ∀ b, vops P 0 post (env1.set d (.d (bD b))) [] (fun env' s' => ∃ env2, Weak 0 env' s' env2 [] /\ AV.rens (fun _ => none) env2 = env2 /\ Q .normal env2 (if b then some r else none)))) : IWp P l (.reg ms) Q env (some (x :: r)) := by
 subst hms; exact i_yield hpre
def mc129 : MCode :=
 (.seq (.reg (sq 9 [ld 1, ln 9, mi 0])) (.block 0 (.loop (.seq (.reg (sq 12 [bn .lss 11 10])) (.seq (.cond (t0 12) .skip (.exit 0)) (.seq (.block 1 (.seq (.reg (sq 13 [mv 11, ix 1 9 11, ld 14] ++ sq 4 [mv 13, mv 15])) (.seq (.reg (sq 16 [fa 1 2, ld 16, ln 17, mi 0])) (.block 2 (.loop (.seq (.reg (sq 20 [bn .lss 19 18])) (.seq (.cond (t0 20) .skip (.exit 2)) (.seq (.block 3 (.seq (.reg (sq 21 [mv 19] ++ sq 6 [mv 21])) (.seq (.seq (.reg (sq 22 [mv 5, bi .lss 22 0, mv 23] ++ sg 24 false 25 [la 2 2, ld 1, mv 4, mv 6, cf 130 [25, 26, 27, 28], nt 29] ++ sq 31 [po 24 30])) (.cond (t0 31) (.exit 3) .skip)) (.seq (.reg (sq 33 [la 2 2, ld 1, mv 4, mv 6, cf 131 [33, 34, 35, 36]] ++ sq 32 [mv 37] ++ sq 38 [ex 32 0, ex 32 1] ++ sq 7 [mv 38, mv 39])) (.seq (.reg (sq 40 [mv 0, mv 4, mv 6, mv 7, .build [.lit (.int .i64 0), .lit (.int .i64 0), .sl 0 (some true) []] [(0, 1, (t0 41)), (1, 1, (t0 42)), (2, 1, (t0 43))], mv 8, .callv (t0 40) [(t0 44), (t0 45)], nt 46])) (.cond (t0 47) .ret .skip)))))) (.reg (sq 48 [bi .add 19 1] ++ sq 19 [mv 48])))))))))) (.reg (sq 49 [bi .add 11 1] ++ sq 11 [mv 49]))))))))
theorem fn129 : MFn Tryz.prog 129 mc129 50 [] := ⟨_, Tryz.func129, by kernel_rfl, Tryz.ntmps129, by kernel_rfl⟩
def mc98 : MCode :=
 (.seq (.reg (sq 2 [bo 2 33 0, bo 3 22 1, .mv (.const .nilFunc)])) (.seq (.reg (sq 5 [.mkfn 129 [] [(t0 3), (t0 2)]] ++ sq 4 [mv 5])) .ret))
theorem fn98 : MFn Tryz.prog 98 mc98 6 [.tmp 4] := ⟨_, Tryz.func98, by kernel_rfl, Tryz.ntmps98, by kernel_rfl⟩
section
variable (sys : SysT) (t : List Int) (l : Nat)
def itO (at' : Nat) : List AV := [.d (.lit (.func (.yield l) #[] #[])), .pv [slD 1 iD t], .pv [slD 1 iD sys.1, slD 2 D_impl_Rule sys.2]] ++ List.replicate 6 .junk ++ [.d (slD 1 iD t), .d (iD (t.length : Int)), .d (iD (at' : Int))] ++ List.replicate 38 .junk
def itI (at' rule : Nat) : List AV := [.d (.lit (.func (.yield l) #[] #[])), .pv [slD 1 iD t], .pv [slD 1 iD sys.1, slD 2 D_impl_Rule sys.2], .junk, .d (iD (at' : Int)), .d (iD (t.getD at' default)), .junk, .junk, .junk, .d (slD 1 iD t), .d (iD (t.length : Int)), .d (iD (at' : Int))] ++ List.replicate 5 .junk ++ [.d (slD 2 D_impl_Rule sys.2), .d (iD (sys.2.length : Int)), .d (iD (rule : Int))] ++ List.replicate 30 .junk
def it6 (at' rule : Nat) : List AV := [.d (.lit (.func (.yield l) #[] #[])), .pv [slD 1 iD t], .pv [slD 1 iD sys.1, slD 2 D_impl_Rule sys.2], .junk, .d (iD (at' : Int)), .d (iD (t.getD at' default)), .d (iD (rule : Int)), .junk, .junk, .d (slD 1 iD t), .d (iD (t.length : Int)), .d (iD (at' : Int))] ++ List.replicate 5 .junk ++ [.d (slD 2 D_impl_Rule sys.2), .d (iD (sys.2.length : Int)), .d (iD (rule : Int))] ++ List.replicate 30 .junk
def it8 (at' rule : Nat) (v : List Int × Bool) : List AV := [.d (.lit (.func (.yield l) #[] #[])), .pv [slD 1 iD t], .pv [slD 1 iD sys.1, slD 2 D_impl_Rule sys.2], .junk, .d (iD (at' : Int)), .d (iD (t.getD at' default)), .d (iD (rule : Int)), .d (slD 1 iD v.1), .d (bD v.2), .d (slD 1 iD t), .d (iD (t.length : Int)), .d (iD (at' : Int))] ++ List.replicate 5 .junk ++ [.d (slD 2 D_impl_Rule sys.2), .d (iD (sys.2.length : Int)), .d (iD (rule : Int))] ++ List.replicate 30 .junk
def itY (at' rule : Nat) (v : List Int × Bool) : List AV := [.d (.lit (.func (.yield l) #[] #[])), .pv [slD 1 iD t], .pv [slD 1 iD sys.1, slD 2 D_impl_Rule sys.2], .junk, .d (iD (at' : Int)), .d (iD (t.getD at' default)), .junk, .junk, .junk, .d (slD 1 iD t), .d (iD (t.length : Int)), .d (iD (at' : Int))] ++ List.replicate 5 .junk ++ [.d (slD 2 D_impl_Rule sys.2), .d (iD (sys.2.length : Int)), .d (iD (rule : Int))] ++ List.replicate 20 .junk ++ [.d (.lit (.func (.yield l) #[] #[])), .junk, .junk, .junk, .d (D_impl_Step ((at' : Int), (rule : Int), v.1)), .d (bD v.2)] ++ List.replicate 4 .junk
def itB (at' rule : Nat) (b : Bool) : List AV := [.d (.lit (.func (.yield l) #[] #[])), .pv [slD 1 iD t], .pv [slD 1 iD sys.1, slD 2 D_impl_Rule sys.2], .junk, .d (iD (at' : Int)), .d (iD (t.getD at' default)), .junk, .junk, .junk, .d (slD 1 iD t), .d (iD (t.length : Int)), .d (iD (at' : Int))] ++ List.replicate 5 .junk ++ [.d (slD 2 D_impl_Rule sys.2), .d (iD (sys.2.length : Int)), .d (iD (rule : Int))] ++ List.replicate 27 .junk ++ [.d (bD (!b)), .junk, .junk]
end
theorem it_redexSteps {sys : SysT} {t : List Int} {els : List StpT} (h0 : F_redexEls sys t = some els) : Iter Tryz.prog 129 [.pv [slD 1 iD t], .pv [slD 1 iD sys.1, slD 2 D_impl_Rule sys.2]] (els.map fun x => [D_impl_Step x.1, bD x.2]) := by
 refine iter_of fn129 (by kernel_rfl) rfl fun l => i_fact (p := t.length < 2 ^ 63) (fun X a W hst => by have := pv_len (i := 1) (cs1 := []) (cs2 := []) (ds := t.map iD) (e := 1) (nl := none) hst rfl; simpa using this) fun hlen => ?_
 refine i_fact (p := sys.2.length < 2 ^ 63) (fun X a W hst => by have := pv_len (i := 2) (cs1 := [slD 1 iD sys.1]) (cs2 := []) (ds := sys.2.map D_impl_Rule) (e := 2) (nl := none) hst rfl; simpa using this) fun hlen2 => ?_
 delta mc129
 refine i_seq (i_code rfl (vcm_sound ?_))
 show vcm _ _ _ _ ([.d (.lit (.func (.yield l) #[] #[])), .pv [slD 1 iD t], .pv [slD 1 iD sys.1, slD 2 D_impl_Rule sys.2]] ++ List.replicate 47 .junk) []
 refine stp ?_
 refine ⟨itO sys t l 0, (by delta itO; exact wk), rfl, i_block ?_⟩
 refine i_loop (ι := Nat × List StpT) (fun p => itO sys t l p.1) (fun p => some (p.2.map fun x => [D_impl_Step x.1, bD x.2])) (fun p => p.1 <= t.length /\ redexOut sys t (t.length - p.1) = some p.2) (fun p => t.length - p.1) (0, els) ⟨Nat.zero_le _, h0⟩ .refl (fun _ => rfl) ?_
 rintro ⟨at', r⟩ ⟨hat, h⟩
 simp only at hat h ⊢
 refine i_seq (i_code rfl (vcm_sound ?_))
 delta itO
 by_cases hlt : at' < t.length
 rotate_left
 ·have hc : decide ((at' : Int) < (t.length : Int)) = false := by simpa using hlt
  refine stpc hc ?_
  refine ⟨[.d (.lit (.func (.yield l) #[] #[])), .pv [slD 1 iD t], .pv [slD 1 iD sys.1, slD 2 D_impl_Rule sys.2]] ++ List.replicate 6 .junk ++ [.d (slD 1 iD t), .d (iD (t.length : Int)), .d (iD (at' : Int)), .d (bD false)] ++ List.replicate 37 .junk, wk, rfl, i_seq (i_code rfl (vcm_sound ?_))⟩
  refine stp ?_
  have : at' = t.length := by omega
  subst this
  rw [Nat.sub_self] at h
  cases h
  exact ⟨itO sys t l t.length, (by delta itO; exact wk), rfl, .inl rfl, .inl rfl⟩
 have hc : decide ((at' : Int) < (t.length : Int)) = true := by simpa using hlt
 refine stpc hc ?_
 refine ⟨[.d (.lit (.func (.yield l) #[] #[])), .pv [slD 1 iD t], .pv [slD 1 iD sys.1, slD 2 D_impl_Rule sys.2]] ++ List.replicate 6 .junk ++ [.d (slD 1 iD t), .d (iD (t.length : Int)), .d (iD (at' : Int)), .d (bD true)] ++ List.replicate 37 .junk, wk, rfl, i_seq (i_code rfl (vcm_sound ?_))⟩
 refine stp ?_
 refine ⟨itO sys t l at', (by delta itO; exact wk), rfl, ?_⟩
 obtain ⟨k0, hk0⟩ : ∃ k0, t.length - at' = k0 + 1 := ⟨t.length - at' - 1, by omega⟩
 rw [hk0] at h
 simp only [redexOut] at h
 rw [show t.length - (k0 + 1) = at' by omega] at h
 obtain ⟨xs, hxs, h⟩ := Option.bind_eq_some_iff.1 h
 obtain ⟨rest, hrest, hr⟩ := Option.map_eq_some_iff.1 h
 subst hr
 clear h
 refine i_seq (i_block (i_seq (i_code rfl (vcm_sound ?_))))
 delta itO
 refine stp ?_
 repeat (refine need_i (by omega) ?_; refine stp ?_)
 refine ⟨[.d (.lit (.func (.yield l) #[] #[])), .pv [slD 1 iD t], .pv [slD 1 iD sys.1, slD 2 D_impl_Rule sys.2], .junk, .d (iD (at' : Int)), .d (iD (t.getD at' default)), .junk, .junk, .junk, .d (slD 1 iD t), .d (iD (t.length : Int)), .d (iD (at' : Int))] ++ List.replicate 38 .junk, wk, rfl, i_seq (i_code rfl (vcm_sound ?_))⟩
 refine stp ?_
 refine ⟨itI sys t l at' 0, (by delta itI; exact wk), rfl, i_block ?_⟩
 refine i_loop (ι := Nat × List StpT) (fun p => itI sys t l at' p.1) (fun p => some ((fun p : Nat × List StpT => (p.2 ++ rest).map fun x => [D_impl_Step x.1, bD x.2]) p)) (fun p => p.1 <= sys.2.length /\ redexIn sys t at' (sys.2.length - p.1) = some p.2) (fun p => sys.2.length - p.1) (0, xs) ⟨Nat.zero_le _, hxs⟩ .refl (fun _ => rfl) ?_
 clear hxs
 rintro ⟨rule, ys⟩ ⟨hru, h⟩
 simp only at hru h ⊢
 refine i_seq (i_code rfl (vcm_sound ?_))
 delta itI
 by_cases hlr : rule < sys.2.length
 rotate_left
 ·have hc : decide ((rule : Int) < (sys.2.length : Int)) = false := by simpa using hlr
  refine stpc hc ?_
  refine ⟨[.d (.lit (.func (.yield l) #[] #[])), .pv [slD 1 iD t], .pv [slD 1 iD sys.1, slD 2 D_impl_Rule sys.2], .junk, .d (iD (at' : Int)), .d (iD (t.getD at' default)), .junk, .junk, .junk, .d (slD 1 iD t), .d (iD (t.length : Int)), .d (iD (at' : Int))] ++ List.replicate 5 .junk ++ [.d (slD 2 D_impl_Rule sys.2), .d (iD (sys.2.length : Int)), .d (iD (rule : Int)), .d (bD false)] ++ List.replicate 29 .junk, wk, rfl, i_seq (i_code rfl (vcm_sound ?_))⟩
  refine stp ?_
  have : rule = sys.2.length := by omega
  subst this
  rw [Nat.sub_self] at h
  cases h
  refine ⟨itO sys t l at', (by delta itO; exact wk), rfl, ?_⟩
  show IWp _ _ _ _ _ _
  refine i_code rfl (vcm_sound ?_)
  delta itO
  refine stp ?_
  have hw1 : IntKind.i64.wrap ((at' : Int) + 1) = ((at' + 1 : Nat) : Int) := by rw [wrap_i64 (by omega) (by omega)]; omega
  rw [hw1]
  refine ⟨itO sys t l (at' + 1), (by delta itO; exact wk), rfl, (at' + 1, rest), ⟨⟨by omega, ?_⟩, by simp only; omega⟩, .refl, rfl⟩
  simp only
  rw [show t.length - (at' + 1) = k0 by omega]; exact hrest
 have hc : decide ((rule : Int) < (sys.2.length : Int)) = true := by simpa using hlr
 refine stpc hc ?_
 refine ⟨[.d (.lit (.func (.yield l) #[] #[])), .pv [slD 1 iD t], .pv [slD 1 iD sys.1, slD 2 D_impl_Rule sys.2], .junk, .d (iD (at' : Int)), .d (iD (t.getD at' default)), .junk, .junk, .junk, .d (slD 1 iD t), .d (iD (t.length : Int)), .d (iD (at' : Int))] ++ List.replicate 5 .junk ++ [.d (slD 2 D_impl_Rule sys.2), .d (iD (sys.2.length : Int)), .d (iD (rule : Int)), .d (bD true)] ++ List.replicate 29 .junk, wk, rfl, i_seq (i_code rfl (vcm_sound ?_))⟩
 refine stp ?_
 refine ⟨itI sys t l at' rule, (by delta itI; exact wk), rfl, ?_⟩
 obtain ⟨k1, hk1⟩ : ∃ k1, sys.2.length - rule = k1 + 1 := ⟨sys.2.length - rule - 1, by omega⟩
 rw [hk1] at h
 simp only [redexIn] at h
 rw [show sys.2.length - (k1 + 1) = rule by omega] at h
 have hnext : ∀ ys', redexIn sys t at' k1 = some ys' -> ∀ env1, Weak 0 env1 [] (itI sys t l at' rule) [] -> IWp Tryz.prog l (.reg (sq 48 [bi .add 19 1] ++ sq 19 [mv 48])) (iloop (fun p : Nat × List StpT => itI sys t l at' p.1) (fun p : Nat × List StpT => some ((fun p : Nat × List StpT => (p.2 ++ rest).map fun x => [D_impl_Step x.1, bD x.2]) p)) (fun i' : Nat × List StpT => (i'.1 <= sys.2.length /\ redexIn sys t at' (sys.2.length - i'.1) = some i'.2) /\ sys.2.length - i'.1 < sys.2.length - rule) (iblk 2 (iblk 1 (iseq Tryz.prog l (.reg (sq 49 [bi .add 11 1] ++ sq 11 [mv 49])) (iloop (fun p : Nat × List StpT => itO sys t l p.1) (fun p : Nat × List StpT => some (p.2.map fun x => [D_impl_Step x.1, bD x.2])) (fun i' : Nat × List StpT => (i'.1 <= t.length /\ redexOut sys t (t.length - i'.1) = some i'.2) /\ t.length - i'.1 < t.length - at') (iblk 0 fun e env' r => (e = .normal ∨ e = .ret) /\ (r = some [] ∨ r = none))))))) env1 (some ((ys' ++ rest).map fun x => [D_impl_Step x.1, bD x.2])) := fun ys' hys' env1 hw => by
  refine i_weak hw rfl (i_code rfl (vcm_sound ?_))
  delta itI
  refine stp ?_
  have hw1 : IntKind.i64.wrap ((rule : Int) + 1) = ((rule + 1 : Nat) : Int) := by rw [wrap_i64 (by omega) (by omega)]; omega
  rw [hw1]
  refine ⟨itI sys t l at' (rule + 1), (by delta itI; exact wk), rfl, (rule + 1, ys'), ⟨⟨by omega, ?_⟩, by simp only; omega⟩, .refl, rfl⟩
  simp only
  rw [show sys.2.length - (rule + 1) = k1 by omega]; exact hys'
 refine i_seq (i_block (i_seq (i_code rfl (vcm_sound ?_))))
 delta itI
 refine stp ?_
 refine ⟨it6 sys t l at' rule, (by delta it6; exact wk), rfl, i_seq (i_code rfl (vcm_sound ?_))⟩
 delta it6
 by_cases hneg : t.getD at' default < 0
 ·have hc : decide (t.getD at' default < 0) = true := by simpa using hneg
  simp only [hc, if_true] at h
  refine stpc hc ?_
  exact ⟨itI sys t l at' rule, (by delta itI; exact wk), rfl, hnext ys h _ .refl⟩
 have hc : decide (t.getD at' default < 0) = false := by simpa using hneg
 simp only [hc, Bool.false_eq_true, if_false] at h
 refine stpc hc ?_
 refine rC h fun b hb h => ?_
 cases b with
 | false =>
  simp only [Bool.false_eq_true, if_false] at h
  refine stp ?_
  exact ⟨itI sys t l at' rule, (by delta itI; exact wk), rfl, hnext ys h _ .refl⟩
 | true =>
 simp only [if_true] at h
 refine stp ?_
 refine ⟨it6 sys t l at' rule, (by delta it6; exact wk), rfl, i_seq (i_code rfl (vcm_sound ?_))⟩
 delta it6
 refine stp ?_
 refine rCN h fun v hv h => ?_
 obtain ⟨ys', hys', hy⟩ := Option.map_eq_some_iff.1 h
 subst hy
 refine ⟨it8 sys t l at' rule v, (by delta it8; exact wk), rfl, i_seq (i_yieldE (sq 40 [mv 0, mv 4, mv 6, mv 7, .build [.lit (.int .i64 0), .lit (.int .i64 0), .sl 0 (some true) []] [(0, 1, (t0 41)), (1, 1, (t0 42)), (2, 1, (t0 43))], mv 8]) (sq 47 [nt 46]) 46 (t0 40) [(t0 44), (t0 45)] rfl (vgo_vops ?_))⟩
 delta it8
 refine stp ?_
 refine ⟨itY sys t l at' rule v, (by delta itY; exact wk), rfl, rfl, rfl, fun b => vgo_vops ?_⟩
 delta itY
 refine stp ?_
 refine ⟨itB sys t l at' rule b, (by delta itB; exact wk), rfl, i_code rfl (vcm_sound ?_)⟩
 delta itB
 cases b with
 | false => refine stp ?_; exact ⟨itI sys t l at' rule, (by delta itI; exact wk), rfl, .inr rfl, .inr rfl⟩
 | true => refine stp ?_; exact ⟨itI sys t l at' rule, (by delta itI; exact wk), rfl, hnext ys' hys' _ .refl⟩
def F_impl_redexSteps (sys : SysT) (t : List Int) : Option Unit := some ()
instance c_impl_redexSteps {sys : SysT} {t : List Int} : HasC (F_impl_redexSteps sys t) fun _ => ACalls Tryz.prog 98 [.d (D_impl_System sys), .d (slD 1 iD t)] [] 0 fun xx ss => xx = .fn 129 [] [.pv [slD 1 iD t], .pv [slD 1 iD sys.1, slD 2 D_impl_Rule sys.2]] /\ ss = [] := ⟨@fun rr h => by
 have h1 : ACalls Tryz.prog 98 [.d (D_impl_System sys), .d (slD 1 iD t)] [] 0 fun xx ss => xx = .fn 129 [] [.ptr 3 0, .ptr 2 0] /\ ss = (2, .obj 33 ([slD 1 iD sys.1, slD 2 D_impl_Rule sys.2].map .d)) :: [(3, .obj 22 [.d (slD 1 iD t)])] := by
  refine fn98.callsO (vcm_sound ?_)
  delta mc98
  refine stp ?_
  exact ⟨[], by simp, don⟩
 have h2 := h1.pvs rfl rfl rfl
 have h3 : ACalls Tryz.prog 98 [.d (D_impl_System sys), .d (slD 1 iD t)] [] 0 fun xx ss => xx = .fn 129 [] [.ptr 3 0, .pv [slD 1 iD sys.1, slD 2 D_impl_Rule sys.2]] /\ ss = (3, .obj 22 ([slD 1 iD t].map .d)) :: [] := h2
 exact h3.pvs rfl rfl rfl⟩
end Go.Proofs.YtglpjlpmijfocaaGreat
namespace Abx
open Go
section
variable {α γ : Type} {P : Program} {k0 f : Nat} {args env : List AV} {s : Sto} {d : Option Nat} {R : List AV -> Sto -> Prop} {x : Option α} {β : Type} {K : α -> Option β} {r : β} {q : α -> Prop}
end
end Abx
namespace Abx
open Go
section
open Go.RowKit
theorem satN0 (id : Nat) : sat [] id = .dead := rfl
theorem own_nilS {β : Beta} {b o : Nat} : ¬ own β [] b o := fun ⟨_, h⟩ => h
theorem blk_nilS {β : Beta} {id b : Nat} : ¬ blockOf β [] id b := fun h => h
theorem cell_below {w w' : World} (h : Below w.heap.size w w') {b o : Nat} {v : Value} (hc : w.cell? ⟨b, o, none⟩ = some v) : w'.cell? ⟨b, o, none⟩ = some v := by
 have hb : b < w.heap.size := cell_lt hc
 have := h.block b hb
 simp only [World.cell?] at hc ⊢
 rw [this]; exact hc
theorem Inv.belowN {C : Ctx} {w' : World} (hs : C.s = []) (h : Inv C C.β C.s C.w) (hb : Below C.w.heap.size C.w w') : Inv C C.β [] w' where
 size := hb.size
 io := by unfold wio; rw [hb.os, hb.output, hb.tape]
 keep b o v hc _ := cell_below hb hc
 blks b hlt _ := hb.block b hlt
 ownd b o h := (own_nilS h).elim
 ownB id b h := (blk_nilS h).elim
 pl := h.pl
 low := h.low
 obs id := by
  have := h.obs id
  rw [hs] at this
  rw [satN0] at this ⊢
  exact this
 inj i j b h := (blk_nilS h).elim
theorem pfun_of {P : Program} {f : Nat} {args : List D} {r : D}
 (h : ∀ (β : Beta) (O : Own) (w : World) (vs : Array Value), (∀ b o, O b o -> b < w.heap.size) -> AV.oks β O w (args.map .d) vs.toList -> Calls P f vs w fun e w' => ∃ v, e = .returned v /\ D.ok O w' r v /\ Below w.heap.size w w') : PFun P f args r := fun C vs hs hk hinv hargs => by
 have hO : ∀ b o, C.forb C.β C.s b o -> b < C.w.heap.size := fun b o ho => by
  rcases ho with ho | ho
  ·exact (hinv.low b o ho).1
  ·rw [hs] at ho; exact (own_nilS ho).elim
 refine (h _ _ _ vs hO hargs).mono ?_
 rintro e w' ⟨v, rfl, hv, hb⟩
 refine ⟨v, .d r, C.β, [], rfl, hinv.belowN hs hb, ?_, rfl⟩
 simp only [AV.ok]
 refine D.ok_mono (fun b o v hc hn => ⟨hc, fun ho => hn ?_⟩) _ _ hv
 rcases ho with ho | ho
 ·exact .inl ho
 ·exact (own_nilS ho).elim
theorem row_ints {O : Own} {w : World} {b : Nat} : ∀ {xs : List Int} {o : Nat}, D.row O w b o 1 (xs.map iD) -> ∀ j x, xs[j]? = some x -> w.cell? ⟨b, o + j, none⟩ = some (.int .i64 x)
 | [], _, _, j, x, h => by simp at h
 | y :: ys, o, hr, j, x, h => by
  rw [List.map_cons, D.row_cons] at hr
  obtain ⟨⟨vs, h1, h2, v, rfl, h3⟩, h4⟩ := hr
  cases j with
  | zero =>
   simp at h; subst h
   simp only [D.ok] at h3
   rw [<- h3.1]; exact (h2 0 v rfl).1
  | succ j =>
   have := row_ints h4 j x (by simpa using h)
   rwa [show o + 1 + j = o + (j + 1) by omega] at this
end
end Abx
namespace Go.Proofs.YtglpjlpmijfocaaGreat
open Go Go.RowKit Go.Proofs
theorem sizeBld : (Tryz.prog.info? 132).map (·.size) = some 2 := by kernel_rfl
theorem liesBld : liesAt Tryz.prog Tryz.prog.depth 132 (2 / Tryz.prog.cellsOf 132) 0 132 1 = true := by kernel_rfl
theorem infoByt : (Tryz.prog.info? 5).map (fun i => (i.zero, i.size, i.bytes)) = some (some (.int .u8 0), 1, 1) := by kernel_rfl
set_option maxHeartbeats 1000000 in
set_option maxRecDepth 100000 in
theorem chk_used (b : Nat) (w : World) (h0 : w.cell? ⟨b, 0, none⟩ = some (.pointer (some ⟨b, 0, none⟩))) :
 Calls Tryz.prog 132 #[.pointer (some ⟨b, 0, none⟩)] w fun e w' => e = .returned (.tuple #[]) /\ w' = w := by
 obtain ⟨j, hj, _⟩ := Option.map_eq_some_iff.1 sizeBld
 go_enter Tryz.func132, Tryz.ntmps132
 go_wp2
 rw [Lib.run_neq_ptr_same w _ Tryz.underlying130 hj]
 go_wp2
 go_end0
 exact ⟨rfl, rfl⟩
set_option maxHeartbeats 1000000 in
set_option maxRecDepth 100000 in
theorem chk_fresh (b : Nat) (w : World) (h0 : w.cell? ⟨b, 0, none⟩ = some (.pointer none)) (hsh : w.shape? b = some (132, 2)) (hfz : w.frozen? ⟨b, 0, none⟩ = false) :
 Calls Tryz.prog 132 #[.pointer (some ⟨b, 0, none⟩)] w fun e w' => e = .returned (.tuple #[]) /\ w' = w.setCell ⟨b, 0, none⟩ (.pointer (some ⟨b, 0, none⟩)) := by
 obtain ⟨j, hj, hjs⟩ := Option.map_eq_some_iff.1 sizeBld
 go_enter Tryz.func132, Tryz.ntmps132
 go_wp2
 rw [Lib.run_to_unsafe w ⟨b, 0, none⟩ Tryz.underlying130 Tryz.underlying191 hj (by rw [hjs]; decide) hsh (Nat.zero_lt_succ 1)]
 simp only [Result.andThen]
 rw [Oper.upon_value]
 go_wp2
 rw [run_callFunc_extern Tryz.func157 (by kernel_rfl) (by kernel_rfl) (by kernel_rfl) (e := Extern.AbiNoEscape.same) (by kernel_rfl)]
 rw [Lib.run_noEscape]
 simp only [Result.andThen]
 rw [Oper.upon_value]
 go_wp2
 rw [Lib.run_from_unsafe w ⟨b, 0, none⟩ Tryz.underlying191 Tryz.underlying130 hj hsh liesBld]
 simp only [Result.andThen]
 rw [Oper.upon_value]
 go_wp2
 go_end0
 exact ⟨rfl, rfl⟩
theorem chk_k (B b : Nat) (bs : List Value) (w : World) (h : Lib.IsBuilderF 132 5 B b bs w) :
 Calls Tryz.prog 132 #[.pointer (some ⟨b, 0, none⟩)] w fun e w' => e = .returned (.tuple #[]) /\ (Lib.BuilderAtF 132 5 B b (.pointer (some ⟨b, 0, none⟩)) bs w' /\ Below B w w' /\ Lib.OthersKept 5 (some b) w w') := by
 rcases h with h | h
 ·refine (chk_fresh b w h.cell0 h.shape h.frozen0).mono ?_
  rintro e w' ⟨rfl, rfl⟩
  exact ⟨rfl, h.used _, (Below.refl B w).setCell (p := ⟨b, 0, none⟩) h.1 _, (Lib.OthersKept.refl _ _ w).setCell ⟨b, 0, none⟩ rfl _⟩
 ·refine (chk_used b w h.cell0).mono ?_
  rintro e w' ⟨rfl, rfl⟩
  exact ⟨rfl, h, Below.refl B _, Lib.OthersKept.refl _ _ _⟩
set_option maxHeartbeats 2000000 in
set_option maxRecDepth 100000 in
theorem wbyte (B b : Nat) (bs : List Value) (c : Int) (w : World) (h : Lib.IsBuilderF 132 5 B b bs w) (hlen : bs.length + 1 <= 140737488355328) (hBw : B <= w.heap.size) :
 Calls Tryz.prog 99 #[.pointer (some ⟨b, 0, none⟩), .int .u8 c] w fun e w' => e = .returned .nilIface /\ (Lib.BuilderAtF 132 5 B b (.pointer (some ⟨b, 0, none⟩)) (bs ++ [.int .u8 c]) w' /\ Below B w w' /\ Lib.OthersKept 5 (some b) w w') := by
 obtain ⟨i0, hi, hz0, hz1, hz2⟩ := info_parts infoByt
 go_enter Tryz.func99, Tryz.ntmps99
 go_wp2_with (go_at_call 132; refine (chk_k B b bs _ h).mono ?_)
 rintro e w1 ⟨rfl, h1, hb1, hk1⟩
 obtain ⟨hB, v, hbk, hown, hne⟩ := h1
 have c0 : w1.cell? ⟨b, 0, none⟩ = some (.pointer (some ⟨b, 0, none⟩)) := by rw [Lib.cell_of_heap hbk]; rfl
 have c1 : w1.cell? ⟨b, 1, none⟩ = some v := by rw [Lib.cell_of_heap hbk]; rfl
 go_wp2_with (at_builtin; refine wpList_append_ownF _ rfl _ _ 37 rfl B 5 i0 (.int .u8 0) 1 1 Tryz.underlying37 hi hz0 hz1 hz2 rfl (by decide) _ _ _ rfl (hown.alloc _) ⟨w1.heap.size, 0, none⟩ 1 1 [.int .u8 c] rfl rfl ?c1 ?c2 ?c3 ?c4 ?c5 ?_)
 case c1 =>
  intro j u hj
  match j, hj with
  | 0, hj => simp at hj; subst hj; simp [Addr.add]
 case c2 => intro u hu; simp at hu; subst hu; rfl
 case c3 => unfold maxLen; omega
 case c4 => omega
 case c5 => have := hb1.size; simp; omega
 intro v' w2 hown' hgrow _
 have hlt : b < w1.heap.size := by
  rcases Nat.lt_or_ge b w1.heap.size with h' | h'
  ·exact h'
  ·simp [Array.getElem?_eq_none h'] at hbk
 have hb2 : w2.heap[b]? = some (.cells #[.pointer (some ⟨b, 0, none⟩), v] 132 (0, 0)) := by
  rw [hgrow.block b (by simp; omega) (fun e => hne e.symm), Lib.alloc_old w1 _ b hlt]
  exact hbk
 have d0 : w2.cell? ⟨b, 0, none⟩ = some (.pointer (some ⟨b, 0, none⟩)) := by rw [Lib.cell_of_heap hb2]; rfl
 have d1 : w2.cell? ⟨b, 1, none⟩ = some v := by rw [Lib.cell_of_heap hb2]; rfl
 have f1 : w2.frozen? ⟨b, 1, none⟩ = false := Lib.frozen_of_heap hb2 1
 obtain ⟨g, cap, rfl⟩ : ∃ g cap, v' = .slice (some ⟨g, 0, none⟩) (bs.length + 1) cap := by
  rcases hown'.2 with ⟨_, h0⟩ | ⟨g, cap, cur, fz, hv, _⟩
  ·omega
  ·exact ⟨g, cap, hv⟩
 go_wp2
 go_ret
 refine ⟨rfl, ?_, ?_, ((hk1.alloc _).grown hgrow (Lib.ownsRowF_kind (hown.alloc _))).setCell ⟨b, 1, none⟩ rfl _⟩
 ·exact Lib.BuilderAtF.put (T := 132) (e := 5) hB hb2 (bs' := bs ++ [.int .u8 c]) (by simpa using hown') (by decide)
 ·exact ((hb1.alloc (by have := hb1.size; omega) _).grown hgrow (by have := hb1.size; simp; omega) (fun k hk => (hown.lt k hk).1)).setCell (p := ⟨b, 1, none⟩) hB _
def kByte (n : Int) : UInt8 := UInt8.ofNat (wrap64 (n + 24) % 256).toNat
def kBytes (t : List Int) : List UInt8 := t.map kByte
theorem kByte_int (n : Int) : ((kByte n).toNat : Int) = wrap64 (n + 24) % 256 := by
 have h1 := Int.emod_nonneg (wrap64 (n + 24)) (show (256 : Int) ≠ 0 by decide)
 have h2 := Int.emod_lt_of_pos (wrap64 (n + 24)) (show (0 : Int) < 256 by decide)
 unfold kByte
 simp only [UInt8.toNat_ofNat']
 rw [Nat.mod_eq_of_lt (by simp; omega)]
 omega
theorem byteCells_snoc (l : List UInt8) (n : Int) : Lib.byteCells l ++ [.int .u8 (wrap64 (n + 24) % 256)] = Lib.byteCells (l ++ [kByte n]) := by
 simp [Lib.byteCells, kByte_int]
theorem byteCells_len (l : List UInt8) : (Lib.byteCells l).length = l.length := by simp [Lib.byteCells]
set_option maxHeartbeats 4000000 in
set_option maxRecDepth 100000 in
theorem key_walk (ts : List Int) (A : Option Addr) (cap : Nat) (w : World) (hl : ts.length < 2 ^ 40) (hrd : ∀ j y, ts[j]? = some y -> ∃ ad, A = some ad /\ w.cell? (ad.add j) = some (.int .i64 y)) :
 Calls Tryz.prog 73 #[.slice A ts.length cap] w fun e w' => e = .returned (.string ⟨(kBytes ts).toArray⟩) /\ Below w.heap.size w w' := by
 have blk : ∀ (ad : Addr) (n : Nat), (ad.add n).block = ad.block := fun a n => by unfold Addr.add; split <;> rfl
 go_enter Tryz.func73, Tryz.ntmps73
 go_wp2
 go_loopw [8] (fun i wr => ∃ q : Nat, i = .int .i64 q /\ q <= ts.length /\ Lib.IsBuilderF 132 5 w.heap.size w.heap.size (Lib.byteCells (kBytes (ts.take q))) wr /\ Below w.heap.size w wr /\ w.heap.size < wr.heap.size) (fun i _ => (ts.length - intOf i).toNat)
 case atStart =>
  refine ⟨0, rfl, Nat.zero_le _, ?_, (Below.refl _ _).alloc (Nat.le_refl _) _, by simp⟩
  have := Lib.IsBuilderF.of (Lib.fresh_isBuilder 132 5 w)
  simpa [kBytes, Lib.byteCells] using this
 case round =>
  obtain ⟨q, rfl, hq, hB, hb, hsz⟩ := hrel
  by_cases ha : q < ts.length
  ·obtain ⟨ad, rfl, cx0⟩ := hrd q _ (List.getElem?_eq_getElem ha)
   have cx : wr.cell? (ad.add q) = some (.int .i64 ts[q]) := by rw [hb.cell (World.block_lt_of_cell? w _ cx0)]; exact cx0
   have htk : kBytes (ts.take (q + 1)) = kBytes (ts.take q) ++ [kByte ts[q]] := by
    unfold kBytes; rw [List.take_succ_eq_append_getElem ha, List.map_append]; rfl
   have hW := wbyte w.heap.size w.heap.size (Lib.byteCells (kBytes (ts.take q))) (wrap64 (ts[q] + 24) % 256) wr hB (by rw [byteCells_len]; simp [kBytes]; omega) (by omega)
   rw [byteCells_snoc, <- htk] at hW
   generalize ts[q] = x at *
   go_wp2_with (go_at_call 99; refine hW.mono ?_)
   rintro e w2 ⟨rfl, h2, b2, k2⟩
   go_wp2
   go_roundw
   case rel => exact ⟨q + 1, by go_num, by omega, .inr h2, hb.trans b2, by have := b2.size; omega⟩
   case measure => simp [intOf]; omega
  ·have : q = ts.length := by omega
   subst this
   rw [List.take_length] at hB
   have hS := Tryz.Builder_String_any_k w.heap.size w.heap.size (kBytes ts) wr hB (by omega)
   go_wp2_with (go_at_call 100; refine hS.mono ?_)
   rintro e w2 ⟨rfl, h2, b2, k2⟩
   go_wp2
   go_ret
   exact ⟨rfl, hb.trans b2⟩
open Abx in
def F_impl_key (t : List Int) : Option ByteArray := if t.length < 1099511627776 then some ⟨(kBytes t).toArray⟩ else none
open Abx in
instance c_impl_key {t : List Int} : HasC (F_impl_key t) fun rr => PFun Tryz.prog 73 [slD 1 iD t] (sD rr) := ⟨fun {rr} h => by
 unfold F_impl_key at h
 split at h
 ·rename_i hl
  cases h
  refine pfun_of fun β O w vs hO ha => ?_
  simp only [List.map_cons, List.map_nil, AV.oks, AV.ok] at ha
  obtain ⟨v, r, hv, ha, rfl⟩ := ha
  simp only [slD, D.ok, List.length_map] at ha
  obtain ⟨A, cap, rfl, _, _, hrow⟩ := ha
  have hvs : vs = #[.slice A t.length cap] := Array.ext' (by simpa using hv)
  subst hvs
  refine (key_walk t A cap w hl fun j y hj => ?_).mono ?_
  ·rcases hrow with hrow | ⟨b, o, rfl, hrow⟩
   ·simp at hrow; subst hrow; simp at hj
   ·refine ⟨⟨b, o, none⟩, rfl, ?_⟩
    have := row_ints hrow j y hj
    unfold Addr.add
    split
    ·rename_i hz; subst hz; simpa using this
    ·exact this
  ·rintro e w' ⟨rfl, hb⟩
   exact ⟨_, rfl, by simp [sD, D.ok, Abx.one], hb⟩
 ·cases h⟩
end Go.Proofs.YtglpjlpmijfocaaGreat
namespace Abx
open Go
attribute [go_sem] List.set_cons_zero List.set_cons_succ
attribute [go_sem] ne_eq not_false_eq_true
section
variable {α γ : Type} [Inhabited α] {f : α -> D} {f' : γ -> D} {e e' n k0 : Nat} {s : Sto} {env : List AV} {xs : List α} {y y' : α} {ys : List γ} {i k : Nat}
end
end Abx
namespace Go.Proofs.YtglpjlpmijfocaaGreat
open Go Abx
attribute [local irreducible] vcm vgo vdr vrun vdrun MWp GhostQ BrC BrO BrG BrD BrH AmbO callR callD drQ EnvLe StoLe
set_option maxHeartbeats 4000000
def mc72 : MCode :=
 (.seq (.reg (sq 2 [bo 2 33 0] ++ sq 4 [.mv (.const (.slice none 0 0)), mb false])) (.seq (.reg (sq 6 [.alloc 6 93 [.sl 0 (some true) []]])) (.seq (.reg (sq 7 [.alloc 7 4 [.lit (.bool false)]] ++ s0 (.store 1 (t0 7) (.const (.bool false))))) (.seq (.seq (.reg (sq 10 [la 2 2, mv 1, cf 98 [10, 11]])) (.block 0 (.rng (t0 12) [13, 14] (.seq (.reg (sq 8 [.alloc 8 97 [.lit (.int .i64 0), .lit (.int .i64 0), .sl 0 (some true) []]] ++ s0 (sr 3 8 13))) (.reg (sq 9 [mv 14]))) (.block 1 (.seq (.reg (sq 15 [mv 9])) (.cond (t0 15) (.reg (sq 16 [ld 6, la 3 8, .bsl 18 97 3 [(t0 17)], ap 19 97 3 40 16 18] ++ s0 (sr 1 6 19))) (.reg (s0 (.store 1 (t0 7) (.const (.bool true))))))))))) (.seq (.draw (sq 20 [ld 6, ld 7] ++ sq 4 [mv 20, mv 21]) [[], [], [0, 0], [1, 2, 0, 1, 2]]) .ret)))))
theorem fn72 : MFn Tryz.prog 72 mc72 22 [.tmp 4, .tmp 5] := ⟨_, Tryz.func72, by kernel_rfl, Tryz.ntmps72, by kernel_rfl⟩
def F_impl_stepsFrom_l1 (els : (List ((Int × Int × (List Int)) × Bool))) : (Nat × (List (Int × Int × (List Int))) × Bool) -> Option ((Nat × (List (Int × Int × (List Int))) × Bool) ⊕ ((List (Int × Int × (List Int))) × Bool))
 | (jj, out, long) =>
  if jj < els.length then
   if (els.getD jj default).2 = true then
    if (out.length + 1) * 40 <= 140737488355328 then
     some (.inl (jj + 1, (out ++ [((els.getD jj default).1.1, (els.getD jj default).1.2.1, (els.getD jj default).1.2.2)]), long))
    else none
   else
    some (.inl (jj + 1, out, true))
  else
   Option.map Sum.inr (
    some (out, long))
def F_impl_stepsFrom (sys : ((List Int) × (List ((List Int) × (List Int))))) (t : (List Int)) : Option ((List (Int × Int × (List Int))) × Bool) :=
 (F_impl_redexSteps sys t).bind fun r =>
 (F_redexEls sys t).bind fun els =>
 loopC (F_impl_stepsFrom_l1 els) (0, [], false)
instance c_impl_stepsFrom {sys : ((List Int) × (List ((List Int) × (List Int))))} {t : (List Int)} : HasC (F_impl_stepsFrom sys t) fun rr => PFunN Tryz.prog 72 [D_impl_System sys, (slD 1 iD) t] [(slD 3 D_impl_Step) rr.1, bD rr.2] := ⟨@fun rr h => by
 delta F_impl_stepsFrom at h
 refine fn72.pureLN (vcm_sound ?_)
 delta mc72
 refine stp ?_
 refine rCo [] [] h fun r hr h => ?_
 obtain ⟨els, hels, h⟩ := Option.bind_eq_some_iff.1 h
 refine m_fwd2 (xs := els) h (it_redexSteps hels) 8 (fun pp => [(2, .obj 33 [.d (slD 1 iD sys.1), .d (slD 2 D_impl_Rule sys.2)]), (6, .obj 93 [.own 3 19 (List.map D_impl_Step pp.1)]), (7, .obj 4 [.d (bD pp.2)]), (19, .tok 97 3 pp.1.length)]) ?_ ?_ ?_
 ·try dsimp only
  refine (Weak.thawCell 6 0 19 97 3 rfl rfl rfl).trans ?_
  exact wk
 ·rintro jj ⟨out, long⟩ t1 hj h hb1
  unfold F_impl_stepsFrom_l1 at h
  try dsimp only at h
  rw [if_pos hj] at h
  refine stp ?_
  refine it h (fun hc h => ?_) fun hc h => ?_
  ·refine ndI h fun hp h => ?_
   cases h
   refine ⟨_, rfl, ?_⟩
   exact ⟨_, (Weak.drop 8 (by omega)).trans ((Weak.drop 18 (by omega)).trans (wk (EnvLe.refl _)))⟩
  cases h
  refine ⟨_, rfl, ?_⟩
  exact ⟨_, (Weak.drop 8 (by omega)).trans (wk (EnvLe.refl _))⟩
 ·rintro ⟨out, long⟩ t1 h hb1
  unfold F_impl_stepsFrom_l1 at h
  try dsimp only at h
  rw [if_neg (Nat.lt_irrefl _)] at h
  refine stp ?_
  exact aut⟩
end Go.Proofs.YtglpjlpmijfocaaGreat
namespace Go.Proofs.YtglpjlpmijfocaaGreat
open Go Abx
attribute [local irreducible] vcm vgo vdr vrun vdrun MWp GhostQ BrC BrO BrG BrD BrH AmbO callR callD drQ EnvLe StoLe
set_option maxHeartbeats 4000000
def mc38 : MCode :=
 (.seq (.reg (sq 3 [bo 3 33 0] ++ sq 6 [mi 0])) (.seq (.reg (sq 19 [mv 1, .bsl 20 22 1 [(t0 19)]] ++ sq 7 [mv 20])) (.seq (.reg (sq 21 [.mkmap 21 9] ++ sq 8 [mv 21])) (.seq (.reg (sq 9 [mi 0])) (.block 0 (.loop (.seq (.block 1 (.seq (.reg (sq 10 [.mv (.const (.slice none 0 0))])) (.seq (.seq (.reg (sq 24 [mv 7, ln 24, mi 0])) (.block 2 (.loop (.seq (.reg (sq 27 [bn .lss 26 25])) (.seq (.cond (t0 27) .skip (.exit 2)) (.seq (.block 3 (.seq (.reg (sq 28 [ix 1 24 26, ld 28] ++ sq 12 [mv 29])) (.seq (.reg (sq 31 [la 2 3, mv 12, cf 72 [31, 32]] ++ sq 30 [mv 33] ++ sq 34 [ex 30 0, ex 30 1] ++ sq 13 [mv 34, mv 35])) (.seq (.seq (.reg (sq 36 [mv 14])) (.cond (t0 36) (.seq (.reg (sq 6 [mi (-1)])) .ret) .skip)) (.seq (.seq (.reg (sq 37 [mv 13, ln 37, mi 0])) (.block 4 (.loop (.seq (.reg (sq 40 [bn .lss 39 38])) (.seq (.cond (t0 40) .skip (.exit 4)) (.seq (.block 5 (.seq (.reg (sq 41 [ix 3 37 39, la 3 41] ++ sq 16 [.alloc 16 97 [.lit (.int .i64 0), .lit (.int .i64 0), .sl 0 (some true) []]] ++ s0 (sr 3 16 42))) (.seq (.reg (sq 43 [mv 8, fa 2 16, ld 44, cf 73 [45], .look 9 none (.lit (.bool false)) false (t0 43) (t0 46), nt 47])) (.cond (t0 48) (.seq (.reg (sq 49 [mv 8, fa 2 16, ld 50, cf 73 [51]] ++ s0 (.mput 9 none (t0 49) (t0 52) (.const (.bool true))))) (.reg (sq 53 [mv 10, fa 2 16, ld 54, .bsl 56 22 1 [(t0 55)], ap 57 22 1 24 53 56] ++ sq 10 [mv 57]))) .skip)))) (.reg (sq 58 [bi .add 39 1] ++ sq 39 [mv 58])))))))) (.seq (.reg (sq 59 [mv 10, ln 59, bi .gtr 60 60])) (.cond (t0 61) (.seq (.reg (sq 6 [mi (-1)])) .ret) .skip))))))) (.reg (sq 62 [bi .add 26 1] ++ sq 26 [mv 62])))))))) (.seq (.seq (.reg (sq 63 [mv 10, ln 63, mi 0])) (.block 6 (.loop (.seq (.reg (sq 66 [bn .lss 65 64])) (.seq (.cond (t0 66) .skip (.exit 6)) (.seq (.block 7 (.seq (.reg (sq 67 [ix 1 63 65, ld 67] ++ sq 18 [mv 68])) (.reg (sq 69 [mv 8, mv 18, cf 73 [70]] ++ s0 (.mdel 9 none (t0 69) (t0 71)))))) (.reg (sq 72 [bi .add 65 1] ++ sq 65 [mv 72])))))))) (.seq (.seq (.reg (sq 73 [mv 10, ln 73, bi .eql 74 0])) (.cond (t0 75) (.seq (.reg (sq 76 [mv 9] ++ sq 6 [mv 76])) .ret) .skip)) (.seq (.seq (.reg (sq 77 [mv 9, mv 2, bn .eql 77 78])) (.cond (t0 79) (.seq (.reg (sq 6 [mi (-1)])) .ret) .skip)) (.reg (sq 80 [mv 10] ++ sq 7 [mv 80])))))))) (.reg (sq 22 [mv 9, bi .add 22 1] ++ sq 9 [mv 23])))))))))
theorem fn38 : MFn Tryz.prog 38 mc38 81 [.tmp 6] := ⟨_, Tryz.func38, by kernel_rfl, Tryz.ntmps38, by kernel_rfl⟩
def F_impl_longest_l3 (v26 : Int) (r : ((List (Int × Int × (List Int))) × Bool)) : ((List (List Int)) × Int × (List (Lit × Bool))) -> Option (((List (List Int)) × Int × (List (Lit × Bool))) ⊕ (((List (List Int)) × Int × (List (Lit × Bool))) ⊕ (((List (List Int)) × Int × (List (Lit × Bool))) ⊕ Int)))
 | (next'_1, v39, m21_2) =>
  if (decide (v39 < (r.1.length : Int))) = true then
   if 0 <= v39 /\ v39 < (r.1.length : Int) then
    (F_impl_key ((r.1.getD v39.toNat default).2.2)).bind fun r_1 =>
    if r_1.size <= maxLen then
     if ((mget m21_2 (Lit.string r_1.data.toList)).getD false) = true then
      some (.inl (next'_1, (IntKind.i64.wrap (v39 + 1)), m21_2))
     else
      (F_impl_key ((r.1.getD v39.toNat default).2.2)).bind fun r_2 =>
      if r_2.size <= maxLen /\ m21_2.length < 1099511627776 then
       if (next'_1.length + 1) * 24 <= 140737488355328 then
        some (.inl ((next'_1 ++ [(r.1.getD v39.toNat default).2.2]), (IntKind.i64.wrap (v39 + 1)), (((Lit.string r_2.data.toList), true) :: m21_2)))
       else none
      else none
    else none
   else none
  else
   Option.map Sum.inr (
    if (decide (60 < (next'_1.length : Int))) = true then
     Option.map Sum.inr (
      Option.map Sum.inr (
       some (-1)))
    else
     some (.inl (next'_1, (IntKind.i64.wrap (v26 + 1)), m21_2)))
def F_impl_longest_l4 (steps : Int) (k : Int) (next' : (List (List Int))) : (Int × (List (Lit × Bool))) -> Option ((Int × (List (Lit × Bool))) ⊕ (((List (List Int)) × Int × (List (Lit × Bool))) ⊕ Int))
 | (v65, m21_3) =>
  if (decide (v65 < (next'.length : Int))) = true then
   if 0 <= v65 /\ v65 < (next'.length : Int) then
    (F_impl_key (next'.getD v65.toNat default)).bind fun r_3 =>
    if r_3.size <= maxLen then
     some (.inl ((IntKind.i64.wrap (v65 + 1)), (mdel (Lit.string r_3.data.toList) m21_3)))
    else none
   else none
  else
   Option.map Sum.inr (
    if ((next'.length : Int) == 0) = true then
     Option.map Sum.inr (
      some k)
    else
     if (k == steps) = true then
      Option.map Sum.inr (
       some (-1))
     else
      some (.inl (next', (IntKind.i64.wrap (k + 1)), m21_3)))
def F_impl_longest_l2 (sys : ((List Int) × (List ((List Int) × (List Int))))) (steps : Int) (level : (List (List Int))) (k : Int) : ((List (List Int)) × Int × (List (Lit × Bool))) -> Option (((List (List Int)) × Int × (List (Lit × Bool))) ⊕ (((List (List Int)) × Int × (List (Lit × Bool))) ⊕ Int))
 | (next', v26, m21_1) =>
  if (decide (v26 < (level.length : Int))) = true then
   if 0 <= v26 /\ v26 < (level.length : Int) then
    (F_impl_stepsFrom sys (level.getD v26.toNat default)).bind fun r =>
    if r.2 = true then
     Option.map Sum.inr (
      Option.map Sum.inr (
       some (-1)))
    else
     loopC (F_impl_longest_l3 v26 r) (next', 0, m21_1)
   else none
  else
   Option.map Sum.inr (
    loopC (F_impl_longest_l4 steps k next') (0, m21_1))
def F_impl_longest_l1 (sys : ((List Int) × (List ((List Int) × (List Int))))) (steps : Int) : ((List (List Int)) × Int × (List (Lit × Bool))) -> Option (((List (List Int)) × Int × (List (Lit × Bool))) ⊕ Int)
 | (level, k, m21) =>
  loopC (F_impl_longest_l2 sys steps level k) ([], 0, m21)
def F_impl_longest (sys : ((List Int) × (List ((List Int) × (List Int))))) (t : (List Int)) (steps : Int) : Option Int :=
 loopC (F_impl_longest_l1 sys steps) ([t], 0, [])
instance c_impl_longest {sys : ((List Int) × (List ((List Int) × (List Int))))} {t : (List Int)} {steps : Int} : HasC (F_impl_longest sys t steps) fun rr => PFun Tryz.prog 38 [D_impl_System sys, (slD 1 iD) t, iD steps] (iD rr) := ⟨@fun rr h => by
 delta F_impl_longest at h
 refine fn38.pureL (vcm_sound ?_)
 delta mc38
 refine stp ?_
 refine nds ?_
 refine m_lW h [6, 7, 9, 10, 12, 13, 14, 16, 18, 22, 23, 24, 25, 26, 27, 28, 29, 30, 31, 32, 33, 34, 35, 36, 37, 38, 39, 40, 41, 42, 43, 44, 45, 46, 47, 48, 49, 50, 51, 52, 53, 54, 55, 56, 57, 58, 59, 60, 61, 62, 63, 64, 65, 66, 67, 68, 69, 70, 71, 72, 73, 74, 75, 76, 77, 78, 79, 80] (fun pp => [(7, .d (slD 1 (slD 1 iD) pp.1)), (9, .d (iD pp.2.1))]) (fun pp => [(3, .obj 33 [.d (slD 1 iD sys.1), .d (slD 2 D_impl_Rule sys.2)]), (20, .tok 22 1 1), (21, .mp Tryz.prog 9 (eD bD pp.2.2))]) ?_
 rintro ⟨level, k, m21⟩ t1 h hb1
 unfold F_impl_longest_l1 at h
 try dsimp only at h
 refine vcm_sound (stp ?_)
 refine m_loopF h [6, 10, 12, 13, 14, 16, 26, 27, 28, 29, 30, 31, 32, 33, 34, 35, 36, 37, 38, 39, 40, 41, 42, 43, 44, 45, 46, 47, 48, 49, 50, 51, 52, 53, 54, 55, 56, 57, 58, 59, 60, 61, 62] (fun pp => [(10, .own 1 57 (List.map (slD 1 iD) pp.1)), (26, .d (iD pp.2.1))]) (fun pp => [(3, .obj 33 [.d (slD 1 iD sys.1), .d (slD 2 D_impl_Rule sys.2)]), (20, .tok 22 1 1), (21, .mp Tryz.prog 9 (eD bD pp.2.2)), (57, .tok 22 1 pp.1.length)]) ?_ ?_
 ·try dsimp only
  refine (Weak.thaw 10 57 22 1 rfl rfl).trans ?_
  exact wk
 rintro ⟨next', v26, m21_1⟩ t2 h hb2
 unfold F_impl_longest_l2 at h
 try dsimp only at h
 refine vcm_sound (stp ?_)
 refine it h (fun hc h => ?_) fun hc h => ?_
 ·refine ndI h fun hp h => ?_
  refine rCN h fun r hr h => ?_
  refine iF h fun hc h => ?_
  refine m_lW h [10, 16, 39, 40, 41, 42, 43, 44, 45, 46, 47, 48, 49, 50, 51, 52, 53, 54, 55, 56, 57, 58] (fun pp => [(10, .own 1 57 (List.map (slD 1 iD) pp.1)), (39, .d (iD pp.2.1))]) (fun pp => [(3, .obj 33 [.d (slD 1 iD sys.1), .d (slD 2 D_impl_Rule sys.2)]), (20, .tok 22 1 1), (21, .mp Tryz.prog 9 (eD bD pp.2.2)), (57, .tok 22 1 pp.1.length)]) ?_
  rintro ⟨next'_1, v39, m21_2⟩ t3 h hb3
  unfold F_impl_longest_l3 at h
  try dsimp only at h
  refine vcm_sound (stp ?_)
  refine iT h fun hc h => ?_
  refine ndI h fun hp h => ?_
  refine rC h fun r_1 hr_1 h => ?_
  refine ndI h fun hp h => ?_
  refine it h (fun hc h => ?_) fun hc h => ?_
  ·cases h
   refine ⟨_, rfl, ?_⟩
   refine (Weak.drop 16 (by omega)).trans ?_
   exact wk
  refine rC h fun r_2 hr_2 h => ?_
  refine ndI h fun hp h => ?_
  refine ndI h fun hp h => ?_
  cases h
  refine ⟨_, rfl, ?_⟩
  refine (Weak.drop 16 (by omega)).trans ?_
  refine (Weak.drop 56 (by omega)).trans ?_
  exact wk
 replace h := inr_some h hb2
 refine m_lW h [18, 65, 66, 67, 68, 69, 70, 71, 72] (fun pp => [(65, .d (iD pp.1))]) (fun pp => [(3, .obj 33 [.d (slD 1 iD sys.1), .d (slD 2 D_impl_Rule sys.2)]), (20, .tok 22 1 1), (21, .mp Tryz.prog 9 (eD bD pp.2)), (57, .tok 22 1 next'.length)]) ?_
 rintro ⟨v65, m21_3⟩ t2 h hb2
 unfold F_impl_longest_l4 at h
 try dsimp only at h
 refine vcm_sound (stp ?_)
 refine iF h fun hc h => ?_
 replace h := inr_some h hb2
 refine iF h fun hc h => ?_
 refine iF h fun hc h => ?_
 cases h
 refine ⟨_, rfl, ?_⟩
 refine (Weak.drop 57 (by omega)).trans ?_
 exact wk⟩
end Go.Proofs.YtglpjlpmijfocaaGreat
namespace Go.Proofs.YtglpjlpmijfocaaGreat
open Go Abx
attribute [local irreducible] vcm vgo vdr vrun vdrun MWp GhostQ BrC BrO BrG BrD BrH AmbO callR callD drQ EnvLe StoLe
set_option maxHeartbeats 4000000
def mc65 : MCode :=
 (.seq (.reg (sq 6 [.mv (.const (.slice none 0 0))])) (.seq (.seq (.reg (sq 12 [mv 1, bi .eql 12 0])) (.cond (t0 13) (.seq (.seq (.reg (sq 14 [mv 2, bi .eql 14 0])) (.cond (t0 15) (.seq (.reg (sq 16 [.bsl 16 2 1 [], .bsl 17 22 1 [(t0 16)]] ++ sq 6 [mv 17])) .ret) .skip)) (.seq (.reg (sq 18 [.bsl 18 22 1 []] ++ sq 6 [mv 18])) .ret)) .skip)) (.seq (.reg (sq 19 [.bsl 19 22 1 []] ++ sq 7 [mv 19])) (.seq (.seq (.reg (sq 8 [mi 1])) (.block 0 (.loop (.seq (.seq (.reg (sq 20 [mv 8, mv 2, bn .leq 20 21])) (.cond (t0 22) .skip (.exit 0))) (.seq (.block 1 (.seq (.seq (.reg (sq 25 [mv 0, mv 8, ix 1 25 26, ld 27, ln 28, bi .eql 29 0])) (.cond (t0 30) (.exit 1) .skip)) (.seq (.reg (sq 31 [mv 0, mv 1, bi .sub 32 1, mv 2, mv 8, bn .sub 34 35, cf 65 [31, 33, 36]] ++ sq 9 [mv 37])) (.seq (.reg (sq 10 [mi 0])) (.block 2 (.loop (.seq (.seq (.reg (sq 38 [mv 10, mv 0, mv 8, ix 1 39 40, ld 41, ln 42, bn .lss 38 43, mv 44] ++ sg 45 true 46 [mv 7, ln 46, bi .leq 47 200] ++ sq 49 [pa 45 48])) (.cond (t0 49) .skip (.exit 2))) (.seq (.block 3 (.seq (.reg (sq 11 [mi 0])) (.block 4 (.loop (.seq (.seq (.reg (sq 52 [mv 11, mv 9, ln 53, bn .lss 52 54, mv 55] ++ sg 56 true 57 [mv 7, ln 57, bi .leq 58 200] ++ sq 60 [pa 56 59])) (.cond (t0 60) .skip (.exit 4))) (.seq (.block 5 (.draw (sq 63 [mv 7, mv 0, mv 8, ix 1 64 65, ld 66, mv 10, ix 1 67 68, ld 69, cf 94 [70], mv 9, mv 11, ix 1 72 73, ld 74, ap 76 2 1 8 71 75, .bsl 77 22 1 [(t0 76)], ap 78 22 1 24 63 77] ++ sq 7 [mv 78]) [[], [], [], [1, 2], [3], [], [4, 5], [6], [7], [], [], [9, 10], [11], [8, 12, 8], [13], [0, 14, 13], [15, 15, 0, 1, 2, 3, 4, 5, 6, 7, 8, 9, 10, 11, 12, 13, 14, 15]])) (.reg (sq 61 [mv 11, bi .add 61 1] ++ sq 11 [mv 62])))))))) (.reg (sq 50 [mv 10, bi .add 50 1] ++ sq 10 [mv 51])))))))))) (.reg (sq 23 [mv 8, bi .add 23 1] ++ sq 8 [mv 24]))))))) (.seq (.reg (sq 79 [mv 7] ++ sq 6 [mv 79])) .ret)))))
theorem fn65 : MFn Tryz.prog 65 mc65 80 [.tmp 6] := ⟨_, Tryz.func65, by kernel_rfl, Tryz.ntmps65, by kernel_rfl⟩
def F_spec_l25Rows_l3 (byLength : (List (List (List Int)))) (k : Int) (r : (List (List Int))) (i : Int) : ((List (List Int)) × Int) -> Option (((List (List Int)) × Int) ⊕ (((List (List Int)) × Int) ⊕ (((List (List Int)) × Int) ⊕ (List (List Int)))))
 | (out_2, x) =>
  if (decide (x < (r.length : Int))) = true then
   if (decide ((out_2.length : Int) <= 200)) = true then
    if 0 <= k /\ k < (byLength.length : Int) then
     if 0 <= i /\ i < ((byLength.getD k.toNat default).length : Int) then
      (F_spec_l1Copy ((byLength.getD k.toNat default).getD i.toNat default)).bind fun r_1 =>
      if 0 <= x /\ x < (r.length : Int) then
       if (r_1.length + (r.getD x.toNat default).length) * 8 <= 140737488355328 then
        if (out_2.length + 1) * 24 <= 140737488355328 then
         some (.inl ((out_2 ++ [(r_1 ++ (r.getD x.toNat default))]), (IntKind.i64.wrap (x + 1))))
        else none
       else none
      else none
     else none
    else none
   else
    Option.map Sum.inr (
     some (.inl (out_2, (IntKind.i64.wrap (i + 1)))))
  else
   Option.map Sum.inr (
    some (.inl (out_2, (IntKind.i64.wrap (i + 1)))))
def F_spec_l25Rows_l2 (byLength : (List (List (List Int)))) (k : Int) (r : (List (List Int))) : ((List (List Int)) × Int) -> Option (((List (List Int)) × Int) ⊕ (((List (List Int)) × Int) ⊕ (List (List Int))))
 | (out_1, i) =>
  if 0 <= k /\ k < (byLength.length : Int) then
   if (decide (i < ((byLength.getD k.toNat default).length : Int))) = true then
    if (decide ((out_1.length : Int) <= 200)) = true then
     loopC (F_spec_l25Rows_l3 byLength k r i) (out_1, 0)
    else
     Option.map Sum.inr (
      some (.inl (out_1, (IntKind.i64.wrap (k + 1)))))
   else
    Option.map Sum.inr (
     some (.inl (out_1, (IntKind.i64.wrap (k + 1)))))
  else none
def F_spec_l25Rows_l1 (rec : (List (List (List Int))) -> Int -> Int -> Option (List (List Int))) (byLength : (List (List (List Int)))) (arity : Int) (n : Int) : ((List (List Int)) × Int) -> Option (((List (List Int)) × Int) ⊕ (List (List Int)))
 | (out, k) =>
  if (decide (k <= n)) = true then
   if 0 <= k /\ k < (byLength.length : Int) then
    if (((byLength.getD k.toNat default).length : Int) == 0) = true then
     some (.inl (out, (IntKind.i64.wrap (k + 1))))
    else
     (rec byLength (IntKind.i64.wrap (arity - 1)) (IntKind.i64.wrap (n - k))).bind fun r =>
     loopC (F_spec_l25Rows_l2 byLength k r) (out, 0)
   else none
  else
   Option.map Sum.inr (
    some out)
def F_spec_l25Rows : Nat -> (List (List (List Int))) -> Int -> Int -> Option (List (List Int))
 | 0, _, _, _ => none
 | fu + 1, byLength, arity, n =>
  if (arity == 0) = true then
   if (n == 0) = true then
    some [[]]
   else
    some []
  else
   loopC (F_spec_l25Rows_l1 (F_spec_l25Rows fu) byLength arity n) ([], 1)
def F_spec_l25Rows_all (byLength : (List (List (List Int)))) (arity : Int) (n : Int) : Option (List (List Int)) := limO fun fu => F_spec_l25Rows fu byLength arity n
theorem c_spec_l25Rows : ∀ {fu : Nat} {byLength : (List (List (List Int)))} {arity : Int} {n : Int} {rr : (List (List Int))} (h : F_spec_l25Rows fu byLength arity n = some rr), PFun Tryz.prog 65 [(slD 1 (slD 1 (slD 1 iD))) byLength, iD arity, iD n] ((slD 1 (slD 1 iD)) rr)
 | 0, _, _, _, _, h => by cases h
 | fu + 1, byLength, arity, n, rr, h => by
  have ih : ∀ {byLength : (List (List (List Int)))} {arity : Int} {n : Int}, HasC (F_spec_l25Rows fu byLength arity n) fun rr => PFun Tryz.prog 65 [(slD 1 (slD 1 (slD 1 iD))) byLength, iD arity, iD n] ((slD 1 (slD 1 iD)) rr) := ⟨fun h => c_spec_l25Rows h⟩
  unfold F_spec_l25Rows at h
  refine fn65.pureL (vcm_sound ?_)
  delta mc65
  refine stp ?_
  refine iF h fun hc h => ?_
  refine m_lW h [7, 8, 9, 10, 11, 20, 21, 22, 23, 24, 25, 26, 27, 28, 29, 30, 31, 32, 33, 34, 35, 36, 37, 38, 39, 40, 41, 42, 43, 44, 45, 46, 47, 48, 49, 50, 51, 52, 53, 54, 55, 56, 57, 58, 59, 60, 61, 62, 63, 64, 65, 66, 67, 68, 69, 70, 71, 72, 73, 74, 75, 76, 77, 78] (fun pp => [(7, .own 1 19 (List.map (slD 1 iD) pp.1)), (8, .d (iD pp.2))]) (fun pp => [(19, .tok 22 1 pp.1.length)]) ?_
  rintro ⟨out, k⟩ t1 h hb1
  unfold F_spec_l25Rows_l1 at h
  try dsimp only at h
  refine vcm_sound (stp ?_)
  refine iT h fun hc h => ?_
  refine ndI h fun hp h => ?_
  refine iF h fun hc h => ?_
  refine rC h fun r hr h => ?_
  refine m_lW h [7, 10, 11, 38, 39, 40, 41, 42, 43, 44, 45, 46, 47, 48, 49, 50, 51, 52, 53, 54, 55, 56, 57, 58, 59, 60, 61, 62, 63, 64, 65, 66, 67, 68, 69, 70, 71, 72, 73, 74, 75, 76, 77, 78] (fun pp => [(7, .own 1 19 (List.map (slD 1 iD) pp.1)), (10, .d (iD pp.2))]) (fun pp => [(19, .tok 22 1 pp.1.length)]) ?_
  rintro ⟨out_1, i⟩ t2 h hb2
  unfold F_spec_l25Rows_l2 at h
  try dsimp only at h
  refine vcm_sound (stp ?_)
  refine ndI h fun hp h => ?_
  refine iT h fun hc h => ?_
  refine iT h fun hc h => ?_
  refine m_lW h [7, 11, 52, 53, 54, 55, 56, 57, 58, 59, 60, 61, 62, 63, 64, 65, 66, 67, 68, 69, 70, 71, 72, 73, 74, 75, 76, 77, 78] (fun pp => [(7, .own 1 19 (List.map (slD 1 iD) pp.1)), (11, .d (iD pp.2))]) (fun pp => [(19, .tok 22 1 pp.1.length)]) ?_
  rintro ⟨out_2, x⟩ t3 h hb3
  unfold F_spec_l25Rows_l3 at h
  try dsimp only at h
  refine vcm_sound (stp ?_)
  refine iT h fun hc h => ?_
  refine iT h fun hc h => ?_
  refine ndI h fun hp h => ?_
  refine ndI h fun hp h => ?_
  refine dCo [] [(3, 71)] h fun r_1 hr_1 h => ?_
  refine ndI h fun hp h => ?_
  refine ndI h fun hp h => ?_
  refine ndI h fun hp h => ?_
  refine drQ_of (by kernel_rfl) (stp ?_)
  cases h
  refine ⟨_, rfl, ?_⟩
  refine (Weak.drop 71 (by omega)).trans ?_
  refine (Weak.drop 77 (by omega)).trans ?_
  exact wk
instance c_spec_l25Rows_all {byLength : (List (List (List Int)))} {arity : Int} {n : Int} : HasC (F_spec_l25Rows_all byLength arity n) fun rr => PFun Tryz.prog 65 [(slD 1 (slD 1 (slD 1 iD))) byLength, iD arity, iD n] ((slD 1 (slD 1 iD)) rr) := ⟨fun h => c_spec_l25Rows (limO_some h).choose_spec⟩
def mc21 : MCode :=
 (.seq (.reg (sq 4 [mb false])) (.seq (.seq (.reg (sq 6 [mv 0, ln 6, mv 1, ln 8, bn .neq 7 9])) (.cond (t0 10) (.seq (.reg (sq 11 [mv 0, ln 11, mv 1, ln 13, bn .lss 12 14] ++ sq 4 [mv 15])) .ret) .skip)) (.seq (.seq (.reg (sq 5 [mi 0])) (.block 0 (.loop (.seq (.seq (.reg (sq 16 [mv 5, mv 0, ln 17, bn .lss 16 18])) (.cond (t0 19) .skip (.exit 0))) (.seq (.block 1 (.seq (.draw (sq 22 [mv 0, mv 5, ix 1 22 23, ld 24, mv 1, mv 5, ix 1 26 27, ld 28, bn .neq 25 29]) [[], [], [0, 1], [2], [], [], [4, 5], [6], [3, 7]]) (.cond (t0 30) (.seq (.draw (sq 31 [mv 0, mv 5, ix 1 31 32, ld 33, mv 1, mv 5, ix 1 35 36, ld 37, bn .lss 34 38] ++ sq 4 [mv 39]) [[], [], [0, 1], [2], [], [], [4, 5], [6], [3, 7], [8, 0, 1, 2, 3, 4, 5, 6, 7, 8]]) .ret) .skip))) (.reg (sq 20 [mv 5, bi .add 20 1] ++ sq 5 [mv 21]))))))) (.seq (.reg (sq 4 [mb false])) .ret))))
theorem fn21 : MFn Tryz.prog 21 mc21 40 [.tmp 4] := ⟨_, Tryz.func21, by kernel_rfl, Tryz.ntmps21, by kernel_rfl⟩
def F_spec_LessTerm_l1 (a : (List Int)) (b : (List Int)) : Int -> Option (Int ⊕ Bool)
 | i =>
  if (decide (i < (a.length : Int))) = true then
   if 0 <= i /\ i < (a.length : Int) then
    if 0 <= i /\ i < (b.length : Int) then
     if ((a.getD i.toNat default) != (b.getD i.toNat default)) = true then
      if 0 <= i /\ i < (a.length : Int) then
       if 0 <= i /\ i < (b.length : Int) then
        Option.map Sum.inr (
         some (decide ((a.getD i.toNat default) < (b.getD i.toNat default))))
       else none
      else none
     else
      some (.inl (IntKind.i64.wrap (i + 1)))
    else none
   else none
  else
   Option.map Sum.inr (
    some false)
def F_spec_LessTerm (a : (List Int)) (b : (List Int)) : Option Bool :=
 if ((a.length : Int) != (b.length : Int)) = true then
  some (decide ((a.length : Int) < (b.length : Int)))
 else
  loopC (F_spec_LessTerm_l1 a b) 0
instance c_spec_LessTerm {a : (List Int)} {b : (List Int)} : HasC (F_spec_LessTerm a b) fun rr => PFun Tryz.prog 21 [(slD 1 iD) a, (slD 1 iD) b] (bD rr) := ⟨@fun rr h => by
 delta F_spec_LessTerm at h
 refine fn21.pureL (vcm_sound ?_)
 delta mc21
 refine stp ?_
 refine iF h fun hc h => ?_
 refine m_lW h [4, 5, 16, 17, 18, 19, 20, 21, 22, 23, 24, 25, 26, 27, 28, 29, 30, 31, 32, 33, 34, 35, 36, 37, 38, 39] (fun pp => [(5, .d (iD pp))]) (fun pp => []) ?_
 rintro i t1 h hb1
 unfold F_spec_LessTerm_l1 at h
 try dsimp only at h
 refine vcm_sound (stp ?_)
 refine iT h fun hc h => ?_
 refine ndI h fun hp h => ?_
 refine ndI h fun hp h => ?_
 refine drQ_of (by kernel_rfl) (stp ?_)
 refine iT h fun hc h => ?_
 refine ndI h fun hp h => ?_
 refine ndI h fun hp h => ?_
 refine drQ_of (by kernel_rfl) (stp ?_)
 replace h := inr_some h hb1
 cases h
 exact don⟩
def mc66 : MCode :=
 (.seq (.reg (sq 4 [.mv (.const (.slice none 0 0))])) (.seq (.reg (sq 7 [mv 0, ln 7] ++ sq 5 [mv 8])) (.seq (.block 0 (.loop (.seq (.seq (.reg (sq 9 [mv 5, bi .gtr 9 0, mv 10] ++ sg 11 true 12 [mv 1, mv 0, mv 5, bi .sub 14 1, ix 1 13 15, ld 16, cf 21 [12, 17]] ++ sq 19 [pa 11 18])) (.cond (t0 19) .skip (.exit 0))) (.block 1 (.reg (sq 20 [mv 5, bi .sub 20 1] ++ sq 5 [mv 21])))))) (.seq (.reg (sq 22 [.bsl 22 22 1 [], mv 0, mv 5, .slc (t0 23) 1 none (some (t0 24)) none, ap 26 22 1 24 22 25] ++ sq 6 [mv 26])) (.seq (.reg (sq 27 [mv 6, mv 1, .bsl 29 22 1 [(t0 28)], ap 30 22 1 24 27 29] ++ sq 6 [mv 30])) (.seq (.reg (sq 31 [mv 6, mv 0, mv 5, .slc (t0 32) 1 (some (t0 33)) none none, ap 35 22 1 24 31 34] ++ sq 4 [mv 35])) .ret))))))
theorem fn66 : MFn Tryz.prog 66 mc66 36 [.tmp 4] := ⟨_, Tryz.func66, by kernel_rfl, Tryz.ntmps66, by kernel_rfl⟩
def F_spec_l28Insert_l1 (list : (List (List Int))) (t : (List Int)) : Int -> Option (Int ⊕ (List (List Int)))
 | k =>
  if (decide (0 < k)) = true then
   if 0 <= (IntKind.i64.wrap (k - 1)) /\ (IntKind.i64.wrap (k - 1)) < (list.length : Int) then
    (F_spec_LessTerm t (list.getD (IntKind.i64.wrap (k - 1)).toNat default)).bind fun r =>
    if r = true then
     some (.inl (IntKind.i64.wrap (k - 1)))
    else
     Option.map Sum.inr (
      if 0 <= k /\ k <= (list.length : Int) then
       if (0 + (list.take k.toNat).length) * 24 <= 140737488355328 then
        if ((list.take k.toNat).length + 1) * 24 <= 140737488355328 then
         if 0 <= k /\ k <= (list.length : Int) then
          if (((list.take k.toNat) ++ [t]).length + (list.drop k.toNat).length) * 24 <= 140737488355328 then
           some (((list.take k.toNat) ++ [t]) ++ (list.drop k.toNat))
          else none
         else none
        else none
       else none
      else none)
   else none
  else
   Option.map Sum.inr (
    if 0 <= k /\ k <= (list.length : Int) then
     if (0 + (list.take k.toNat).length) * 24 <= 140737488355328 then
      if ((list.take k.toNat).length + 1) * 24 <= 140737488355328 then
       if 0 <= k /\ k <= (list.length : Int) then
        if (((list.take k.toNat) ++ [t]).length + (list.drop k.toNat).length) * 24 <= 140737488355328 then
         some (((list.take k.toNat) ++ [t]) ++ (list.drop k.toNat))
        else none
       else none
      else none
     else none
    else none)
def F_spec_l28Insert (list : (List (List Int))) (t : (List Int)) : Option (List (List Int)) :=
 loopC (F_spec_l28Insert_l1 list t) (list.length : Int)
instance c_spec_l28Insert {list : (List (List Int))} {t : (List Int)} : HasC (F_spec_l28Insert list t) fun rr => PFun Tryz.prog 66 [(slD 1 (slD 1 iD)) list, (slD 1 iD) t] ((slD 1 (slD 1 iD)) rr) := ⟨@fun rr h => by
 delta F_spec_l28Insert at h
 refine fn66.pureL (vcm_sound ?_)
 delta mc66
 refine stp ?_
 refine m_lW h [5, 9, 10, 11, 12, 13, 14, 15, 16, 17, 18, 19, 20, 21] (fun pp => [(5, .d (iD pp))]) (fun pp => []) ?_
 rintro k t1 h hb1
 unfold F_spec_l28Insert_l1 at h
 try dsimp only at h
 refine vcm_sound (stp ?_)
 exact aut⟩
def mc28 : MCode :=
 (.seq (.reg (sq 2 [bo 2 30 0] ++ sq 4 [.mv (.const (.slice none 0 0)), mb false])) (.seq (.seq (.reg (sq 13 [la 1 2, cf 64 [13], nt 14, mv 15] ++ sg 16 false 17 [mv 1, .callf 30 [(t0 17), (i0 1), (i0 60)], nt 18] ++ sq 20 [po 16 19])) (.cond (t0 20) (.seq (.reg (sq 21 [.bsl 21 22 1 []] ++ sq 4 [mv 21, mb false])) .ret) .skip)) (.seq (.reg (sq 22 [.bsl 22 22 1 [], .bsl 23 44 1 [(t0 22)]] ++ sq 6 [mv 23])) (.seq (.reg (sq 24 [.bsl 24 22 1 []] ++ sq 7 [mv 24])) (.seq (.seq (.reg (sq 8 [mi 1])) (.block 0 (.loop (.seq (.seq (.reg (sq 25 [mv 8, mv 1, bn .leq 25 26])) (.cond (t0 27) .skip (.exit 0))) (.seq (.block 1 (.seq (.reg (sq 30 [.bsl 30 22 1 []] ++ sq 9 [mv 30])) (.seq (.seq (.reg (sq 10 [mi 0])) (.block 2 (.loop (.seq (.seq (.reg (sq 31 [mv 10, fa 0 2, ld 32, ln 33, bn .lss 31 34])) (.cond (t0 35) .skip (.exit 2))) (.seq (.block 3 (.seq (.reg (sq 38 [mv 6, fa 0 2, ld 39, mv 10, ix 1 40 41, ld 42, mv 8, bi .sub 44 1, cf 65 [38, 43, 45]] ++ sq 11 [mv 46])) (.seq (.reg (sq 12 [mi 0])) (.block 4 (.loop (.seq (.seq (.reg (sq 47 [mv 12, mv 11, ln 48, bn .lss 47 49])) (.cond (t0 50) .skip (.exit 4))) (.seq (.block 5 (.reg (sq 53 [mv 9, mv 10, .bsl 55 2 1 [(t0 54)], mv 11, mv 12, ix 1 56 57, ld 58, ap 60 2 1 8 55 59, cf 66 [53, 60]] ++ sq 9 [mv 61]))) (.reg (sq 51 [mv 12, bi .add 51 1] ++ sq 12 [mv 52]))))))))) (.reg (sq 36 [mv 10, bi .add 36 1] ++ sq 10 [mv 37]))))))) (.seq (.reg (sq 62 [mv 6, mv 9, .bsl 64 44 1 [(t0 63)], ap 65 44 1 24 62 64] ++ sq 6 [mv 65])) (.seq (.reg (sq 66 [mv 7, mv 9, ap 68 22 1 24 66 67] ++ sq 7 [mv 68])) (.seq (.reg (sq 69 [mv 7, ln 69, bi .gtr 70 200])) (.cond (t0 71) (.seq (.reg (sq 72 [.bsl 72 22 1 []] ++ sq 4 [mv 72, mb false])) .ret) .skip))))))) (.reg (sq 28 [mv 8, bi .add 28 1] ++ sq 8 [mv 29]))))))) (.seq (.reg (sq 73 [mv 7] ++ sq 4 [mv 73, mb true])) .ret))))))
theorem fn28 : MFn Tryz.prog 28 mc28 74 [.tmp 4, .tmp 5] := ⟨_, Tryz.func28, by kernel_rfl, Tryz.ntmps28, by kernel_rfl⟩
def F_spec_GroundsOf_l3 (f : Int) (r_2 : (List (List Int))) : ((List (List Int)) × Int) -> Option (((List (List Int)) × Int) ⊕ (((List (List Int)) × Int) ⊕ (((List (List (List Int))) × (List (List Int)) × Int) ⊕ ((List (List Int)) × Bool))))
 | (level_1, i) =>
  if (decide (i < (r_2.length : Int))) = true then
   if 0 <= i /\ i < (r_2.length : Int) then
    if (1 + (r_2.getD i.toNat default).length) * 8 <= 140737488355328 then
     (F_spec_l28Insert level_1 ([f] ++ (r_2.getD i.toNat default))).bind fun r_3 =>
     some (.inl (r_3, (IntKind.i64.wrap (i + 1))))
    else none
   else none
  else
   Option.map Sum.inr (
    some (.inl (level_1, (IntKind.i64.wrap (f + 1)))))
def F_spec_GroundsOf_l2 (sig : (List Int)) (byLength : (List (List (List Int)))) (all : (List (List Int))) (k : Int) : ((List (List Int)) × Int) -> Option (((List (List Int)) × Int) ⊕ (((List (List (List Int))) × (List (List Int)) × Int) ⊕ ((List (List Int)) × Bool)))
 | (level, f) =>
  if (decide (f < (sig.length : Int))) = true then
   if 0 <= f /\ f < (sig.length : Int) then
    (F_spec_l25Rows_all byLength (sig.getD f.toNat default) (IntKind.i64.wrap (k - 1))).bind fun r_2 =>
    loopC (F_spec_GroundsOf_l3 f r_2) (level, 0)
   else none
  else
   Option.map Sum.inr (
    if (byLength.length + 1) * 24 <= 140737488355328 then
     if (all.length + level.length) * 24 <= 140737488355328 then
      if (decide (200 < ((all ++ level).length : Int))) = true then
       Option.map Sum.inr (
        some ([], false))
      else
       some (.inl ((byLength ++ [level]), (all ++ level), (IntKind.i64.wrap (k + 1))))
     else none
    else none)
def F_spec_GroundsOf_l1 (sig : (List Int)) (n : Int) : ((List (List (List Int))) × (List (List Int)) × Int) -> Option (((List (List (List Int))) × (List (List Int)) × Int) ⊕ ((List (List Int)) × Bool))
 | (byLength, all, k) =>
  if (decide (k <= n)) = true then
   loopC (F_spec_GroundsOf_l2 sig byLength all k) ([], 0)
  else
   Option.map Sum.inr (
    some (all, true))
def F_spec_GroundsOf (sig : (List Int)) (n : Int) : Option ((List (List Int)) × Bool) :=
 (F_spec_SigOk sig).bind fun r =>
 if r = true then
  (F_spec_l1In n 1 60).bind fun r_1 =>
  if r_1 = true then
   loopC (F_spec_GroundsOf_l1 sig n) ([[]], [], 1)
  else
   some ([], false)
 else
  some ([], false)
instance c_spec_GroundsOf {sig : (List Int)} {n : Int} : HasC (F_spec_GroundsOf sig n) fun rr => PFunN Tryz.prog 28 [D_impl_Sig sig, iD n] [(slD 1 (slD 1 iD)) rr.1, bD rr.2] := ⟨@fun rr h => by
 delta F_spec_GroundsOf at h
 refine fn28.pureLN (vcm_sound ?_)
 delta mc28
 refine stp ?_
 refine rC h fun r hr h => ?_
 refine iT h fun hc h => ?_
 refine rC h fun r_1 hr_1 h => ?_
 refine iT h fun hc h => ?_
 refine m_lW h [4, 5, 6, 7, 8, 9, 10, 11, 12, 25, 26, 27, 28, 29, 30, 31, 32, 33, 34, 35, 36, 37, 38, 39, 40, 41, 42, 43, 44, 45, 46, 47, 48, 49, 50, 51, 52, 53, 54, 55, 56, 57, 58, 59, 60, 61, 62, 63, 64, 65, 66, 67, 68, 69, 70, 71, 72] (fun pp => [(6, .own 1 23 (List.map (slD 1 (slD 1 iD)) pp.1)), (7, .own 1 24 (List.map (slD 1 iD) pp.2.1)), (8, .d (iD pp.2.2))]) (fun pp => [(2, .obj 30 [.d (slD 1 iD sig)]), (22, .tok 22 1 0), (23, .tok 44 1 pp.1.length), (24, .tok 22 1 pp.2.1.length)]) ?_
 rintro ⟨byLength, all, k⟩ t1 h hb1
 unfold F_spec_GroundsOf_l1 at h
 try dsimp only at h
 refine vcm_sound (stp ?_)
 refine iT h fun hc h => ?_
 refine m_lW h [9, 10, 11, 12, 31, 32, 33, 34, 35, 36, 37, 38, 39, 40, 41, 42, 43, 44, 45, 46, 47, 48, 49, 50, 51, 52, 53, 54, 55, 56, 57, 58, 59, 60, 61] (fun pp => [(9, .d (slD 1 (slD 1 iD) pp.1)), (10, .d (iD pp.2))]) (fun pp => [(2, .obj 30 [.d (slD 1 iD sig)]), (22, .tok 22 1 0), (23, .tok 44 1 byLength.length), (24, .tok 22 1 all.length), (30, .tok 22 1 0)]) ?_
 rintro ⟨level, f⟩ t2 h hb2
 unfold F_spec_GroundsOf_l2 at h
 try dsimp only at h
 refine vcm_sound (stp ?_)
 refine it h (fun hc h => ?_) fun hc h => ?_
 ·refine ndI h fun hp h => ?_
  refine rC h fun r_2 hr_2 h => ?_
  refine m_lW h [9, 12, 47, 48, 49, 50, 51, 52, 53, 54, 55, 56, 57, 58, 59, 60, 61] (fun pp => [(9, .d (slD 1 (slD 1 iD) pp.1)), (12, .d (iD pp.2))]) (fun pp => [(2, .obj 30 [.d (slD 1 iD sig)]), (22, .tok 22 1 0), (23, .tok 44 1 byLength.length), (24, .tok 22 1 all.length), (30, .tok 22 1 0)]) ?_
  rintro ⟨level_1, i⟩ t3 h hb3
  unfold F_spec_GroundsOf_l3 at h
  try dsimp only at h
  refine vcm_sound (stp ?_)
  refine iT h fun hc h => ?_
  refine ndI h fun hp h => ?_
  refine ndI h fun hp h => ?_
  refine rC h fun r_3 hr_3 h => ?_
  cases h
  refine ⟨_, rfl, ?_⟩
  refine (Weak.drop 55 (by omega)).trans ?_
  exact wk
 replace h := inr_some h hb2
 refine ndI h fun hp h => ?_
 refine ndI h fun hp h => ?_
 refine iF h fun hc h => ?_
 cases h
 refine ⟨_, rfl, ?_⟩
 refine (Weak.drop 30 (by omega)).trans ?_
 refine (Weak.drop 64 (by omega)).trans ?_
 exact wk⟩
end Go.Proofs.YtglpjlpmijfocaaGreat
namespace Go.Proofs.YtglpjlpmijfocaaGreat
open Go Abx
attribute [local irreducible] vcm vgo vdr vrun vdrun MWp GhostQ BrC BrO BrG BrD BrH AmbO callR callD drQ EnvLe StoLe
set_option maxHeartbeats 4000000
def mc49 : MCode :=
 (.seq (.reg (sq 6 [mi 0])) (.seq (.seq (.reg (sq 10 [mv 1, bi .eql 10 0])) (.cond (t0 11) (.seq (.seq (.reg (sq 12 [mv 2, bi .eql 12 0])) (.cond (t0 13) (.seq (.reg (sq 6 [mi 1])) .ret) .skip)) (.seq (.reg (sq 6 [mi 0])) .ret)) .skip)) (.seq (.reg (sq 7 [mi 0])) (.seq (.seq (.reg (sq 8 [mi 1])) (.block 0 (.loop (.seq (.seq (.reg (sq 14 [mv 8, mv 2, mv 1, bn .sub 15 16, bi .add 17 1, bn .leq 14 18])) (.cond (t0 19) .skip (.exit 0))) (.seq (.block 1 (.seq (.reg (sq 22 [mv 0, mv 8, .nilc (t0 22), .ixaA 1 61 (t0 24) (t0 23), ld 25, ln 26] ++ sq 9 [mv 27])) (.seq (.reg (sq 28 [mv 9, bi .gtr 28 0])) (.cond (t0 29) (.reg (sq 30 [mv 7, mv 9, mv 0, mv 1, bi .sub 33 1, mv 2, mv 8, bn .sub 35 36, cf 49 [32, 34, 37], bn .mul 31 38, bn .add 30 39, .min (t0 40) (i0 201)] ++ sq 7 [mv 41])) .skip)))) (.reg (sq 20 [mv 8, bi .add 20 1] ++ sq 8 [mv 21]))))))) (.seq (.reg (sq 42 [mv 7] ++ sq 6 [mv 42])) .ret)))))
theorem fn49 : MFn Tryz.prog 49 mc49 43 [.tmp 6] := ⟨_, Tryz.func49, by kernel_rfl, Tryz.ntmps49, by kernel_rfl⟩
def F_impl_grounds_count_l1 (rec : (List (List (List Int))) -> Int -> Int -> Option Int) (g : (List (List (List Int)))) (many : Int) (length : Int) : (Int × Int) -> Option ((Int × Int) ⊕ Int)
 | (sum, n) =>
  if (decide (n <= (IntKind.i64.wrap ((IntKind.i64.wrap (length - many)) + 1)))) = true then
   if 0 <= n /\ n < 61 /\ n < (g.length : Int) then
    if (decide (0 < ((g.getD n.toNat default).length : Int))) = true then
     (rec g (IntKind.i64.wrap (many - 1)) (IntKind.i64.wrap (length - n))).bind fun r =>
     some (.inl ((if 201 < (IntKind.i64.wrap (sum + (IntKind.i64.wrap (((g.getD n.toNat default).length : Int) * r)))) then 201 else (IntKind.i64.wrap (sum + (IntKind.i64.wrap (((g.getD n.toNat default).length : Int) * r))))), (IntKind.i64.wrap (n + 1))))
    else
     some (.inl (sum, (IntKind.i64.wrap (n + 1))))
   else none
  else
   Option.map Sum.inr (
    some sum)
def F_impl_grounds_count : Nat -> (List (List (List Int))) -> Int -> Int -> Option Int
 | 0, _, _, _ => none
 | fu + 1, g, many, length =>
  if (many == 0) = true then
   if (length == 0) = true then
    some 1
   else
    some 0
  else
   loopC (F_impl_grounds_count_l1 (F_impl_grounds_count fu) g many length) (0, 1)
def F_impl_grounds_count_all (g : (List (List (List Int)))) (many : Int) (length : Int) : Option Int := limO fun fu => F_impl_grounds_count fu g many length
def mc50 : MCode :=
 (.seq (.reg (sq 6 [.mv (.const (.slice none 0 0))])) (.seq (.seq (.reg (sq 14 [mv 1, bi .eql 14 0])) (.cond (t0 15) (.seq (.seq (.reg (sq 16 [mv 2, bi .eql 16 0])) (.cond (t0 17) (.seq (.reg (sq 18 [.bsl 18 2 1 [], .bsl 19 22 1 [(t0 18)]] ++ sq 6 [mv 19])) .ret) .skip)) (.seq (.reg (sq 6 [.mv (.const (.slice none 0 0))])) .ret)) .skip)) (.seq (.reg (sq 7 [.mv (.const (.slice none 0 0))])) (.seq (.seq (.reg (sq 8 [mi 1])) (.block 0 (.loop (.seq (.seq (.reg (sq 20 [mv 8, mv 2, mv 1, bn .sub 21 22, bi .add 23 1, bn .leq 20 24])) (.cond (t0 25) .skip (.exit 0))) (.seq (.block 1 (.seq (.seq (.reg (sq 28 [mv 0, mv 8, .nilc (t0 28), .ixaA 1 61 (t0 30) (t0 29), ld 31, ln 32, bi .eql 33 0])) (.cond (t0 34) (.exit 1) .skip)) (.seq (.reg (sq 35 [mv 0, mv 1, bi .sub 36 1, mv 2, mv 8, bn .sub 38 39, cf 50 [35, 37, 40]] ++ sq 9 [mv 41])) (.seq (.reg (sq 42 [mv 0, mv 8, .nilc (t0 42), .ixaA 1 61 (t0 44) (t0 43), ld 45, ln 46, mi 0])) (.block 2 (.loop (.seq (.reg (sq 49 [bn .lss 48 47])) (.seq (.cond (t0 49) .skip (.exit 2)) (.seq (.block 3 (.seq (.reg (sq 50 [ix 1 46 48, ld 50] ++ sq 11 [mv 51])) (.seq (.reg (sq 52 [mv 9, ln 52, mi 0])) (.block 4 (.loop (.seq (.reg (sq 55 [bn .lss 54 53])) (.seq (.cond (t0 55) .skip (.exit 4)) (.seq (.block 5 (.seq (.reg (sq 56 [ix 1 52 54, ld 56] ++ sq 13 [mv 57])) (.reg (sq 58 [mv 7, mv 11, mv 13, .bsl 61 22 1 [(t0 59), (t0 60)], cf 51 [61], .bsl 63 22 1 [(t0 62)], ap 64 22 1 24 58 63] ++ sq 7 [mv 64])))) (.reg (sq 65 [bi .add 54 1] ++ sq 54 [mv 65])))))))))) (.reg (sq 66 [bi .add 48 1] ++ sq 48 [mv 66]))))))))))) (.reg (sq 26 [mv 8, bi .add 26 1] ++ sq 8 [mv 27]))))))) (.seq (.reg (sq 67 [mv 7] ++ sq 6 [mv 67])) .ret)))))
theorem fn50 : MFn Tryz.prog 50 mc50 68 [.tmp 6] := ⟨_, Tryz.func50, by kernel_rfl, Tryz.ntmps50, by kernel_rfl⟩
def F_impl_grounds_lists_l3 (g : (List (List (List Int)))) (length : Int) (n : Int) (r : (List (List Int))) (v48 : Int) : ((List (List Int)) × Int) -> Option (((List (List Int)) × Int) ⊕ (((List (List Int)) × Int) ⊕ (((List (List Int)) × Int) ⊕ (List (List Int)))))
 | (out_2, v54) =>
  if (decide (v54 < (r.length : Int))) = true then
   if 0 <= v54 /\ v54 < (r.length : Int) then
    (F_slices_Concat_int64_int64 [((g.getD n.toNat default).getD v48.toNat default), (r.getD v54.toNat default)]).bind fun r_1 =>
    if (out_2.length + 1) * 24 <= 140737488355328 then
     some (.inl ((out_2 ++ [r_1]), (IntKind.i64.wrap (v54 + 1))))
    else none
   else none
  else
   Option.map Sum.inr (
    some (.inl (out_2, (IntKind.i64.wrap (v48 + 1)))))
def F_impl_grounds_lists_l2 (g : (List (List (List Int)))) (length : Int) (n : Int) (r : (List (List Int))) : ((List (List Int)) × Int) -> Option (((List (List Int)) × Int) ⊕ (((List (List Int)) × Int) ⊕ (List (List Int))))
 | (out_1, v48) =>
  if (decide (v48 < ((g.getD n.toNat default).length : Int))) = true then
   if 0 <= v48 /\ v48 < ((g.getD n.toNat default).length : Int) then
    loopC (F_impl_grounds_lists_l3 g length n r v48) (out_1, 0)
   else none
  else
   Option.map Sum.inr (
    some (.inl (out_1, (IntKind.i64.wrap (n + 1)))))
def F_impl_grounds_lists_l1 (rec : (List (List (List Int))) -> Int -> Int -> Option (List (List Int))) (g : (List (List (List Int)))) (many : Int) (length : Int) : ((List (List Int)) × Int) -> Option (((List (List Int)) × Int) ⊕ (List (List Int)))
 | (out, n) =>
  if (decide (n <= (IntKind.i64.wrap ((IntKind.i64.wrap (length - many)) + 1)))) = true then
   if 0 <= n /\ n < 61 /\ n < (g.length : Int) then
    if (((g.getD n.toNat default).length : Int) == 0) = true then
     some (.inl (out, (IntKind.i64.wrap (n + 1))))
    else
     (rec g (IntKind.i64.wrap (many - 1)) (IntKind.i64.wrap (length - n))).bind fun r =>
     if 0 <= n /\ n < 61 /\ n < (g.length : Int) then
      loopC (F_impl_grounds_lists_l2 g length n r) (out, 0)
     else none
   else none
  else
   Option.map Sum.inr (
    some out)
def F_impl_grounds_lists : Nat -> (List (List (List Int))) -> Int -> Int -> Option (List (List Int))
 | 0, _, _, _ => none
 | fu + 1, g, many, length =>
  if (many == 0) = true then
   if (length == 0) = true then
    some [[]]
   else
    some []
  else
   loopC (F_impl_grounds_lists_l1 (F_impl_grounds_lists fu) g many length) ([], 1)
def F_impl_grounds_lists_all (g : (List (List (List Int)))) (many : Int) (length : Int) : Option (List (List Int)) := limO fun fu => F_impl_grounds_lists fu g many length
end Go.Proofs.YtglpjlpmijfocaaGreat
namespace Abx
open Go
theorem getD_aD_app {α : Type} [Inhabited α] {f : α -> D} {xs : List α} {r : List AV} {i : Nat} (h : i < xs.length) : (xs.map (aD f) ++ r).getD i .junk = .d (f (xs.getD i default)) := by
 rw [List.getD_eq_getElem?_getD, List.getElem?_append_left (by rw [List.length_map]; exact h), <- List.getD_eq_getElem?_getD]; exact getD_aD h
def nilD (_ : Unit) : D := .sl 0 (some true) []
attribute [go_sem] getD_aD_app
end Abx
namespace Go.Proofs.YtglpjlpmijfocaaGreat
open Go Abx
attribute [local irreducible] vcm vgo vdr vrun vdrun MWp GhostQ BrC BrO BrG BrD BrH AmbO callR callD drQ EnvLe StoLe
set_option maxHeartbeats 4000000
theorem h_impl_grounds_count : ∀ {fu : Nat} {g : (List (List (List Int)))} {many : Int} {length : Int} {hs : List (List Int)} {zs : List Unit} {rr : Int} (h : F_impl_grounds_count fu g many length = some rr), ACalls Tryz.prog 49 [.ptr 0 0, .d (iD many), .d (iD length)] [(0, .obj 74 (List.map (aD (slD 1 (slD 1 iD))) g ++ .gow 1 1 hs.length :: List.map (aD nilD) zs)), (1, .gro 22 1 hs.length (groL (slD 1 iD) hs))] 2 fun xx ss => xx = .d (iD rr) /\ ss = [(0, .obj 74 (List.map (aD (slD 1 (slD 1 iD))) g ++ .gow 1 1 hs.length :: List.map (aD nilD) zs)), (1, .gro 22 1 hs.length (groL (slD 1 iD) hs))]
 | 0, _, _, _, _, _, _, h => by cases h
 | fu + 1, g, many, length, hs, zs, rr, h => by
  have ih : ∀ {many : Int} {length : Int}, HasC (F_impl_grounds_count fu g many length) fun rr => ACalls Tryz.prog 49 [.ptr 0 0, .d (iD many), .d (iD length)] [(0, .obj 74 (List.map (aD (slD 1 (slD 1 iD))) g ++ .gow 1 1 hs.length :: List.map (aD nilD) zs)), (1, .gro 22 1 hs.length (groL (slD 1 iD) hs))] 2 fun xx ss => xx = .d (iD rr) /\ ss = [(0, .obj 74 (List.map (aD (slD 1 (slD 1 iD))) g ++ .gow 1 1 hs.length :: List.map (aD nilD) zs)), (1, .gro 22 1 hs.length (groL (slD 1 iD) hs))] := ⟨fun h => h_impl_grounds_count h⟩
  unfold F_impl_grounds_count at h
  refine fn49.callsO (vcm_sound ?_)
  delta mc49
  refine stp ?_
  refine iF h fun hc h => ?_
  refine m_lW h [7, 8, 9, 14, 15, 16, 17, 18, 19, 20, 21, 22, 23, 24, 25, 26, 27, 28, 29, 30, 31, 32, 33, 34, 35, 36, 37, 38, 39, 40, 41] (fun pp => [(7, .d (iD pp.1)), (8, .d (iD pp.2))]) (fun pp => [(0, .obj 74 (List.map (aD (slD 1 (slD 1 iD))) g ++ .gow 1 1 hs.length :: List.map (aD nilD) zs)), (1, .gro 22 1 hs.length (groL (slD 1 iD) hs))]) ?_
  rintro ⟨sum, n⟩ t1 h hb1
  unfold F_impl_grounds_count_l1 at h
  try dsimp only at h
  refine vcm_sound (stp ?_)
  refine iT h fun hc h => ?_
  refine ndI h fun hp h => ?_
  refine iT h fun hc h => ?_
  refine rCo [(0, 0), (1, 1)] [] h fun r hr h => ?_
  exact aut
theorem h_impl_grounds_lists : ∀ {fu : Nat} {g : (List (List (List Int)))} {many : Int} {length : Int} {hs : List (List Int)} {zs : List Unit} {rr : (List (List Int))} (h : F_impl_grounds_lists fu g many length = some rr), ACalls Tryz.prog 50 [.ptr 0 0, .d (iD many), .d (iD length)] [(0, .obj 74 (List.map (aD (slD 1 (slD 1 iD))) g ++ .gow 1 1 hs.length :: List.map (aD nilD) zs)), (1, .gro 22 1 hs.length (groL (slD 1 iD) hs))] 2 fun xx ss => xx = .d (slD 1 (slD 1 iD) rr) /\ ss = [(0, .obj 74 (List.map (aD (slD 1 (slD 1 iD))) g ++ .gow 1 1 hs.length :: List.map (aD nilD) zs)), (1, .gro 22 1 hs.length (groL (slD 1 iD) hs))]
 | 0, _, _, _, _, _, _, h => by cases h
 | fu + 1, g, many, length, hs, zs, rr, h => by
  have ih : ∀ {many : Int} {length : Int}, HasC (F_impl_grounds_lists fu g many length) fun rr => ACalls Tryz.prog 50 [.ptr 0 0, .d (iD many), .d (iD length)] [(0, .obj 74 (List.map (aD (slD 1 (slD 1 iD))) g ++ .gow 1 1 hs.length :: List.map (aD nilD) zs)), (1, .gro 22 1 hs.length (groL (slD 1 iD) hs))] 2 fun xx ss => xx = .d (slD 1 (slD 1 iD) rr) /\ ss = [(0, .obj 74 (List.map (aD (slD 1 (slD 1 iD))) g ++ .gow 1 1 hs.length :: List.map (aD nilD) zs)), (1, .gro 22 1 hs.length (groL (slD 1 iD) hs))] := ⟨fun h => h_impl_grounds_lists h⟩
  unfold F_impl_grounds_lists at h
  refine fn50.callsO (vcm_sound ?_)
  delta mc50
  refine stp ?_
  refine it h (fun hc h => ?_) fun hc h => ?_
  ·refine iT h fun hc h => ?_
   cases h
   exact ⟨[18, 19], by simp, don, don⟩
  refine m_loopF h [7, 8, 9, 11, 13, 20, 21, 22, 23, 24, 25, 26, 27, 28, 29, 30, 31, 32, 33, 34, 35, 36, 37, 38, 39, 40, 41, 42, 43, 44, 45, 46, 47, 48, 49, 50, 51, 52, 53, 54, 55, 56, 57, 58, 59, 60, 61, 62, 63, 64, 65, 66] (fun pp => [(7, .own 1 64 (List.map (slD 1 iD) pp.1)), (8, .d (iD pp.2))]) (fun pp => [(0, .obj 74 (List.map (aD (slD 1 (slD 1 iD))) g ++ .gow 1 1 hs.length :: List.map (aD nilD) zs)), (1, .gro 22 1 hs.length (groL (slD 1 iD) hs)), (64, .tok 22 1 pp.1.length)]) ?_ ?_
  ·try dsimp only
   refine (Weak.thaw 7 64 22 1 rfl rfl).trans ?_
   exact wk
  rintro ⟨out, n⟩ t1 h hb1
  unfold F_impl_grounds_lists_l1 at h
  try dsimp only at h
  refine vcm_sound (stp ?_)
  refine it h (fun hc h => ?_) fun hc h => ?_
  ·refine ndI h fun hp h => ?_
   refine iF h fun hc h => ?_
   refine rCo [(0, 0), (1, 1)] [] h fun r hr h => ?_
   refine ndI h fun hp h => ?_
   refine m_lW h [7, 11, 13, 48, 49, 50, 51, 52, 53, 54, 55, 56, 57, 58, 59, 60, 61, 62, 63, 64, 65, 66] (fun pp => [(7, .own 1 64 (List.map (slD 1 iD) pp.1)), (48, .d (iD pp.2))]) (fun pp => [(0, .obj 74 (List.map (aD (slD 1 (slD 1 iD))) g ++ .gow 1 1 hs.length :: List.map (aD nilD) zs)), (1, .gro 22 1 hs.length (groL (slD 1 iD) hs)), (64, .tok 22 1 pp.1.length)]) ?_
   rintro ⟨out_1, v48⟩ t2 h hb2
   unfold F_impl_grounds_lists_l2 at h
   try dsimp only at h
   refine vcm_sound (stp ?_)
   refine iT h fun hc h => ?_
   refine ndI h fun hp h => ?_
   refine m_lW h [7, 13, 54, 55, 56, 57, 58, 59, 60, 61, 62, 63, 64, 65] (fun pp => [(7, .own 1 64 (List.map (slD 1 iD) pp.1)), (54, .d (iD pp.2))]) (fun pp => [(0, .obj 74 (List.map (aD (slD 1 (slD 1 iD))) g ++ .gow 1 1 hs.length :: List.map (aD nilD) zs)), (1, .gro 22 1 hs.length (groL (slD 1 iD) hs)), (64, .tok 22 1 pp.1.length)]) ?_
   rintro ⟨out_2, v54⟩ t3 h hb3
   unfold F_impl_grounds_lists_l3 at h
   try dsimp only at h
   refine vcm_sound (stp ?_)
   refine iT h fun hc h => ?_
   refine ndI h fun hp h => ?_
   refine rCo [] [(24, 62)] h fun r_1 hr_1 h => ?_
   refine ndI h fun hp h => ?_
   cases h
   refine ⟨_, rfl, ?_⟩
   refine (Weak.drop 61 (by omega)).trans ?_
   refine (Weak.drop 62 (by omega)).trans ?_
   refine (Weak.drop 63 (by omega)).trans ?_
   exact wk
  replace h := inr_some h hb1
  cases h
  exact ⟨[64], by simp, don, don⟩
end Go.Proofs.YtglpjlpmijfocaaGreat
namespace Go.Proofs.YtglpjlpmijfocaaGreat
open Go Go.RowKit Go.Proofs
def RdN (w : World) (A : Option Addr) (xs : List Int) : Prop := ∀ j x, xs[j]? = some x -> ∃ ad, A = some ad /\ w.cell? (ad.add j) = some (.int .i64 x)
def lexI : List Int -> List Int -> Int
 | [], [] => 0
 | [], _ :: _ => -1
 | _ :: _, [] => 1
 | x :: xs, y :: ys => if x < y then -1 else if y < x then 1 else lexI xs ys
def cmpT (a b : List Int) : Int := if a.length = b.length then lexI a b else (a.length : Int) - b.length
set_option maxHeartbeats 1000000 in
theorem cmp_walk (x y : Int) (w : World) : Calls Tryz.prog 117 #[.int .i64 x, .int .i64 y] w fun e w' => e = .returned (.int .i64 (if x < y then -1 else if y < x then 1 else 0)) /\ w' = w := by
 have N : ∀ (z : Int) (w : World), Calls Tryz.prog 146 #[.int .i64 z] w fun e w' => e = .returned (.bool false) /\ w' = w := fun z w => by
  go_enter Tryz.func146, Tryz.ntmps146
  go_wp2
  go_ret
  exact ⟨by simp, rfl⟩
 go_enter Tryz.func117, Tryz.ntmps117
 go_wp2_with (go_at_call 146; refine (N _ _).mono ?_; rintro e w' ⟨rfl, rfl⟩)
 all_goals (go_ret; refine ⟨?_, rfl⟩)
 ·simp [*]
 ·have : ¬ x < y := by omega
  simp [*]
 ·have h1 : ¬ x < y := by omega
  have h2 : ¬ y < x := by omega
  simp [*]
set_option maxHeartbeats 4000000 in
theorem lex_walk (xs ys : List Int) (A B : Option Addr) (ca cb : Nat) (w : World) (hx : RdN w A xs) (hy : RdN w B ys) (h1 : xs.length < 2 ^ 62) (h2 : ys.length < 2 ^ 62) :
 Calls Tryz.prog 83 #[.slice A xs.length ca, .slice B ys.length cb] w fun e w' => e = .returned (.int .i64 (lexI xs ys)) /\ w' = w := by
 go_enter Tryz.func83, Tryz.ntmps83
 go_wp2
 go_loopw [11] (fun i wr => ∃ q : Nat, i = .int .i64 q /\ q <= xs.length /\ q <= ys.length /\ wr = w /\ lexI xs ys = lexI (xs.drop q) (ys.drop q)) (fun i _ => (xs.length - intOf i).toNat)
 case atStart => exact ⟨0, rfl, by omega, by omega, rfl, by simp⟩
 case round =>
  obtain ⟨q, rfl, hq, hq2, rfl, hl⟩ := hrel
  by_cases ha : q < xs.length
  ·obtain ⟨ad, rfl, cx⟩ := hx q _ (List.getElem?_eq_getElem ha)
   by_cases hb : q < ys.length
   ·obtain ⟨bd, rfl, cy⟩ := hy q _ (List.getElem?_eq_getElem hb)
    have hl' : lexI xs ys = if xs[q] < ys[q] then -1 else if ys[q] < xs[q] then 1 else lexI (xs.drop (q + 1)) (ys.drop (q + 1)) := by
     rw [hl, List.drop_eq_getElem_cons ha, List.drop_eq_getElem_cons hb]; rfl
    clear hl hx hy
    generalize xs[q] = x at *
    generalize ys[q] = y at *
    rcases Int.lt_trichotomy x y with h | h | h
    ·have C := fun w => cmp_walk x y w
     simp only [if_pos h] at C hl'
     go_wp2_with (go_at_call 117; refine (C _).mono ?_; rintro e w' ⟨rfl, rfl⟩)
     go_ret
     exact ⟨by rw [hl']; rfl, rfl⟩
    ·subst h
     have C := fun w => cmp_walk x x w
     simp only [Int.lt_irrefl, if_false] at C hl'
     go_wp2_with (go_at_call 117; refine (C _).mono ?_; rintro e w' ⟨rfl, rfl⟩)
     go_roundw
     case rel => exact ⟨q + 1, by go_num, by omega, by omega, by trivial, hl'⟩
     case measure => simp [intOf]; omega
    ·have C := fun w => cmp_walk x y w
     simp only [if_neg (show ¬ x < y by omega), if_pos h] at C hl'
     go_wp2_with (go_at_call 117; refine (C _).mono ?_; rintro e w' ⟨rfl, rfl⟩)
     go_ret
     exact ⟨by rw [hl']; rfl, rfl⟩
   ·have e : lexI xs ys = 1 := by
     rw [hl, List.drop_eq_getElem_cons ha, List.drop_of_length_le (show ys.length <= q by omega)]; rfl
    have : q = ys.length := by omega
    subst this
    go_wp2
    go_ret
    exact ⟨by rw [e]; rfl, rfl⟩
  ·have : q = xs.length := by omega
   subst this
   rw [List.drop_length] at hl
   by_cases hb : xs.length < ys.length
   ·have e : lexI xs ys = -1 := by rw [hl, List.drop_eq_getElem_cons hb]; rfl
    go_wp2
    go_ret
    exact ⟨by rw [e]; rfl, rfl⟩
   ·have e : lexI xs ys = 0 := by rw [hl, List.drop_of_length_le (by omega)]; rfl
    go_wp2
    go_ret
    exact ⟨by rw [e]; rfl, rfl⟩
set_option maxHeartbeats 2000000 in
set_option maxRecDepth 100000 in
theorem cmpT_walk (xs ys : List Int) (A B : Option Addr) (ca cb : Nat) (w : World) (hx : RdN w A xs) (hy : RdN w B ys) (h1 : xs.length < 2 ^ 62) (h2 : ys.length < 2 ^ 62) :
 Calls Tryz.prog 53 #[.slice A xs.length ca, .slice B ys.length cb] w fun e w' => e = .returned (.int .i64 (cmpT xs ys)) /\ w' = w := by
 have L := lex_walk xs ys A B ca cb w hx hy h1 h2
 clear hx hy
 have C : cmpT xs ys = if xs.length = ys.length then lexI xs ys else (xs.length : Int) - ys.length := rfl
 generalize cmpT xs ys = c at C ⊢
 generalize lexI xs ys = l at C L
 generalize xs.length = n at *
 generalize ys.length = m at *
 clear xs ys
 by_cases h : n = m
 ·subst h
  rw [if_pos rfl] at C
  subst C
  go_enter Tryz.func53, Tryz.ntmps53
  go_wp2_with (go_at_call 83; refine L.mono ?_; rintro e w' ⟨rfl, rfl⟩)
  go_ret
  exact ⟨rfl, rfl⟩
 ·rw [if_neg h] at C
  subst C
  clear L
  go_enter Tryz.func53, Tryz.ntmps53
  go_wp2
  go_ret
  exact ⟨rfl, rfl⟩
end Go.Proofs.YtglpjlpmijfocaaGreat
namespace Go.Proofs.YtglpjlpmijfocaaGreat
open Go Go.RowKit Go.Proofs
theorem lexI_self : ∀ a : List Int, lexI a a = 0
 | [] => rfl
 | x :: xs => by simp [lexI, lexI_self xs]
theorem lexI_neg : ∀ a b : List Int, lexI b a = - lexI a b
 | [], [] => rfl
 | [], _ :: _ => rfl
 | _ :: _, [] => rfl
 | x :: xs, y :: ys => by
  simp only [lexI]
  have := lexI_neg xs ys
  repeat' split
  all_goals first | rfl | omega
theorem lexI_zero : ∀ {a b : List Int}, lexI a b = 0 -> a = b
 | [], [], _ => rfl
 | [], _ :: _, h => by simp [lexI] at h
 | _ :: _, [], h => by simp [lexI] at h
 | x :: xs, y :: ys, h => by
  simp only [lexI] at h
  split at h
  ·omega
  ·split at h
   ·omega
   ·rw [lexI_zero h, show x = y by omega]
theorem lexI_trans : ∀ {a b c : List Int}, lexI a b <= 0 -> lexI b c <= 0 -> lexI a c <= 0 /\ (lexI a b < 0 ∨ lexI b c < 0 -> lexI a c < 0)
 | [], [], c, h1, h2 => ⟨h2, fun h => h.elim (fun h => by simp [lexI] at h) id⟩
 | [], _ :: _, [], h1, h2 => by simp [lexI] at h2
 | [], _ :: _, _ :: _, h1, h2 => by simp [lexI]
 | _ :: _, [], _, h1, h2 => by simp [lexI] at h1
 | _ :: _, _ :: _, [], h1, h2 => by simp [lexI] at h2
 | x :: xs, y :: ys, z :: zs, h1, h2 => by
  have ih := fun h1 h2 => lexI_trans (a := xs) (b := ys) (c := zs) h1 h2
  simp only [lexI] at h1 h2 ⊢
  by_cases h3 : x < y
  ·by_cases h4 : y < z
   ·rw [if_pos (show x < z by omega)]; omega
   ·rw [if_neg h4] at h2
    by_cases h5 : z < y
    ·rw [if_pos h5] at h2; omega
    ·rw [if_pos (show x < z by omega)]; omega
  ·rw [if_neg h3] at h1 ⊢
   by_cases h5 : y < x
   ·rw [if_pos h5] at h1; omega
   ·rw [if_neg h5] at h1 ⊢
    obtain rfl : x = y := by omega
    by_cases h4 : x < z
    ·rw [if_pos h4]; omega
    ·by_cases h6 : z < x
     ·rw [if_neg h4, if_pos h6] at h2; omega
     ·simp only [if_neg h6, if_neg h4] at h2 ⊢
      exact ih h1 h2
theorem cmpT_self (a : List Int) : cmpT a a = 0 := by unfold cmpT; rw [if_pos rfl, lexI_self]
theorem cmpT_neg (a b : List Int) : cmpT b a = - cmpT a b := by
 unfold cmpT
 by_cases h : a.length = b.length
 ·rw [if_pos h, if_pos h.symm, lexI_neg]
 ·rw [if_neg h, if_neg (fun e => h e.symm)]; omega
theorem cmpT_zero {a b : List Int} (h : cmpT a b = 0) : a = b := by
 unfold cmpT at h
 split at h
 ·exact lexI_zero h
 ·omega
theorem cmpT_trans {a b c : List Int} (h1 : cmpT a b <= 0) (h2 : cmpT b c <= 0) : cmpT a c <= 0 /\ (cmpT a b < 0 ∨ cmpT b c < 0 -> cmpT a c < 0) := by
 unfold cmpT at *
 by_cases h : a.length = b.length
 ·rw [if_pos h] at h1 ⊢
  by_cases h' : b.length = c.length
  ·rw [if_pos h'] at h2 ⊢
   rw [if_pos (h.trans h')]
   exact lexI_trans h1 h2
  ·rw [if_neg h'] at h2 ⊢
   rw [if_neg (by omega)]; omega
 ·rw [if_neg h] at h1 ⊢
  by_cases h' : b.length = c.length
  ·rw [if_pos h'] at h2 ⊢
   rw [if_neg (by omega)]; omega
  ·rw [if_neg h'] at h2 ⊢
   rw [if_neg (by omega)]; omega
def sortT (xs : List (List Int)) : List (List Int) := xs.mergeSort fun a b => decide (cmpT a b <= 0)
theorem sortT_perm (xs : List (List Int)) : (sortT xs).Perm xs := List.mergeSort_perm _ _
theorem sortT_len {xs : List (List Int)} : (sortT xs).length = xs.length := (sortT_perm xs).length_eq
theorem sortT_sorted (xs : List (List Int)) : (sortT xs).Pairwise fun a b => cmpT a b <= 0 := by
 refine (List.pairwise_mergeSort (le := fun a b => decide (cmpT a b <= 0)) (fun a b c h1 h2 => ?_) (fun a b => ?_) xs).imp (fun h => of_decide_eq_true h)
 ·exact decide_eq_true (cmpT_trans (of_decide_eq_true h1) (of_decide_eq_true h2)).1
 ·have := cmpT_neg a b
  simp only [Bool.or_eq_true, decide_eq_true_eq]; omega
theorem sorted_uniq {l l' : List (List Int)} (hp : l.Perm l') (h : l.Pairwise fun a b => cmpT a b <= 0) (h' : l'.Pairwise fun a b => cmpT a b <= 0) : l = l' := by
 refine List.Perm.eq_of_pairwise (fun a b _ _ h1 h2 => ?_) h h' hp
 have := cmpT_neg a b
 exact cmpT_zero (by omega)
end Go.Proofs.YtglpjlpmijfocaaGreat
namespace Go.Proofs.YtglpjlpmijfocaaGreat
open Go Go.RowKit Go.Proofs Go.Shelf Go.Lib Go.Sort
structure El (w : World) (blk : Nat) where
 v : Value
 xs : List Int
 ok : ∃ A cap, v = .slice A xs.length cap /\ xs.length < 2 ^ 62 /\ ∀ j x, xs[j]? = some x -> ∃ ad : Addr, A = some ad /\ ad.block ≠ blk /\ ad.block < w.heap.size /\ w.cell? (ad.add j) = some (.int .i64 x)
instance {w : World} {blk : Nat} : Inhabited (El w blk) := ⟨⟨.slice none 0 0, [], none, 0, rfl, by decide, fun j x h => by simp at h⟩⟩
theorem blk_add' (a : Addr) (n : Nat) : (a.add n).block = a.block := by unfold Addr.add; split <;> rfl
theorem el_rd {w : World} {blk : Nat} (x : El w blk) (n m : Nat) (d : Array (El w blk)) (os : Array Obj) : ∃ A cap, x.v = .slice A x.xs.length cap /\ x.xs.length < 2 ^ 62 /\ RdN (sortWorld El.v w blk 0 m d os) A x.xs := by
 obtain ⟨A, cap, h1, h2, h3⟩ := x.ok
 refine ⟨A, cap, h1, h2, fun j y hj => ?_⟩
 obtain ⟨ad, h4, h5, h6, h7⟩ := h3 j y hj
 refine ⟨ad, h4, ?_⟩
 unfold sortWorld
 rw [cell?_grow _ _ _ (by rw [size_putRow, blk_add']; exact h6), cell?_putRow_other _ _ _ _ _ _ (.inl (by rw [blk_add']; exact h5))]
 exact h7
theorem swo_cmp {w : World} {blk : Nat} : SWO (ltOf fun x y : El w blk => cmpT x.xs y.xs) where
 irrefl x := by simp [ltOf, cmpT_self]
 trans x y z h1 h2 := by
  simp only [ltOf, decide_eq_true_eq] at *
  exact (cmpT_trans (by omega) (by omega)).2 (.inl h1)
 ntrans x y z h1 h2 := by
  simp only [ltOf, decide_eq_false_iff_not] at *
  have g1 := cmpT_neg x.xs y.xs
  have g2 := cmpT_neg y.xs z.xs
  have g3 := cmpT_neg x.xs z.xs
  have := (cmpT_trans (a := z.xs) (b := y.xs) (c := x.xs) (by omega) (by omega)).1
  omega
theorem getI {α : Type} [Inhabited α] {d : Array α} {i : Nat} (h : i < d.size) : d[i]! = d[i] := getElem!_pos d i h
theorem sort_walk {w : World} {blk cap : Nat} {d : Array (El w blk)} (hH : Holds El.v w blk 0 d) (hblk : blk < w.heap.size) (hsz : d.size < 4611686018427387904) :
 Calls Tryz.prog 52 #[.slice (some ⟨blk, 0, none⟩) d.size cap, .func (.func 53) #[] #[]] w fun e w' => e = .returned (.tuple #[]) /\
  ∃ (d' : Array (El w blk)) (n : Nat) (os : Array Obj), w' = sortWorld El.v w blk 0 n d' os /\ d'.size = d.size /\ d'.toList.Perm d.toList /\ d'.toList.map El.xs = sortT (d.toList.map El.xs) := by
 have eg : ∀ args w, (callFunc 53 args).run Tryz.prog w = .ok (.enter 53 args) w := enters_of Tryz.func53 (by kernel_rfl) rfl
 refine (Tryz.slices_SortFunc El.v (fun x => by obtain ⟨A, cap, h, _⟩ := x.ok; rw [h]; rfl) (fun x y => cmpT x.xs y.xs) swo_cmp 53 #[] blk 0 cap d w eg (fun m os dk hs x y => ?_) hH hblk hsz).mono ?_
 ·obtain ⟨A, ca, h1, h2, h3⟩ := el_rd x 0 m dk os
  obtain ⟨B, cb, k1, k2, k3⟩ := el_rd y 0 m dk os
  rw [h1, k1]
  refine (cmpT_walk x.xs y.xs A B ca cb _ h3 k3 h2 k2).mono ?_
  rintro e w' ⟨rfl, rfl⟩
  exact ⟨rfl, 0, #[], by rw [grow_empty]; rfl⟩
 ·rintro e w' ⟨rfl, d', n, os, hp, hs, rfl⟩
  obtain ⟨p1, p2, p3⟩ := hp
  have p5 : d'.toList.Perm d.toList := by
   have e1 : d'.extract 0 d.size = d' := by rw [<- p1]; simp
   have e2 : d.extract 0 d.size = d := by simp
   rw [e1, e2] at p3
   exact p3
  refine ⟨rfl, d', n, os, rfl, p1, p5, ?_⟩
  have p4 : (d'.toList.map El.xs).Perm (d.toList.map El.xs) := p5.map _
  refine sorted_uniq (p4.trans (sortT_perm _).symm) ?_ (sortT_sorted _)
  rw [List.pairwise_map, List.pairwise_iff_getElem]
  intro i j hi hj hij
  have hj' : j < d'.size := by simpa using hj
  have hi' : i < d'.size := by omega
  have := hs i j (Nat.zero_le _) hij (by omega)
  rw [getI hj', getI hi'] at this
  simp only [ltOf, decide_eq_false_iff_not] at this
  have g := cmpT_neg d'[i].xs d'[j].xs
  show cmpT d'.toList[i].xs d'.toList[j].xs <= 0
  simp only [Array.getElem_toList]
  omega
end Go.Proofs.YtglpjlpmijfocaaGreat
namespace Go.Proofs.YtglpjlpmijfocaaGreat
open Go Abx Go.RowKit Go.Sort Go.Shelf
attribute [go_sem, simp] sortT_len
def F_sortT (xs : List (List Int)) : Option Unit := if xs.length < 4611686018427387904 /\ ∀ x ∈ xs, x.length < 4611686018427387904 then some () else none
theorem groL_len1 : ∀ (xs : List (List Int)), (groL (slD 1 iD) xs).length = xs.length
 | [] => rfl
 | x :: xs => by rw [groL_cons, List.length_append, groL_len1 xs]; simp [slD, dcells]; omega
theorem cells_el {O : Abx.Own} {w : World} {b : Nat} (hO : ∀ o, O b o) : ∀ {xs : List (List Int)} {vs : List Value}, (∀ x ∈ xs, x.length < 4611686018427387904) -> D.oks O w (groL (slD 1 iD) xs) vs ->
 ∃ d : List (El w b), d.map El.v = vs /\ d.map El.xs = xs /\ ∀ x ∈ d, D.ok O w (slD 1 iD x.xs) x.v
 | [], vs, _, h => by simp only [groL_nil, D.oks] at h; exact ⟨[], by simp [h], rfl, fun x hx => by cases hx⟩
 | x :: xs, vs, hl, h => by
  rw [groL_cons] at h
  simp only [slD, dcells, List.singleton_append, D.oks] at h
  obtain ⟨v, r, rfl, _, h1, h2⟩ := h
  obtain ⟨d, h3, h4, h9⟩ := cells_el hO (fun y hy => hl y (by simp [hy])) h2
  have h1' : D.ok O w (slD 1 iD x) v := h1
  have h10 := h1'
  simp only [slD, D.ok, List.length_map] at h1'
  obtain ⟨A, cap, rfl, _, _, hr⟩ := h1'
  refine ⟨⟨.slice A x.length cap, x, A, cap, rfl, hl x (by simp), fun j y hj => ?_⟩ :: d, by simp [h3], by simp [h4], fun y hy => ?_⟩
  rotate_left
  ·rcases List.mem_cons.1 hy with rfl | hy
   ·exact h10
   ·exact h9 y hy
  rcases hr with hr | ⟨b', o, rfl, hr⟩
  ·simp at hr; subst hr; simp at hj
  ·obtain ⟨us, k1, k2, k3⟩ := row_get hr (i := j) (x := iD y) (by simp [hj])
   simp only [D.cel, D.ok] at k3
   obtain ⟨u, rfl, rfl, _⟩ := k3
   have k4 := k2 0 _ rfl
   simp only [Nat.mul_one, Nat.add_zero] at k4
   refine ⟨⟨b', o, none⟩, rfl, fun e => k4.2.1 (by rw [show b' = b from e]; exact hO _), cell_lt k4.1, ?_⟩
   unfold Addr.add
   split
   ·rename_i hz; subst hz; simpa using k4.1
   ·exact k4.1
theorem els_oks {O : Abx.Own} {w : World} {b : Nat} {O' : Abx.Own} {w' : World} : ∀ (d : List (El w b)), (∀ x ∈ d, D.ok O' w' (slD 1 iD x.xs) x.v) -> D.oks O' w' (groL (slD 1 iD) (d.map El.xs)) (d.map El.v)
 | [], _ => by simp [groL_nil, D.oks]
 | x :: d, h => by
  simp only [List.map_cons, groL_cons, slD, dcells, List.singleton_append, D.oks]
  refine ⟨_, _, rfl, ?_, h x (by simp), els_oks (O := O) d fun y hy => h y (by simp [hy])⟩
  obtain ⟨A, cap, e, _⟩ := x.ok
  rw [e]; rfl
set_option maxHeartbeats 1000000 in
instance c_sortT {xs : List (List Int)} : HasC (F_sortT xs) fun _ => ACalls Tryz.prog 52 [.gow 1 0 xs.length, .fn 53 [] []] [(0, .gro 22 1 xs.length (groL (slD 1 iD) xs))] 1 fun xx ss => xx = .tup [] /\ ss = [(0, .gro 22 1 xs.length (groL (slD 1 iD) (sortT xs)))] := ⟨fun {rr} h => by
 unfold F_sortT at h
 split at h
 ·rename_i hl
  intro C vs hs hk hinv hargs
  have hst : St C C.β [] C.s { tmps := #[], defers := [] } C.w := ⟨.nil, hinv, rfl, fun i x hx => by simp at hx⟩
  have ho := hinv.obs 0
  rw [show sat C.s 0 = .gro 22 1 xs.length (groL (slD 1 iD) xs) by rw [hs]; rfl] at ho
  obtain ⟨u, hβ, hlen, hg⟩ := ho
  have hdead : ∀ id, id ≠ 0 -> C.β id = .no := fun id hid => by
   have := hinv.obs id
   rw [hs, show sat [(0, Ob.gro 22 1 xs.length (groL (slD 1 iD) xs))] id = .dead by simp [sat, hid]] at this
   exact this
  simp only [AV.oks, AV.ok] at hargs
  obtain ⟨v, r, hv, ⟨u', m, g1, g2, g3, _⟩, v2, r2, rfl, ⟨fs, cs, rfl, h5, h6⟩, rfl⟩ := hargs
  rw [hβ] at g1
  obtain ⟨rfl, rfl⟩ : u' = u /\ m = xs.length := by simpa [Place.at, eq_comm] using g1
  have hvu := g3 rfl
  subst hvu
  have e1 : fs = #[] := Array.ext' h5
  have e2 : cs = #[] := Array.ext' h6
  subst e1 e2
  have e3 : vs = #[v, .func (.func 53) #[] #[]] := Array.ext' hv
  subst e3
  rcases hg with ⟨rfl, h0⟩ | ⟨b, cap, us, rfl, hb, hus, hncap, hcap, hone, pre, rest, hpre, hoks⟩
  ·have hx : xs = [] := List.eq_nil_of_length_eq_zero h0
   subst hx
   refine (Tryz.slices_SortFunc_none (α := Nat) none 0 _ C.w).mono ?_
   rintro e w' ⟨rfl, rfl⟩
   refine ⟨.tuple #[], .tup [], C.β, C.s, rfl, hinv, ?_, rfl, by rw [hs]; simp [sortT]⟩
   simp only [AV.ok, AV.oks]
   exact ⟨#[], rfl, rfl⟩
  ·have hO : ∀ o, C.forb C.β C.s b o := fun o => .inr ⟨0, by rw [hs]; exact ⟨cap, hβ⟩⟩
   obtain ⟨d, hd1, hd2, hd3⟩ := cells_el hO hl.2 hoks
   have hdl : d.length = xs.length := by rw [<- hd2, List.length_map]
   have hbs : b < C.w.heap.size := (Array.getElem?_eq_some_iff.1 hb).1
   have hpl : pre.length = d.length := by rw [<- hd1, List.length_map]
   have hH : Holds El.v C.w b 0 d.toArray := fun j hj => by
    have hj' : j < d.length := by simpa using hj
    have g : us[j]? = some d[j].v := by
     have : us.toList[j]? = some d[j].v := by rw [hpre, List.getElem?_append_left (by omega), <- hd1]; simp [hj']
     simpa using this
    refine ⟨?_, by simp [World.frozen?, hb]⟩
    rw [getElem!_pos _ j hj]
    simp only [World.cell?, hb, Nat.zero_add]
    simpa using g
   have W := sort_walk (cap := cap) hH hbs (by simp; omega)
   rw [show d.toArray.size = xs.length by simp [hdl]] at W
   refine W.mono ?_
   rintro e w' ⟨rfl, d', n, os, rfl, hs', hperm, hsorted⟩
   have hs2 : d'.size = d.length := by rw [hdl]; exact hs'
   have hp2 : d'.toList.Perm d := by simpa using hperm
   have hs3 : d'.toList.map El.xs = sortT xs := by rw [hsorted]; simp [hd2]
   have H2 : ∀ k, k ≠ b -> k < C.w.heap.size -> (sortWorld El.v C.w b 0 n d' os).heap[k]? = C.w.heap[k]? := fun k hk hlt => by
    simp only [sortWorld, grow, putRow, mapBlock, Go.Sort.ahead]
    rw [Array.getElem?_append_left (by simpa using hlt), Array.getElem?_modify, if_neg (fun e => hk e.symm)]
   have H3 : (sortWorld El.v C.w b 0 n d' os).heap[b]? = some (.cells (putCells El.v 0 d' us) 22 (0, 0)) := by
    simp only [sortWorld, grow, putRow, mapBlock, Go.Sort.ahead]
    rw [Array.getElem?_append_left (by simpa using hbs), Array.getElem?_modify, if_pos rfl, hb]
    rfl
   have H4 : (putCells El.v 0 d' us).toList = d'.toList.map El.v ++ rest := by
    apply List.ext_getElem?
    intro k
    simp only [putCells, Array.toList_mapIdx, List.getElem?_mapIdx, Nat.zero_le, true_and, Nat.zero_add, Nat.sub_zero, hpre]
    by_cases hk : k < d'.size
    ·rw [List.getElem?_append_left (by rw [hpl]; omega), List.getElem?_append_left (by simpa using hk)]
     rw [List.getElem?_eq_getElem (show k < pre.length by omega)]
     simp [hk]
    ·rw [List.getElem?_append_right (by rw [hpl]; omega), List.getElem?_append_right (by simpa using hk)]
     have : k - pre.length = k - (d'.toList.map El.v).length := by simp; omega
     rw [this]
     cases hq : rest[k - (d'.toList.map El.v).length]? with
     | none => rfl
     | some z => simp [hk]
   have same : ∀ b' o, own C.β [(0, Ob.gro 22 1 xs.length (groL (slD 1 iD) (sortT xs)))] b' o ↔ own C.β C.s b' o := fun b' o => by
    rw [hs]
    constructor
    ·rintro ⟨id, h⟩
     by_cases hid : id = 0
     ·subst hid; exact ⟨0, h⟩
     ·rw [show sat [(0, Ob.gro 22 1 xs.length (groL (slD 1 iD) (sortT xs)))] id = .dead by simp [sat, hid]] at h; exact h.elim
    ·rintro ⟨id, h⟩
     by_cases hid : id = 0
     ·subst hid; exact ⟨0, h⟩
     ·rw [show sat [(0, Ob.gro 22 1 xs.length (groL (slD 1 iD) xs))] id = .dead by simp [sat, hid]] at h; exact h.elim
   have sameB : ∀ id b', blockOf C.β [(0, Ob.gro 22 1 xs.length (groL (slD 1 iD) (sortT xs)))] id b' ↔ blockOf C.β C.s id b' := fun id b' => by
    rw [hs]
    by_cases hid : id = 0
    ·subst hid; exact Iff.rfl
    ·unfold blockOf
     rw [show sat [(0, Ob.gro 22 1 xs.length (groL (slD 1 iD) (sortT xs)))] id = .dead by simp [sat, hid], show sat [(0, Ob.gro 22 1 xs.length (groL (slD 1 iD) xs))] id = .dead by simp [sat, hid]]
   have m : Moves C.β C.s C.w C.β [(0, Ob.gro 22 1 xs.length (groL (slD 1 iD) (sortT xs)))] (sortWorld El.v C.w b 0 n d' os) := {
    size := by simp only [sortWorld, grow, putRow, mapBlock, Go.Sort.ahead]; simp
    io := rfl
    keep := fun b' o v hc hn => by
     have hne : b' ≠ b := fun e => hn (by subst e; exact ⟨0, by rw [hs]; exact ⟨cap, hβ⟩⟩)
     have := H2 b' hne (cell_lt hc)
     simp only [World.cell?] at hc ⊢
     rw [this]; exact hc
    blks := fun b' hlt hn => H2 b' (fun e => hn 0 (by subst e; rw [hs]; exact ⟨cap, hβ⟩)) hlt
    ownd := fun b' o h => .inl ((same b' o).1 h)
    ownB := fun id b' h => .inl ⟨id, (sameB id b').1 h⟩
    pl := fun id => .refl _ }
   have hst' := hst.move m (fun id => by
    by_cases hid : id = 0
    ·subst hid
     show ObOk C.β _ _ 0 (.gro 22 1 xs.length (groL (slD 1 iD) (sortT xs)))
     refine ⟨_, hβ, by rw [groL_len1, sortT_len]; omega, .inr ⟨b, cap, _, rfl, H3, by simp [putCells, hus], hncap, hcap, ?_, _, rest, H4, ?_⟩⟩
     ·intro z hz
      rw [H4, List.mem_append] at hz
      rcases hz with hz | hz
      ·obtain ⟨y, _, rfl⟩ := List.mem_map.1 hz
       obtain ⟨A, ca, e, _⟩ := y.ok
       rw [e]; rfl
      ·exact hone z (by rw [hpre]; simp [hz])
     ·have g : D.oks (C.forb C.β [(0, Ob.gro 22 1 xs.length (groL (slD 1 iD) (sortT xs)))]) (sortWorld El.v C.w b 0 n d' os) (groL (slD 1 iD) (d'.toList.map El.xs)) (d'.toList.map El.v) := ?_
      ·rw [hs3] at g; exact g
      refine els_oks (O := C.O) d'.toList fun y hy => ?_
      have := m.ok (C := C) (x := .d (slD 1 iD y.xs)) (v := y.v) (by simp only [AV.ok]; exact hd3 y (hp2.mem_iff.1 hy))
      simp only [AV.ok] at this
      exact this
    ·rw [show sat [(0, Ob.gro 22 1 xs.length (groL (slD 1 iD) (sortT xs)))] id = .dead by simp [sat, hid]]
     exact hdead id hid) (fun i j b' hi hj => hinv.inj i j b' ((sameB i b').1 hi) ((sameB j b').1 hj))
   refine ⟨.tuple #[], .tup [], C.β, _, rfl, hst'.inv, ?_, rfl, rfl⟩
   simp only [AV.ok, AV.oks]
   exact ⟨#[], rfl, rfl⟩
 ·cases h⟩
end Go.Proofs.YtglpjlpmijfocaaGreat
namespace Abx
open Go
theorem set_hole {α : Type} {f : α -> D} {gs : List α} {zs : List Unit} {x y : AV} : (List.map (aD f) gs ++ x :: List.map (aD nilD) zs).set gs.length y = List.map (aD f) gs ++ y :: List.map (aD nilD) zs := by
 rw [List.set_append_right _ _ (by simp)]; simp
theorem get_hole {α : Type} {f : α -> D} {gs : List α} {zs : List Unit} {x : AV} : (List.map (aD f) gs ++ x :: List.map (aD nilD) zs).getD gs.length .junk = x := by
 rw [List.getD_eq_getElem?_getD, List.getElem?_append_right (by simp)]; simp
theorem put_hole {α : Type} {f : α -> D} {gs : List α} {zs : List Unit} {x y : AV} : List.take gs.length (List.map (aD f) gs ++ x :: List.map (aD nilD) zs) ++ ([y] ++ List.drop (gs.length + 1) (List.map (aD f) gs ++ x :: List.map (aD nilD) zs)) = List.map (aD f) gs ++ y :: List.map (aD nilD) zs := by
 have e : gs.length = (List.map (aD f) gs).length := by simp
 rw [List.take_append_of_le_length (by simp), List.take_of_length_le (by simp), e, List.drop_append]
 simp
theorem put_hole' {α : Type} {f : α -> D} {gs : List α} {zs : List Unit} {x y : AV} : List.take gs.length (List.map (aD f) gs ++ x :: List.map (aD nilD) zs) ++ [y] ++ List.drop (gs.length + 1) (List.map (aD f) gs ++ x :: List.map (aD nilD) zs) = List.map (aD f) gs ++ y :: List.map (aD nilD) zs := by
 rw [List.append_assoc]; exact put_hole
attribute [go_sem] set_hole get_hole put_hole put_hole'
end Abx
namespace Go.Proofs.YtglpjlpmijfocaaGreat
open Go Abx
attribute [local irreducible] vcm vgo vdr vrun vdrun MWp GhostQ BrC BrO BrG BrD BrH AmbO callR callD drQ EnvLe StoLe
set_option maxHeartbeats 4000000
abbrev LL := List (List Int)
abbrev GSt := List LL × LL
theorem frzs_app {id : Nat} {ds : List D} : ∀ {xs ys : List AV}, AV.frzs id ds (xs ++ ys) = AV.frzs id ds xs ++ AV.frzs id ds ys
 | [], ys => by simp [AV.frzs]
 | x :: xs, ys => by simp [AV.frzs, frzs_app (xs := xs)]
theorem frzs_hole {gs : List LL} {zs : List Unit} {hs : LL} : AV.frzs 100 (List.map (slD 1 iD) (sortT hs)) (List.map (aD (slD 1 (slD 1 iD))) gs ++ AV.gow 1 100 hs.length :: List.map (aD nilD) zs) = List.map (aD (slD 1 (slD 1 iD))) gs ++ .d (slD 1 (slD 1 iD) (sortT hs)) :: List.map (aD nilD) zs := by
 rw [frzs_app, frzs_cons, frzs_aD, frzs_aD, frz_gowN sortT_len.symm]
attribute [go_sem] frzs_hole
theorem groL_snoc1 {hs : LL} {r : List Int} : groL (slD 1 iD) (hs ++ [r]) = groL (slD 1 iD) hs ++ [D.sl 1 none (List.map iD r)] := by simp [groL, slD, dcells]
def FG_l6 (f : Int) (r : LL) (v53 : Int) : (LL × Int) -> Option ((LL × Int) ⊕ ((LL × Int) ⊕ (GSt ⊕ (LL × Bool))))
 | (hs, v63) =>
  if (decide (v63 < (r.length : Int))) = true then
   if 0 <= v63 /\ v63 < (r.length : Int) then
    (F_slices_Concat_int64_int64 [[f], (r.getD v63.toNat default)]).bind fun r_1 =>
    if (hs.length + 1) * 24 <= 140737488355328 then
     some (.inl ((hs ++ [r_1]), (IntKind.i64.wrap (v63 + 1))))
    else none
   else none
  else
   Option.map Sum.inr (
    some (.inl (hs, (IntKind.i64.wrap (v53 + 1)))))
def FG_l4 (sig : List Int) (gs : List LL) (out : LL) : (LL × Int) -> Option ((LL × Int) ⊕ (GSt ⊕ (LL × Bool)))
 | (hs, v53) =>
  if (decide (v53 < (sig.length : Int))) = true then
   if 0 <= v53 /\ v53 < (sig.length : Int) then
    (F_impl_grounds_lists_all gs (sig.getD v53.toNat default) (IntKind.i64.wrap ((gs.length : Int) - 1))).bind fun r =>
    loopC (FG_l6 v53 r v53) (hs, 0)
   else none
  else
   Option.map Sum.inr (
    (F_sortT hs).bind fun u =>
    if (out.length + (sortT hs).length) * 24 <= 140737488355328 then
     some (.inl (gs ++ [sortT hs], out ++ sortT hs))
    else none)
def FG_l2 (sig : List Int) (gs : List LL) (out : LL) : (Int × Int) -> Option ((Int × Int) ⊕ (GSt ⊕ (LL × Bool)))
 | (many, v37) =>
  if (decide (v37 < (sig.length : Int))) = true then
   if 0 <= v37 /\ v37 < (sig.length : Int) then
    (F_impl_grounds_count_all gs (sig.getD v37.toNat default) (IntKind.i64.wrap ((gs.length : Int) - 1))).bind fun r =>
    some (.inl ((IntKind.i64.wrap (many + r)), (IntKind.i64.wrap (v37 + 1))))
   else none
  else
   Option.map Sum.inr (
    if (decide (200 < many)) = true then
     Option.map Sum.inr (
      some ([], false))
    else
     loopC (FG_l4 sig gs out) ([], 0))
def FG_l1 (sig : List Int) (n : Int) : GSt -> Option (GSt ⊕ (LL × Bool))
 | (gs, out) =>
  if (decide ((gs.length : Int) <= n)) = true then
   if gs.length < 61 then
    loopC (FG_l2 sig gs out) ((out.length : Int), 0)
   else none
  else
   Option.map Sum.inr (
    some (out, true))
def F_impl_GroundsOf (sig : List Int) (n : Int) : Option (LL × Bool) :=
 (F_impl_SigOk sig).bind fun r =>
 if r = true then
  if (decide (n < 1)) = true then
   some ([], false)
  else
   if (decide (60 < n)) = true then
    some ([], false)
   else
    loopC (FG_l1 sig n) ([[]], [])
 else
  some ([], false)
def mc66g : MCode :=
 (.seq (.reg (sq 2 [bo 2 30 0] ++ sq 4 [.mv (.const (.slice none 0 0)), mb false])) (.seq (.seq (.reg (sq 16 [la 1 2, cf 48 [16], nt 17, mv 18] ++ sg 19 false 20 [mv 1, bi .lss 20 1] ++ sq 22 [po 19 21, mv 22] ++ sg 23 false 24 [mv 1, bi .gtr 24 60] ++ sq 26 [po 23 25])) (.cond (t0 26) (.seq (.reg (sq 4 [.mv (.const (.slice none 0 0)), mb false])) .ret) .skip)) (.seq (.reg (sq 6 [.alloc 6 74 [.sl 0 (some true) [], .sl 0 (some true) [], .sl 0 (some true) [], .sl 0 (some true) [], .sl 0 (some true) [], .sl 0 (some true) [], .sl 0 (some true) [], .sl 0 (some true) [], .sl 0 (some true) [], .sl 0 (some true) [], .sl 0 (some true) [], .sl 0 (some true) [], .sl 0 (some true) [], .sl 0 (some true) [], .sl 0 (some true) [], .sl 0 (some true) [], .sl 0 (some true) [], .sl 0 (some true) [], .sl 0 (some true) [], .sl 0 (some true) [], .sl 0 (some true) [], .sl 0 (some true) [], .sl 0 (some true) [], .sl 0 (some true) [], .sl 0 (some true) [], .sl 0 (some true) [], .sl 0 (some true) [], .sl 0 (some true) [], .sl 0 (some true) [], .sl 0 (some true) [], .sl 0 (some true) [], .sl 0 (some true) [], .sl 0 (some true) [], .sl 0 (some true) [], .sl 0 (some true) [], .sl 0 (some true) [], .sl 0 (some true) [], .sl 0 (some true) [], .sl 0 (some true) [], .sl 0 (some true) [], .sl 0 (some true) [], .sl 0 (some true) [], .sl 0 (some true) [], .sl 0 (some true) [], .sl 0 (some true) [], .sl 0 (some true) [], .sl 0 (some true) [], .sl 0 (some true) [], .sl 0 (some true) [], .sl 0 (some true) [], .sl 0 (some true) [], .sl 0 (some true) [], .sl 0 (some true) [], .sl 0 (some true) [], .sl 0 (some true) [], .sl 0 (some true) [], .sl 0 (some true) [], .sl 0 (some true) [], .sl 0 (some true) [], .sl 0 (some true) [], .sl 0 (some true) []]])) (.seq (.reg (sq 7 [.mv (.const (.slice none 0 0))])) (.seq (.seq (.reg (sq 8 [mi 1])) (.block 0 (.loop (.seq (.seq (.reg (sq 27 [mv 8, mv 1, bn .leq 27 28])) (.cond (t0 29) .skip (.exit 0))) (.seq (.block 1 (.seq (.reg (sq 32 [mv 7, ln 32] ++ sq 9 [mv 33])) (.seq (.seq (.reg (sq 34 [fa 0 2, ld 34, ln 35, mi 0])) (.block 2 (.loop (.seq (.reg (sq 38 [bn .lss 37 36])) (.seq (.cond (t0 38) .skip (.exit 2)) (.seq (.block 3 (.seq (.reg (sq 39 [ix 1 35 37, ld 39] ++ sq 11 [mv 40])) (.reg (sq 41 [mv 9, mv 11, mv 8, bi .sub 43 1, cf 49 [6, 42, 44], bn .add 41 45] ++ sq 9 [mv 46])))) (.reg (sq 47 [bi .add 37 1] ++ sq 37 [mv 47])))))))) (.seq (.seq (.reg (sq 48 [mv 9, bi .gtr 48 200])) (.cond (t0 49) (.seq (.reg (sq 4 [.mv (.const (.slice none 0 0)), mb false])) .ret) .skip)) (.seq (.seq (.reg (sq 50 [fa 0 2, ld 50, ln 51, mi 0])) (.block 4 (.loop (.seq (.reg (sq 54 [bn .lss 53 52])) (.seq (.cond (t0 54) .skip (.exit 4)) (.seq (.block 5 (.seq (.reg (sq 55 [mv 53, ix 1 51 53, ld 56] ++ sq 12 [mv 55, mv 57])) (.seq (.reg (sq 58 [mv 13, mv 8, bi .sub 59 1, cf 50 [6, 58, 60], ln 61, mi 0])) (.block 6 (.loop (.seq (.reg (sq 64 [bn .lss 63 62])) (.seq (.cond (t0 64) .skip (.exit 6)) (.seq (.block 7 (.seq (.reg (sq 65 [ix 1 61 63, ld 65] ++ sq 15 [mv 66])) (.draw (sq 67 [mv 8, mv 8, .ixaA 1 61 (t0 6) (t0 68), ld 69, mv 12, .bsl 72 2 1 [(t0 71)], mv 15, .bsl 74 22 1 [(t0 72), (t0 73)], cf 51 [74], .bsl 76 22 1 [(t0 75)], ap 77 22 1 24 70 76, .ixaA 1 61 (t0 6) (t0 67)] ++ s0 (sr 1 78 77)) [[], [], [1], [2], [], [4], [], [5, 6], [7], [8], [3, 9, 8], [0, 0, 1, 2, 3, 4, 5, 6, 7, 8, 9, 10], [11, 10, 10, 0, 1, 2, 3, 4, 5, 6, 7, 8, 9, 10]]))) (.reg (sq 79 [bi .add 63 1] ++ sq 63 [mv 79])))))))))) (.reg (sq 80 [bi .add 53 1] ++ sq 53 [mv 80])))))))) (.seq (.reg (sq 81 [mv 8, .ixaA 1 61 (t0 6) (t0 81), ld 82, .callf 52 [(t0 83), (.func 53)]])) (.ghost (.reg (sq 85 [mv 7, mv 8, .ixaA 1 61 (t0 6) (t0 86), ld 87, ap 89 22 1 24 85 88] ++ sq 7 [mv 89]))))))))) (.reg (sq 30 [mv 8, bi .add 30 1] ++ sq 8 [mv 31]))))))) (.seq (.reg (sq 90 [mv 7] ++ sq 4 [mv 90, mb true])) .ret))))))
theorem fn66g : MFn Tryz.prog 19 mc66g 91 [.tmp 4, .tmp 5] := ⟨_, Tryz.func19, by kernel_rfl, Tryz.ntmps19, by kernel_rfl⟩
instance c_impl_GroundsOf {sig : List Int} {n : Int} : HasC (F_impl_GroundsOf sig n) fun rr => PFunN Tryz.prog 19 [D_impl_Sig sig, iD n] [slD 1 (slD 1 iD) rr.1, bD rr.2] := ⟨@fun rr h => by
 delta F_impl_GroundsOf at h
 refine fn66g.pureLN (vcm_sound ?_)
 delta mc66g
 refine stp ?_
 refine rC h fun r hr h => ?_
 refine iT h fun hc h => ?_
 refine iF h fun hc h => ?_
 refine iF h fun hc h => ?_
 refine m_loopF h [7, 8, 9, 10, 11, 12, 13, 14, 15, 27, 28, 29, 30, 31, 32, 33, 34, 35, 36, 37, 38, 39, 40, 41, 42, 43, 44, 45, 46, 47, 48, 49, 50, 51, 52, 53, 54, 55, 56, 57, 58, 59, 60, 61, 62, 63, 64, 65, 66, 67, 68, 69, 70, 71, 72, 73, 74, 75, 76, 77, 78, 79, 80, 81, 82, 83, 84, 85, 86, 87, 88, 89] (fun pp => [(7, .own 1 101 (List.map (slD 1 iD) pp.2)), (8, .d (iD (pp.1.length : Int)))]) (fun pp => [(2, .obj 30 [.d (slD 1 iD sig)]), (6, .obj 74 (List.map (aD (slD 1 (slD 1 iD))) pp.1 ++ List.map (aD nilD) (List.replicate (61 - pp.1.length) ()))), (101, .tok 22 1 pp.2.length)]) ?_ ?_
 ·try dsimp only
  refine (Weak.thaw 7 101 22 1 rfl rfl).trans ?_
  exact wk
 rintro ⟨gs, out⟩ t1 h hb1
 unfold FG_l1 at h
 try dsimp only at h
 refine vcm_sound (stp ?_)
 refine iT h fun hc h => ?_
 refine ndI h fun hp h => ?_
 obtain ⟨zs, hz⟩ : ∃ zs, List.replicate (61 - gs.length) () = () :: zs := ⟨List.replicate (60 - gs.length) (), by rw [show 61 - gs.length = 60 - gs.length + 1 by omega]; rfl⟩
 rw [hz]
 have hzl : zs = List.replicate (60 - gs.length) () := by rw [show 61 - gs.length = 60 - gs.length + 1 by omega] at hz; exact (List.cons.inj hz).2.symm
 refine m_loopF h [9, 10, 11, 37, 38, 39, 40, 41, 42, 43, 44, 45, 46, 47] (fun pp => [(9, .d (iD pp.1)), (37, .d (iD pp.2))]) (fun pp => [(2, .obj 30 [.d (slD 1 iD sig)]), (6, .obj 74 (List.map (aD (slD 1 (slD 1 iD))) gs ++ .gow 1 100 0 :: List.map (aD nilD) zs)), (100, .gro 22 1 0 (groL (slD 1 iD) ([] : LL))), (101, .tok 22 1 out.length)]) ?_ ?_
 ·try dsimp only
  refine (Weak.thawCellG 6 gs.length 100 22 1 rfl rfl (by rw [List.getElem?_append_right (by simp)]; simp; rfl)).trans ?_
  exact wk
 rintro ⟨many, v37⟩ t2 h hb2
 unfold FG_l2 at h
 try dsimp only at h
 refine vcm_sound (stp ?_)
 refine it h (fun hc h => ?_) fun hc h => ?_
 ·refine ndI h fun hp h => ?_
  refine rCo (i := ⟨fun h => h_impl_grounds_count (hs := []) (zs := zs) (limO_some h).choose_spec⟩) [(0, 6), (1, 100)] [] h fun r hr h => ?_
  exact aut
 replace h := inr_some h hb2
 refine iF h fun hc h => ?_
 refine m_loopF h [12, 13, 14, 15, 53, 54, 55, 56, 57, 58, 59, 60, 61, 62, 63, 64, 65, 66, 67, 68, 69, 70, 71, 72, 73, 74, 75, 76, 77, 78, 79, 80] (fun pp => [(53, .d (iD pp.2))]) (fun pp => [(2, .obj 30 [.d (slD 1 iD sig)]), (6, .obj 74 (List.map (aD (slD 1 (slD 1 iD))) gs ++ .gow 1 100 pp.1.length :: List.map (aD nilD) zs)), (100, .gro 22 1 pp.1.length (groL (slD 1 iD) pp.1)), (101, .tok 22 1 out.length)]) ?_ ?_
 ·try dsimp only
  exact wk
 rintro ⟨hs, v53⟩ t3 h hb3
 unfold FG_l4 at h
 try dsimp only at h
 refine vcm_sound (stp ?_)
 refine it h (fun hc h => ?_) fun hc h => ?_
 ·refine ndI h fun hp h => ?_
  refine rCo (i := ⟨fun h => h_impl_grounds_lists (hs := hs) (zs := zs) (limO_some h).choose_spec⟩) [(0, 6), (1, 100)] [] h fun r hr h => ?_
  refine m_lW h [15, 63, 64, 65, 66, 67, 68, 69, 70, 71, 72, 73, 74, 75, 76, 77, 78, 79] (fun pp => [(63, .d (iD pp.2))]) (fun pp => [(2, .obj 30 [.d (slD 1 iD sig)]), (6, .obj 74 (List.map (aD (slD 1 (slD 1 iD))) gs ++ .gow 1 100 pp.1.length :: List.map (aD nilD) zs)), (100, .gro 22 1 pp.1.length (groL (slD 1 iD) pp.1)), (101, .tok 22 1 out.length)]) ?_
  rintro ⟨hs_1, v63⟩ t4 h hb4
  unfold FG_l6 at h
  try dsimp only at h
  refine vcm_sound (stp ?_)
  refine it h (fun hc h => ?_) fun hc h => ?_
  ·refine ndI h fun hp h => ?_
   refine dCo [] [(24, 75)] h fun r_1 hr_1 h => ?_
   refine ndI h fun hp h => ?_
   refine drQ_of (by kernel_rfl) (stp ?_)
   cases h
   refine ⟨_, rfl, ?_⟩
   refine (Weak.drop 72 (by omega)).trans ?_
   refine (Weak.drop 74 (by omega)).trans ?_
   refine (Weak.drop 75 (by omega)).trans ?_
   refine (Weak.drop 76 (by omega)).trans ?_
   simp only [groL_snoc1]
   exact wk
  replace h := inr_some h hb4
  cases h
  refine ⟨_, rfl, ?_⟩
  exact wk
 replace h := inr_some h hb3
 refine ⟨⟨by omega, by omega⟩, by omega, ?_⟩
 refine rCo [(0, 100)] [] h fun u hu h => ?_
 refine GhostQ.of (Weak.fz 100 (slD 1 iD) rfl (sortT hs)) ?_
 refine stpf ?_
 refine stp ?_
 have hl := sortT_len (xs := hs)
 refine ⟨⟨by omega, by omega⟩, by omega, ?_⟩
 obtain ⟨hq, h⟩ := need_some h
 cases h
 refine ⟨by omega, _, rfl, ?_⟩
 have hw : IntKind.i64.wrap ((gs.length : Int) + 1) = ((gs ++ [sortT hs]).length : Int) := by rw [wrap_i64 (by omega) (by omega)]; simp
 have he : List.map (aD (slD 1 (slD 1 iD))) (gs ++ [sortT hs]) ++ List.map (aD nilD) (List.replicate (61 - (gs ++ [sortT hs]).length) ()) = List.map (aD (slD 1 (slD 1 iD))) gs ++ AV.d (slD 1 (slD 1 iD) (sortT hs)) :: List.map (aD nilD) zs := by rw [hzl, List.map_append, List.append_assoc, show 61 - (gs ++ [sortT hs]).length = 60 - gs.length by simp]; rfl
 simp only [he, hw]
 exact wk⟩
end Go.Proofs.YtglpjlpmijfocaaGreat
namespace Go.Proofs.YtglpjlpmijfocaaGreat
open Go Abx
attribute [local irreducible] vcm vgo vdr vrun vdrun MWp GhostQ BrC BrO BrG BrD BrH AmbO callR callD drQ EnvLe StoLe
set_option maxHeartbeats 4000000
def mc47 : MCode :=
 (.seq (.reg (sq 4 [mi 0])) (.seq (.seq (.reg (sq 5 [mv 0, mv 1, bn .gtr 5 6])) (.cond (t0 7) (.seq (.reg (sq 8 [mv 0] ++ sq 4 [mv 8])) .ret) .skip)) (.seq (.reg (sq 9 [mv 1] ++ sq 4 [mv 9])) .ret)))
theorem fn47 : MFn Tryz.prog 47 mc47 10 [.tmp 4] := ⟨_, Tryz.func47, by kernel_rfl, Tryz.ntmps47, by kernel_rfl⟩
def F_spec_l1Max (a : Int) (b : Int) : Option Int :=
 if (decide (b < a)) = true then
  some a
 else
  some b
instance c_spec_l1Max {a : Int} {b : Int} : HasC (F_spec_l1Max a b) fun rr => PFun Tryz.prog 47 [iD a, iD b] (iD rr) := ⟨@fun rr h => by
 delta F_spec_l1Max at h
 refine fn47.pureL (vcm_sound ?_)
 delta mc47
 refine stp ?_
 exact aut⟩
def mc31 : MCode :=
 (.seq (.reg (sq 3 [bo 3 33 0] ++ sq 6 [mi 0])) (.seq (.reg (sq 7 [mi 0])) (.seq (.seq (.reg (sq 8 [mi 0])) (.block 0 (.loop (.seq (.seq (.reg (sq 10 [mv 8, mv 1, ln 11, bn .lss 10 12])) (.cond (t0 13) .skip (.exit 0))) (.seq (.block 1 (.seq (.draw (sq 16 [la 2 3, mv 1, mv 8, ix 1 17 18, ld 19, mv 2, cf 68 [16, 20, 21]] ++ sq 9 [mv 22]) [[], [], [], [1, 2], [3], [], [0, 4, 5], [6, 6, 0, 1, 2, 3, 4, 5, 6]]) (.seq (.seq (.reg (sq 23 [mv 9, bi .lss 23 0])) (.cond (t0 24) (.seq (.reg (sq 6 [mi (-1)])) .ret) .skip)) (.reg (sq 25 [mv 7, mv 9, cf 47 [25, 26]] ++ sq 7 [mv 27]))))) (.reg (sq 14 [mv 8, bi .add 14 1] ++ sq 8 [mv 15]))))))) (.seq (.reg (sq 28 [mv 7] ++ sq 6 [mv 28])) .ret))))
theorem fn31 : MFn Tryz.prog 31 mc31 29 [.tmp 6] := ⟨_, Tryz.func31, by kernel_rfl, Tryz.ntmps31, by kernel_rfl⟩
def F_spec_l25Greatest_l1 (sys : ((List Int) × (List ((List Int) × (List Int))))) (ts : (List (List Int))) (steps : Int) : (Int × Int) -> Option ((Int × Int) ⊕ Int)
 | (most, i) =>
  if (decide (i < (ts.length : Int))) = true then
   if 0 <= i /\ i < (ts.length : Int) then
    (F_spec_LongestOf sys (ts.getD i.toNat default) steps).bind fun r =>
    if (decide (r < 0)) = true then
     Option.map Sum.inr (
      some (-1))
    else
     (F_spec_l1Max most r).bind fun r_1 =>
     some (.inl (r_1, (IntKind.i64.wrap (i + 1))))
   else none
  else
   Option.map Sum.inr (
    some most)
def F_spec_l25Greatest (sys : ((List Int) × (List ((List Int) × (List Int))))) (ts : (List (List Int))) (steps : Int) : Option Int :=
 loopC (F_spec_l25Greatest_l1 sys ts steps) (0, 0)
instance c_spec_l25Greatest {sys : ((List Int) × (List ((List Int) × (List Int))))} {ts : (List (List Int))} {steps : Int} : HasC (F_spec_l25Greatest sys ts steps) fun rr => PFun Tryz.prog 31 [D_impl_System sys, (slD 1 (slD 1 iD)) ts, iD steps] (iD rr) := ⟨@fun rr h => by
 delta F_spec_l25Greatest at h
 refine fn31.pureL (vcm_sound ?_)
 delta mc31
 refine stp ?_
 refine m_lW h [6, 7, 8, 9, 10, 11, 12, 13, 14, 15, 16, 17, 18, 19, 20, 21, 22, 23, 24, 25, 26, 27] (fun pp => [(7, .d (iD pp.1)), (8, .d (iD pp.2))]) (fun pp => [(3, .obj 33 [.d (slD 1 iD sys.1), .d (slD 2 D_impl_Rule sys.2)])]) ?_
 rintro ⟨most, i⟩ t1 h hb1
 unfold F_spec_l25Greatest_l1 at h
 try dsimp only at h
 refine vcm_sound (stp ?_)
 exact aut⟩
def mc7 : MCode :=
 (.seq (.reg (sq 3 [bo 3 33 0] ++ sq 6 [mi 0])) (.seq (.reg (sq 10 [fa 0 3, la 1 10, mv 1, cf 28 [11, 12]] ++ sq 9 [mv 13] ++ sq 14 [ex 9 0, ex 9 1] ++ sq 7 [mv 14, mv 15])) (.seq (.seq (.reg (sq 16 [la 2 3, cf 29 [16], nt 17, mv 18] ++ sg 19 false 20 [mv 8, nt 20] ++ sq 22 [po 19 21, mv 22] ++ sg 23 false 24 [mv 2, .callf 30 [(t0 24), (i0 0), (i0 20)], nt 25] ++ sq 27 [po 23 26])) (.cond (t0 27) (.seq (.reg (sq 6 [mi (-1)])) .ret) .skip)) (.seq (.reg (sq 28 [la 2 3, mv 7, mv 2, cf 31 [28, 29, 30]] ++ sq 6 [mv 31])) .ret))))
theorem fn7 : MFn Tryz.prog 7 mc7 32 [.tmp 6] := ⟨_, Tryz.func7, by kernel_rfl, Tryz.ntmps7, by kernel_rfl⟩
def F_spec_TimeOf (sys : ((List Int) × (List ((List Int) × (List Int))))) (n : Int) (steps : Int) : Option Int :=
 (F_spec_GroundsOf sys.1 n).bind fun r =>
 (F_spec_SystemOk sys).bind fun r_1 =>
 if r_1 = true then
  if r.2 = true then
   (F_spec_l1In steps 0 20).bind fun r_2 =>
   if r_2 = true then
    (F_spec_l25Greatest sys r.1 steps).bind fun r_3 =>
    some r_3
   else
    some (-1)
  else
   some (-1)
 else
  some (-1)
instance c_spec_TimeOf {sys : ((List Int) × (List ((List Int) × (List Int))))} {n : Int} {steps : Int} : HasC (F_spec_TimeOf sys n steps) fun rr => PFun Tryz.prog 7 [D_impl_System sys, iD n, iD steps] (iD rr) := ⟨@fun rr h => by
 delta F_spec_TimeOf at h
 refine fn7.pureL (vcm_sound ?_)
 delta mc7
 refine stp ?_
 exact aut⟩
def mc88 : MCode :=
 (.seq (.reg (sq 4 [.mv (.const (.slice none 0 0))])) (.seq (.reg (sq 5 [mi 0])) (.seq (.block 0 (.loop (.seq (.seq (.reg (sq 7 [mv 5, mv 0, ln 8, bn .lss 7 9, mv 10] ++ sg 11 true 12 [mv 0, mv 5, ix 1 12 13, ld 14, mv 1, bn .lss 15 16] ++ sq 18 [pa 11 17])) (.cond (t0 18) .skip (.exit 0))) (.block 1 (.reg (sq 19 [mv 5, bi .add 19 1] ++ sq 5 [mv 20])))))) (.seq (.seq (.reg (sq 21 [mv 5, mv 0, ln 22, bn .lss 21 23, mv 24] ++ sg 25 true 26 [mv 0, mv 5, ix 1 26 27, ld 28, mv 1, bn .eql 29 30] ++ sq 32 [pa 25 31])) (.cond (t0 32) (.seq (.reg (sq 33 [mv 0] ++ sq 4 [mv 33])) .ret) .skip)) (.seq (.reg (sq 34 [mv 0, mv 5, .slc (t0 34) 1 none (some (t0 35)) none, cf 94 [36], mv 1, .bsl 39 2 1 [(t0 38)], ap 40 2 1 8 37 39] ++ sq 6 [mv 40])) (.seq (.reg (sq 41 [mv 6, mv 0, mv 5, .slc (t0 42) 1 (some (t0 43)) none none, ap 45 2 1 8 41 44] ++ sq 4 [mv 45])) .ret))))))
theorem fn88 : MFn Tryz.prog 88 mc88 46 [.tmp 4] := ⟨_, Tryz.func88, by kernel_rfl, Tryz.ntmps88, by kernel_rfl⟩
def F_spec_l1Into_l1 (list : (List Int)) (n : Int) : Int -> Option (Int ⊕ (List Int))
 | k =>
  if (decide (k < (list.length : Int))) = true then
   if 0 <= k /\ k < (list.length : Int) then
    if (decide ((list.getD k.toNat default) < n)) = true then
     some (.inl (IntKind.i64.wrap (k + 1)))
    else
     Option.map Sum.inr (
      if (decide (k < (list.length : Int))) = true then
       if 0 <= k /\ k < (list.length : Int) then
        if ((list.getD k.toNat default) == n) = true then
         some list
        else
         if 0 <= k /\ k <= (list.length : Int) then
          (F_spec_l1Copy (list.take k.toNat)).bind fun r =>
          if (r.length + 1) * 8 <= 140737488355328 then
           if 0 <= k /\ k <= (list.length : Int) then
            if ((r ++ [n]).length + (list.drop k.toNat).length) * 8 <= 140737488355328 then
             some ((r ++ [n]) ++ (list.drop k.toNat))
            else none
           else none
          else none
         else none
       else none
      else
       if 0 <= k /\ k <= (list.length : Int) then
        (F_spec_l1Copy (list.take k.toNat)).bind fun r_1 =>
        if (r_1.length + 1) * 8 <= 140737488355328 then
         if 0 <= k /\ k <= (list.length : Int) then
          if ((r_1 ++ [n]).length + (list.drop k.toNat).length) * 8 <= 140737488355328 then
           some ((r_1 ++ [n]) ++ (list.drop k.toNat))
          else none
         else none
        else none
       else none)
   else none
  else
   Option.map Sum.inr (
    if (decide (k < (list.length : Int))) = true then
     if 0 <= k /\ k < (list.length : Int) then
      if ((list.getD k.toNat default) == n) = true then
       some list
      else
       if 0 <= k /\ k <= (list.length : Int) then
        (F_spec_l1Copy (list.take k.toNat)).bind fun r_2 =>
        if (r_2.length + 1) * 8 <= 140737488355328 then
         if 0 <= k /\ k <= (list.length : Int) then
          if ((r_2 ++ [n]).length + (list.drop k.toNat).length) * 8 <= 140737488355328 then
           some ((r_2 ++ [n]) ++ (list.drop k.toNat))
          else none
         else none
        else none
       else none
     else none
    else
     if 0 <= k /\ k <= (list.length : Int) then
      (F_spec_l1Copy (list.take k.toNat)).bind fun r_3 =>
      if (r_3.length + 1) * 8 <= 140737488355328 then
       if 0 <= k /\ k <= (list.length : Int) then
        if ((r_3 ++ [n]).length + (list.drop k.toNat).length) * 8 <= 140737488355328 then
         some ((r_3 ++ [n]) ++ (list.drop k.toNat))
        else none
       else none
      else none
     else none)
def F_spec_l1Into (list : (List Int)) (n : Int) : Option (List Int) :=
 loopC (F_spec_l1Into_l1 list n) 0
instance c_spec_l1Into {list : (List Int)} {n : Int} : HasC (F_spec_l1Into list n) fun rr => PFun Tryz.prog 88 [(slD 1 iD) list, iD n] ((slD 1 iD) rr) := ⟨@fun rr h => by
 delta F_spec_l1Into at h
 refine fn88.pureL (vcm_sound ?_)
 delta mc88
 refine stp ?_
 refine m_lW h [5, 7, 8, 9, 10, 11, 12, 13, 14, 15, 16, 17, 18, 19, 20] (fun pp => [(5, .d (iD pp))]) (fun pp => []) ?_
 rintro k t1 h hb1
 unfold F_spec_l1Into_l1 at h
 try dsimp only at h
 refine vcm_sound (stp ?_)
 refine it h (fun hc h => ?_) fun hc h => ?_
 ·refine ndI h fun hp h => ?_
  refine iF h fun hc h => ?_
  replace h := inr_some h hb1
  refine it h (fun hc h => ?_) fun hc h => ?_
  ·refine ndI h fun hp h => ?_
   refine iF h fun hc h => ?_
   refine ndI h fun hp h => ?_
   refine rCo [] [(3, 37)] h fun r hr h => ?_
   exact aut
  refine ndI h fun hp h => ?_
  refine rCo [] [(3, 37)] h fun r_1 hr_1 h => ?_
  exact aut
 replace h := inr_some h hb1
 refine it h (fun hc h => ?_) fun hc h => ?_
 ·refine ndI h fun hp h => ?_
  refine iF h fun hc h => ?_
  refine ndI h fun hp h => ?_
  refine rCo [] [(3, 37)] h fun r_2 hr_2 h => ?_
  exact aut
 refine ndI h fun hp h => ?_
 refine rCo [] [(3, 37)] h fun r_3 hr_3 h => ?_
 exact aut⟩
def mc76 : MCode :=
 (.seq (.reg (sq 1 [bo 1 33 0, .mv (.const (.slice none 0 0))])) (.seq (.reg (sq 5 [.bsl 5 2 1 []] ++ sq 3 [mv 5])) (.seq (.seq (.reg (sq 4 [mi 0])) (.block 0 (.loop (.seq (.seq (.reg (sq 6 [mv 4, fa 1 1, ld 7, ln 8, bn .lss 6 9])) (.cond (t0 10) .skip (.exit 0))) (.seq (.block 1 (.reg (sq 13 [mv 3, fa 1 1, ld 14, mv 4, ix 2 15 16, fa 0 17, ld 18, .ixa 1 (t0 19) (i0 0), ld 20, cf 88 [13, 21]] ++ sq 3 [mv 22]))) (.reg (sq 11 [mv 4, bi .add 11 1] ++ sq 4 [mv 12]))))))) (.seq (.reg (sq 23 [mv 3] ++ sq 2 [mv 23])) .ret))))
theorem fn76 : MFn Tryz.prog 76 mc76 24 [.tmp 2] := ⟨_, Tryz.func76, by kernel_rfl, Tryz.ntmps76, by kernel_rfl⟩
def F_spec_l6Defined_l1 (sys : ((List Int) × (List ((List Int) × (List Int))))) : ((List Int) × Int) -> Option (((List Int) × Int) ⊕ (List Int))
 | (out, i) =>
  if (decide (i < (sys.2.length : Int))) = true then
   if 0 <= i /\ i < (sys.2.length : Int) then
    if 0 <= 0 /\ 0 < (((sys.2.getD i.toNat default).1).length : Int) then
     (F_spec_l1Into out (((sys.2.getD i.toNat default).1).getD 0 default)).bind fun r =>
     some (.inl (r, (IntKind.i64.wrap (i + 1))))
    else none
   else none
  else
   Option.map Sum.inr (
    some out)
def F_spec_l6Defined (sys : ((List Int) × (List ((List Int) × (List Int))))) : Option (List Int) :=
 loopC (F_spec_l6Defined_l1 sys) ([], 0)
instance c_spec_l6Defined {sys : ((List Int) × (List ((List Int) × (List Int))))} : HasC (F_spec_l6Defined sys) fun rr => PFun Tryz.prog 76 [D_impl_System sys] ((slD 1 iD) rr) := ⟨@fun rr h => by
 delta F_spec_l6Defined at h
 refine fn76.pureL (vcm_sound ?_)
 delta mc76
 refine stp ?_
 refine m_lW h [3, 4, 6, 7, 8, 9, 10, 11, 12, 13, 14, 15, 16, 17, 18, 19, 20, 21, 22] (fun pp => [(3, .d (slD 1 iD pp.1)), (4, .d (iD pp.2))]) (fun pp => [(1, .obj 33 [.d (slD 1 iD sys.1), .d (slD 2 D_impl_Rule sys.2)]), (5, .tok 2 1 0)]) ?_
 rintro ⟨out, i⟩ t1 h hb1
 unfold F_spec_l6Defined_l1 at h
 try dsimp only at h
 refine vcm_sound (stp ?_)
 exact aut⟩
def mc41 : MCode :=
 (.seq (.reg (sq 2 [bo 2 33 0] ++ sq 4 [.mv (.const (.slice none 0 0)), mb false])) (.seq (.reg (sq 13 [.bsl 13 22 1 []] ++ sq 6 [mv 13])) (.seq (.reg (sq 15 [fa 0 2, la 1 15, mv 1, cf 28 [16, 17]] ++ sq 14 [mv 18] ++ sq 19 [ex 14 0, ex 14 1] ++ sq 7 [mv 19, mv 20])) (.seq (.seq (.reg (sq 21 [la 2 2, cf 29 [21], nt 22, mv 23] ++ sg 24 false 25 [mv 8, nt 25] ++ sq 27 [po 24 26])) (.cond (t0 27) (.seq (.reg (sq 28 [mv 6] ++ sq 4 [mv 28, mb false])) .ret) .skip)) (.seq (.reg (sq 29 [la 2 2, cf 76 [29]] ++ sq 9 [mv 30])) (.seq (.seq (.reg (sq 10 [mi 0])) (.block 0 (.loop (.seq (.seq (.reg (sq 31 [mv 10, mv 7, ln 32, bn .lss 31 33])) (.cond (t0 34) .skip (.exit 0))) (.seq (.block 1 (.seq (.reg (sq 37 [mv 9, mv 7, mv 10, ix 1 38 39, ld 40, .ixa 1 (t0 41) (i0 0), ld 42, cf 77 [37, 43]] ++ sq 11 [mv 44])) (.seq (.seq (.reg (sq 12 [mi 1])) (.block 2 (.loop (.seq (.seq (.reg (sq 45 [mv 12, mv 7, mv 10, ix 1 46 47, ld 48, ln 49, bn .lss 45 50])) (.cond (t0 51) .skip (.exit 2))) (.seq (.block 3 (.reg (sq 54 [mv 11, mv 54] ++ sg 55 true 56 [mv 9, mv 7, mv 10, ix 1 57 58, ld 59, mv 12, ix 1 60 61, ld 62, cf 77 [56, 63], nt 64] ++ sq 66 [pa 55 65] ++ sq 11 [mv 66]))) (.reg (sq 52 [mv 12, bi .add 52 1] ++ sq 12 [mv 53]))))))) (.seq (.reg (sq 67 [mv 11])) (.cond (t0 67) (.reg (sq 68 [mv 6, mv 7, mv 10, ix 1 69 70, ld 71, .bsl 73 22 1 [(t0 72)], ap 74 22 1 24 68 73] ++ sq 6 [mv 74])) .skip))))) (.reg (sq 35 [mv 10, bi .add 35 1] ++ sq 10 [mv 36]))))))) (.seq (.reg (sq 75 [mv 6] ++ sq 4 [mv 75, mb true])) .ret)))))))
theorem fn41 : MFn Tryz.prog 41 mc41 76 [.tmp 4, .tmp 5] := ⟨_, Tryz.func41, by kernel_rfl, Tryz.ntmps41, by kernel_rfl⟩
def F_spec_BasicsOf_l2 (r : ((List (List Int)) × Bool)) (r_2 : (List Int)) (out : (List (List Int))) (i : Int) : (Bool × Int) -> Option ((Bool × Int) ⊕ (((List (List Int)) × Int) ⊕ ((List (List Int)) × Bool)))
 | (is, k) =>
  if 0 <= i /\ i < (r.1.length : Int) then
   if (decide (k < ((r.1.getD i.toNat default).length : Int))) = true then
    if is = true then
     if 0 <= i /\ i < (r.1.length : Int) then
      if 0 <= k /\ k < ((r.1.getD i.toNat default).length : Int) then
       (F_spec_l1Has r_2 ((r.1.getD i.toNat default).getD k.toNat default)).bind fun r_4 =>
       some (.inl ((!r_4), (IntKind.i64.wrap (k + 1))))
      else none
     else none
    else
     some (.inl (false, (IntKind.i64.wrap (k + 1))))
   else
    Option.map Sum.inr (
     if is = true then
      if 0 <= i /\ i < (r.1.length : Int) then
       if (out.length + 1) * 24 <= 140737488355328 then
        some (.inl ((out ++ [(r.1.getD i.toNat default)]), (IntKind.i64.wrap (i + 1))))
       else none
      else none
     else
      some (.inl (out, (IntKind.i64.wrap (i + 1)))))
  else none
def F_spec_BasicsOf_l1 (r : ((List (List Int)) × Bool)) (r_2 : (List Int)) : ((List (List Int)) × Int) -> Option (((List (List Int)) × Int) ⊕ ((List (List Int)) × Bool))
 | (out, i) =>
  if (decide (i < (r.1.length : Int))) = true then
   if 0 <= i /\ i < (r.1.length : Int) then
    if 0 <= 0 /\ 0 < ((r.1.getD i.toNat default).length : Int) then
     (F_spec_l1Has r_2 ((r.1.getD i.toNat default).getD 0 default)).bind fun r_3 =>
     loopC (F_spec_BasicsOf_l2 r r_2 out i) (r_3, 1)
    else none
   else none
  else
   Option.map Sum.inr (
    some (out, true))
def F_spec_BasicsOf (sys : ((List Int) × (List ((List Int) × (List Int))))) (n : Int) : Option ((List (List Int)) × Bool) :=
 (F_spec_GroundsOf sys.1 n).bind fun r =>
 (F_spec_SystemOk sys).bind fun r_1 =>
 if r_1 = true then
  if r.2 = true then
   (F_spec_l6Defined sys).bind fun r_2 =>
   loopC (F_spec_BasicsOf_l1 r r_2) ([], 0)
  else
   some ([], false)
 else
  some ([], false)
instance c_spec_BasicsOf {sys : ((List Int) × (List ((List Int) × (List Int))))} {n : Int} : HasC (F_spec_BasicsOf sys n) fun rr => PFunN Tryz.prog 41 [D_impl_System sys, iD n] [(slD 1 (slD 1 iD)) rr.1, bD rr.2] := ⟨@fun rr h => by
 delta F_spec_BasicsOf at h
 refine fn41.pureLN (vcm_sound ?_)
 delta mc41
 refine stp ?_
 refine rCN h fun r hr h => ?_
 refine rC h fun r_1 hr_1 h => ?_
 refine iT h fun hc h => ?_
 refine iT h fun hc h => ?_
 refine rC h fun r_2 hr_2 h => ?_
 refine m_lW h [6, 10, 11, 12, 31, 32, 33, 34, 35, 36, 37, 38, 39, 40, 41, 42, 43, 44, 45, 46, 47, 48, 49, 50, 51, 52, 53, 54, 55, 56, 57, 58, 59, 60, 61, 62, 63, 64, 65, 66, 67, 68, 69, 70, 71, 72, 73, 74] (fun pp => [(6, .own 1 13 (List.map (slD 1 iD) pp.1)), (10, .d (iD pp.2))]) (fun pp => [(2, .obj 33 [.d (slD 1 iD sys.1), .d (slD 2 D_impl_Rule sys.2)]), (13, .tok 22 1 pp.1.length)]) ?_
 rintro ⟨out, i⟩ t1 h hb1
 unfold F_spec_BasicsOf_l1 at h
 try dsimp only at h
 refine vcm_sound (stp ?_)
 refine iT h fun hc h => ?_
 refine ndI h fun hp h => ?_
 refine ndI h fun hp h => ?_
 refine rC h fun r_3 hr_3 h => ?_
 refine m_lW h [11, 12, 45, 46, 47, 48, 49, 50, 51, 52, 53, 54, 55, 56, 57, 58, 59, 60, 61, 62, 63, 64, 65, 66] (fun pp => [(11, .d (bD pp.1)), (12, .d (iD pp.2))]) (fun pp => [(2, .obj 33 [.d (slD 1 iD sys.1), .d (slD 2 D_impl_Rule sys.2)]), (13, .tok 22 1 out.length)]) ?_
 rintro ⟨is, k⟩ t2 h hb2
 unfold F_spec_BasicsOf_l2 at h
 try dsimp only at h
 refine vcm_sound (stp ?_)
 refine ndI h fun hp h => ?_
 refine iF h fun hc h => ?_
 replace h := inr_some h hb2
 refine iT h fun hc h => ?_
 refine ndI h fun hp h => ?_
 refine ndI h fun hp h => ?_
 cases h
 refine ⟨_, rfl, ?_⟩
 refine (Weak.drop 73 (by omega)).trans ?_
 exact wk⟩
def mc11 : MCode :=
 (.seq (.reg (sq 3 [bo 3 33 0] ++ sq 6 [mi 0])) (.seq (.reg (sq 10 [la 2 3, mv 1, cf 41 [10, 11]] ++ sq 9 [mv 12] ++ sq 13 [ex 9 0, ex 9 1] ++ sq 7 [mv 13, mv 14])) (.seq (.seq (.reg (sq 15 [mv 8, nt 15, mv 16] ++ sg 17 false 18 [mv 2, .callf 30 [(t0 18), (i0 0), (i0 20)], nt 19] ++ sq 21 [po 17 20])) (.cond (t0 21) (.seq (.reg (sq 6 [mi (-1)])) .ret) .skip)) (.seq (.reg (sq 22 [la 2 3, mv 7, mv 2, cf 31 [22, 23, 24]] ++ sq 6 [mv 25])) .ret))))
theorem fn11 : MFn Tryz.prog 11 mc11 26 [.tmp 6] := ⟨_, Tryz.func11, by kernel_rfl, Tryz.ntmps11, by kernel_rfl⟩
def F_spec_RunTime (sys : ((List Int) × (List ((List Int) × (List Int))))) (n : Int) (steps : Int) : Option Int :=
 (F_spec_BasicsOf sys n).bind fun r =>
 if r.2 = true then
  (F_spec_l1In steps 0 20).bind fun r_1 =>
  if r_1 = true then
   (F_spec_l25Greatest sys r.1 steps).bind fun r_2 =>
   some r_2
  else
   some (-1)
 else
  some (-1)
instance c_spec_RunTime {sys : ((List Int) × (List ((List Int) × (List Int))))} {n : Int} {steps : Int} : HasC (F_spec_RunTime sys n steps) fun rr => PFun Tryz.prog 11 [D_impl_System sys, iD n, iD steps] (iD rr) := ⟨@fun rr h => by
 delta F_spec_RunTime at h
 refine fn11.pureL (vcm_sound ?_)
 delta mc11
 refine stp ?_
 exact aut⟩
end Go.Proofs.YtglpjlpmijfocaaGreat
namespace Go.Proofs.YtglpjlpmijfocaaGreat
open Go Abx
attribute [local irreducible] vcm vgo vdr vrun vdrun MWp GhostQ BrC BrO BrG BrD BrH AmbO callR callD drQ EnvLe StoLe
set_option maxHeartbeats 4000000
def mc85 : MCode :=
 (.seq (.reg (sq 2 [bo 2 68 0, mb false])) (.seq (.draw (sq 4 [fa 0 2, ld 4, .ixa 1 (t0 5) (i0 0), ld 6, ld 1, bn .eql 7 8] ++ sq 3 [mv 9]) [[], [0], [1], [2], [], [3, 4], [5, 0, 1, 2, 3, 4, 5]]) .ret))
theorem fn85 : MFn Tryz.prog 85 mc85 10 [.tmp 3] := ⟨_, Tryz.func85, by kernel_rfl, Tryz.ntmps85, by kernel_rfl⟩
def F_impl_isDefined_1 (r : ((List Int) × (List Int))) (o0 : Int) : Option Bool :=
 if 0 <= 0 /\ 0 < (r.1.length : Int) then
  some ((r.1.getD 0 default) == o0)
 else none
instance c_impl_isDefined_1 {r : ((List Int) × (List Int))} {o0 : Int} : HasC (F_impl_isDefined_1 r o0) fun rr => ACalls Tryz.prog 85 [.d (.agg [slD 1 iD r.1, slD 1 iD r.2]), .ptr 0 0] [(0, .obj 2 [.d (iD o0)])] 1 fun xx ss => xx = .d (bD rr) /\ ss = [(0, .obj 2 [.d (iD o0)])] := ⟨@fun rr h => by
 delta F_impl_isDefined_1 at h
 refine fn85.callsO (vcm_sound ?_)
 delta mc85
 refine stp ?_
 refine ndI h fun hp h => ?_
 refine drQ_of (by kernel_rfl) (stp ?_)
 cases h
 exact ⟨[2], by simp, don, don⟩⟩
def mc118 : MCode :=
 (.seq (.reg (sq 4 [mi 0])) (.seq (.seq (.reg (sq 6 [mv 0, ln 6, mi 0])) (.block 0 (.loop (.seq (.reg (sq 9 [bn .lss 8 7])) (.seq (.cond (t0 9) .skip (.exit 0)) (.seq (.block 1 (.seq (.reg (sq 10 [mv 8] ++ sq 5 [mv 10])) (.seq (.reg (sq 11 [mv 1, mv 0, mv 5, ix 2 12 13, la 2 14, .callv (t0 11) [(t0 15)]])) (.cond (t0 16) (.seq (.reg (sq 17 [mv 5] ++ sq 4 [mv 17])) .ret) .skip)))) (.reg (sq 18 [bi .add 8 1] ++ sq 8 [mv 18])))))))) (.seq (.reg (sq 4 [mi (-1)])) .ret)))
theorem fn118 : MFn Tryz.prog 118 mc118 19 [.tmp 4] := ⟨_, Tryz.func118, by kernel_rfl, Tryz.ntmps118, by kernel_rfl⟩
def F_slices_IndexFunc_impl_Rule_impl_Rule_l1 (s : (List ((List Int) × (List Int)))) (o0 : Int) : Int -> Option (Int ⊕ Int)
 | v8 =>
  if (decide (v8 < (s.length : Int))) = true then
   if 0 <= v8 /\ v8 < (s.length : Int) then
    (F_impl_isDefined_1 ((s.getD v8.toNat default).1, (s.getD v8.toNat default).2) o0).bind fun r =>
    if r = true then
     Option.map Sum.inr (
      some v8)
    else
     some (.inl (IntKind.i64.wrap (v8 + 1)))
   else none
  else
   Option.map Sum.inr (
    some (-1))
def F_slices_IndexFunc_impl_Rule_impl_Rule (s : (List ((List Int) × (List Int)))) (o0 : Int) : Option Int :=
 loopC (F_slices_IndexFunc_impl_Rule_impl_Rule_l1 s o0) 0
instance c_slices_IndexFunc_impl_Rule_impl_Rule {s : (List ((List Int) × (List Int)))} {o0 : Int} : HasC (F_slices_IndexFunc_impl_Rule_impl_Rule s o0) fun rr => ACalls Tryz.prog 118 [.d (slD 2 D_impl_Rule s), .fn 85 [] [.ptr 0 0]] [(0, .obj 2 [.d (iD o0)])] 1 fun xx ss => xx = .d (iD rr) /\ ss = [(0, .obj 2 [.d (iD o0)])] := ⟨@fun rr h => by
 delta F_slices_IndexFunc_impl_Rule_impl_Rule at h
 refine fn118.callsO (vcm_sound ?_)
 delta mc118
 refine stp ?_
 refine m_lW h [4, 5, 8, 9, 10, 11, 12, 13, 14, 15, 16, 17, 18] (fun pp => [(8, .d (iD pp))]) (fun pp => [(0, .obj 2 [.d (iD o0)])]) ?_
 rintro v8 t1 h hb1
 unfold F_slices_IndexFunc_impl_Rule_impl_Rule_l1 at h
 try dsimp only at h
 refine vcm_sound (stp ?_)
 refine iT h fun hc h => ?_
 refine ndI h fun hp h => ?_
 refine need_i (by kernel_rfl) ?_
 refine rCo [(0, 0)] [] h fun r hr h => ?_
 exact aut⟩
def mc84 : MCode :=
 (.seq (.reg (sq 4 [mb false])) (.seq (.reg (sq 5 [mv 0, mv 1, cf 118 [5, 6], bi .geq 7 0] ++ sq 4 [mv 8])) .ret))
theorem fn84 : MFn Tryz.prog 84 mc84 9 [.tmp 4] := ⟨_, Tryz.func84, by kernel_rfl, Tryz.ntmps84, by kernel_rfl⟩
def F_slices_ContainsFunc_impl_Rule_impl_Rule (s : (List ((List Int) × (List Int)))) (o0 : Int) : Option Bool :=
 (F_slices_IndexFunc_impl_Rule_impl_Rule s o0).bind fun r =>
 some (decide (0 <= r))
instance c_slices_ContainsFunc_impl_Rule_impl_Rule {s : (List ((List Int) × (List Int)))} {o0 : Int} : HasC (F_slices_ContainsFunc_impl_Rule_impl_Rule s o0) fun rr => ACalls Tryz.prog 84 [.d (slD 2 D_impl_Rule s), .fn 85 [] [.ptr 0 0]] [(0, .obj 2 [.d (iD o0)])] 1 fun xx ss => xx = .d (bD rr) /\ ss = [(0, .obj 2 [.d (iD o0)])] := ⟨@fun rr h => by
 delta F_slices_ContainsFunc_impl_Rule_impl_Rule at h
 refine fn84.callsO (vcm_sound ?_)
 delta mc84
 refine stp ?_
 refine rCo [(0, 0)] [] h fun r hr h => ?_
 exact aut⟩
def mc54 : MCode :=
 (.seq (.reg (sq 2 [bo 2 33 0, bo 3 2 1, mb false])) (.seq (.reg (sq 5 [fa 1 2, ld 5, .mkfn 85 [] [(t0 3)], cf 84 [6, 7]] ++ sq 4 [mv 8])) .ret))
theorem fn54 : MFn Tryz.prog 54 mc54 9 [.tmp 4] := ⟨_, Tryz.func54, by kernel_rfl, Tryz.ntmps54, by kernel_rfl⟩
def F_impl_isDefined (sys : ((List Int) × (List ((List Int) × (List Int))))) (f : Int) : Option Bool :=
 (F_slices_ContainsFunc_impl_Rule_impl_Rule sys.2 f).bind fun r =>
 some r
instance c_impl_isDefined {sys : ((List Int) × (List ((List Int) × (List Int))))} {f : Int} : HasC (F_impl_isDefined sys f) fun rr => PFun Tryz.prog 54 [D_impl_System sys, iD f] (bD rr) := ⟨@fun rr h => by
 delta F_impl_isDefined at h
 refine fn54.pureL (vcm_sound ?_)
 delta mc54
 refine stp ?_
 refine rCo [(0, 3)] [] h fun r hr h => ?_
 exact aut⟩
def mc56 : MCode :=
 (.seq (.reg (sq 3 [mb false])) (.seq (.reg (sq 4 [la 2 1, mv 0, cf 54 [4, 5]] ++ sq 3 [mv 6])) .ret))
theorem fn56 : MFn Tryz.prog 56 mc56 7 [.tmp 3] := ⟨_, Tryz.func56, by kernel_rfl, Tryz.ntmps56, by kernel_rfl⟩
def F_impl_BasicsOf_1 (f : Int) (o00 : (List Int)) (o01 : (List ((List Int) × (List Int)))) : Option Bool :=
 (F_impl_isDefined (o00, o01) f).bind fun r =>
 some r
instance c_impl_BasicsOf_1 {f : Int} {o00 : (List Int)} {o01 : (List ((List Int) × (List Int)))} : HasC (F_impl_BasicsOf_1 f o00 o01) fun rr => ACalls Tryz.prog 56 [.d (iD f), .ptr 0 0] [(0, .obj 33 [.d (slD 1 iD o00), .d (slD 2 D_impl_Rule o01)])] 1 fun xx ss => xx = .d (bD rr) /\ ss = [(0, .obj 33 [.d (slD 1 iD o00), .d (slD 2 D_impl_Rule o01)])] := ⟨@fun rr h => by
 delta F_impl_BasicsOf_1 at h
 refine fn56.callsO (vcm_sound ?_)
 delta mc56
 refine stp ?_
 exact aut⟩
def mc86 : MCode :=
 (.seq (.reg (sq 4 [mi 0])) (.seq (.seq (.reg (sq 6 [mv 0, ln 6, mi 0])) (.block 0 (.loop (.seq (.reg (sq 9 [bn .lss 8 7])) (.seq (.cond (t0 9) .skip (.exit 0)) (.seq (.block 1 (.seq (.reg (sq 10 [mv 8] ++ sq 5 [mv 10])) (.seq (.reg (sq 11 [mv 1, mv 0, mv 5, ix 1 12 13, ld 14, .callv (t0 11) [(t0 15)]])) (.cond (t0 16) (.seq (.reg (sq 17 [mv 5] ++ sq 4 [mv 17])) .ret) .skip)))) (.reg (sq 18 [bi .add 8 1] ++ sq 8 [mv 18])))))))) (.seq (.reg (sq 4 [mi (-1)])) .ret)))
theorem fn86 : MFn Tryz.prog 86 mc86 19 [.tmp 4] := ⟨_, Tryz.func86, by kernel_rfl, Tryz.ntmps86, by kernel_rfl⟩
def F_slices_IndexFunc_int64_int64_l1 (s : (List Int)) (o00 : (List Int)) (o01 : (List ((List Int) × (List Int)))) : Int -> Option (Int ⊕ Int)
 | v8 =>
  if (decide (v8 < (s.length : Int))) = true then
   if 0 <= v8 /\ v8 < (s.length : Int) then
    (F_impl_BasicsOf_1 (s.getD v8.toNat default) o00 o01).bind fun r =>
    if r = true then
     Option.map Sum.inr (
      some v8)
    else
     some (.inl (IntKind.i64.wrap (v8 + 1)))
   else none
  else
   Option.map Sum.inr (
    some (-1))
def F_slices_IndexFunc_int64_int64 (s : (List Int)) (o00 : (List Int)) (o01 : (List ((List Int) × (List Int)))) : Option Int :=
 loopC (F_slices_IndexFunc_int64_int64_l1 s o00 o01) 0
instance c_slices_IndexFunc_int64_int64 {s : (List Int)} {o00 : (List Int)} {o01 : (List ((List Int) × (List Int)))} : HasC (F_slices_IndexFunc_int64_int64 s o00 o01) fun rr => ACalls Tryz.prog 86 [.d (slD 1 iD s), .fn 56 [] [.ptr 0 0]] [(0, .obj 33 [.d (slD 1 iD o00), .d (slD 2 D_impl_Rule o01)])] 1 fun xx ss => xx = .d (iD rr) /\ ss = [(0, .obj 33 [.d (slD 1 iD o00), .d (slD 2 D_impl_Rule o01)])] := ⟨@fun rr h => by
 delta F_slices_IndexFunc_int64_int64 at h
 refine fn86.callsO (vcm_sound ?_)
 delta mc86
 refine stp ?_
 refine m_lW h [4, 5, 8, 9, 10, 11, 12, 13, 14, 15, 16, 17, 18] (fun pp => [(8, .d (iD pp))]) (fun pp => [(0, .obj 33 [.d (slD 1 iD o00), .d (slD 2 D_impl_Rule o01)])]) ?_
 rintro v8 t1 h hb1
 unfold F_slices_IndexFunc_int64_int64_l1 at h
 try dsimp only at h
 refine vcm_sound (stp ?_)
 refine iT h fun hc h => ?_
 refine ndI h fun hp h => ?_
 refine need_i (by kernel_rfl) ?_
 refine rCo [(0, 0)] [] h fun r hr h => ?_
 exact aut⟩
def mc55 : MCode :=
 (.seq (.reg (sq 4 [mb false])) (.seq (.reg (sq 5 [mv 0, mv 1, cf 86 [5, 6], bi .geq 7 0] ++ sq 4 [mv 8])) .ret))
theorem fn55 : MFn Tryz.prog 55 mc55 9 [.tmp 4] := ⟨_, Tryz.func55, by kernel_rfl, Tryz.ntmps55, by kernel_rfl⟩
def F_slices_ContainsFunc_int64_int64 (s : (List Int)) (o00 : (List Int)) (o01 : (List ((List Int) × (List Int)))) : Option Bool :=
 (F_slices_IndexFunc_int64_int64 s o00 o01).bind fun r =>
 some (decide (0 <= r))
instance c_slices_ContainsFunc_int64_int64 {s : (List Int)} {o00 : (List Int)} {o01 : (List ((List Int) × (List Int)))} : HasC (F_slices_ContainsFunc_int64_int64 s o00 o01) fun rr => ACalls Tryz.prog 55 [.d (slD 1 iD s), .fn 56 [] [.ptr 0 0]] [(0, .obj 33 [.d (slD 1 iD o00), .d (slD 2 D_impl_Rule o01)])] 1 fun xx ss => xx = .d (bD rr) /\ ss = [(0, .obj 33 [.d (slD 1 iD o00), .d (slD 2 D_impl_Rule o01)])] := ⟨@fun rr h => by
 delta F_slices_ContainsFunc_int64_int64 at h
 refine fn55.callsO (vcm_sound ?_)
 delta mc55
 refine stp ?_
 refine rCo [(0, 0)] [] h fun r hr h => ?_
 exact aut⟩
def mc20 : MCode :=
 (.seq (.reg (sq 2 [bo 2 33 0] ++ sq 4 [.mv (.const (.slice none 0 0)), mb false])) (.seq (.seq (.reg (sq 11 [la 2 2, cf 34 [11], nt 12])) (.cond (t0 13) (.seq (.reg (sq 4 [.mv (.const (.slice none 0 0)), mb false])) .ret) .skip)) (.seq (.reg (sq 15 [fa 0 2, la 1 15, mv 1, cf 19 [16, 17]] ++ sq 14 [mv 18] ++ sq 19 [ex 14 0, ex 14 1] ++ sq 6 [mv 19, mv 20])) (.seq (.seq (.reg (sq 21 [mv 7, nt 21])) (.cond (t0 22) (.seq (.reg (sq 4 [.mv (.const (.slice none 0 0)), mb false])) .ret) .skip)) (.seq (.reg (sq 8 [.mv (.const (.slice none 0 0))])) (.seq (.seq (.reg (sq 23 [mv 6, ln 23, mi 0])) (.block 0 (.loop (.seq (.reg (sq 26 [bn .lss 25 24])) (.seq (.cond (t0 26) .skip (.exit 0)) (.seq (.block 1 (.seq (.reg (sq 27 [ix 1 23 25, ld 27] ++ sq 10 [mv 28])) (.seq (.draw (sq 29 [la 2 2, mv 10, .ixa 1 (t0 30) (i0 0), ld 31, cf 54 [29, 32], mv 33] ++ sg 34 true 35 [mv 10, .slc (t0 35) 1 (some (i0 1)) none none, .mkfn 56 [] [(t0 2)], cf 55 [36, 37], nt 38] ++ sq 40 [pa 34 39]) [[], [], [1], [2], [0, 3], [4, 4], [5], [6, 5], [5], [7, 8, 5, 5], [9, 5], [5, 10]]) (.cond (t0 40) (.reg (sq 41 [mv 8, mv 10, .bsl 43 22 1 [(t0 42)], ap 44 22 1 24 41 43] ++ sq 8 [mv 44])) .skip)))) (.reg (sq 45 [bi .add 25 1] ++ sq 25 [mv 45])))))))) (.seq (.reg (sq 46 [mv 8] ++ sq 4 [mv 46, mb true])) .ret)))))))
theorem fn20 : MFn Tryz.prog 20 mc20 47 [.tmp 4, .tmp 5] := ⟨_, Tryz.func20, by kernel_rfl, Tryz.ntmps20, by kernel_rfl⟩
def F_impl_BasicsOf_l1 (sys : ((List Int) × (List ((List Int) × (List Int))))) (r_1 : ((List (List Int)) × Bool)) : ((List (List Int)) × Int) -> Option (((List (List Int)) × Int) ⊕ ((List (List Int)) × Bool))
 | (out, v25) =>
  if (decide (v25 < (r_1.1.length : Int))) = true then
   if 0 <= v25 /\ v25 < (r_1.1.length : Int) then
    if 0 <= 0 /\ 0 < ((r_1.1.getD v25.toNat default).length : Int) then
     (F_impl_isDefined sys ((r_1.1.getD v25.toNat default).getD 0 default)).bind fun r_2 =>
     if r_2 = true then
      if 0 <= 1 /\ 1 <= ((r_1.1.getD v25.toNat default).length : Int) then
       (F_slices_ContainsFunc_int64_int64 ((r_1.1.getD v25.toNat default).drop 1) sys.1 sys.2).bind fun r_3 =>
       if r_3 = true then
        some (.inl (out, (IntKind.i64.wrap (v25 + 1))))
       else
        if (out.length + 1) * 24 <= 140737488355328 then
         some (.inl ((out ++ [(r_1.1.getD v25.toNat default)]), (IntKind.i64.wrap (v25 + 1))))
        else none
      else none
     else
      some (.inl (out, (IntKind.i64.wrap (v25 + 1))))
    else none
   else none
  else
   Option.map Sum.inr (
    some (out, true))
def F_impl_BasicsOf (sys : ((List Int) × (List ((List Int) × (List Int))))) (n : Int) : Option ((List (List Int)) × Bool) :=
 (F_impl_SystemOk sys).bind fun r =>
 if r = true then
  (F_impl_GroundsOf sys.1 n).bind fun r_1 =>
  if r_1.2 = true then
   loopC (F_impl_BasicsOf_l1 sys r_1) ([], 0)
  else
   some ([], false)
 else
  some ([], false)
instance c_impl_BasicsOf {sys : ((List Int) × (List ((List Int) × (List Int))))} {n : Int} : HasC (F_impl_BasicsOf sys n) fun rr => PFunN Tryz.prog 20 [D_impl_System sys, iD n] [(slD 1 (slD 1 iD)) rr.1, bD rr.2] := ⟨@fun rr h => by
 delta F_impl_BasicsOf at h
 refine fn20.pureLN (vcm_sound ?_)
 delta mc20
 refine stp ?_
 refine rC h fun r hr h => ?_
 refine iT h fun hc h => ?_
 refine rCN h fun r_1 hr_1 h => ?_
 refine iT h fun hc h => ?_
 refine m_loopF h [8, 10, 25, 26, 27, 28, 29, 30, 31, 32, 33, 34, 35, 36, 37, 38, 39, 40, 41, 42, 43, 44, 45] (fun pp => [(8, .own 1 44 (List.map (slD 1 iD) pp.1)), (25, .d (iD pp.2))]) (fun pp => [(2, .obj 33 [.d (slD 1 iD sys.1), .d (slD 2 D_impl_Rule sys.2)]), (44, .tok 22 1 pp.1.length)]) ?_ ?_
 ·try dsimp only
  refine (Weak.thaw 8 44 22 1 rfl rfl).trans ?_
  exact wk
 rintro ⟨out, v25⟩ t1 h hb1
 unfold F_impl_BasicsOf_l1 at h
 try dsimp only at h
 refine vcm_sound (stp ?_)
 refine iT h fun hc h => ?_
 refine ndI h fun hp h => ?_
 refine ndI h fun hp h => ?_
 refine dC h fun r_2 hr_2 h => ?_
 refine iT h fun hc h => ?_
 refine ndI h fun hp h => ?_
 refine dCo [(0, 2)] [] h fun r_3 hr_3 h => ?_
 refine drQ_of (by kernel_rfl) (stp ?_)
 refine iF h fun hc h => ?_
 refine ndI h fun hp h => ?_
 cases h
 refine ⟨_, rfl, ?_⟩
 refine (Weak.drop 43 (by omega)).trans ?_
 exact wk⟩
end Go.Proofs.YtglpjlpmijfocaaGreat
namespace Go.Proofs.YtglpjlpmijfocaaGreat
open Go Abx
attribute [local irreducible] vcm vgo vdr vrun vdrun MWp GhostQ BrC BrO BrG BrD BrH AmbO callR callD drQ EnvLe StoLe
set_option maxHeartbeats 4000000
def mc35 : MCode :=
 (.seq (.reg (sq 2 [mb false])) (.seq (.reg (sq 3 [mv 0, bi .geq 3 0, mv 4] ++ sg 5 true 6 [mv 0, bi .leq 6 20] ++ sq 8 [pa 5 7] ++ sq 2 [mv 8])) .ret))
theorem fn35 : MFn Tryz.prog 35 mc35 9 [.tmp 2] := ⟨_, Tryz.func35, by kernel_rfl, Tryz.ntmps35, by kernel_rfl⟩
def F_impl_deepOk (steps : Int) : Option Bool :=
 if (decide (0 <= steps)) = true then
  some (decide (steps <= 20))
 else
  some false
instance c_impl_deepOk {steps : Int} : HasC (F_impl_deepOk steps) fun rr => PFun Tryz.prog 35 [iD steps] (bD rr) := ⟨@fun rr h => by
 delta F_impl_deepOk at h
 refine fn35.pureL (vcm_sound ?_)
 delta mc35
 refine stp ?_
 exact aut⟩
def mc37 : MCode :=
 (.seq (.reg (sq 4 [mi 0])) (.seq (.reg (sq 5 [la 2 1, mv 0, ld 2, cf 38 [5, 6, 7]] ++ sq 4 [mv 8])) .ret))
theorem fn37 : MFn Tryz.prog 37 mc37 9 [.tmp 4] := ⟨_, Tryz.func37, by kernel_rfl, Tryz.ntmps37, by kernel_rfl⟩
def F_impl_TimeOf_1 (t : (List Int)) (o00 : (List Int)) (o01 : (List ((List Int) × (List Int)))) (o1 : Int) : Option Int :=
 (F_impl_longest (o00, o01) t o1).bind fun r =>
 some r
instance c_impl_TimeOf_1 {t : (List Int)} {o00 : (List Int)} {o01 : (List ((List Int) × (List Int)))} {o1 : Int} : HasC (F_impl_TimeOf_1 t o00 o01 o1) fun rr => ACalls Tryz.prog 37 [.d (slD 1 iD t), .ptr 0 0, .ptr 1 0] [(0, .obj 33 [.d (slD 1 iD o00), .d (slD 2 D_impl_Rule o01)]), (1, .obj 2 [.d (iD o1)])] 2 fun xx ss => xx = .d (iD rr) /\ ss = [(0, .obj 33 [.d (slD 1 iD o00), .d (slD 2 D_impl_Rule o01)]), (1, .obj 2 [.d (iD o1)])] := ⟨@fun rr h => by
 delta F_impl_TimeOf_1 at h
 refine fn37.callsO (vcm_sound ?_)
 delta mc37
 refine stp ?_
 exact aut⟩
def mc36 : MCode :=
 (.seq (.reg (sq 4 [mi 0])) (.seq (.reg (sq 5 [mi 0])) (.seq (.seq (.reg (sq 9 [mv 0, ln 9, mi 0])) (.block 0 (.loop (.seq (.reg (sq 12 [bn .lss 11 10])) (.seq (.cond (t0 12) .skip (.exit 0)) (.seq (.block 1 (.seq (.reg (sq 13 [ix 1 9 11, ld 13] ++ sq 7 [mv 14])) (.seq (.reg (sq 15 [mv 1, mv 7, .callv (t0 15) [(t0 16)]] ++ sq 8 [mv 17])) (.seq (.seq (.reg (sq 18 [mv 8, bi .lss 18 0])) (.cond (t0 19) (.seq (.reg (sq 4 [mi (-1)])) .ret) .skip)) (.reg (sq 20 [mv 5, mv 8, .max (t0 20) (t0 21)] ++ sq 5 [mv 22])))))) (.reg (sq 23 [bi .add 11 1] ++ sq 11 [mv 23])))))))) (.seq (.reg (sq 24 [mv 5] ++ sq 4 [mv 24])) .ret))))
theorem fn36 : MFn Tryz.prog 36 mc36 25 [.tmp 4] := ⟨_, Tryz.func36, by kernel_rfl, Tryz.ntmps36, by kernel_rfl⟩
def F_impl_greatest_l1 (ts : (List (List Int))) (o00 : (List Int)) (o01 : (List ((List Int) × (List Int)))) (o1 : Int) : (Int × Int) -> Option ((Int × Int) ⊕ Int)
 | (out, v11) =>
  if (decide (v11 < (ts.length : Int))) = true then
   if 0 <= v11 /\ v11 < (ts.length : Int) then
    (F_impl_TimeOf_1 (ts.getD v11.toNat default) o00 o01 o1).bind fun r =>
    if (decide (r < 0)) = true then
     Option.map Sum.inr (
      some (-1))
    else
     some (.inl ((if r > out then r else out), (IntKind.i64.wrap (v11 + 1))))
   else none
  else
   Option.map Sum.inr (
    some out)
def F_impl_greatest (ts : (List (List Int))) (o00 : (List Int)) (o01 : (List ((List Int) × (List Int)))) (o1 : Int) : Option Int :=
 loopC (F_impl_greatest_l1 ts o00 o01 o1) (0, 0)
instance c_impl_greatest {ts : (List (List Int))} {o00 : (List Int)} {o01 : (List ((List Int) × (List Int)))} {o1 : Int} : HasC (F_impl_greatest ts o00 o01 o1) fun rr => ACalls Tryz.prog 36 [.d (slD 1 (slD 1 iD) ts), .fn 37 [] [.ptr 0 0, .ptr 1 0]] [(0, .obj 33 [.d (slD 1 iD o00), .d (slD 2 D_impl_Rule o01)]), (1, .obj 2 [.d (iD o1)])] 2 fun xx ss => xx = .d (iD rr) /\ ss = [(0, .obj 33 [.d (slD 1 iD o00), .d (slD 2 D_impl_Rule o01)]), (1, .obj 2 [.d (iD o1)])] := ⟨@fun rr h => by
 delta F_impl_greatest at h
 refine fn36.callsO (vcm_sound ?_)
 delta mc36
 refine stp ?_
 refine m_lW h [4, 5, 7, 8, 11, 12, 13, 14, 15, 16, 17, 18, 19, 20, 21, 22, 23] (fun pp => [(5, .d (iD pp.1)), (11, .d (iD pp.2))]) (fun pp => [(0, .obj 33 [.d (slD 1 iD o00), .d (slD 2 D_impl_Rule o01)]), (1, .obj 2 [.d (iD o1)])]) ?_
 rintro ⟨out, v11⟩ t1 h hb1
 unfold F_impl_greatest_l1 at h
 try dsimp only at h
 refine vcm_sound (stp ?_)
 refine iT h fun hc h => ?_
 refine ndI h fun hp h => ?_
 refine need_i (by kernel_rfl) ?_
 refine rCo [(0, 0), (1, 1)] [] h fun r hr h => ?_
 exact aut⟩
def mc9 : MCode :=
 (.seq (.reg (sq 3 [bo 3 33 0] ++ sq 5 [bo 5 2 2, mi 0])) (.seq (.seq (.reg (sq 9 [la 2 3, cf 34 [9], nt 10, mv 11] ++ sg 12 false 13 [ld 5, cf 35 [13], nt 14] ++ sq 16 [po 12 15])) (.cond (t0 16) (.seq (.reg (sq 6 [mi (-1)])) .ret) .skip)) (.seq (.reg (sq 18 [fa 0 3, la 1 18, mv 1, cf 19 [19, 20]] ++ sq 17 [mv 21] ++ sq 22 [ex 17 0, ex 17 1] ++ sq 7 [mv 22, mv 23])) (.seq (.seq (.reg (sq 24 [mv 8, nt 24])) (.cond (t0 25) (.seq (.reg (sq 6 [mi (-1)])) .ret) .skip)) (.seq (.reg (sq 26 [mv 7, .mkfn 37 [] [(t0 3), (t0 5)], cf 36 [26, 27]] ++ sq 6 [mv 28])) .ret)))))
theorem fn9 : MFn Tryz.prog 9 mc9 29 [.tmp 6] := ⟨_, Tryz.func9, by kernel_rfl, Tryz.ntmps9, by kernel_rfl⟩
def F_impl_TimeOf (sys : ((List Int) × (List ((List Int) × (List Int))))) (n : Int) (steps : Int) : Option Int :=
 (F_impl_SystemOk sys).bind fun r =>
 if r = true then
  (F_impl_deepOk steps).bind fun r_1 =>
  if r_1 = true then
   (F_impl_GroundsOf sys.1 n).bind fun r_2 =>
   if r_2.2 = true then
    (F_impl_greatest r_2.1 sys.1 sys.2 steps).bind fun r_3 =>
    some r_3
   else
    some (-1)
  else
   some (-1)
 else
  some (-1)
instance c_impl_TimeOf {sys : ((List Int) × (List ((List Int) × (List Int))))} {n : Int} {steps : Int} : HasC (F_impl_TimeOf sys n steps) fun rr => PFun Tryz.prog 9 [D_impl_System sys, iD n, iD steps] (iD rr) := ⟨@fun rr h => by
 delta F_impl_TimeOf at h
 refine fn9.pureL (vcm_sound ?_)
 delta mc9
 refine stp ?_
 refine rC h fun r hr h => ?_
 refine iT h fun hc h => ?_
 refine rC h fun r_1 hr_1 h => ?_
 refine iT h fun hc h => ?_
 refine rCN h fun r_2 hr_2 h => ?_
 refine iT h fun hc h => ?_
 refine rCo [(0, 3), (1, 5)] [] h fun r_3 hr_3 h => ?_
 exact aut⟩
def mc42 : MCode :=
 (.seq (.reg (sq 4 [mi 0])) (.seq (.reg (sq 5 [la 2 1, mv 0, ld 2, cf 38 [5, 6, 7]] ++ sq 4 [mv 8])) .ret))
theorem fn42 : MFn Tryz.prog 42 mc42 9 [.tmp 4] := ⟨_, Tryz.func42, by kernel_rfl, Tryz.ntmps42, by kernel_rfl⟩
def F_impl_RunTime_1 (t : (List Int)) (o00 : (List Int)) (o01 : (List ((List Int) × (List Int)))) (o1 : Int) : Option Int :=
 (F_impl_longest (o00, o01) t o1).bind fun r =>
 some r
instance c_impl_RunTime_1 {t : (List Int)} {o00 : (List Int)} {o01 : (List ((List Int) × (List Int)))} {o1 : Int} : HasC (F_impl_RunTime_1 t o00 o01 o1) fun rr => ACalls Tryz.prog 42 [.d (slD 1 iD t), .ptr 0 0, .ptr 1 0] [(0, .obj 33 [.d (slD 1 iD o00), .d (slD 2 D_impl_Rule o01)]), (1, .obj 2 [.d (iD o1)])] 2 fun xx ss => xx = .d (iD rr) /\ ss = [(0, .obj 33 [.d (slD 1 iD o00), .d (slD 2 D_impl_Rule o01)]), (1, .obj 2 [.d (iD o1)])] := ⟨@fun rr h => by
 delta F_impl_RunTime_1 at h
 refine fn42.callsO (vcm_sound ?_)
 delta mc42
 refine stp ?_
 exact aut⟩
def F_impl_greatest_s1_l1 (ts : (List (List Int))) (o00 : (List Int)) (o01 : (List ((List Int) × (List Int)))) (o1 : Int) : (Int × Int) -> Option ((Int × Int) ⊕ Int)
 | (out, v11) =>
  if (decide (v11 < (ts.length : Int))) = true then
   if 0 <= v11 /\ v11 < (ts.length : Int) then
    (F_impl_RunTime_1 (ts.getD v11.toNat default) o00 o01 o1).bind fun r =>
    if (decide (r < 0)) = true then
     Option.map Sum.inr (
      some (-1))
    else
     some (.inl ((if r > out then r else out), (IntKind.i64.wrap (v11 + 1))))
   else none
  else
   Option.map Sum.inr (
    some out)
def F_impl_greatest_s1 (ts : (List (List Int))) (o00 : (List Int)) (o01 : (List ((List Int) × (List Int)))) (o1 : Int) : Option Int :=
 loopC (F_impl_greatest_s1_l1 ts o00 o01 o1) (0, 0)
instance c_impl_greatest_s1 {ts : (List (List Int))} {o00 : (List Int)} {o01 : (List ((List Int) × (List Int)))} {o1 : Int} : HasC (F_impl_greatest_s1 ts o00 o01 o1) fun rr => ACalls Tryz.prog 36 [.d (slD 1 (slD 1 iD) ts), .fn 42 [] [.ptr 0 0, .ptr 1 0]] [(0, .obj 33 [.d (slD 1 iD o00), .d (slD 2 D_impl_Rule o01)]), (1, .obj 2 [.d (iD o1)])] 2 fun xx ss => xx = .d (iD rr) /\ ss = [(0, .obj 33 [.d (slD 1 iD o00), .d (slD 2 D_impl_Rule o01)]), (1, .obj 2 [.d (iD o1)])] := ⟨@fun rr h => by
 delta F_impl_greatest_s1 at h
 refine fn36.callsO (vcm_sound ?_)
 delta mc36
 refine stp ?_
 refine m_lW h [4, 5, 7, 8, 11, 12, 13, 14, 15, 16, 17, 18, 19, 20, 21, 22, 23] (fun pp => [(5, .d (iD pp.1)), (11, .d (iD pp.2))]) (fun pp => [(0, .obj 33 [.d (slD 1 iD o00), .d (slD 2 D_impl_Rule o01)]), (1, .obj 2 [.d (iD o1)])]) ?_
 rintro ⟨out, v11⟩ t1 h hb1
 unfold F_impl_greatest_s1_l1 at h
 try dsimp only at h
 refine vcm_sound (stp ?_)
 refine iT h fun hc h => ?_
 refine ndI h fun hp h => ?_
 refine need_i (by kernel_rfl) ?_
 refine rCo [(0, 0), (1, 1)] [] h fun r hr h => ?_
 exact aut⟩
def mc12 : MCode :=
 (.seq (.reg (sq 3 [bo 3 33 0] ++ sq 5 [bo 5 2 2, mi 0])) (.seq (.reg (sq 10 [la 2 3, mv 1, cf 20 [10, 11]] ++ sq 9 [mv 12] ++ sq 13 [ex 9 0, ex 9 1] ++ sq 7 [mv 13, mv 14])) (.seq (.seq (.reg (sq 15 [mv 8, nt 15, mv 16] ++ sg 17 false 18 [ld 5, cf 35 [18], nt 19] ++ sq 21 [po 17 20])) (.cond (t0 21) (.seq (.reg (sq 6 [mi (-1)])) .ret) .skip)) (.seq (.reg (sq 22 [mv 7, .mkfn 42 [] [(t0 3), (t0 5)], cf 36 [22, 23]] ++ sq 6 [mv 24])) .ret))))
theorem fn12 : MFn Tryz.prog 12 mc12 25 [.tmp 6] := ⟨_, Tryz.func12, by kernel_rfl, Tryz.ntmps12, by kernel_rfl⟩
def F_impl_RunTime (sys : ((List Int) × (List ((List Int) × (List Int))))) (n : Int) (steps : Int) : Option Int :=
 (F_impl_BasicsOf sys n).bind fun r =>
 if r.2 = true then
  (F_impl_deepOk steps).bind fun r_1 =>
  if r_1 = true then
   (F_impl_greatest_s1 r.1 sys.1 sys.2 steps).bind fun r_2 =>
   some r_2
  else
   some (-1)
 else
  some (-1)
instance c_impl_RunTime {sys : ((List Int) × (List ((List Int) × (List Int))))} {n : Int} {steps : Int} : HasC (F_impl_RunTime sys n steps) fun rr => PFun Tryz.prog 12 [D_impl_System sys, iD n, iD steps] (iD rr) := ⟨@fun rr h => by
 delta F_impl_RunTime at h
 refine fn12.pureL (vcm_sound ?_)
 delta mc12
 refine stp ?_
 refine rCN h fun r hr h => ?_
 refine iT h fun hc h => ?_
 refine rC h fun r_1 hr_1 h => ?_
 refine iT h fun hc h => ?_
 refine rCo [(0, 3), (1, 5)] [] h fun r_2 hr_2 h => ?_
 exact aut⟩
end Go.Proofs.YtglpjlpmijfocaaGreat
namespace Tm
def ari (a : List Int) (x : Int) : Nat := if x < 0 then 0 else (a.getD x.toNat 0).toNat
def okx (a : List Int) (x : Int) : Prop := -24 <= x /\ x < a.length
instance (a : List Int) (x : Int) : Decidable (okx a x) := by unfold okx; infer_instance
def skip (a : List Int) : List Int -> Nat -> Option (List Int)
 | t, 0 => some t
 | [], _ + 1 => none
 | x :: t, k + 1 => if okx a x then skip a t (k + ari a x) else none
def Wf (a : List Int) (k : Nat) (t : List Int) : Prop := skip a t k = some []
instance (a : List Int) (k : Nat) (t : List Int) : Decidable (Wf a k t) := by unfold Wf; infer_instance
theorem skip_zero (a t : List Int) : skip a t 0 = some t := by cases t <;> simp [skip]
theorem skip_cons (a t : List Int) (x : Int) (k : Nat) : skip a (x :: t) (k + 1) = if okx a x then skip a t (k + ari a x) else none := by simp [skip]
theorem skip_nil (a : List Int) (k : Nat) : skip a [] (k + 1) = none := by simp [skip]
theorem skip_app {a : List Int} (s : List Int) : ∀ {t r : List Int} {k : Nat}, skip a t k = some r -> skip a (t ++ s) k = some (r ++ s)
 | t, r, 0, h => by rw [skip_zero] at h ⊢; cases h; rfl
 | [], r, k + 1, h => by simp [skip] at h
 | x :: t, r, k + 1, h => by
  rw [List.cons_append]
  rw [skip_cons] at h ⊢
  split at h
  ·rename_i hx; rw [if_pos hx]; exact skip_app s h
  ·cases h
theorem skip_add {a : List Int} (j : Nat) : ∀ {t : List Int} {k : Nat}, skip a t (k + j) = (skip a t k).bind fun r => skip a r j
 | t, 0 => by simp [skip_zero]
 | [], k + 1 => by rw [show k + 1 + j = (k + j) + 1 by omega]; simp [skip]
 | x :: t, k + 1 => by
  rw [show k + 1 + j = (k + j) + 1 by omega, skip_cons, skip_cons]
  split
  ·rw [show k + j + ari a x = (k + ari a x) + j by omega]; exact skip_add j
  ·rfl
theorem skip_split {a : List Int} : ∀ {t r : List Int} {k : Nat}, skip a t k = some r -> ∃ u, t = u ++ r /\ Wf a k u
 | t, r, 0, h => by rw [skip_zero] at h; cases h; exact ⟨[], rfl, skip_zero _ _⟩
 | [], r, k + 1, h => by simp [skip] at h
 | x :: t, r, k + 1, h => by
  rw [skip_cons] at h
  split at h
  ·rename_i hx
   obtain ⟨u, rfl, h2⟩ := skip_split h
   exact ⟨x :: u, rfl, by unfold Wf; rw [skip_cons, if_pos hx]; exact h2⟩
  ·cases h
theorem Wf.skip {a u : List Int} {k : Nat} (h : Wf a k u) (s : List Int) : skip a (u ++ s) k = some s := skip_app s h
theorem Wf.app {a u v : List Int} {k j : Nat} (h : Wf a k u) (h' : Wf a j v) : Wf a (k + j) (u ++ v) := by
 unfold Wf; rw [skip_add, h.skip]; exact h'
theorem Wf.nil {a : List Int} : Wf a 0 [] := skip_zero _ _
theorem Wf.zero {a t : List Int} (h : Wf a 0 t) : t = [] := by unfold Wf at h; rw [skip_zero] at h; exact Option.some.inj h
theorem Wf.cons_iff {a t : List Int} {x : Int} {k : Nat} : Wf a (k + 1) (x :: t) ↔ okx a x /\ Wf a (k + ari a x) t := by
 unfold Wf; rw [skip_cons]; split <;> simp_all
theorem Wf.pos {a t : List Int} {k : Nat} (h : Wf a (k + 1) t) : ∃ x r, t = x :: r /\ okx a x /\ Wf a (k + ari a x) r := by
 cases t with
 | nil => simp [Wf, Tm.skip] at h
 | cons x r => exact ⟨x, r, rfl, Wf.cons_iff.1 h⟩
theorem Wf.split {a t : List Int} {k j : Nat} (h : Wf a (k + j) t) : ∃ u v, t = u ++ v /\ Wf a k u /\ Wf a j v := by
 unfold Wf at h; rw [skip_add] at h
 obtain ⟨r, h1, h2⟩ := Option.bind_eq_some_iff.1 h
 obtain ⟨u, rfl, h3⟩ := skip_split h1
 exact ⟨u, r, rfl, h3, h2⟩
theorem Wf.uniq {a u u' v v' : List Int} {k : Nat} (h : Wf a k u) (h' : Wf a k u') (e : u ++ v = u' ++ v') : u = u' /\ v = v' := by
 have h1 := h.skip v
 have h2 := h'.skip v'
 rw [e, h2] at h1
 cases Option.some.inj h1
 exact ⟨List.append_cancel_right e, rfl⟩
theorem Wf.all {a : List Int} : ∀ {t : List Int} {k : Nat}, Wf a k t -> ∀ x ∈ t, okx a x
 | [], _, _ => by simp
 | y :: t, 0, h => by have := h.zero; cases this
 | y :: t, k + 1, h => by
  obtain ⟨h1, h2⟩ := Wf.cons_iff.1 h
  intro x hx
  rcases List.mem_cons.1 hx with rfl | hx
  ·exact h1
  ·exact h2.all x hx
theorem Wf.len {a : List Int} : ∀ {t : List Int} {k : Nat}, Wf a k t -> k <= t.length
 | t, 0, _ => by omega
 | [], k + 1, h => by simp [Wf, Tm.skip] at h
 | y :: t, k + 1, h => by
  obtain ⟨h1, h2⟩ := Wf.cons_iff.1 h
  have := h2.len
  simp; omega
theorem Wf.place {a : List Int} : ∀ {t : List Int} {k i : Nat}, Wf a k t -> i < t.length -> ∃ p u s, t = p ++ (u ++ s) /\ p.length = i /\ Wf a 1 u
 | [], _, _, _, hi => by simp at hi
 | y :: t, 0, _, h, _ => by have := h.zero; cases this
 | y :: t, k + 1, 0, h, _ => by
  rw [show k + 1 = 1 + k by omega] at h
  obtain ⟨u, v, e, h1, _⟩ := h.split
  exact ⟨[], u, v, e, rfl, h1⟩
 | y :: t, k + 1, i + 1, h, hi => by
  obtain ⟨p, u, s, rfl, h2, h3⟩ := (Wf.cons_iff.1 h).2.place (i := i) (by simpa using hi)
  exact ⟨y :: p, u, s, rfl, by simp [h2], h3⟩
theorem Wf.put {a u v s : List Int} (hu : Wf a 1 u) (hv : Wf a 1 v) : ∀ {p : List Int} {k : Nat}, Wf a k (p ++ (u ++ s)) -> Wf a k (p ++ (v ++ s))
 | [], 0, h => by
  have := h.zero
  have := hu.len
  simp_all
 | [], k + 1, h => by
  rw [List.nil_append] at h ⊢
  rw [show k + 1 = 1 + k by omega] at h ⊢
  obtain ⟨u', v', e, h1, h2⟩ := h.split
  obtain ⟨rfl, rfl⟩ := hu.uniq h1 e
  exact hv.app h2
 | y :: p, 0, h => by have := h.zero; cases this
 | y :: p, k + 1, h => by
  rw [List.cons_append] at h ⊢
  obtain ⟨h1, h2⟩ := Wf.cons_iff.1 h
  exact Wf.cons_iff.2 ⟨h1, Wf.put hu hv h2⟩
def sub (σ : Int -> List Int) (t : List Int) : List Int := t.flatMap fun x => if x < 0 then σ x else [x]
theorem sub_cons (σ : Int -> List Int) (x : Int) (t : List Int) : sub σ (x :: t) = (if x < 0 then σ x else [x]) ++ sub σ t := by simp [sub]
theorem sub_app (σ : Int -> List Int) (s t : List Int) : sub σ (s ++ t) = sub σ s ++ sub σ t := by simp [sub]
theorem sub_congr {σ τ : Int -> List Int} {t : List Int} (h : ∀ x ∈ t, x < 0 -> σ x = τ x) : sub σ t = sub τ t := by
 induction t with
 | nil => rfl
 | cons x t ih =>
  rw [sub_cons, sub_cons, ih fun y hy => h y (by simp [hy])]
  by_cases hx : x < 0
  ·rw [if_pos hx, if_pos hx, h x (by simp) hx]
  ·rw [if_neg hx, if_neg hx]
theorem Wf.sub {a : List Int} {σ : Int -> List Int} : ∀ {t : List Int} {k : Nat}, Wf a k t -> (∀ x ∈ t, x < 0 -> Wf a 1 (σ x)) -> Wf a k (Tm.sub σ t)
 | [], k, h, _ => by simpa [Tm.sub] using h
 | y :: t, 0, h, _ => by have := h.zero; cases this
 | y :: t, k + 1, h, hs => by
  obtain ⟨h1, h2⟩ := Wf.cons_iff.1 h
  rw [sub_cons]
  have ih := h2.sub fun x hx => hs x (by simp [hx])
  by_cases hy : y < 0
  ·rw [if_pos hy, show k + 1 = 1 + k by omega]
   refine (hs y (by simp) hy).app ?_
   simpa [ari, hy] using ih
  ·rw [if_neg hy]
   exact Wf.cons_iff.2 ⟨h1, ih⟩
end Tm
namespace Tm
abbrev Bd := List (List Int)
def bget (b : Bd) (n : Int) : List Int := b.getD (-1 - n).toNat []
def bset (b : Bd) (n : Int) (u : List Int) : Bd := b.set (-1 - n).toNat u
def mat (a : List Int) : List Int -> List Int -> Bd -> Option Bd
 | [], _, b => some b
 | n :: p, t, b =>
  if n < 0 then match skip a t 1 with
   | none => none
   | some r =>
    let u := t.take (t.length - r.length)
    if bget b n = [] then mat a p r (bset b n u) else if bget b n = u then mat a p r b else none
  else match t with
   | [] => none
   | y :: t => if y = n then mat a p t b else none
theorem mat_nil (a t : List Int) (b : Bd) : mat a [] t b = some b := by simp [mat]
theorem Wf.ne {a u : List Int} (h : Wf a 1 u) : u ≠ [] := by have := h.len; intro e; subst e; simp at this
theorem mat_sym {a p t : List Int} {n y : Int} {b : Bd} (hn : ¬ n < 0) : mat a (n :: p) (y :: t) b = if y = n then mat a p t b else none := by simp [mat, hn]
theorem mat_var {a p u r : List Int} {n : Int} {b : Bd} (hn : n < 0) (hu : Wf a 1 u) : mat a (n :: p) (u ++ r) b =
 if bget b n = [] then mat a p r (bset b n u) else if bget b n = u then mat a p r b else none := by
 simp [mat, hn, hu.skip]
theorem bget_bset {b : Bd} {n m : Int} {u : List Int} (hn : n < 0) (hl : -1 - n < b.length) (hm : m < 0) : bget (bset b n u) m = if m = n then u else bget b m := by
 unfold bget bset
 rw [List.getD_eq_getElem?_getD, List.getD_eq_getElem?_getD, List.getElem?_set]
 by_cases h : m = n
 ·subst h
  rw [if_pos rfl, if_pos rfl, if_pos (by omega)]; rfl
 ·rw [if_neg h, if_neg (by omega)]
theorem mat_sound {a : List Int} : ∀ {p t : List Int} {b b' : Bd} {k : Nat}, Wf a k p -> Wf a k t -> b.length = 24 -> mat a p t b = some b' ->
 t = sub (bget b') p /\ b'.length = 24 /\ (∀ n, n < 0 -> bget b n ≠ [] -> bget b' n = bget b n) /\ (∀ n ∈ p, n < 0 -> Wf a 1 (bget b' n) ∨ bget b n = bget b' n /\ bget b n ≠ []) /\
 (∀ n, n < 0 -> n ∉ p -> bget b' n = bget b n)
 | [], t, b, b', k, hp, ht, hb, h => by
  rw [mat_nil] at h
  cases h
  cases k with
  | zero => have := ht.zero; subst this; exact ⟨rfl, hb, fun _ _ _ => rfl, by simp, fun _ _ _ => rfl⟩
  | succ k => simp [Wf, Tm.skip] at hp
 | n :: p, t, b, b', 0, hp, ht, hb, h => by have := hp.zero; cases this
 | n :: p, t, b, b', k + 1, hp, ht, hb, h => by
  obtain ⟨hx, hp⟩ := Wf.cons_iff.1 hp
  by_cases hn : n < 0
  ·rw [show k + 1 = 1 + k by omega] at ht
   obtain ⟨u, r, rfl, hu, hr⟩ := ht.split
   rw [mat_var hn hu] at h
   have ha : ari a n = 0 := by simp [ari, hn]
   rw [ha, Nat.add_zero] at hp
   have hl : -1 - n < b.length := by have := hx.1; omega
   split at h
   ·rename_i h0
    obtain ⟨h1, h2, h3, h4, h5⟩ := mat_sound hp hr (by simpa [bset] using hb) h
    have hbn : bget b' n = u := by
     rw [h3 n hn (by rw [bget_bset hn hl hn, if_pos rfl]; exact hu.ne), bget_bset hn hl hn, if_pos rfl]
    refine ⟨by rw [sub_cons, if_pos hn, hbn, <- h1], h2, fun m hm hne => ?_, fun m hm hm0 => ?_, fun m hm hmp => ?_⟩
    ·by_cases hmn : m = n
     ·subst hmn; exact absurd h0 hne
     ·have := bget_bset (u := u) hn hl hm
      rw [if_neg hmn] at this
      rw [h3 m hm (by rw [this]; exact hne), this]
    ·by_cases hmn : m = n
     ·subst hmn; rw [hbn]; exact .inl hu
     ·have := bget_bset (u := u) hn hl hm0
      rw [if_neg hmn] at this
      rcases List.mem_cons.1 hm with e | hm
      ·exact absurd e hmn
      ·rw [<- this]; exact h4 m hm hm0
    ·have hmn : m ≠ n := fun e => hmp (by simp [e])
     have := bget_bset (u := u) hn hl hm
     rw [if_neg hmn] at this
     rw [h5 m hm fun hx => hmp (by simp [hx]), this]
   ·rename_i h0
    split at h
    ·rename_i h00
     obtain ⟨h1, h2, h3, h4, h5⟩ := mat_sound hp hr hb h
     have hbn : bget b' n = u := by rw [h3 n hn h0, h00]
     refine ⟨by rw [sub_cons, if_pos hn, hbn, <- h1], h2, h3, fun m hm hm0 => ?_, fun m hm hmp => ?_⟩
     ·by_cases hmn : m = n
      ·subst hmn; rw [hbn]; exact .inl hu
      ·rcases List.mem_cons.1 hm with e | hm
       ·exact absurd e hmn
       ·exact h4 m hm hm0
     ·exact h5 m hm fun hx => hmp (by simp [hx])
    ·cases h
  ·obtain ⟨y, t, rfl, hy, ht⟩ := ht.pos
   rw [mat_sym hn] at h
   split at h
   ·rename_i e
    subst e
    obtain ⟨h1, h2, h3, h4, h5⟩ := mat_sound hp ht hb h
    refine ⟨by rw [sub_cons, if_neg hn, List.singleton_append, <- h1], h2, h3, fun m hm hm0 => ?_, fun m hm hmp => ?_⟩
    ·rcases List.mem_cons.1 hm with e | hm
     ·omega
     ·exact h4 m hm hm0
    ·exact h5 m hm fun hx => hmp (by simp [hx])
   ·cases h
theorem mat_complete {a : List Int} {σ : Int -> List Int} : ∀ {p : List Int} {b : Bd} {k : Nat}, Wf a k p -> b.length = 24 -> (∀ n ∈ p, n < 0 -> Wf a 1 (σ n)) -> (∀ n ∈ p, n < 0 -> bget b n = [] ∨ bget b n = σ n) ->
 ∃ b', mat a p (sub σ p) b = some b' /\ b'.length = 24 /\ (∀ n ∈ p, n < 0 -> bget b' n = σ n) /\ (∀ n, n < 0 -> n ∉ p -> bget b' n = bget b n)
 | [], b, k, hp, hb, hs, hc => ⟨b, mat_nil _ _ _, hb, by simp, fun _ _ _ => rfl⟩
 | n :: p, b, 0, hp, hb, hs, hc => by have := hp.zero; cases this
 | n :: p, b, k + 1, hp, hb, hs, hc => by
  obtain ⟨hx, hp⟩ := Wf.cons_iff.1 hp
  by_cases hn : n < 0
  ·have hu := hs n (by simp) hn
   have ha : ari a n = 0 := by simp [ari, hn]
   rw [ha, Nat.add_zero] at hp
   have hl : -1 - n < b.length := by have := hx.1; omega
   rw [sub_cons, if_pos hn, mat_var hn hu]
   by_cases h0 : bget b n = []
   ·rw [if_pos h0]
    have hg : ∀ m, m < 0 -> bget (bset b n (σ n)) m = if m = n then σ n else bget b m := fun m hm => bget_bset hn hl hm
    obtain ⟨b', h1, h2, h3, h4⟩ := mat_complete (σ := σ) (b := bset b n (σ n)) hp (by simpa [bset] using hb) (fun m hm hm0 => hs m (by simp [hm]) hm0) fun m hm hm0 => by
     rw [hg m hm0]
     by_cases hmn : m = n
     ·subst hmn; rw [if_pos rfl]; exact .inr rfl
     ·rw [if_neg hmn]; exact hc m (by simp [hm]) hm0
    refine ⟨b', h1, h2, fun m hm hm0 => ?_, fun m hm hmp => ?_⟩
    ·by_cases hmp : m ∈ p
     ·exact h3 m hmp hm0
     ·rcases List.mem_cons.1 hm with rfl | hm
      ·rw [h4 m hm0 hmp, hg m hm0, if_pos rfl]
      ·exact absurd hm hmp
    ·have hmn : m ≠ n := fun e => hmp (by simp [e])
     rw [h4 m hm fun hx => hmp (by simp [hx]), hg m hm, if_neg hmn]
   ·have hbn : bget b n = σ n := (hc n (by simp) hn).resolve_left h0
    rw [if_neg h0, if_pos hbn]
    obtain ⟨b', h1, h2, h3, h4⟩ := mat_complete hp hb (fun m hm hm0 => hs m (by simp [hm]) hm0) fun m hm hm0 => hc m (by simp [hm]) hm0
    refine ⟨b', h1, h2, fun m hm hm0 => ?_, fun m hm hmp => h4 m hm fun hx => hmp (by simp [hx])⟩
    by_cases hmp : m ∈ p
    ·exact h3 m hmp hm0
    ·rcases List.mem_cons.1 hm with rfl | hm
     ·rw [h4 m hm0 hmp, hbn]
     ·exact absurd hm hmp
  ·rw [sub_cons, if_neg hn, List.singleton_append, mat_sym hn, if_pos rfl]
   obtain ⟨b', h1, h2, h3, h4⟩ := mat_complete hp hb (fun m hm hm0 => hs m (by simp [hm]) hm0) fun m hm hm0 => hc m (by simp [hm]) hm0
   refine ⟨b', h1, h2, fun m hm hm0 => ?_, fun m hm hmp => h4 m hm fun hx => hmp (by simp [hx])⟩
   rcases List.mem_cons.1 hm with rfl | hm
   ·exact absurd hm0 hn
   ·exact h3 m hm hm0
end Tm
namespace Tm
end Tm
namespace Tm
end Tm
namespace Tm
def none24 : Bd := List.replicate 24 []
theorem bget_none (n : Int) : bget none24 n = [] := by
 unfold bget none24
 rw [List.getD_eq_getElem?_getD, List.getElem?_replicate]
 split <;> rfl
def Mv (a f o t t' : List Int) (i : Nat) : Prop := ∃ p s σ, p.length = i /\ t = p ++ (sub σ f ++ s) /\ t' = p ++ (sub σ o ++ s) /\ ∀ x, x < 0 -> Wf a 1 (σ x)
theorem Mv.wf {a f o t t' : List Int} {i : Nat} (h : Mv a f o t t' i) (hf : Wf a 1 f) (ho : Wf a 1 o) (ht : Wf a 1 t) : Wf a 1 t' := by
 obtain ⟨p, s, σ, h1, rfl, rfl, h4⟩ := h
 exact Wf.put (hf.sub fun x _ hx => h4 x hx) (ho.sub fun x _ hx => h4 x hx) ht
theorem Wf.var {a : List Int} : Wf a 1 [-1] := Wf.cons_iff.2 ⟨⟨by omega, by omega⟩, by simp [ari]; exact Wf.nil⟩
theorem mv_of_mat {a f o p s u u' : List Int} {b b' : Bd} (hf : Wf a 1 f) (ho : Wf a 1 o) (hu : Wf a 1 u) (hu' : Wf a 1 u') (h1 : mat a f u none24 = some b) (h2 : mat a o u' b = some b') :
 Mv a f o (p ++ (u ++ s)) (p ++ (u' ++ s)) p.length := by
 obtain ⟨e1, l1, k1, w1, n1⟩ := mat_sound hf hu (by simp [none24]) h1
 obtain ⟨e2, l2, k2, w2, n2⟩ := mat_sound ho hu' l1 h2
 have hw1 : ∀ n ∈ f, n < 0 -> Wf a 1 (bget b n) := fun n hn h0 => by
  rcases w1 n hn h0 with h | h
  ·exact h
  ·exact absurd (bget_none n) h.2
 let σ : Int -> List Int := fun x => if Wf a 1 (bget b' x) then bget b' x else [-1]
 have hσ : ∀ x, x < 0 -> Wf a 1 (σ x) := fun x _ => by
  by_cases h : Wf a 1 (bget b' x)
  ·simp only [σ, if_pos h]; exact h
  ·simp only [σ, if_neg h]; exact Wf.var
 have hfx : ∀ n ∈ f, n < 0 -> σ n = bget b n := fun n hn h0 => by
  have h3 := hw1 n hn h0
  have h4 := k2 n h0 h3.ne
  simp only [σ, h4, if_pos h3]
 have hox : ∀ n ∈ o, n < 0 -> σ n = bget b' n := fun n hn h0 => by
  have : Wf a 1 (bget b' n) := by
   rcases w2 n hn h0 with h | ⟨h, hne⟩
   ·exact h
   ·by_cases hn' : n ∈ f
    ·rw [<- h]; exact hw1 n hn' h0
    ·exact absurd (by rw [n1 n h0 hn', bget_none]) hne
  simp only [σ, if_pos this]
 refine ⟨p, s, σ, rfl, ?_, ?_, hσ⟩
 ·rw [sub_congr hfx, <- e1]
 ·rw [sub_congr hox, <- e2]
theorem mat_of_mv {a f o p s : List Int} {σ : Int -> List Int} (hf : Wf a 1 f) (ho : Wf a 1 o) (hσ : ∀ x, x < 0 -> Wf a 1 (σ x)) :
 ∃ b b', mat a f (sub σ f) none24 = some b /\ mat a o (sub σ o) b = some b' := by
 obtain ⟨b, h1, h2, h3, h4⟩ := mat_complete (σ := σ) (b := none24) hf (by simp [none24]) (fun n _ hn => hσ n hn) fun n _ _ => .inl (bget_none n)
 obtain ⟨b', h5, _⟩ := mat_complete (σ := σ) (b := b) ho h2 (fun n _ hn => hσ n hn) fun n _ hn => by
  by_cases hnf : n ∈ f
  ·exact .inr (h3 n hnf hn)
  ·exact .inl (by rw [h4 n hn hnf, bget_none])
 exact ⟨b, b', h1, h5⟩
def at' (a t : List Int) (i : Nat) : List Int := match skip a (t.drop i) 1 with
 | some r => (t.drop i).take ((t.drop i).length - r.length)
 | none => []
theorem at_eq {a p u s : List Int} (hu : Wf a 1 u) : at' a (p ++ (u ++ s)) p.length = u := by
 unfold at'
 rw [List.drop_left, hu.skip]
 simp
def putp (a t : List Int) (i : Nat) (v : List Int) : List Int := t.take i ++ (v ++ t.drop (i + (at' a t i).length))
theorem putp_eq {a p u s v : List Int} (hu : Wf a 1 u) : putp a (p ++ (u ++ s)) p.length v = p ++ (v ++ s) := by
 unfold putp
 rw [at_eq hu, List.take_left, <- List.drop_drop, List.drop_left, List.drop_left]
def mvB (a f o t t' : List Int) (i : Nat) : Bool := putp a t i (at' a t' i) == t' && ((mat a f (at' a t i) none24).bind fun b => mat a o (at' a t' i) b).isSome
theorem mvB_iff {a f o t t' : List Int} {i : Nat} (hf : Wf a 1 f) (ho : Wf a 1 o) (ht : Wf a 1 t) (ht' : Wf a 1 t') (hi : i < t.length) (hi' : i < t'.length) : mvB a f o t t' i = true ↔ Mv a f o t t' i := by
 constructor
 ·intro h
  simp only [mvB, Bool.and_eq_true, beq_iff_eq] at h
  obtain ⟨h1, h2⟩ := h
  obtain ⟨p, u, s, rfl, rfl, hu⟩ := ht.place hi
  obtain ⟨p', u', s', rfl, hp, hu'⟩ := ht'.place hi'
  rw [<- hp, at_eq hu', hp, putp_eq hu] at h1
  rw [<- hp, at_eq hu', hp, at_eq hu] at h2
  obtain ⟨b, hb⟩ := Option.isSome_iff_exists.1 h2
  obtain ⟨b0, h3, h4⟩ := Option.bind_eq_some_iff.1 hb
  rw [<- h1]
  exact mv_of_mat hf ho hu hu' h3 h4
 ·rintro ⟨p, s, σ, rfl, rfl, rfl, hσ⟩
  have hu : Wf a 1 (sub σ f) := hf.sub fun x _ hx => hσ x hx
  have hu' : Wf a 1 (sub σ o) := ho.sub fun x _ hx => hσ x hx
  simp only [mvB, at_eq hu, at_eq hu', putp_eq hu, beq_self_eq_true, Bool.true_and]
  obtain ⟨b, b', h1, h2⟩ := mat_of_mv (p := p) (s := s) hf ho hσ
  rw [h1, Option.bind_some, h2]; rfl
def sig (b : Bd) (n : Int) : List Int := if bget b n = [] then [n] else bget b n
def stepp (a l r t : List Int) (i : Nat) : Option (List Int) := (mat a l (at' a t i) none24).bind fun b =>
 if (sub (sig b) r).length <= 60 /\ (putp a t i (sub (sig b) r)).length <= 60 then some (putp a t i (sub (sig b) r)) else none
theorem stepp_mv {a l r t t' : List Int} {i : Nat} (hl : Wf a 1 l) (hr : Wf a 1 r) (ht : Wf a 1 t) (hi : i < t.length) (hv : ∀ n ∈ r, n < 0 -> n ∈ l) (h : stepp a l r t i = some t') :
 Mv a l r t t' i /\ t'.length <= 60 := by
 unfold stepp at h
 obtain ⟨b, h1, h2⟩ := Option.bind_eq_some_iff.1 h
 split at h2
 ·rename_i hc
  cases h2
  refine ⟨?_, hc.2⟩
  obtain ⟨p, u, s, rfl, rfl, hu⟩ := ht.place hi
  rw [at_eq hu] at h1
  rw [putp_eq hu]
  obtain ⟨e1, l1, k1, w1, n1⟩ := mat_sound hl hu (by simp [none24]) h1
  have hw1 : ∀ n ∈ l, n < 0 -> Wf a 1 (bget b n) := fun n hn h0 => by
   rcases w1 n hn h0 with h | h
   ·exact h
   ·exact absurd (bget_none n) h.2
  let σ : Int -> List Int := fun x => if Wf a 1 (bget b x) then bget b x else [-1]
  have hσ : ∀ x, x < 0 -> Wf a 1 (σ x) := fun x _ => by
   by_cases h : Wf a 1 (bget b x)
   ·simp only [σ, if_pos h]; exact h
   ·simp only [σ, if_neg h]; exact Wf.var
  have hx : ∀ n ∈ l, n < 0 -> σ n = bget b n := fun n hn h0 => by simp only [σ, if_pos (hw1 n hn h0)]
  refine ⟨p, s, σ, rfl, ?_, ?_, hσ⟩
  ·rw [sub_congr hx, <- e1]
  ·rw [sub_congr fun n hn h0 => ?_]
   rw [hx n (hv n hn h0) h0]
   unfold sig
   rw [if_neg (hw1 n (hv n hn h0) h0).ne]
 ·cases h2
end Tm
