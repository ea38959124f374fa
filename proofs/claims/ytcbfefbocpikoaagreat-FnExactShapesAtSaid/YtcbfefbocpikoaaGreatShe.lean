/- Functions of the program and the equations that they compute; Plain theory of terms and what the equations of the functions come to; The layer of data and running functions, and its rules; nothing is assumed. -/
import Derived.Test.YtcbfefbocpikoaaGreatShd
import Derived.WalkKit
import Derived.KernelRfl
import Derived.Shelf.SlSortCmp.NoneTotal
import Derived.Below
import Derived.Maps.AppendAt
import Derived.OwnWalk
import Derived.Lib.LazyBuf
set_option linter.unusedSimpArgs false
set_option linter.unusedVariables false
set_option linter.unusedSectionVars false
set_option linter.unnecessarySimpa false
namespace Go.Proofs.YtcbfefbocpikoaaGreat
open Go Abx
attribute [local irreducible] vcm vgo vdr vrun vdrun MWp GhostQ BrC BrO BrG BrD BrH AmbO callR callD drQ EnvLe StoLe
set_option maxHeartbeats 4000000
def D_impl_Subst (x : (List (List Int))) : D := .agg [(slD 1 (slD 1 iD)) x]
instance : Cel D_impl_Subst 1 := ⟨fun _ => rfl⟩
attribute [go_sem] D_impl_Subst
def mc89 : MCode :=
 (.seq (.reg (sq 3 [bo 3 30 0] ++ sq 6 [.mv (.const (.slice none 0 0))])) (.seq (.reg (sq 7 [mv 1, mv 2, la 1 3, mv 1, mv 2, cf 86 [9, 10, 11], .slc (t0 7) 1 (some (t0 8)) (some (t0 12)) none] ++ sq 6 [mv 13])) .ret))
theorem fn89 : MFn Tryz.prog 89 mc89 14 [.tmp 6] := ⟨_, Tryz.func89, by kernel_rfl, Tryz.ntmps89, by kernel_rfl⟩
noncomputable def F_impl_subAt (sig : (List Int)) (t : (List Int)) (at' : Int) : Option (List Int) :=
 (F_impl_endAt sig t at').bind fun r =>
 if 0 ≤ at' ∧ at' ≤ r ∧ r ≤ (t.length : Int) then
  some ((t.take r.toNat).drop at'.toNat)
 else none
instance c_impl_subAt {sig : (List Int)} {t : (List Int)} {at' : Int} : HasC (F_impl_subAt sig t at') fun rr => PFun Tryz.prog 89 [D_impl_Sig sig, (slD 1 iD) t, iD at'] ((slD 1 iD) rr) := ⟨@fun rr h => by
  delta F_impl_subAt at h
  refine fn89.pureL (vcm_sound ?_)
  delta mc89
  refine stp ?_
  exact aut⟩
def mc92 : MCode :=
 (.seq (.reg (sq 4 [mb false])) (.seq (.seq (.reg (sq 6 [mv 0, ln 6, mv 1, ln 8, bn .neq 7 9])) (.cond (t0 10) (.seq (.reg (sq 4 [mb false])) .ret) .skip)) (.seq (.seq (.reg (sq 11 [mv 0, ln 11, mi 0])) (.block 0 (.loop (.seq (.reg (sq 14 [bn .lss 13 12])) (.seq (.cond (t0 14) .skip (.exit 0)) (.seq (.block 1 (.seq (.reg (sq 15 [mv 13] ++ sq 5 [mv 15])) (.seq (.draw (sq 16 [mv 0, mv 5, ix 1 16 17, ld 18, mv 1, mv 5, ix 1 20 21, ld 22, bn .neq 19 23]) [[], [], [0, 1], [2], [], [], [4, 5], [6], [3, 7]]) (.cond (t0 24) (.seq (.reg (sq 4 [mb false])) .ret) .skip)))) (.reg (sq 25 [bi .add 13 1] ++ sq 13 [mv 25])))))))) (.seq (.reg (sq 4 [mb true])) .ret))))
theorem fn92 : MFn Tryz.prog 92 mc92 26 [.tmp 4] := ⟨_, Tryz.func92, by kernel_rfl, Tryz.ntmps92, by kernel_rfl⟩
noncomputable def F_slices_Equal_int64_int64_l1 (s1 : (List Int)) (s2 : (List Int)) : Int → Option (Int ⊕ Bool)
 | v13 =>
  if (decide (v13 < (s1.length : Int))) = true then
   if 0 ≤ v13 ∧ v13 < (s1.length : Int) then
    if 0 ≤ v13 ∧ v13 < (s2.length : Int) then
     if ((s1.getD v13.toNat default) != (s2.getD v13.toNat default)) = true then
      Option.map Sum.inr (
       some false)
     else
      some (.inl (IntKind.i64.wrap (v13 + 1)))
    else none
   else none
  else
   Option.map Sum.inr (
    some true)
noncomputable def F_slices_Equal_int64_int64 (s1 : (List Int)) (s2 : (List Int)) : Option Bool :=
 if ((s1.length : Int) != (s2.length : Int)) = true then
  some false
 else
  loopC (F_slices_Equal_int64_int64_l1 s1 s2) 0
instance c_slices_Equal_int64_int64 {s1 : (List Int)} {s2 : (List Int)} : HasC (F_slices_Equal_int64_int64 s1 s2) fun rr => PFun Tryz.prog 92 [(slD 1 iD) s1, (slD 1 iD) s2] (bD rr) := ⟨@fun rr h => by
  delta F_slices_Equal_int64_int64 at h
  refine fn92.pureL (vcm_sound ?_)
  delta mc92
  refine stp ?_
  refine iF h fun hc h => ?_
  refine m_lW h [4, 5, 13, 14, 15, 16, 17, 18, 19, 20, 21, 22, 23, 24, 25] (fun pp => [(13, .d (iD pp))]) (fun pp => []) ?_
  rintro v13 t1 h hb1
  unfold F_slices_Equal_int64_int64_l1 at h
  try dsimp only at h
  refine vcm_sound (stp ?_)
  exact aut⟩
def mc96 : MCode :=
 (.seq (.reg (sq 4 [bo 4 30 0] ++ sq 7 [bo 7 105 3, .alloc 8 105 [.sl 0 (some true) [], .sl 0 (some true) [], .sl 0 (some true) [], .sl 0 (some true) [], .sl 0 (some true) [], .sl 0 (some true) [], .sl 0 (some true) [], .sl 0 (some true) [], .sl 0 (some true) [], .sl 0 (some true) [], .sl 0 (some true) [], .sl 0 (some true) [], .sl 0 (some true) [], .sl 0 (some true) [], .sl 0 (some true) [], .sl 0 (some true) [], .sl 0 (some true) [], .sl 0 (some true) [], .sl 0 (some true) [], .sl 0 (some true) [], .sl 0 (some true) [], .sl 0 (some true) [], .sl 0 (some true) [], .sl 0 (some true) []], mb false])) (.seq (.reg (sq 10 [mi 0])) (.seq (.seq (.reg (sq 14 [mv 1, ln 14, mi 0])) (.block 0 (.loop (.seq (.reg (sq 17 [bn .lss 16 15])) (.seq (.cond (t0 17) .skip (.exit 0)) (.seq (.block 1 (.seq (.reg (sq 18 [ix 1 14 16, ld 18] ++ sq 12 [mv 19])) (.seq (.seq (.reg (sq 20 [mv 10, mv 2, ln 21, bn .geq 20 22])) (.cond (t0 23) (.seq (.reg (sq 24 [la 24 7] ++ s0 (sr 24 8 24) ++ sq 9 [mb false])) .ret) .skip)) (.seq (.seq (.reg (sq 25 [mv 12, bi .geq 25 0])) (.cond (t0 26) (.seq (.seq (.reg (sq 27 [mv 2, mv 10, ix 1 27 28, ld 29, mv 12, bn .neq 30 31])) (.cond (t0 32) (.seq (.reg (sq 33 [la 24 7] ++ s0 (sr 24 8 33) ++ sq 9 [mb false])) .ret) .skip)) (.seq (.reg (sq 34 [mv 10, bi .add 34 1] ++ sq 10 [mv 35])) (.exit 1))) .skip)) (.seq (.reg (sq 36 [la 1 4, mv 2, mv 10, cf 89 [36, 37, 38]] ++ sq 13 [mv 39])) (.seq (.seq (.reg (sq 40 [mv 12, .bin .sub (i0 (-1)) (t0 40), .ixaA 1 24 (t0 7) (t0 41), ld 42, .eqnil false (t0 43)])) (.cond (t0 44) (.reg (sq 45 [mv 12, .bin .sub (i0 (-1)) (t0 45), mv 13, .ixaA 1 24 (t0 7) (t0 46)] ++ s0 (sr 1 48 47))) (.seq (.reg (sq 49 [mv 12, .bin .sub (i0 (-1)) (t0 49), .ixaA 1 24 (t0 7) (t0 50), ld 51, mv 13, cf 92 [52, 53], nt 54])) (.cond (t0 55) (.seq (.reg (sq 56 [la 24 7] ++ s0 (sr 24 8 56) ++ sq 9 [mb false])) .ret) .skip)))) (.reg (sq 57 [mv 10, mv 13, ln 58, bn .add 57 59] ++ sq 10 [mv 60])))))))) (.reg (sq 61 [bi .add 16 1] ++ sq 16 [mv 61])))))))) (.seq (.reg (sq 62 [la 24 7] ++ s0 (sr 24 8 62) ++ sq 9 [mb true])) .ret))))
theorem fn96 : MFn Tryz.prog 96 mc96 63 [.cell 8 24 true, .tmp 9] := ⟨_, Tryz.func96, by kernel_rfl, Tryz.ntmps96, by kernel_rfl⟩
noncomputable def F_impl_matchInto_l1 (sig : (List Int)) (p : (List Int)) (t : (List Int)) : (Int × Int × (List (List Int))) → Option ((Int × Int × (List (List Int))) ⊕ ((List (List Int)) × Bool))
 | (at', v16, b_1) =>
  if (decide (v16 < (p.length : Int))) = true then
   if 0 ≤ v16 ∧ v16 < (p.length : Int) then
    if (decide ((t.length : Int) ≤ at')) = true then
     if b_1.length = 24 then
      if b_1.length = 24 then
       Option.map Sum.inr (
        some (b_1, false))
      else none
     else none
    else
     if (decide (0 ≤ (p.getD v16.toNat default))) = true then
      if 0 ≤ at' ∧ at' < (t.length : Int) then
       if ((t.getD at'.toNat default) != (p.getD v16.toNat default)) = true then
        if b_1.length = 24 then
         if b_1.length = 24 then
          Option.map Sum.inr (
           some (b_1, false))
         else none
        else none
       else
        some (.inl ((IntKind.i64.wrap (at' + 1)), (IntKind.i64.wrap (v16 + 1)), b_1))
      else none
     else
      (F_impl_subAt sig t at').bind fun r =>
      if 0 ≤ (IntKind.i64.wrap ((-1) - (p.getD v16.toNat default))) ∧ (IntKind.i64.wrap ((-1) - (p.getD v16.toNat default))) < 24 ∧ (IntKind.i64.wrap ((-1) - (p.getD v16.toNat default))) < (b_1.length : Int) then
       if (b_1.getD (IntKind.i64.wrap ((-1) - (p.getD v16.toNat default))).toNat default).isEmpty = true then
        if 0 ≤ (IntKind.i64.wrap ((-1) - (p.getD v16.toNat default))) ∧ (IntKind.i64.wrap ((-1) - (p.getD v16.toNat default))) < 24 ∧ (IntKind.i64.wrap ((-1) - (p.getD v16.toNat default))) < (b_1.length : Int) then
         if 0 < r.length then
          some (.inl ((IntKind.i64.wrap (at' + (r.length : Int))), (IntKind.i64.wrap (v16 + 1)), (b_1.set (IntKind.i64.wrap ((-1) - (p.getD v16.toNat default))).toNat r)))
         else none
        else none
       else
        if 0 ≤ (IntKind.i64.wrap ((-1) - (p.getD v16.toNat default))) ∧ (IntKind.i64.wrap ((-1) - (p.getD v16.toNat default))) < 24 ∧ (IntKind.i64.wrap ((-1) - (p.getD v16.toNat default))) < (b_1.length : Int) then
         (F_slices_Equal_int64_int64 (b_1.getD (IntKind.i64.wrap ((-1) - (p.getD v16.toNat default))).toNat default) r).bind fun r_1 =>
         if r_1 = true then
          some (.inl ((IntKind.i64.wrap (at' + (r.length : Int))), (IntKind.i64.wrap (v16 + 1)), b_1))
         else
          if b_1.length = 24 then
           if b_1.length = 24 then
            Option.map Sum.inr (
             some (b_1, false))
           else none
          else none
        else none
      else none
   else none
  else
   Option.map Sum.inr (
    if b_1.length = 24 then
     if b_1.length = 24 then
      some (b_1, true)
     else none
    else none)
noncomputable def F_impl_matchInto (sig : (List Int)) (p : (List Int)) (t : (List Int)) (b : (List (List Int))) : Option ((List (List Int)) × Bool) :=
 loopC (F_impl_matchInto_l1 sig p t) (0, 0, b)
instance c_impl_matchInto {sig : (List Int)} {p : (List Int)} {t : (List Int)} {b : (List (List Int))} : HasC (F_impl_matchInto sig p t b) fun rr => PFunN Tryz.prog 96 [D_impl_Sig sig, (slD 1 iD) p, (slD 1 iD) t, (arD (nzD 1 iD)) b] [(arD (nzD 1 iD)) rr.1, bD rr.2] := ⟨@fun rr h => by
  delta F_impl_matchInto at h
  refine fn96.pureLN (vcm_sound ?_)
  delta mc96
  refine stp ?_
  refine m_lW h [9, 10, 12, 13, 16, 17, 18, 19, 20, 21, 22, 23, 24, 25, 26, 27, 28, 29, 30, 31, 32, 33, 34, 35, 36, 37, 38, 39, 40, 41, 42, 43, 44, 45, 46, 47, 48, 49, 50, 51, 52, 53, 54, 55, 56, 57, 58, 59, 60, 61] (fun pp => [(10, .d (iD pp.1)), (16, .d (iD pp.2.1))]) (fun pp => [(4, .obj 30 [.d (slD 1 iD sig)]), (7, .obj 105 (List.map (aD (nzD 1 iD)) pp.2.2)), (8, .obj 105 [.d (.sl 0 (some true) []), .d (.sl 0 (some true) []), .d (.sl 0 (some true) []), .d (.sl 0 (some true) []), .d (.sl 0 (some true) []), .d (.sl 0 (some true) []), .d (.sl 0 (some true) []), .d (.sl 0 (some true) []), .d (.sl 0 (some true) []), .d (.sl 0 (some true) []), .d (.sl 0 (some true) []), .d (.sl 0 (some true) []), .d (.sl 0 (some true) []), .d (.sl 0 (some true) []), .d (.sl 0 (some true) []), .d (.sl 0 (some true) []), .d (.sl 0 (some true) []), .d (.sl 0 (some true) []), .d (.sl 0 (some true) []), .d (.sl 0 (some true) []), .d (.sl 0 (some true) []), .d (.sl 0 (some true) []), .d (.sl 0 (some true) []), .d (.sl 0 (some true) [])])]) ?_
  rintro ⟨at', v16, b_1⟩ t1 h hb1
  unfold F_impl_matchInto_l1 at h
  try dsimp only at h
  refine vcm_sound (stp ?_)
  refine iT h fun hc h => ?_
  refine ndI h fun hp h => ?_
  refine iF h fun hc h => ?_
  refine iF h fun hc h => ?_
  refine rC h fun r hr h => ?_
  refine ndI h fun hp h => ?_
  refine iT h fun hc h => ?_
  refine ndI h fun hp h => ?_
  refine ndI h fun hp h => ?_
  cases h
  refine ⟨_, rfl, ?_⟩
  refine (Weak.leS (s' := [(4, .obj 30 [.d (slD 1 iD sig)]), (7, .obj 105 (List.map (aD (nzD 1 iD)) (b_1.set (IntKind.i64.wrap ((-1) - (p.getD v16.toNat default))).toNat r))), (8, .obj 105 [.d (.sl 0 (some true) []), .d (.sl 0 (some true) []), .d (.sl 0 (some true) []), .d (.sl 0 (some true) []), .d (.sl 0 (some true) []), .d (.sl 0 (some true) []), .d (.sl 0 (some true) []), .d (.sl 0 (some true) []), .d (.sl 0 (some true) []), .d (.sl 0 (some true) []), .d (.sl 0 (some true) []), .d (.sl 0 (some true) []), .d (.sl 0 (some true) []), .d (.sl 0 (some true) []), .d (.sl 0 (some true) []), .d (.sl 0 (some true) []), .d (.sl 0 (some true) []), .d (.sl 0 (some true) []), .d (.sl 0 (some true) []), .d (.sl 0 (some true) []), .d (.sl 0 (some true) []), .d (.sl 0 (some true) []), .d (.sl 0 (some true) []), .d (.sl 0 (some true) [])])]) (EnvLe.refl _) (by exact (stoC (ObLe.refl _) (stoC ⟨rfl, lob_set' (by omega) (by first | exact (le_nz_t (by omega)).2 trivial | exact (le_nzown_t (by omega)).2 trivial)⟩ (stoC (ObLe.refl _) stoN))))).trans ?_
  exact wk⟩
def mc98 : MCode :=
 (.seq (.reg (sq 1 [bo 1 105 0, .alloc 2 72 [.sl 0 (some true) []]])) (.seq (.reg (sq 3 [.slcA (t0 1) 1 24 none none none, .build [.sl 0 (some true) []] [(0, 1, (t0 3))]] ++ s0 (sr 1 2 4))) .ret))
theorem fn98 : MFn Tryz.prog 98 mc98 5 [.cell 2 1 true] := ⟨_, Tryz.func98, by kernel_rfl, Tryz.ntmps98, by kernel_rfl⟩
noncomputable def F_impl_bindings_subst (b : (List (List Int))) : Option (List (List Int)) :=
 if b.length = 24 then
  some b
 else none
instance c_impl_bindings_subst {b : (List (List Int))} : HasC (F_impl_bindings_subst b) fun rr => PFun Tryz.prog 98 [(arD (nzD 1 iD)) b] (D_impl_Subst rr) := ⟨@fun rr h => by
  delta F_impl_bindings_subst at h
  refine fn98.pureD (vcm_sound ?_)
  delta mc98
  refine stp ?_
  refine ndI h fun hp h => ?_
  cases h
  exact ⟨_, _, (Done.frzL 1 (nzD 1 iD) b (by omega) rfl), frd⟩⟩
def mc122 : MCode :=
 (.seq (.reg (sq 2 [.mv (.const (.slice none 0 0))])) (.seq (.reg (sq 3 [mv 0, .bin .sub (i0 (-1)) (t0 3), .bsl 5 2 1 [(t0 4)]] ++ sq 2 [mv 5])) .ret))
theorem fn122 : MFn Tryz.prog 122 mc122 6 [.tmp 2] := ⟨_, Tryz.func122, by kernel_rfl, Tryz.ntmps122, by kernel_rfl⟩
noncomputable def F_impl_variable (i : Int) : Option (List Int) :=
 some [(IntKind.i64.wrap ((-1) - i))]
instance c_impl_variable {i : Int} : HasC (F_impl_variable i) fun rr => PFun Tryz.prog 122 [iD i] ((slD 1 iD) rr) := ⟨@fun rr h => by
  delta F_impl_variable at h
  refine fn122.pureL (vcm_sound ?_)
  delta mc122
  refine stp ?_
  exact aut⟩
def mc95 : MCode :=
 (.seq (.reg (sq 2 [.mv (.const (.slice none 0 0))])) (.seq (.seq (.reg (sq 3 [mv 0, .eqnil false (t0 3)])) (.cond (t0 4) (.seq (.reg (sq 2 [.mv (.const (.slice none 0 0))])) .ret) .skip)) (.seq (.reg (sq 5 [.bsl 5 2 1 [], mv 0, ap 7 2 1 8 5 6] ++ sq 2 [mv 7])) .ret)))
theorem fn95 : MFn Tryz.prog 95 mc95 8 [.tmp 2] := ⟨_, Tryz.func95, by kernel_rfl, Tryz.ntmps95, by kernel_rfl⟩
noncomputable def F_slices_Clone_int64_int64 (s : (List Int)) : Option (List Int) :=
 ambO s (
  some []) (
  if (0 + s.length) * 8 ≤ 140737488355328 then
   some s
  else none)
instance c_slices_Clone_int64_int64 {s : (List Int)} : HasC (F_slices_Clone_int64_int64 s) fun rr => PFun Tryz.prog 95 [(slD 1 iD) s] ((slD 1 iD) rr) := ⟨@fun rr h => by
  delta F_slices_Clone_int64_int64 at h
  refine fn95.pureL (vcm_sound ?_)
  delta mc95
  refine stp ?_
  have h1 := amb_some h
  refine AmbO.of (fun he => ?_) ?_
  · replace h := h1.1 (by simpa using he)
    clear h1
    refine stp ?_
    exact aut
  · replace h := h1.2
    clear h1
    refine stp ?_
    exact aut⟩
def mc97 : MCode :=
 (.seq (.reg (sq 1 [bo 1 72 0, .alloc 2 72 [.sl 0 (some true) []]])) (.seq (.reg (sq 3 [.alloc 3 72 [.sl 0 (some true) []]])) (.seq (.seq (.reg (sq 6 [fa 0 1, ld 6, ln 7, mi 0])) (.block 0 (.loop (.seq (.reg (sq 10 [bn .lss 9 8])) (.seq (.cond (t0 10) .skip (.exit 0)) (.seq (.block 1 (.seq (.reg (sq 11 [mv 9, ix 1 7 9, ld 12] ++ sq 4 [mv 11, mv 13])) (.seq (.seq (.reg (sq 14 [mv 5, ln 14, bi .eql 15 0, mv 16] ++ sg 17 false 18 [mv 5, mv 4, cf 122 [19], cf 92 [18, 20]] ++ sq 22 [po 17 21])) (.cond (t0 22) (.exit 1) .skip)) (.seq (.block 2 (.loop (.seq (.seq (.reg (sq 23 [fa 0 3, ld 23, ln 24, mv 4, bn .lss 25 26])) (.cond (t0 27) .skip (.exit 2))) (.block 3 (.reg (sq 28 [fa 0 3, ld 28, .bsl 30 22 1 [(.const (.slice none 0 0))], ap 31 22 1 24 29 30, fa 0 3] ++ s0 (sr 1 32 31))))))) (.draw (sq 33 [fa 0 3, ld 33, mv 5, cf 95 [35], .bsl 37 22 1 [(t0 36)], ap 38 22 1 24 34 37, fa 0 3] ++ s0 (sr 1 39 38)) [[], [0], [], [2], [3], [1, 4, 3], [0, 1, 2, 3, 4, 5], [6, 5, 5, 0, 1, 2, 3, 4, 5]]))))) (.reg (sq 40 [bi .add 9 1] ++ sq 9 [mv 40])))))))) (.seq (.reg (sq 41 [la 1 3] ++ s0 (sr 1 2 41))) .ret))))
theorem fn97 : MFn Tryz.prog 97 mc97 42 [.cell 2 1 true] := ⟨_, Tryz.func97, by kernel_rfl, Tryz.ntmps97, by kernel_rfl⟩
noncomputable def F_impl_plain_l2 (s : (List (List Int))) (v9 : Int) : (List (List Int)) → Option ((List (List Int)) ⊕ ((Int × (List (List Int))) ⊕ (List (List Int))))
 | out_1 =>
  if (decide ((out_1.length : Int) < v9)) = true then
   if (out_1.length + 1) * 24 ≤ 140737488355328 then
    some (.inl (out_1 ++ [[]]))
   else none
  else
   Option.map Sum.inr (
    (F_slices_Clone_int64_int64 (s.getD v9.toNat default)).bind fun r_2 =>
    if (out_1.length + 1) * 24 ≤ 140737488355328 then
     some (.inl ((IntKind.i64.wrap (v9 + 1)), (out_1 ++ [r_2])))
    else none)
noncomputable def F_impl_plain_l1 (s : (List (List Int))) : (Int × (List (List Int))) → Option ((Int × (List (List Int))) ⊕ (List (List Int)))
 | (v9, out) =>
  if (decide (v9 < (s.length : Int))) = true then
   if 0 ≤ v9 ∧ v9 < (s.length : Int) then
    if (((s.getD v9.toNat default).length : Int) == 0) = true then
     some (.inl ((IntKind.i64.wrap (v9 + 1)), out))
    else
     (F_impl_variable v9).bind fun r =>
     (F_slices_Equal_int64_int64 (s.getD v9.toNat default) r).bind fun r_1 =>
     if r_1 = true then
      some (.inl ((IntKind.i64.wrap (v9 + 1)), out))
     else
      loopC (F_impl_plain_l2 s v9) out
   else none
  else
   Option.map Sum.inr (
    some out)
noncomputable def F_impl_plain (s : (List (List Int))) : Option (List (List Int)) :=
 loopC (F_impl_plain_l1 s) (0, [])
instance c_impl_plain {s : (List (List Int))} : HasC (F_impl_plain s) fun rr => PFun Tryz.prog 97 [D_impl_Subst s] (D_impl_Subst rr) := ⟨@fun rr h => by
  delta F_impl_plain at h
  refine fn97.pureL (vcm_sound ?_)
  delta mc97
  refine stp ?_
  refine m_loopF h [4, 5, 9, 10, 11, 12, 13, 14, 15, 16, 17, 18, 19, 20, 21, 22, 23, 24, 25, 26, 27, 28, 29, 30, 31, 32, 33, 34, 35, 36, 37, 38, 39, 40] (fun pp => [(9, .d (iD pp.1))]) (fun pp => [(1, .obj 72 [.d (slD 1 (slD 1 iD) s)]), (2, .obj 72 [.d (.sl 0 (some true) [])]), (3, .obj 72 [.own 1 38 (List.map (slD 1 iD) pp.2)]), (38, .tok 22 1 pp.2.length)]) ?_ ?_
  · try dsimp only
    refine (Weak.thawCell 3 0 38 22 1 rfl rfl rfl).trans ?_
    exact wk
  rintro ⟨v9, out⟩ t1 h hb1
  unfold F_impl_plain_l1 at h
  try dsimp only at h
  refine vcm_sound (stp ?_)
  refine iT h fun hc h => ?_
  refine ndI h fun hp h => ?_
  refine iF h fun hc h => ?_
  refine rC h fun r hr h => ?_
  refine rC h fun r_1 hr_1 h => ?_
  refine iF h fun hc h => ?_
  refine m_lW h [23, 24, 25, 26, 27, 28, 29, 30, 31, 32] (fun pp => []) (fun pp => [(1, .obj 72 [.d (slD 1 (slD 1 iD) s)]), (2, .obj 72 [.d (.sl 0 (some true) [])]), (3, .obj 72 [.own 1 38 (List.map (slD 1 iD) pp)]), (38, .tok 22 1 pp.length)]) ?_
  rintro out_1 t2 h hb2
  unfold F_impl_plain_l2 at h
  try dsimp only at h
  refine vcm_sound (stp ?_)
  refine it h (fun hc h => ?_) fun hc h => ?_
  · refine ndI h fun hp h => ?_
    cases h
    refine ⟨_, rfl, ?_⟩
    refine (Weak.drop 30 (by omega)).trans ?_
    exact wk
  replace h := inr_some h hb2
  refine dC h fun r_2 hr_2 h => ?_
  refine ndI h fun hp h => ?_
  refine drQ_of (by kernel_rfl) (stp ?_)
  cases h
  refine ⟨_, rfl, ?_⟩
  refine (Weak.drop 37 (by omega)).trans ?_
  exact wk⟩
def mc60 : MCode :=
 (.seq (.reg (sq 3 [bo 3 30 0] ++ sq 6 [.alloc 6 72 [.sl 0 (some true) []], mb false])) (.seq (.reg (sq 11 [la 1 3, mv 1, mv 2, .build [.sl 0 (some true) [], .sl 0 (some true) [], .sl 0 (some true) [], .sl 0 (some true) [], .sl 0 (some true) [], .sl 0 (some true) [], .sl 0 (some true) [], .sl 0 (some true) [], .sl 0 (some true) [], .sl 0 (some true) [], .sl 0 (some true) [], .sl 0 (some true) [], .sl 0 (some true) [], .sl 0 (some true) [], .sl 0 (some true) [], .sl 0 (some true) [], .sl 0 (some true) [], .sl 0 (some true) [], .sl 0 (some true) [], .sl 0 (some true) [], .sl 0 (some true) [], .sl 0 (some true) [], .sl 0 (some true) [], .sl 0 (some true) []] [], cf 96 [11, 12, 13, 14]] ++ sq 10 [mv 15] ++ sq 16 [ex 10 0, ex 10 1] ++ sq 8 [.alloc 8 105 [.sl 0 (some true) [], .sl 0 (some true) [], .sl 0 (some true) [], .sl 0 (some true) [], .sl 0 (some true) [], .sl 0 (some true) [], .sl 0 (some true) [], .sl 0 (some true) [], .sl 0 (some true) [], .sl 0 (some true) [], .sl 0 (some true) [], .sl 0 (some true) [], .sl 0 (some true) [], .sl 0 (some true) [], .sl 0 (some true) [], .sl 0 (some true) [], .sl 0 (some true) [], .sl 0 (some true) [], .sl 0 (some true) [], .sl 0 (some true) [], .sl 0 (some true) [], .sl 0 (some true) [], .sl 0 (some true) [], .sl 0 (some true) []]] ++ s0 (sr 24 8 16) ++ sq 9 [mv 17])) (.seq (.seq (.reg (sq 18 [mv 9, nt 18])) (.cond (t0 19) (.seq (.reg (sq 20 [.build [.sl 0 (some true) []] []] ++ s0 (sr 1 6 20) ++ sq 7 [mb false])) .ret) .skip)) (.seq (.reg (sq 21 [la 24 8, cf 98 [21], cf 97 [22]] ++ s0 (sr 1 6 23) ++ sq 7 [mb true])) .ret))))
theorem fn60 : MFn Tryz.prog 60 mc60 24 [.cell 6 1 true, .tmp 7] := ⟨_, Tryz.func60, by kernel_rfl, Tryz.ntmps60, by kernel_rfl⟩
noncomputable def F_impl_match (sig : (List Int)) (p : (List Int)) (t : (List Int)) : Option ((List (List Int)) × Bool) :=
 (F_impl_matchInto sig p t (List.replicate 24 [])).bind fun r =>
 if r.1.length = 24 then
  if r.2 = true then
   if r.1.length = 24 then
    (F_impl_bindings_subst r.1).bind fun r_1 =>
    (F_impl_plain r_1).bind fun r_2 =>
    some (r_2, true)
   else none
  else
   some ([], false)
 else none
instance c_impl_match {sig : (List Int)} {p : (List Int)} {t : (List Int)} : HasC (F_impl_match sig p t) fun rr => PFunN Tryz.prog 60 [D_impl_Sig sig, (slD 1 iD) p, (slD 1 iD) t] [D_impl_Subst rr.1, bD rr.2] := ⟨@fun rr h => by
  delta F_impl_match at h
  refine fn60.pureLN (vcm_sound ?_)
  delta mc60
  refine stp ?_
  exact aut⟩
def mc78 : MCode :=
 (.seq (.reg (sq 2 [.mv (.const (.slice none 0 0))])) (.seq (.reg (sq 3 [.bsl 3 2 1 [], mv 0, ap 5 2 1 8 3 4] ++ sq 2 [mv 5])) .ret))
theorem fn78 : MFn Tryz.prog 78 mc78 6 [.tmp 2] := ⟨_, Tryz.func78, by kernel_rfl, Tryz.ntmps78, by kernel_rfl⟩
noncomputable def F_spec_l1Copy (l : (List Int)) : Option (List Int) :=
 if (0 + l.length) * 8 ≤ 140737488355328 then
  some l
 else none
instance c_spec_l1Copy {l : (List Int)} : HasC (F_spec_l1Copy l) fun rr => ACalls Tryz.prog 78 [.d (slD 1 iD l)] [] 0 fun xx ss => xx = .own 1 3 (List.map iD rr) ∧ ss = [(3, .tok 2 1 rr.length)] := ⟨@fun rr h => by
  delta F_spec_l1Copy at h
  refine fn78.callsO (vcm_sound ?_)
  delta mc78
  refine stp ?_
  exact aut⟩
def mc49 : MCode :=
 (.seq (.reg (sq 3 [bo 3 30 0] ++ sq 6 [.mv (.const (.slice none 0 0))])) (.seq (.reg (sq 7 [mv 1, mv 2, la 1 3, mv 1, mv 2, cf 74 [9, 10, 11], .slc (t0 7) 1 (some (t0 8)) (some (t0 12)) none, cf 78 [13]] ++ sq 6 [mv 14])) .ret))
theorem fn49 : MFn Tryz.prog 49 mc49 15 [.tmp 6] := ⟨_, Tryz.func49, by kernel_rfl, Tryz.ntmps49, by kernel_rfl⟩
noncomputable def F_spec_l1Sub (sig : (List Int)) (t : (List Int)) (at' : Int) : Option (List Int) :=
 (F_spec_l1End sig t at').bind fun r =>
 if 0 ≤ at' ∧ at' ≤ r ∧ r ≤ (t.length : Int) then
  (F_spec_l1Copy ((t.take r.toNat).drop at'.toNat)).bind fun r_1 =>
  some r_1
 else none
instance c_spec_l1Sub {sig : (List Int)} {t : (List Int)} {at' : Int} : HasC (F_spec_l1Sub sig t at') fun rr => PFun Tryz.prog 49 [D_impl_Sig sig, (slD 1 iD) t, iD at'] ((slD 1 iD) rr) := ⟨@fun rr h => by
  delta F_spec_l1Sub at h
  refine fn49.pureL (vcm_sound ?_)
  delta mc49
  refine stp ?_
  refine rC h fun r hr h => ?_
  refine ndI h fun hp h => ?_
  refine rCo [] [(3, 14)] h fun r_1 hr_1 h => ?_
  exact aut⟩
def mc79 : MCode :=
 (.seq (.reg (sq 4 [mb false])) (.seq (.seq (.reg (sq 6 [mv 0, ln 6, mv 1, ln 8, bn .neq 7 9])) (.cond (t0 10) (.seq (.reg (sq 4 [mb false])) .ret) .skip)) (.seq (.seq (.reg (sq 5 [mi 0])) (.block 0 (.loop (.seq (.seq (.reg (sq 11 [mv 5, mv 0, ln 12, bn .lss 11 13])) (.cond (t0 14) .skip (.exit 0))) (.seq (.block 1 (.seq (.draw (sq 17 [mv 0, mv 5, ix 1 17 18, ld 19, mv 1, mv 5, ix 1 21 22, ld 23, bn .neq 20 24]) [[], [], [0, 1], [2], [], [], [4, 5], [6], [3, 7]]) (.cond (t0 25) (.seq (.reg (sq 4 [mb false])) .ret) .skip))) (.reg (sq 15 [mv 5, bi .add 15 1] ++ sq 5 [mv 16]))))))) (.seq (.reg (sq 4 [mb true])) .ret))))
theorem fn79 : MFn Tryz.prog 79 mc79 26 [.tmp 4] := ⟨_, Tryz.func79, by kernel_rfl, Tryz.ntmps79, by kernel_rfl⟩
noncomputable def F_spec_SameTerm_l1 (a : (List Int)) (b : (List Int)) : Int → Option (Int ⊕ Bool)
 | i =>
  if (decide (i < (a.length : Int))) = true then
   if 0 ≤ i ∧ i < (a.length : Int) then
    if 0 ≤ i ∧ i < (b.length : Int) then
     if ((a.getD i.toNat default) != (b.getD i.toNat default)) = true then
      Option.map Sum.inr (
       some false)
     else
      some (.inl (IntKind.i64.wrap (i + 1)))
    else none
   else none
  else
   Option.map Sum.inr (
    some true)
noncomputable def F_spec_SameTerm (a : (List Int)) (b : (List Int)) : Option Bool :=
 if ((a.length : Int) != (b.length : Int)) = true then
  some false
 else
  loopC (F_spec_SameTerm_l1 a b) 0
instance c_spec_SameTerm {a : (List Int)} {b : (List Int)} : HasC (F_spec_SameTerm a b) fun rr => PFun Tryz.prog 79 [(slD 1 iD) a, (slD 1 iD) b] (bD rr) := ⟨@fun rr h => by
  delta F_spec_SameTerm at h
  refine fn79.pureL (vcm_sound ?_)
  delta mc79
  refine stp ?_
  refine iF h fun hc h => ?_
  refine m_lW h [4, 5, 11, 12, 13, 14, 15, 16, 17, 18, 19, 20, 21, 22, 23, 24, 25] (fun pp => [(5, .d (iD pp))]) (fun pp => []) ?_
  rintro i t1 h hb1
  unfold F_spec_SameTerm_l1 at h
  try dsimp only at h
  refine vcm_sound (stp ?_)
  exact aut⟩
def mc134 : MCode :=
 (.seq (.reg (sq 2 [bo 2 72 0] ++ sq 4 [.mv (.const (.slice none 0 0))])) (.seq (.seq (.reg (sq 5 [mv 1, fa 0 2, ld 6, ln 7, bn .lss 5 8, mv 9] ++ sg 10 true 11 [fa 0 2, ld 11, mv 1, ix 1 12 13, ld 14, ln 15, bi .gtr 16 0] ++ sq 18 [pa 10 17])) (.cond (t0 18) (.seq (.reg (sq 19 [fa 0 2, ld 19, mv 1, ix 1 20 21, ld 22, cf 78 [23]] ++ sq 4 [mv 24])) .ret) .skip)) (.seq (.reg (sq 25 [mv 1, .bin .sub (i0 (-1)) (t0 25), .bsl 27 2 1 [(t0 26)]] ++ sq 4 [mv 27])) .ret)))
theorem fn134 : MFn Tryz.prog 134 mc134 28 [.tmp 4] := ⟨_, Tryz.func134, by kernel_rfl, Tryz.ntmps134, by kernel_rfl⟩
noncomputable def F_spec_l2Gives (s : (List (List Int))) (i : Int) : Option (List Int) :=
 if (decide (i < (s.length : Int))) = true then
  if 0 ≤ i ∧ i < (s.length : Int) then
   if (decide (0 < ((s.getD i.toNat default).length : Int))) = true then
    if 0 ≤ i ∧ i < (s.length : Int) then
     (F_spec_l1Copy (s.getD i.toNat default)).bind fun r =>
     some r
    else none
   else
    some [(IntKind.i64.wrap ((-1) - i))]
  else none
 else
  some [(IntKind.i64.wrap ((-1) - i))]
instance c_spec_l2Gives {s : (List (List Int))} {i : Int} : HasC (F_spec_l2Gives s i) fun rr => PFun Tryz.prog 134 [D_impl_Subst s, iD i] ((slD 1 iD) rr) := ⟨@fun rr h => by
  delta F_spec_l2Gives at h
  refine fn134.pureL (vcm_sound ?_)
  delta mc134
  refine stp ?_
  refine iT h fun hc h => ?_
  refine ndI h fun hp h => ?_
  refine iT h fun hc h => ?_
  refine ndI h fun hp h => ?_
  refine rCo [] [(3, 24)] h fun r hr h => ?_
  exact aut⟩
def mc114 : MCode :=
 (.seq (.reg (sq 1 [bo 1 72 0, .alloc 2 72 [.sl 0 (some true) []]])) (.seq (.reg (sq 6 [.build [.sl 0 (some true) []] []] ++ sq 3 [.alloc 3 72 [.sl 0 (some true) []]] ++ s0 (sr 1 3 6))) (.seq (.seq (.reg (sq 4 [mi 0])) (.block 0 (.loop (.seq (.seq (.reg (sq 7 [mv 4, fa 0 1, ld 8, ln 9, bn .lss 7 10])) (.cond (t0 11) .skip (.exit 0))) (.seq (.block 1 (.seq (.reg (sq 14 [la 1 1, mv 4, cf 134 [14, 15]] ++ sq 5 [mv 16])) (.seq (.seq (.reg (sq 17 [mv 5, ln 17, bi .eql 18 1, mv 19] ++ sg 20 true 21 [mv 5, .ixa 1 (t0 21) (i0 0), ld 22, mv 4, .bin .sub (i0 (-1)) (t0 24), bn .eql 23 25] ++ sq 27 [pa 20 26])) (.cond (t0 27) (.reg (sq 28 [.bsl 28 2 1 []] ++ sq 5 [mv 28])) .skip)) (.reg (sq 29 [fa 0 3, ld 29, mv 5, .bsl 32 22 1 [(t0 31)], ap 33 22 1 24 30 32, fa 0 3] ++ s0 (sr 1 34 33)))))) (.reg (sq 12 [mv 4, bi .add 12 1] ++ sq 4 [mv 13]))))))) (.seq (.block 2 (.loop (.seq (.seq (.reg (sq 35 [fa 0 3, ld 35, ln 36, bi .gtr 37 0, mv 38] ++ sg 39 true 40 [fa 0 3, ld 40, fa 0 3, ld 42, ln 43, bi .sub 44 1, ix 1 41 45, ld 46, ln 47, bi .eql 48 0] ++ sq 50 [pa 39 49])) (.cond (t0 50) .skip (.exit 2))) (.block 3 (.reg (sq 51 [fa 0 3, ld 51, fa 0 3, ld 53, ln 54, bi .sub 55 1, .slc (t0 52) 1 none (some (t0 56)) none, fa 0 3] ++ s0 (sr 1 58 57))))))) (.seq (.reg (sq 59 [la 1 3] ++ s0 (sr 1 2 59))) .ret)))))
theorem fn114 : MFn Tryz.prog 114 mc114 60 [.cell 2 1 true] := ⟨_, Tryz.func114, by kernel_rfl, Tryz.ntmps114, by kernel_rfl⟩
noncomputable def F_spec_l2Plain_l2  : (List (List Int)) → Option ((List (List Int)) ⊕ (List (List Int)))
 | out_1 =>
  if (decide (0 < (out_1.length : Int))) = true then
   if 0 ≤ (IntKind.i64.wrap ((out_1.length : Int) - 1)) ∧ (IntKind.i64.wrap ((out_1.length : Int) - 1)) < (out_1.length : Int) then
    if (((out_1.getD (IntKind.i64.wrap ((out_1.length : Int) - 1)).toNat default).length : Int) == 0) = true then
     if 0 ≤ (IntKind.i64.wrap ((out_1.length : Int) - 1)) ∧ (IntKind.i64.wrap ((out_1.length : Int) - 1)) ≤ (out_1.length : Int) then
      some (.inl (out_1.take (IntKind.i64.wrap ((out_1.length : Int) - 1)).toNat))
     else none
    else
     Option.map Sum.inr (
      some out_1)
   else none
  else
   Option.map Sum.inr (
    some out_1)
noncomputable def F_spec_l2Plain_l1 (s : (List (List Int))) : (Int × (List (List Int))) → Option ((Int × (List (List Int))) ⊕ (List (List Int)))
 | (i, out) =>
  if (decide (i < (s.length : Int))) = true then
   (F_spec_l2Gives s i).bind fun r =>
   if ((r.length : Int) == 1) = true then
    if 0 ≤ 0 ∧ 0 < (r.length : Int) then
     if ((r.getD 0 default) == (IntKind.i64.wrap ((-1) - i))) = true then
      if (out.length + 1) * 24 ≤ 140737488355328 then
       some (.inl ((IntKind.i64.wrap (i + 1)), (out ++ [[]])))
      else none
     else
      if (out.length + 1) * 24 ≤ 140737488355328 then
       some (.inl ((IntKind.i64.wrap (i + 1)), (out ++ [r])))
      else none
    else none
   else
    if (out.length + 1) * 24 ≤ 140737488355328 then
     some (.inl ((IntKind.i64.wrap (i + 1)), (out ++ [r])))
    else none
  else
   Option.map Sum.inr (
    loopC (F_spec_l2Plain_l2) out)
noncomputable def F_spec_l2Plain (s : (List (List Int))) : Option (List (List Int)) :=
 loopC (F_spec_l2Plain_l1 s) (0, [])
instance c_spec_l2Plain {s : (List (List Int))} : HasC (F_spec_l2Plain s) fun rr => PFun Tryz.prog 114 [D_impl_Subst s] (D_impl_Subst rr) := ⟨@fun rr h => by
  delta F_spec_l2Plain at h
  refine fn114.pureL (vcm_sound ?_)
  delta mc114
  refine stp ?_
  refine m_loopF h [4, 5, 7, 8, 9, 10, 11, 12, 13, 14, 15, 16, 17, 18, 19, 20, 21, 22, 23, 24, 25, 26, 27, 28, 29, 30, 31, 32, 33, 34] (fun pp => [(4, .d (iD pp.1))]) (fun pp => [(1, .obj 72 [.d (slD 1 (slD 1 iD) s)]), (2, .obj 72 [.d (.sl 0 (some true) [])]), (3, .obj 72 [.own 1 33 (List.map (slD 1 iD) pp.2)]), (33, .tok 22 1 pp.2.length)]) ?_ ?_
  · try dsimp only
    refine (Weak.thawCell 3 0 33 22 1 rfl rfl rfl).trans ?_
    exact wk
  rintro ⟨i, out⟩ t1 h hb1
  unfold F_spec_l2Plain_l1 at h
  try dsimp only at h
  refine vcm_sound (stp ?_)
  refine it h (fun hc h => ?_) fun hc h => ?_
  · refine rC h fun r hr h => ?_
    refine it h (fun hc h => ?_) fun hc h => ?_
    · refine ndI h fun hp h => ?_
      refine it h (fun hc h => ?_) fun hc h => ?_
      · refine ndI h fun hp h => ?_
        cases h
        refine ⟨_, rfl, ?_⟩
        refine (Weak.drop 28 (by omega)).trans ?_
        refine (Weak.drop 32 (by omega)).trans ?_
        exact wk
      refine ndI h fun hp h => ?_
      cases h
      refine ⟨_, rfl, ?_⟩
      refine (Weak.drop 32 (by omega)).trans ?_
      exact wk
    refine ndI h fun hp h => ?_
    cases h
    refine ⟨_, rfl, ?_⟩
    refine (Weak.drop 32 (by omega)).trans ?_
    exact wk
  replace h := inr_some h hb1
  refine m_loopF h [35, 36, 37, 38, 39, 40, 41, 42, 43, 44, 45, 46, 47, 48, 49, 50, 51, 52, 53, 54, 55, 56, 57, 58] (fun pp => []) (fun pp => [(1, .obj 72 [.d (slD 1 (slD 1 iD) s)]), (2, .obj 72 [.d (.sl 0 (some true) [])]), (3, .obj 72 [.d (slD 1 (slD 1 iD) pp)])]) ?_ ?_
  · try dsimp only
    refine (Weak.drop 33 (by omega)).trans ?_
    exact wk
  rintro out_1 t1 h hb1
  unfold F_spec_l2Plain_l2 at h
  try dsimp only at h
  refine vcm_sound (stp ?_)
  exact aut⟩
def mc81 : MCode :=
 (.seq (.reg (sq 3 [bo 3 30 0] ++ sq 6 [.alloc 6 72 [.sl 0 (some true) []], mb false])) (.seq (.reg (sq 13 [.mksl 13 22 1 24 [.sl 0 (some true) []] false (i0 24) (i0 24), .build [.sl 0 (some true) []] [(0, 1, (t0 13))]] ++ sq 8 [.alloc 8 72 [.sl 0 (some true) []]] ++ s0 (sr 1 8 14))) (.seq (.reg (sq 9 [mi 0])) (.seq (.seq (.reg (sq 10 [mi 0])) (.block 0 (.loop (.seq (.seq (.reg (sq 15 [mv 10, mv 1, ln 16, bn .lss 15 17])) (.cond (t0 18) .skip (.exit 0))) (.seq (.block 1 (.seq (.seq (.reg (sq 21 [mv 9, mv 2, ln 22, bn .geq 21 23])) (.cond (t0 24) (.seq (.reg (sq 25 [.build [.sl 0 (some true) []] []] ++ s0 (sr 1 6 25) ++ sq 7 [mb false])) .ret) .skip)) (.seq (.seq (.reg (sq 26 [mv 1, mv 10, ix 1 26 27, ld 28, bi .geq 29 0])) (.cond (t0 30) (.seq (.seq (.draw (sq 31 [mv 1, mv 10, ix 1 31 32, ld 33, mv 2, mv 9, ix 1 35 36, ld 37, bn .neq 34 38]) [[], [], [0, 1], [2], [], [], [4, 5], [6], [3, 7]]) (.cond (t0 39) (.seq (.reg (sq 40 [.build [.sl 0 (some true) []] []] ++ s0 (sr 1 6 40) ++ sq 7 [mb false])) .ret) .skip)) (.seq (.reg (sq 41 [mv 9, bi .add 41 1] ++ sq 9 [mv 42])) (.exit 1))) .skip)) (.seq (.reg (sq 43 [la 1 3, mv 2, mv 9, cf 49 [43, 44, 45]] ++ sq 11 [mv 46])) (.seq (.draw (sq 47 [fa 0 8, ld 47, mv 1, mv 10, ix 1 49 50, ld 51, .bin .sub (i0 (-1)) (t0 52), ix 1 48 53, ld 54] ++ sq 12 [mv 55]) [[], [0], [], [], [2, 3], [4], [5], [1, 6], [7], [8, 0, 1, 2, 3, 4, 5, 6, 7, 8]]) (.seq (.seq (.reg (sq 56 [mv 12, ln 56, bi .gtr 57 0, mv 58] ++ sg 59 true 60 [mv 12, mv 11, cf 79 [60, 61], nt 62] ++ sq 64 [pa 59 63])) (.cond (t0 64) (.seq (.reg (sq 65 [.build [.sl 0 (some true) []] []] ++ s0 (sr 1 6 65) ++ sq 7 [mb false])) .ret) .skip)) (.seq (.draw (sq 66 [fa 0 8, ld 66, mv 1, mv 10, ix 1 68 69, ld 70, .bin .sub (i0 (-1)) (t0 71), mv 11, ix 1 67 72] ++ s0 (sr 1 74 73)) [[], [0], [], [], [2, 3], [4], [5], [], [1, 6, 0, 1, 2, 3, 4, 5, 6, 7], [8, 7, 0, 1, 2, 3, 4, 5, 6, 7]]) (.reg (sq 75 [mv 9, mv 11, ln 76, bn .add 75 77] ++ sq 9 [mv 78]))))))))) (.reg (sq 19 [mv 10, bi .add 19 1] ++ sq 10 [mv 20]))))))) (.seq (.reg (sq 79 [la 1 8, cf 114 [79]] ++ s0 (sr 1 6 80) ++ sq 7 [mb true])) .ret)))))
theorem fn81 : MFn Tryz.prog 81 mc81 81 [.cell 6 1 true, .tmp 7] := ⟨_, Tryz.func81, by kernel_rfl, Tryz.ntmps81, by kernel_rfl⟩
noncomputable def F_spec_l4Match_l1 (sig : (List Int)) (p : (List Int)) (t : (List Int)) : (Int × Int × (List (List Int))) → Option ((Int × Int × (List (List Int))) ⊕ ((List (List Int)) × Bool))
 | (k, i, l13) =>
  if (decide (i < (p.length : Int))) = true then
   if (decide ((t.length : Int) ≤ k)) = true then
    Option.map Sum.inr (
     some ([], false))
   else
    if 0 ≤ i ∧ i < (p.length : Int) then
     if (decide (0 ≤ (p.getD i.toNat default))) = true then
      if 0 ≤ i ∧ i < (p.length : Int) then
       if 0 ≤ k ∧ k < (t.length : Int) then
        if ((p.getD i.toNat default) != (t.getD k.toNat default)) = true then
         Option.map Sum.inr (
          some ([], false))
        else
         some (.inl ((IntKind.i64.wrap (k + 1)), (IntKind.i64.wrap (i + 1)), l13))
       else none
      else none
     else
      (F_spec_l1Sub sig t k).bind fun r =>
      if 0 ≤ i ∧ i < (p.length : Int) then
       if 0 ≤ (IntKind.i64.wrap ((-1) - (p.getD i.toNat default))) ∧ (IntKind.i64.wrap ((-1) - (p.getD i.toNat default))) < (24 : Int) ∧ (IntKind.i64.wrap ((-1) - (p.getD i.toNat default))) < (l13.length : Int) then
        if (decide (0 < ((l13.getD (IntKind.i64.wrap ((-1) - (p.getD i.toNat default))).toNat default).length : Int))) = true then
         (F_spec_SameTerm (l13.getD (IntKind.i64.wrap ((-1) - (p.getD i.toNat default))).toNat default) r).bind fun r_1 =>
         if r_1 = true then
          if 0 ≤ i ∧ i < (p.length : Int) then
           if 0 ≤ (IntKind.i64.wrap ((-1) - (p.getD i.toNat default))) ∧ (IntKind.i64.wrap ((-1) - (p.getD i.toNat default))) < (24 : Int) ∧ (IntKind.i64.wrap ((-1) - (p.getD i.toNat default))) < (l13.length : Int) then
            some (.inl ((IntKind.i64.wrap (k + (r.length : Int))), (IntKind.i64.wrap (i + 1)), (l13.set (IntKind.i64.wrap ((-1) - (p.getD i.toNat default))).toNat r)))
           else none
          else none
         else
          Option.map Sum.inr (
           some ([], false))
        else
         if 0 ≤ i ∧ i < (p.length : Int) then
          if 0 ≤ (IntKind.i64.wrap ((-1) - (p.getD i.toNat default))) ∧ (IntKind.i64.wrap ((-1) - (p.getD i.toNat default))) < (24 : Int) ∧ (IntKind.i64.wrap ((-1) - (p.getD i.toNat default))) < (l13.length : Int) then
           some (.inl ((IntKind.i64.wrap (k + (r.length : Int))), (IntKind.i64.wrap (i + 1)), (l13.set (IntKind.i64.wrap ((-1) - (p.getD i.toNat default))).toNat r)))
          else none
         else none
       else none
      else none
    else none
  else
   Option.map Sum.inr (
    if l13.length = 24 then
     (F_spec_l2Plain l13).bind fun r_2 =>
     some (r_2, true)
    else none)
noncomputable def F_spec_l4Match (sig : (List Int)) (p : (List Int)) (t : (List Int)) : Option ((List (List Int)) × Bool) :=
 loopC (F_spec_l4Match_l1 sig p t) (0, 0, (List.replicate 24 []))
instance c_spec_l4Match {sig : (List Int)} {p : (List Int)} {t : (List Int)} : HasC (F_spec_l4Match sig p t) fun rr => PFunN Tryz.prog 81 [D_impl_Sig sig, (slD 1 iD) p, (slD 1 iD) t] [D_impl_Subst rr.1, bD rr.2] := ⟨@fun rr h => by
  delta F_spec_l4Match at h
  refine fn81.pureLN (vcm_sound ?_)
  delta mc81
  refine stp ?_
  refine nds ?_
  refine m_lW h [7, 9, 10, 11, 12, 15, 16, 17, 18, 19, 20, 21, 22, 23, 24, 25, 26, 27, 28, 29, 30, 31, 32, 33, 34, 35, 36, 37, 38, 39, 40, 41, 42, 43, 44, 45, 46, 47, 48, 49, 50, 51, 52, 53, 54, 55, 56, 57, 58, 59, 60, 61, 62, 63, 64, 65, 66, 67, 68, 69, 70, 71, 72, 73, 74, 75, 76, 77, 78] (fun pp => [(9, .d (iD pp.1)), (10, .d (iD pp.2.1))]) (fun pp => [(3, .obj 30 [.d (slD 1 iD sig)]), (6, .obj 72 [.d (.sl 0 (some true) [])]), (8, .obj 72 [.msl 1 13 0 24]), (13, .obj 22 (List.map (aD (slD 1 iD)) pp.2.2))]) ?_
  rintro ⟨k, i, l13⟩ t1 h hb1
  unfold F_spec_l4Match_l1 at h
  try dsimp only at h
  refine vcm_sound (stp ?_)
  refine iF h fun hc h => ?_
  replace h := inr_some h hb1
  refine ndI h fun hp h => ?_
  refine callR_freezeL 13 (slD 1 iD) l13 (by omega) rfl (fun _ => rfl) (stp ?_)
  refine rC h fun r_2 hr_2 h => ?_
  exact aut⟩
end Go.Proofs.YtcbfefbocpikoaaGreat
namespace Go.Proofs.YtcbfefbocpikoaaGreat
open Go Abx
attribute [local irreducible] vcm vgo vdr vrun vdrun MWp GhostQ BrC BrO BrG BrD BrH AmbO callR callD drQ EnvLe StoLe
set_option maxHeartbeats 4000000
def mc84 : MCode :=
 (.seq (.reg (sq 2 [mb false])) (.seq (.seq (.reg (sq 5 [mv 0, ln 5, mi 0])) (.block 0 (.loop (.seq (.reg (sq 8 [bn .lss 7 6])) (.seq (.cond (t0 8) .skip (.exit 0)) (.seq (.block 1 (.seq (.reg (sq 9 [mv 7, ix 1 5 7, ld 10] ++ sq 3 [mv 9, mv 11])) (.seq (.reg (sq 12 [mv 4, bi .lss 12 0, mv 13] ++ sg 14 true 15 [mv 0, mv 3, .slc (t0 15) 1 none (some (t0 16)) none, mv 4, cf 87 [17, 18]] ++ sq 20 [pa 14 19])) (.cond (t0 20) (.seq (.reg (sq 2 [mb false])) .ret) .skip)))) (.reg (sq 21 [bi .add 7 1] ++ sq 7 [mv 21])))))))) (.seq (.reg (sq 2 [mb true])) .ret)))
theorem fn84 : MFn Tryz.prog 84 mc84 22 [.tmp 2] := ⟨_, Tryz.func84, by kernel_rfl, Tryz.ntmps84, by kernel_rfl⟩
noncomputable def F_impl_linear_l1 (t : (List Int)) : Int → Option (Int ⊕ Bool)
 | v7 =>
  if (decide (v7 < (t.length : Int))) = true then
   if 0 ≤ v7 ∧ v7 < (t.length : Int) then
    if (decide ((t.getD v7.toNat default) < 0)) = true then
     if 0 ≤ v7 ∧ v7 ≤ (t.length : Int) then
      (F_slices_Contains_int64_int64 (t.take v7.toNat) (t.getD v7.toNat default)).bind fun r =>
      if r = true then
       Option.map Sum.inr (
        some false)
      else
       some (.inl (IntKind.i64.wrap (v7 + 1)))
     else none
    else
     some (.inl (IntKind.i64.wrap (v7 + 1)))
   else none
  else
   Option.map Sum.inr (
    some true)
noncomputable def F_impl_linear (t : (List Int)) : Option Bool :=
 loopC (F_impl_linear_l1 t) 0
instance c_impl_linear {t : (List Int)} : HasC (F_impl_linear t) fun rr => PFun Tryz.prog 84 [(slD 1 iD) t] (bD rr) := ⟨@fun rr h => by
  delta F_impl_linear at h
  refine fn84.pureL (vcm_sound ?_)
  delta mc84
  refine stp ?_
  refine m_lW h [2, 3, 4, 7, 8, 9, 10, 11, 12, 13, 14, 15, 16, 17, 18, 19, 20, 21] (fun pp => [(7, .d (iD pp))]) (fun pp => []) ?_
  rintro v7 t1 h hb1
  unfold F_impl_linear_l1 at h
  try dsimp only at h
  refine vcm_sound (stp ?_)
  exact aut⟩
def mc55 : MCode :=
 (.seq (.reg (sq 2 [mb false])) (.seq (.seq (.reg (sq 5 [mv 0, ln 5, mi 0])) (.block 0 (.loop (.seq (.reg (sq 8 [bn .lss 7 6])) (.seq (.cond (t0 8) .skip (.exit 0)) (.seq (.block 1 (.seq (.reg (sq 9 [ix 2 5 7, la 2 9] ++ sq 4 [.alloc 4 70 [.sl 0 (some true) [], .sl 0 (some true) []]] ++ s0 (sr 2 4 10))) (.seq (.reg (sq 11 [fa 0 4, ld 11, cf 84 [12], nt 13])) (.cond (t0 14) (.seq (.reg (sq 2 [mb false])) .ret) .skip)))) (.reg (sq 15 [bi .add 7 1] ++ sq 7 [mv 15])))))))) (.seq (.reg (sq 2 [mb true])) .ret)))
theorem fn55 : MFn Tryz.prog 55 mc55 16 [.tmp 2] := ⟨_, Tryz.func55, by kernel_rfl, Tryz.ntmps55, by kernel_rfl⟩
noncomputable def F_impl_leftLinear_l1 (rules : (List ((List Int) × (List Int)))) : Int → Option (Int ⊕ Bool)
 | v7 =>
  if (decide (v7 < (rules.length : Int))) = true then
   if 0 ≤ v7 ∧ v7 < (rules.length : Int) then
    (F_impl_linear ((rules.getD v7.toNat default).1)).bind fun r =>
    if r = true then
     some (.inl (IntKind.i64.wrap (v7 + 1)))
    else
     Option.map Sum.inr (
      some false)
   else none
  else
   Option.map Sum.inr (
    some true)
noncomputable def F_impl_leftLinear (rules : (List ((List Int) × (List Int)))) : Option Bool :=
 loopC (F_impl_leftLinear_l1 rules) 0
instance c_impl_leftLinear {rules : (List ((List Int) × (List Int)))} : HasC (F_impl_leftLinear rules) fun rr => PFun Tryz.prog 55 [(slD 2 D_impl_Rule) rules] (bD rr) := ⟨@fun rr h => by
  delta F_impl_leftLinear at h
  refine fn55.pureL (vcm_sound ?_)
  delta mc55
  refine stp ?_
  refine m_lW h [2, 4, 7, 8, 9, 10, 11, 12, 13, 14, 15] (fun pp => [(7, .d (iD pp))]) (fun pp => []) ?_
  rintro v7 t1 h hb1
  unfold F_impl_leftLinear_l1 at h
  try dsimp only at h
  refine vcm_sound (stp ?_)
  refine iT h fun hc h => ?_
  refine ndI h fun hp h => ?_
  refine rC h fun r hr h => ?_
  refine iT h fun hc h => ?_
  cases h
  refine ⟨_, rfl, ?_⟩
  refine (Weak.drop 4 (by omega)).trans ?_
  exact wk⟩
def mc26 : MCode :=
 (.seq (.reg (sq 1 [bo 1 33 0, mb false])) (.seq (.reg (sq 3 [la 2 1, cf 54 [3], mv 4] ++ sg 5 true 6 [fa 1 1, ld 6, cf 55 [7]] ++ sq 9 [pa 5 8] ++ sq 2 [mv 9])) .ret))
theorem fn26 : MFn Tryz.prog 26 mc26 10 [.tmp 2] := ⟨_, Tryz.func26, by kernel_rfl, Tryz.ntmps26, by kernel_rfl⟩
noncomputable def F_impl_LeftLinearIn (sys : ((List Int) × (List ((List Int) × (List Int))))) : Option Bool :=
 (F_impl_SystemOk sys).bind fun r =>
 if r = true then
  (F_impl_leftLinear sys.2).bind fun r_1 =>
  some r_1
 else
  some false
instance c_impl_LeftLinearIn {sys : ((List Int) × (List ((List Int) × (List Int))))} : HasC (F_impl_LeftLinearIn sys) fun rr => PFun Tryz.prog 26 [D_impl_System sys] (bD rr) := ⟨@fun rr h => by
  delta F_impl_LeftLinearIn at h
  refine fn26.pureL (vcm_sound ?_)
  delta mc26
  refine stp ?_
  exact aut⟩
def mc112 : MCode :=
 (.seq (.reg (sq 4 [mi 0])) (.seq (.reg (sq 5 [mi 0])) (.seq (.seq (.reg (sq 6 [mi 0])) (.block 0 (.loop (.seq (.seq (.reg (sq 7 [mv 6, mv 0, ln 8, bn .lss 7 9])) (.cond (t0 10) .skip (.exit 0))) (.seq (.block 1 (.seq (.reg (sq 13 [mv 0, mv 6, ix 1 13 14, ld 15, mv 1, bn .eql 16 17])) (.cond (t0 18) (.reg (sq 19 [mv 5, bi .add 19 1] ++ sq 5 [mv 20])) .skip))) (.reg (sq 11 [mv 6, bi .add 11 1] ++ sq 6 [mv 12]))))))) (.seq (.reg (sq 21 [mv 5] ++ sq 4 [mv 21])) .ret))))
theorem fn112 : MFn Tryz.prog 112 mc112 22 [.tmp 4] := ⟨_, Tryz.func112, by kernel_rfl, Tryz.ntmps112, by kernel_rfl⟩
noncomputable def F_spec_l1Count_l1 (t : (List Int)) (n : Int) : (Int × Int) → Option ((Int × Int) ⊕ Int)
 | (many, i) =>
  if (decide (i < (t.length : Int))) = true then
   if 0 ≤ i ∧ i < (t.length : Int) then
    if ((t.getD i.toNat default) == n) = true then
     some (.inl ((IntKind.i64.wrap (many + 1)), (IntKind.i64.wrap (i + 1))))
    else
     some (.inl (many, (IntKind.i64.wrap (i + 1))))
   else none
  else
   Option.map Sum.inr (
    some many)
noncomputable def F_spec_l1Count (t : (List Int)) (n : Int) : Option Int :=
 loopC (F_spec_l1Count_l1 t n) (0, 0)
instance c_spec_l1Count {t : (List Int)} {n : Int} : HasC (F_spec_l1Count t n) fun rr => PFun Tryz.prog 112 [(slD 1 iD) t, iD n] (iD rr) := ⟨@fun rr h => by
  delta F_spec_l1Count at h
  refine fn112.pureL (vcm_sound ?_)
  delta mc112
  refine stp ?_
  refine m_lW h [5, 6, 7, 8, 9, 10, 11, 12, 13, 14, 15, 16, 17, 18, 19, 20] (fun pp => [(5, .d (iD pp.1)), (6, .d (iD pp.2))]) (fun pp => []) ?_
  rintro ⟨many, i⟩ t1 h hb1
  unfold F_spec_l1Count_l1 at h
  try dsimp only at h
  refine vcm_sound (stp ?_)
  exact aut⟩
def mc73 : MCode :=
 (.seq (.reg (sq 2 [mb false])) (.seq (.seq (.reg (sq 3 [mi 0])) (.block 0 (.loop (.seq (.seq (.reg (sq 4 [mv 3, mv 0, ln 5, bn .lss 4 6])) (.cond (t0 7) .skip (.exit 0))) (.seq (.block 1 (.seq (.reg (sq 10 [mv 0, mv 3, ix 1 10 11, ld 12, bi .lss 13 0, mv 14] ++ sg 15 true 16 [mv 0, mv 0, mv 3, ix 1 17 18, ld 19, cf 112 [16, 20], bi .gtr 21 1] ++ sq 23 [pa 15 22])) (.cond (t0 23) (.seq (.reg (sq 2 [mb false])) .ret) .skip))) (.reg (sq 8 [mv 3, bi .add 8 1] ++ sq 3 [mv 9]))))))) (.seq (.reg (sq 2 [mb true])) .ret)))
theorem fn73 : MFn Tryz.prog 73 mc73 24 [.tmp 2] := ⟨_, Tryz.func73, by kernel_rfl, Tryz.ntmps73, by kernel_rfl⟩
noncomputable def F_spec_l2Linear_l1 (t : (List Int)) : Int → Option (Int ⊕ Bool)
 | i =>
  if (decide (i < (t.length : Int))) = true then
   if 0 ≤ i ∧ i < (t.length : Int) then
    if (decide ((t.getD i.toNat default) < 0)) = true then
     if 0 ≤ i ∧ i < (t.length : Int) then
      (F_spec_l1Count t (t.getD i.toNat default)).bind fun r =>
      if (decide (1 < r)) = true then
       Option.map Sum.inr (
        some false)
      else
       some (.inl (IntKind.i64.wrap (i + 1)))
     else none
    else
     some (.inl (IntKind.i64.wrap (i + 1)))
   else none
  else
   Option.map Sum.inr (
    some true)
noncomputable def F_spec_l2Linear (t : (List Int)) : Option Bool :=
 loopC (F_spec_l2Linear_l1 t) 0
instance c_spec_l2Linear {t : (List Int)} : HasC (F_spec_l2Linear t) fun rr => PFun Tryz.prog 73 [(slD 1 iD) t] (bD rr) := ⟨@fun rr h => by
  delta F_spec_l2Linear at h
  refine fn73.pureL (vcm_sound ?_)
  delta mc73
  refine stp ?_
  refine m_lW h [2, 3, 4, 5, 6, 7, 8, 9, 10, 11, 12, 13, 14, 15, 16, 17, 18, 19, 20, 21, 22, 23] (fun pp => [(3, .d (iD pp))]) (fun pp => []) ?_
  rintro i t1 h hb1
  unfold F_spec_l2Linear_l1 at h
  try dsimp only at h
  refine vcm_sound (stp ?_)
  exact aut⟩
def mc45 : MCode :=
 (.seq (.reg (sq 1 [bo 1 33 0, mb false])) (.seq (.seq (.reg (sq 4 [la 2 1, cf 44 [4], nt 5])) (.cond (t0 6) (.seq (.reg (sq 2 [mb false])) .ret) .skip)) (.seq (.seq (.reg (sq 3 [mi 0])) (.block 0 (.loop (.seq (.seq (.reg (sq 7 [mv 3, fa 1 1, ld 8, ln 9, bn .lss 7 10])) (.cond (t0 11) .skip (.exit 0))) (.seq (.block 1 (.seq (.reg (sq 14 [fa 1 1, ld 14, mv 3, ix 2 15 16, fa 0 17, ld 18, cf 73 [19], nt 20])) (.cond (t0 21) (.seq (.reg (sq 2 [mb false])) .ret) .skip))) (.reg (sq 12 [mv 3, bi .add 12 1] ++ sq 3 [mv 13]))))))) (.seq (.reg (sq 2 [mb true])) .ret))))
theorem fn45 : MFn Tryz.prog 45 mc45 22 [.tmp 2] := ⟨_, Tryz.func45, by kernel_rfl, Tryz.ntmps45, by kernel_rfl⟩
noncomputable def F_spec_LeftLinearIn_l1 (sys : ((List Int) × (List ((List Int) × (List Int))))) : Int → Option (Int ⊕ Bool)
 | i =>
  if (decide (i < (sys.2.length : Int))) = true then
   if 0 ≤ i ∧ i < (sys.2.length : Int) then
    (F_spec_l2Linear ((sys.2.getD i.toNat default).1)).bind fun r_1 =>
    if r_1 = true then
     some (.inl (IntKind.i64.wrap (i + 1)))
    else
     Option.map Sum.inr (
      some false)
   else none
  else
   Option.map Sum.inr (
    some true)
noncomputable def F_spec_LeftLinearIn (sys : ((List Int) × (List ((List Int) × (List Int))))) : Option Bool :=
 (F_spec_SystemOk sys).bind fun r =>
 if r = true then
  loopC (F_spec_LeftLinearIn_l1 sys) 0
 else
  some false
instance c_spec_LeftLinearIn {sys : ((List Int) × (List ((List Int) × (List Int))))} : HasC (F_spec_LeftLinearIn sys) fun rr => PFun Tryz.prog 45 [D_impl_System sys] (bD rr) := ⟨@fun rr h => by
  delta F_spec_LeftLinearIn at h
  refine fn45.pureL (vcm_sound ?_)
  delta mc45
  refine stp ?_
  refine rC h fun r hr h => ?_
  refine iT h fun hc h => ?_
  refine m_lW h [2, 3, 7, 8, 9, 10, 11, 12, 13, 14, 15, 16, 17, 18, 19, 20, 21] (fun pp => [(3, .d (iD pp))]) (fun pp => [(1, .obj 33 [.d (slD 1 iD sys.1), .d (slD 2 D_impl_Rule sys.2)])]) ?_
  rintro i t1 h hb1
  unfold F_spec_LeftLinearIn_l1 at h
  try dsimp only at h
  refine vcm_sound (stp ?_)
  exact aut⟩
def mc57 : MCode :=
 (.seq (.reg (sq 2 [.mv (.const (.slice none 0 0))])) (.seq (.reg (sq 3 [.mv (.const (.slice none 0 0))])) (.seq (.seq (.reg (sq 4 [mi 0])) (.block 0 (.loop (.seq (.seq (.reg (sq 5 [mv 4, bi .lss 5 24])) (.cond (t0 6) .skip (.exit 0))) (.seq (.block 1 (.seq (.reg (sq 9 [mv 0, mv 4, .bin .sub (i0 (-1)) (t0 10), cf 87 [9, 11]])) (.cond (t0 12) (.reg (sq 13 [mv 3, mv 4, .bsl 15 2 1 [(t0 14)], ap 16 2 1 8 13 15] ++ sq 3 [mv 16])) .skip))) (.reg (sq 7 [mv 4, bi .add 7 1] ++ sq 4 [mv 8]))))))) (.seq (.reg (sq 17 [mv 3] ++ sq 2 [mv 17])) .ret))))
theorem fn57 : MFn Tryz.prog 57 mc57 18 [.tmp 2] := ⟨_, Tryz.func57, by kernel_rfl, Tryz.ntmps57, by kernel_rfl⟩
noncomputable def F_impl_varsIn_l1 (t : (List Int)) : ((List Int) × Int) → Option (((List Int) × Int) ⊕ (List Int))
 | (out, i) =>
  if (decide (i < 24)) = true then
   (F_slices_Contains_int64_int64 t (IntKind.i64.wrap ((-1) - i))).bind fun r =>
   if r = true then
    if (out.length + 1) * 8 ≤ 140737488355328 then
     some (.inl ((out ++ [i]), (IntKind.i64.wrap (i + 1))))
    else none
   else
    some (.inl (out, (IntKind.i64.wrap (i + 1))))
  else
   Option.map Sum.inr (
    some out)
noncomputable def F_impl_varsIn (t : (List Int)) : Option (List Int) :=
 loopC (F_impl_varsIn_l1 t) ([], 0)
instance c_impl_varsIn {t : (List Int)} : HasC (F_impl_varsIn t) fun rr => PFun Tryz.prog 57 [(slD 1 iD) t] ((slD 1 iD) rr) := ⟨@fun rr h => by
  delta F_impl_varsIn at h
  refine fn57.pureL (vcm_sound ?_)
  delta mc57
  refine stp ?_
  refine m_loopF h [3, 4, 5, 6, 7, 8, 9, 10, 11, 12, 13, 14, 15, 16] (fun pp => [(3, .own 1 16 (List.map iD pp.1)), (4, .d (iD pp.2))]) (fun pp => [(16, .tok 2 1 pp.1.length)]) ?_ ?_
  · try dsimp only
    refine (Weak.thaw 3 16 2 1 rfl rfl).trans ?_
    exact wk
  rintro ⟨out, i⟩ t1 h hb1
  unfold F_impl_varsIn_l1 at h
  try dsimp only at h
  refine vcm_sound (stp ?_)
  refine iT h fun hc h => ?_
  refine rC h fun r hr h => ?_
  refine iT h fun hc h => ?_
  refine ndI h fun hp h => ?_
  cases h
  refine ⟨_, rfl, ?_⟩
  refine (Weak.drop 15 (by omega)).trans ?_
  exact wk⟩
def mc27 : MCode :=
 (.seq (.reg (sq 2 [bo 2 30 0] ++ sq 4 [mb false])) (.seq (.reg (sq 5 [la 1 2, mv 1, cf 56 [5, 6], mv 7] ++ sg 8 true 9 [mv 1, cf 57 [9], ln 10, bi .eql 11 0] ++ sq 13 [pa 8 12] ++ sq 4 [mv 13])) .ret))
theorem fn27 : MFn Tryz.prog 27 mc27 14 [.tmp 4] := ⟨_, Tryz.func27, by kernel_rfl, Tryz.ntmps27, by kernel_rfl⟩
noncomputable def F_impl_GroundIn (sig : (List Int)) (t : (List Int)) : Option Bool :=
 (F_impl_TermOk sig t).bind fun r =>
 if r = true then
  (F_impl_varsIn t).bind fun r_1 =>
  some ((r_1.length : Int) == 0)
 else
  some false
instance c_impl_GroundIn {sig : (List Int)} {t : (List Int)} : HasC (F_impl_GroundIn sig t) fun rr => PFun Tryz.prog 27 [D_impl_Sig sig, (slD 1 iD) t] (bD rr) := ⟨@fun rr h => by
  delta F_impl_GroundIn at h
  refine fn27.pureL (vcm_sound ?_)
  delta mc27
  refine stp ?_
  exact aut⟩
def mc75 : MCode :=
 (.seq (.reg (sq 4 [.mv (.const (.slice none 0 0))])) (.seq (.reg (sq 5 [mi 0])) (.seq (.block 0 (.loop (.seq (.seq (.reg (sq 7 [mv 5, mv 0, ln 8, bn .lss 7 9, mv 10] ++ sg 11 true 12 [mv 0, mv 5, ix 1 12 13, ld 14, mv 1, bn .lss 15 16] ++ sq 18 [pa 11 17])) (.cond (t0 18) .skip (.exit 0))) (.block 1 (.reg (sq 19 [mv 5, bi .add 19 1] ++ sq 5 [mv 20])))))) (.seq (.seq (.reg (sq 21 [mv 5, mv 0, ln 22, bn .lss 21 23, mv 24] ++ sg 25 true 26 [mv 0, mv 5, ix 1 26 27, ld 28, mv 1, bn .eql 29 30] ++ sq 32 [pa 25 31])) (.cond (t0 32) (.seq (.reg (sq 33 [mv 0] ++ sq 4 [mv 33])) .ret) .skip)) (.seq (.reg (sq 34 [mv 0, mv 5, .slc (t0 34) 1 none (some (t0 35)) none, cf 78 [36], mv 1, .bsl 39 2 1 [(t0 38)], ap 40 2 1 8 37 39] ++ sq 6 [mv 40])) (.seq (.reg (sq 41 [mv 6, mv 0, mv 5, .slc (t0 42) 1 (some (t0 43)) none none, ap 45 2 1 8 41 44] ++ sq 4 [mv 45])) .ret))))))
theorem fn75 : MFn Tryz.prog 75 mc75 46 [.tmp 4] := ⟨_, Tryz.func75, by kernel_rfl, Tryz.ntmps75, by kernel_rfl⟩
noncomputable def F_spec_l1Into_l1 (list : (List Int)) (n : Int) : Int → Option (Int ⊕ (List Int))
 | k =>
  if (decide (k < (list.length : Int))) = true then
   if 0 ≤ k ∧ k < (list.length : Int) then
    if (decide ((list.getD k.toNat default) < n)) = true then
     some (.inl (IntKind.i64.wrap (k + 1)))
    else
     Option.map Sum.inr (
      if (decide (k < (list.length : Int))) = true then
       if 0 ≤ k ∧ k < (list.length : Int) then
        if ((list.getD k.toNat default) == n) = true then
         some list
        else
         if 0 ≤ k ∧ k ≤ (list.length : Int) then
          (F_spec_l1Copy (list.take k.toNat)).bind fun r =>
          if (r.length + 1) * 8 ≤ 140737488355328 then
           if 0 ≤ k ∧ k ≤ (list.length : Int) then
            if ((r ++ [n]).length + (list.drop k.toNat).length) * 8 ≤ 140737488355328 then
             some ((r ++ [n]) ++ (list.drop k.toNat))
            else none
           else none
          else none
         else none
       else none
      else
       if 0 ≤ k ∧ k ≤ (list.length : Int) then
        (F_spec_l1Copy (list.take k.toNat)).bind fun r_1 =>
        if (r_1.length + 1) * 8 ≤ 140737488355328 then
         if 0 ≤ k ∧ k ≤ (list.length : Int) then
          if ((r_1 ++ [n]).length + (list.drop k.toNat).length) * 8 ≤ 140737488355328 then
           some ((r_1 ++ [n]) ++ (list.drop k.toNat))
          else none
         else none
        else none
       else none)
   else none
  else
   Option.map Sum.inr (
    if (decide (k < (list.length : Int))) = true then
     if 0 ≤ k ∧ k < (list.length : Int) then
      if ((list.getD k.toNat default) == n) = true then
       some list
      else
       if 0 ≤ k ∧ k ≤ (list.length : Int) then
        (F_spec_l1Copy (list.take k.toNat)).bind fun r_2 =>
        if (r_2.length + 1) * 8 ≤ 140737488355328 then
         if 0 ≤ k ∧ k ≤ (list.length : Int) then
          if ((r_2 ++ [n]).length + (list.drop k.toNat).length) * 8 ≤ 140737488355328 then
           some ((r_2 ++ [n]) ++ (list.drop k.toNat))
          else none
         else none
        else none
       else none
     else none
    else
     if 0 ≤ k ∧ k ≤ (list.length : Int) then
      (F_spec_l1Copy (list.take k.toNat)).bind fun r_3 =>
      if (r_3.length + 1) * 8 ≤ 140737488355328 then
       if 0 ≤ k ∧ k ≤ (list.length : Int) then
        if ((r_3 ++ [n]).length + (list.drop k.toNat).length) * 8 ≤ 140737488355328 then
         some ((r_3 ++ [n]) ++ (list.drop k.toNat))
        else none
       else none
      else none
     else none)
noncomputable def F_spec_l1Into (list : (List Int)) (n : Int) : Option (List Int) :=
 loopC (F_spec_l1Into_l1 list n) 0
instance c_spec_l1Into {list : (List Int)} {n : Int} : HasC (F_spec_l1Into list n) fun rr => PFun Tryz.prog 75 [(slD 1 iD) list, iD n] ((slD 1 iD) rr) := ⟨@fun rr h => by
  delta F_spec_l1Into at h
  refine fn75.pureL (vcm_sound ?_)
  delta mc75
  refine stp ?_
  refine m_lW h [5, 7, 8, 9, 10, 11, 12, 13, 14, 15, 16, 17, 18, 19, 20] (fun pp => [(5, .d (iD pp))]) (fun pp => []) ?_
  rintro k t1 h hb1
  unfold F_spec_l1Into_l1 at h
  try dsimp only at h
  refine vcm_sound (stp ?_)
  refine it h (fun hc h => ?_) fun hc h => ?_
  · refine ndI h fun hp h => ?_
    refine iF h fun hc h => ?_
    replace h := inr_some h hb1
    refine it h (fun hc h => ?_) fun hc h => ?_
    · refine ndI h fun hp h => ?_
      refine iF h fun hc h => ?_
      refine ndI h fun hp h => ?_
      refine rCo [] [(3, 37)] h fun r hr h => ?_
      exact aut
    refine ndI h fun hp h => ?_
    refine rCo [] [(3, 37)] h fun r_1 hr_1 h => ?_
    exact aut
  replace h := inr_some h hb1
  refine it h (fun hc h => ?_) fun hc h => ?_
  · refine ndI h fun hp h => ?_
    refine iF h fun hc h => ?_
    refine ndI h fun hp h => ?_
    refine rCo [] [(3, 37)] h fun r_2 hr_2 h => ?_
    exact aut
  refine ndI h fun hp h => ?_
  refine rCo [] [(3, 37)] h fun r_3 hr_3 h => ?_
  exact aut⟩
def mc47 : MCode :=
 (.seq (.reg (sq 2 [.mv (.const (.slice none 0 0))])) (.seq (.reg (sq 5 [.bsl 5 2 1 []] ++ sq 3 [mv 5])) (.seq (.seq (.reg (sq 4 [mi 0])) (.block 0 (.loop (.seq (.seq (.reg (sq 6 [mv 4, mv 0, ln 7, bn .lss 6 8])) (.cond (t0 9) .skip (.exit 0))) (.seq (.block 1 (.seq (.reg (sq 12 [mv 0, mv 4, ix 1 12 13, ld 14, bi .lss 15 0])) (.cond (t0 16) (.reg (sq 17 [mv 3, mv 0, mv 4, ix 1 18 19, ld 20, .bin .sub (i0 (-1)) (t0 21), cf 75 [17, 22]] ++ sq 3 [mv 23])) .skip))) (.reg (sq 10 [mv 4, bi .add 10 1] ++ sq 4 [mv 11]))))))) (.seq (.reg (sq 24 [mv 3] ++ sq 2 [mv 24])) .ret))))
theorem fn47 : MFn Tryz.prog 47 mc47 25 [.tmp 2] := ⟨_, Tryz.func47, by kernel_rfl, Tryz.ntmps47, by kernel_rfl⟩
noncomputable def F_spec_l2Vars_l1 (t : (List Int)) : ((List Int) × Int) → Option (((List Int) × Int) ⊕ (List Int))
 | (out, i) =>
  if (decide (i < (t.length : Int))) = true then
   if 0 ≤ i ∧ i < (t.length : Int) then
    if (decide ((t.getD i.toNat default) < 0)) = true then
     if 0 ≤ i ∧ i < (t.length : Int) then
      (F_spec_l1Into out (IntKind.i64.wrap ((-1) - (t.getD i.toNat default)))).bind fun r =>
      some (.inl (r, (IntKind.i64.wrap (i + 1))))
     else none
    else
     some (.inl (out, (IntKind.i64.wrap (i + 1))))
   else none
  else
   Option.map Sum.inr (
    some out)
noncomputable def F_spec_l2Vars (t : (List Int)) : Option (List Int) :=
 loopC (F_spec_l2Vars_l1 t) ([], 0)
instance c_spec_l2Vars {t : (List Int)} : HasC (F_spec_l2Vars t) fun rr => PFun Tryz.prog 47 [(slD 1 iD) t] ((slD 1 iD) rr) := ⟨@fun rr h => by
  delta F_spec_l2Vars at h
  refine fn47.pureL (vcm_sound ?_)
  delta mc47
  refine stp ?_
  refine m_lW h [3, 4, 6, 7, 8, 9, 10, 11, 12, 13, 14, 15, 16, 17, 18, 19, 20, 21, 22, 23] (fun pp => [(3, .d (slD 1 iD pp.1)), (4, .d (iD pp.2))]) (fun pp => [(5, .tok 2 1 0)]) ?_
  rintro ⟨out, i⟩ t1 h hb1
  unfold F_spec_l2Vars_l1 at h
  try dsimp only at h
  refine vcm_sound (stp ?_)
  exact aut⟩
def mc20 : MCode :=
 (.seq (.reg (sq 2 [bo 2 30 0] ++ sq 4 [mb false])) (.seq (.reg (sq 5 [la 1 2, mv 1, cf 46 [5, 6], mv 7] ++ sg 8 true 9 [mv 1, cf 47 [9], ln 10, bi .eql 11 0] ++ sq 13 [pa 8 12] ++ sq 4 [mv 13])) .ret))
theorem fn20 : MFn Tryz.prog 20 mc20 14 [.tmp 4] := ⟨_, Tryz.func20, by kernel_rfl, Tryz.ntmps20, by kernel_rfl⟩
noncomputable def F_spec_GroundIn (sig : (List Int)) (t : (List Int)) : Option Bool :=
 (F_spec_TermOk sig t).bind fun r =>
 if r = true then
  (F_spec_l2Vars t).bind fun r_1 =>
  some ((r_1.length : Int) == 0)
 else
  some false
instance c_spec_GroundIn {sig : (List Int)} {t : (List Int)} : HasC (F_spec_GroundIn sig t) fun rr => PFun Tryz.prog 20 [D_impl_Sig sig, (slD 1 iD) t] (bD rr) := ⟨@fun rr h => by
  delta F_spec_GroundIn at h
  refine fn20.pureL (vcm_sound ?_)
  delta mc20
  refine stp ?_
  exact aut⟩
def mc29 : MCode :=
 (.seq (.reg (sq 3 [bo 3 30 0] ++ sq 6 [mb false])) (.seq (.reg (sq 10 [la 1 3, mv 1, mv 2, cf 60 [10, 11, 12]] ++ sq 9 [mv 13] ++ sq 14 [ex 9 0, ex 9 1] ++ sq 7 [.alloc 7 72 [.sl 0 (some true) []]] ++ s0 (sr 1 7 14) ++ sq 8 [mv 15])) (.seq (.reg (sq 16 [mv 8] ++ sq 6 [mv 16])) .ret)))
theorem fn29 : MFn Tryz.prog 29 mc29 17 [.tmp 6] := ⟨_, Tryz.func29, by kernel_rfl, Tryz.ntmps29, by kernel_rfl⟩
noncomputable def F_impl_instance (sig : (List Int)) (p : (List Int)) (t : (List Int)) : Option Bool :=
 (F_impl_match sig p t).bind fun r =>
 some r.2
instance c_impl_instance {sig : (List Int)} {p : (List Int)} {t : (List Int)} : HasC (F_impl_instance sig p t) fun rr => PFun Tryz.prog 29 [D_impl_Sig sig, (slD 1 iD) p, (slD 1 iD) t] (bD rr) := ⟨@fun rr h => by
  delta F_impl_instance at h
  refine fn29.pureL (vcm_sound ?_)
  delta mc29
  refine stp ?_
  exact aut⟩
def mc52 : MCode :=
 (.seq (.reg (sq 3 [bo 3 30 0] ++ sq 6 [.alloc 6 72 [.sl 0 (some true) []], mb false])) (.seq (.seq (.reg (sq 8 [la 1 3, mv 1, cf 46 [8, 9], nt 10, mv 11] ++ sg 12 false 13 [la 1 3, mv 2, cf 46 [13, 14], nt 15] ++ sq 17 [po 12 16])) (.cond (t0 17) (.seq (.reg (sq 18 [.build [.sl 0 (some true) []] []] ++ s0 (sr 1 6 18) ++ sq 7 [mb false])) .ret) .skip)) (.seq (.reg (sq 19 [la 1 3, mv 1, mv 2, cf 81 [19, 20, 21], ex 22 0, ex 22 1] ++ s0 (sr 1 6 23) ++ sq 7 [mv 24])) .ret)))
theorem fn52 : MFn Tryz.prog 52 mc52 25 [.cell 6 1 true, .tmp 7] := ⟨_, Tryz.func52, by kernel_rfl, Tryz.ntmps52, by kernel_rfl⟩
noncomputable def F_spec_Matched (sig : (List Int)) (p : (List Int)) (t : (List Int)) : Option ((List (List Int)) × Bool) :=
 (F_spec_TermOk sig p).bind fun r =>
 if r = true then
  (F_spec_TermOk sig t).bind fun r_1 =>
  if r_1 = true then
   (F_spec_l4Match sig p t).bind fun r_2 =>
   some r_2
  else
   some ([], false)
 else
  some ([], false)
instance c_spec_Matched {sig : (List Int)} {p : (List Int)} {t : (List Int)} : HasC (F_spec_Matched sig p t) fun rr => PFunN Tryz.prog 52 [D_impl_Sig sig, (slD 1 iD) p, (slD 1 iD) t] [D_impl_Subst rr.1, bD rr.2] := ⟨@fun rr h => by
  delta F_spec_Matched at h
  refine fn52.pureLN (vcm_sound ?_)
  delta mc52
  refine stp ?_
  exact aut⟩
def mc23 : MCode :=
 (.seq (.reg (sq 3 [bo 3 30 0] ++ sq 6 [mb false])) (.seq (.reg (sq 10 [la 1 3, mv 1, mv 2, cf 52 [10, 11, 12]] ++ sq 9 [mv 13] ++ sq 14 [ex 9 0, ex 9 1] ++ sq 7 [.alloc 7 72 [.sl 0 (some true) []]] ++ s0 (sr 1 7 14) ++ sq 8 [mv 15])) (.seq (.reg (sq 16 [mv 8] ++ sq 6 [mv 16])) .ret)))
theorem fn23 : MFn Tryz.prog 23 mc23 17 [.tmp 6] := ⟨_, Tryz.func23, by kernel_rfl, Tryz.ntmps23, by kernel_rfl⟩
noncomputable def F_spec_InstanceIn (sig : (List Int)) (p : (List Int)) (t : (List Int)) : Option Bool :=
 (F_spec_Matched sig p t).bind fun r =>
 some r.2
instance c_spec_InstanceIn {sig : (List Int)} {p : (List Int)} {t : (List Int)} : HasC (F_spec_InstanceIn sig p t) fun rr => PFun Tryz.prog 23 [D_impl_Sig sig, (slD 1 iD) p, (slD 1 iD) t] (bD rr) := ⟨@fun rr h => by
  delta F_spec_InstanceIn at h
  refine fn23.pureL (vcm_sound ?_)
  delta mc23
  refine stp ?_
  exact aut⟩
end Go.Proofs.YtcbfefbocpikoaaGreat
namespace Tm
def ari (a : List Int) (x : Int) : Nat := if x < 0 then 0 else (a.getD x.toNat 0).toNat
def okx (a : List Int) (x : Int) : Prop := -24 ≤ x ∧ x < a.length
instance (a : List Int) (x : Int) : Decidable (okx a x) := by unfold okx; infer_instance
def skip (a : List Int) : List Int → Nat → Option (List Int)
  | t, 0 => some t
  | [], _ + 1 => none
  | x :: t, k + 1 => if okx a x then skip a t (k + ari a x) else none
def Wf (a : List Int) (k : Nat) (t : List Int) : Prop := skip a t k = some []
instance (a : List Int) (k : Nat) (t : List Int) : Decidable (Wf a k t) := by unfold Wf; infer_instance
theorem skip_zero (a t : List Int) : skip a t 0 = some t := by cases t <;> simp [skip]
theorem skip_cons (a t : List Int) (x : Int) (k : Nat) : skip a (x :: t) (k + 1) = if okx a x then skip a t (k + ari a x) else none := by simp [skip]
theorem skip_nil (a : List Int) (k : Nat) : skip a [] (k + 1) = none := by simp [skip]
theorem skip_app {a : List Int} (s : List Int) : ∀ {t r : List Int} {k : Nat}, skip a t k = some r → skip a (t ++ s) k = some (r ++ s)
  | t, r, 0, h => by rw [skip_zero] at h ⊢; cases h; rfl
  | [], r, k + 1, h => by simp [skip] at h
  | x :: t, r, k + 1, h => by
    rw [List.cons_append]
    rw [skip_cons] at h ⊢
    split at h
    · rename_i hx; rw [if_pos hx]; exact skip_app s h
    · cases h
theorem skip_add {a : List Int} (j : Nat) : ∀ {t : List Int} {k : Nat}, skip a t (k + j) = (skip a t k).bind fun r => skip a r j
  | t, 0 => by simp [skip_zero]
  | [], k + 1 => by rw [show k + 1 + j = (k + j) + 1 by omega]; simp [skip]
  | x :: t, k + 1 => by
    rw [show k + 1 + j = (k + j) + 1 by omega, skip_cons, skip_cons]
    split
    · rw [show k + j + ari a x = (k + ari a x) + j by omega]; exact skip_add j
    · rfl
theorem skip_split {a : List Int} : ∀ {t r : List Int} {k : Nat}, skip a t k = some r → ∃ u, t = u ++ r ∧ Wf a k u
  | t, r, 0, h => by rw [skip_zero] at h; cases h; exact ⟨[], rfl, skip_zero _ _⟩
  | [], r, k + 1, h => by simp [skip] at h
  | x :: t, r, k + 1, h => by
    rw [skip_cons] at h
    split at h
    · rename_i hx
      obtain ⟨u, rfl, h2⟩ := skip_split h
      exact ⟨x :: u, rfl, by unfold Wf; rw [skip_cons, if_pos hx]; exact h2⟩
    · cases h
theorem Wf.skip {a u : List Int} {k : Nat} (h : Wf a k u) (s : List Int) : skip a (u ++ s) k = some s := skip_app s h
theorem Wf.app {a u v : List Int} {k j : Nat} (h : Wf a k u) (h' : Wf a j v) : Wf a (k + j) (u ++ v) := by
  unfold Wf; rw [skip_add, h.skip]; exact h'
theorem Wf.nil {a : List Int} : Wf a 0 [] := skip_zero _ _
theorem Wf.zero {a t : List Int} (h : Wf a 0 t) : t = [] := by unfold Wf at h; rw [skip_zero] at h; exact Option.some.inj h
theorem Wf.cons_iff {a t : List Int} {x : Int} {k : Nat} : Wf a (k + 1) (x :: t) ↔ okx a x ∧ Wf a (k + ari a x) t := by
  unfold Wf; rw [skip_cons]; split <;> simp_all
theorem Wf.pos {a t : List Int} {k : Nat} (h : Wf a (k + 1) t) : ∃ x r, t = x :: r ∧ okx a x ∧ Wf a (k + ari a x) r := by
  cases t with
  | nil => simp [Wf, Tm.skip] at h
  | cons x r => exact ⟨x, r, rfl, Wf.cons_iff.1 h⟩
theorem Wf.split {a t : List Int} {k j : Nat} (h : Wf a (k + j) t) : ∃ u v, t = u ++ v ∧ Wf a k u ∧ Wf a j v := by
  unfold Wf at h; rw [skip_add] at h
  obtain ⟨r, h1, h2⟩ := Option.bind_eq_some_iff.1 h
  obtain ⟨u, rfl, h3⟩ := skip_split h1
  exact ⟨u, r, rfl, h3, h2⟩
theorem Wf.all {a : List Int} : ∀ {t : List Int} {k : Nat}, Wf a k t → ∀ x ∈ t, okx a x
  | [], _, _ => by simp
  | y :: t, 0, h => by have := h.zero; cases this
  | y :: t, k + 1, h => by
    obtain ⟨h1, h2⟩ := Wf.cons_iff.1 h
    intro x hx
    rcases List.mem_cons.1 hx with rfl | hx
    · exact h1
    · exact h2.all x hx
theorem Wf.len {a : List Int} : ∀ {t : List Int} {k : Nat}, Wf a k t → k ≤ t.length
  | t, 0, _ => by omega
  | [], k + 1, h => by simp [Wf, Tm.skip] at h
  | y :: t, k + 1, h => by
    obtain ⟨h1, h2⟩ := Wf.cons_iff.1 h
    have := h2.len
    simp; omega
theorem Wf.place {a : List Int} : ∀ {t : List Int} {k i : Nat}, Wf a k t → i < t.length → ∃ p u s, t = p ++ (u ++ s) ∧ p.length = i ∧ Wf a 1 u
  | [], _, _, _, hi => by simp at hi
  | y :: t, 0, _, h, _ => by have := h.zero; cases this
  | y :: t, k + 1, 0, h, _ => by
    rw [show k + 1 = 1 + k by omega] at h
    obtain ⟨u, v, e, h1, _⟩ := h.split
    exact ⟨[], u, v, e, rfl, h1⟩
  | y :: t, k + 1, i + 1, h, hi => by
    obtain ⟨p, u, s, rfl, h2, h3⟩ := (Wf.cons_iff.1 h).2.place (i := i) (by simpa using hi)
    exact ⟨y :: p, u, s, rfl, by simp [h2], h3⟩
def sub (σ : Int → List Int) (t : List Int) : List Int := t.flatMap fun x => if x < 0 then σ x else [x]
theorem sub_cons (σ : Int → List Int) (x : Int) (t : List Int) : sub σ (x :: t) = (if x < 0 then σ x else [x]) ++ sub σ t := by simp [sub]
theorem Wf.sub {a : List Int} {σ : Int → List Int} : ∀ {t : List Int} {k : Nat}, Wf a k t → (∀ x ∈ t, x < 0 → Wf a 1 (σ x)) → Wf a k (Tm.sub σ t)
  | [], k, h, _ => by simpa [Tm.sub] using h
  | y :: t, 0, h, _ => by have := h.zero; cases this
  | y :: t, k + 1, h, hs => by
    obtain ⟨h1, h2⟩ := Wf.cons_iff.1 h
    rw [sub_cons]
    have ih := h2.sub fun x hx => hs x (by simp [hx])
    by_cases hy : y < 0
    · rw [if_pos hy, show k + 1 = 1 + k by omega]
      refine (hs y (by simp) hy).app ?_
      simpa [ari, hy] using ih
    · rw [if_neg hy]
      exact Wf.cons_iff.2 ⟨h1, ih⟩
end Tm
namespace Tm
abbrev Bd := List (List Int)
def bget (b : Bd) (n : Int) : List Int := b.getD (-1 - n).toNat []
def bset (b : Bd) (n : Int) (u : List Int) : Bd := b.set (-1 - n).toNat u
def mat (a : List Int) : List Int → List Int → Bd → Option Bd
  | [], _, b => some b
  | n :: p, t, b =>
    if n < 0 then match skip a t 1 with
      | none => none
      | some r =>
        let u := t.take (t.length - r.length)
        if bget b n = [] then mat a p r (bset b n u) else if bget b n = u then mat a p r b else none
    else match t with
      | [] => none
      | y :: t => if y = n then mat a p t b else none
theorem mat_nil (a t : List Int) (b : Bd) : mat a [] t b = some b := by simp [mat]
theorem mat_sym {a p t : List Int} {n y : Int} {b : Bd} (hn : ¬ n < 0) : mat a (n :: p) (y :: t) b = if y = n then mat a p t b else none := by simp [mat, hn]
theorem mat_var {a p u r : List Int} {n : Int} {b : Bd} (hn : n < 0) (hu : Wf a 1 u) : mat a (n :: p) (u ++ r) b =
    if bget b n = [] then mat a p r (bset b n u) else if bget b n = u then mat a p r b else none := by
  simp [mat, hn, hu.skip]
end Tm
namespace Tm
end Tm
namespace Tm
end Tm
namespace Tm
def none24 : Bd := List.replicate 24 []
def at' (a t : List Int) (i : Nat) : List Int := match skip a (t.drop i) 1 with
  | some r => (t.drop i).take ((t.drop i).length - r.length)
  | none => []
theorem at_eq {a p u s : List Int} (hu : Wf a 1 u) : at' a (p ++ (u ++ s)) p.length = u := by
  unfold at'
  rw [List.drop_left, hu.skip]
  simp
def sig (b : Bd) (n : Int) : List Int := if bget b n = [] then [n] else bget b n
end Tm
namespace Go.Proofs.YtcbfefbocpikoaaGreat
open Go Abx Tm
theorem w64 {n : Int} (h1 : -9223372036854775808 ≤ n) (h2 : n < 9223372036854775808) : IntKind.i64.wrap n = n := by
  rw [wrap_i64 h1 h2]
theorem getD_get {α : Type} [Inhabited α] {xs : List α} {i : Nat} (h : i < xs.length) : xs.getD i default = xs[i] := by simp [List.getD_eq_getElem?_getD, List.getElem?_eq_getElem h]
theorem getD_mem {α : Type} [Inhabited α] {xs : List α} {i : Nat} (h : i < xs.length) : xs.getD i default ∈ xs := by rw [getD_get h]; exact List.getElem_mem h
theorem loop_all {α : Type} [Inhabited α] {xs : List α} {p : α → Bool} {f : Int → Option (Int ⊕ Bool)}
    (h : ∀ (i : Nat) (x : α), i < xs.length → (i : Int) < xs.length → x ∈ xs → xs.getD i default = x → f i = some (if p x = true then .inl ((i : Int) + 1) else .inr false)) (he : f xs.length = some (.inr true)) : loopC f 0 = some (xs.all p) := by
  have key : ∀ k i : Nat, i + k = xs.length → loopC f (i : Int) = some ((xs.drop i).all p) := by
    intro k
    induction k with
    | zero =>
      intro i hi
      obtain rfl : i = xs.length := by omega
      rw [loopC_inr he]; simp
    | succ k ih =>
      intro i hi
      have hlt : i < xs.length := by omega
      have e := h i _ hlt (by omega) (List.getElem_mem hlt) (getD_get hlt)
      rw [List.drop_eq_getElem_cons hlt, List.all_cons]
      cases hp : p xs[i] with
      | true =>
        rw [hp, if_pos rfl] at e
        rw [loopC_inl e]
        have := ih (i + 1) (by omega)
        rw [show ((i : Int) + 1) = ((i + 1 : Nat) : Int) by omega, this]; simp
      | false =>
        rw [hp] at e
        simp only [Bool.false_eq_true, if_false] at e
        rw [loopC_inr e]; simp
  simpa using key xs.length 0 (by omega)
theorem loop_any {α β : Type} [Inhabited α] {xs : List α} {p : α → Bool} {f : Int → Option (Int ⊕ β)} {y n : β}
    (h : ∀ (i : Nat) (x : α), i < xs.length → (i : Int) < xs.length → x ∈ xs → xs.getD i default = x → f i = some (if p x = true then .inr y else .inl ((i : Int) + 1))) (he : f xs.length = some (.inr n)) :
    loopC f 0 = some (if xs.any p = true then y else n) := by
  have key : ∀ k i : Nat, i + k = xs.length → loopC f (i : Int) = some (if (xs.drop i).any p = true then y else n) := by
    intro k
    induction k with
    | zero =>
      intro i hi
      obtain rfl : i = xs.length := by omega
      rw [loopC_inr he]; simp
    | succ k ih =>
      intro i hi
      have hlt : i < xs.length := by omega
      have e := h i _ hlt (by omega) (List.getElem_mem hlt) (getD_get hlt)
      rw [List.drop_eq_getElem_cons hlt, List.any_cons]
      cases hp : p xs[i] with
      | false =>
        rw [hp] at e
        simp only [Bool.false_eq_true, if_false] at e
        rw [loopC_inl e]
        have := ih (i + 1) (by omega)
        rw [show ((i : Int) + 1) = ((i + 1 : Nat) : Int) by omega, this]; simp
      | true =>
        rw [hp, if_pos rfl] at e
        rw [loopC_inr e]; simp
  simpa using key xs.length 0 (by omega)
abbrev Small {α : Type} (xs : List α) : Prop := xs.length < 1099511627776
def arOk (n : Int) : Bool := decide (0 ≤ n) && decide (n ≤ 3)
def sigOk (a : List Int) : Bool := decide (1 ≤ a.length) && decide (a.length ≤ 8) && a.all arOk
theorem sigOk_iff {a : List Int} : sigOk a = true ↔ 1 ≤ a.length ∧ a.length ≤ 8 ∧ ∀ n ∈ a, 0 ≤ n ∧ n ≤ 3 := by simp [sigOk, arOk, and_assoc]
theorem F_spec_l1In_eq (x lo hi : Int) : F_spec_l1In x lo hi = some (decide (lo ≤ x) && decide (x ≤ hi)) := by
  unfold F_spec_l1In
  by_cases h1 : lo ≤ x <;> by_cases h2 : x ≤ hi <;> simp [h1, h2]
theorem F_impl_SigOk_eq (a : List Int) : F_impl_SigOk a = some (sigOk a) := by
  unfold F_impl_SigOk
  by_cases h1 : (a.length : Int) < 1
  · have : ¬ 1 ≤ a.length := by omega
    simp [h1, sigOk, this]
  · by_cases h2 : 8 < (a.length : Int)
    · have : ¬ a.length ≤ 8 := by omega
      simp [h1, h2, sigOk, this]
    · have e1 : 1 ≤ a.length := by omega
      have e2 : a.length ≤ 8 := by omega
      simp only [h1, h2, decide_false, Bool.false_eq_true, if_false, sigOk, e1, e2, decide_true, Bool.true_and]
      refine loop_all (fun i x hi hi' _ hx => ?_) (by simp [F_impl_SigOk_l1])
      have hw : IntKind.i64.wrap ((i : Int) + 1) = i + 1 := w64 (by omega) (by omega)
      simp only [F_impl_SigOk_l1, hi', decide_true, if_true, Int.toNat_natCast, hw, show (0 : Int) ≤ i by omega, and_self, arOk, hx]
      by_cases c1 : x < 0
      · simp [c1, show ¬ 0 ≤ x by omega]
      · by_cases c2 : 3 < x
        · simp [c1, c2, show ¬ x ≤ 3 by omega]
        · simp [c1, c2, show 0 ≤ x by omega, show x ≤ 3 by omega]
theorem F_spec_SigOk_eq (a : List Int) : F_spec_SigOk a = some (sigOk a) := by
  unfold F_spec_SigOk
  simp only [F_spec_l1In_eq, Option.bind_some]
  by_cases h : 1 ≤ a.length ∧ a.length ≤ 8
  · have e1 : (1 : Int) ≤ a.length := by omega
    have e2 : (a.length : Int) ≤ 8 := by omega
    simp only [e1, e2, decide_true, Bool.and_self, if_true, sigOk, h.1, h.2, Bool.true_and]
    refine loop_all (fun i x hi hi' _ hx => ?_) (by simp [F_spec_SigOk_l1])
    have hw : IntKind.i64.wrap ((i : Int) + 1) = i + 1 := w64 (by omega) (by omega)
    simp only [F_spec_SigOk_l1, hi', decide_true, if_true, Int.toNat_natCast, hw, show (0 : Int) ≤ i by omega, and_self, arOk, hx, F_spec_l1In_eq, Option.bind_some]
    by_cases h3 : 0 ≤ x <;> by_cases h4 : x ≤ 3 <;> simp [h3, h4]
  · have : (decide ((1 : Int) ≤ a.length) && decide ((a.length : Int) ≤ 8)) = false := by simp; omega
    rw [this]
    have : sigOk a = false := by
      cases hs : sigOk a with
      | false => rfl
      | true => have := sigOk_iff.1 hs; omega
    simp [this]
theorem F_slices_Min_ok {x : List Int} (h0 : 0 < x.length) (hs : Small x) : Okk True (F_slices_Min_int64_int64 x) fun m => ∀ b, b ≤ m ↔ ∀ y ∈ x, b ≤ y := by
  unfold F_slices_Min_int64_int64
  have h1 : ¬ (x.length : Int) < 1 := by omega
  have h2 : (0 : Int) < x.length := by omega
  simp only [h1, h2, decide_false, Bool.false_eq_true, if_false, Int.le_refl, and_self, if_true]
  refine Okk.loop (fun s : Int × Int => ∃ i : Nat, s.2 = (i : Int) ∧ 1 ≤ i ∧ i ≤ x.length ∧ ∀ b, b ≤ s.1 ↔ ∀ y ∈ x.take i, b ≤ y) (fun s : Int × Int => x.length - s.2.toNat) ⟨1, rfl, Nat.le_refl _, by omega, fun b => ?_⟩ ?_
  · cases x with
    | nil => simp at h0
    | cons y x => simp
  · rintro ⟨m, i'⟩ ⟨i, rfl, h3, h4, h5⟩
    simp only [F_slices_Min_int64_int64_l1] at h5 ⊢
    by_cases hi : i < x.length
    · have hi' : (i : Int) < x.length := by omega
      have hw : IntKind.i64.wrap ((i : Int) + 1) = i + 1 := w64 (by omega) (by omega)
      simp only [hi', decide_true, if_true, show (0 : Int) ≤ i by omega, and_self, Int.toNat_natCast, getD_get hi, hw]
      refine .some ⟨⟨i + 1, by simp, by omega, by omega, fun b => ?_⟩, by simp; omega⟩
      rw [List.take_add_one, List.getElem?_eq_getElem hi]
      have := h5 b
      simp only [List.mem_append, Option.toList_some, List.mem_singleton]
      split
      · constructor
        · rintro hb y (hy | rfl)
          · exact (h5 b).1 (by omega) y hy
          · exact hb
        · intro hb; exact hb _ (.inr rfl)
      · constructor
        · rintro hb y (hy | rfl)
          · exact (h5 b).1 hb y hy
          · omega
        · intro hb; exact (h5 b).2 fun y hy => hb y (.inl hy)
    · have hi' : ¬ (i : Int) < x.length := by omega
      simp only [hi', decide_false, Bool.false_eq_true, if_false, Option.map_some]
      refine .some fun b => ?_
      rw [h5 b, List.take_of_length_le (by omega)]
theorem ari_le {a : List Int} (ha : sigOk a = true) (x : Int) : ari a x ≤ 3 := by
  have := (sigOk_iff.1 ha).2.2
  unfold ari
  split
  · omega
  · rw [List.getD_eq_getElem?_getD]
    cases h : a[x.toNat]? with
    | none => simp
    | some y => have := this y (List.mem_of_getElem? h); simp; omega
theorem F_impl_arityAt_eq {a : List Int} (ha : sigOk a = true) {x : Int} (hx : x < a.length) : F_impl_arityAt a x = some (ari a x : Int) := by
  unfold F_impl_arityAt ari
  by_cases h : x < 0
  · simp [h]
  · have h2 : 0 ≤ x := by omega
    simp only [h, decide_false, Bool.false_eq_true, if_false, h2, hx, and_self, if_true]
    have hl : x.toNat < a.length := by omega
    have := (sigOk_iff.1 ha).2.2 _ (getD_mem hl)
    rw [show a.getD x.toNat 0 = a.getD x.toNat default from rfl]
    rw [show ((a.getD x.toNat default).toNat : Int) = a.getD x.toNat default by omega]
theorem F_impl_cursor_next_eq {a t : List Int} (ha : sigOk a = true) (hs : Small t) {i : Nat} (hi : i ≤ t.length) : F_impl_cursor_next a t i =
    some (match t.drop i with | [] => (-1, (i : Int)) | x :: _ => if x < a.length then ((ari a x : Int), (i : Int) + 1) else (-1, i)) := by
  unfold F_impl_cursor_next
  by_cases h : i < t.length
  · have h1 : ¬ (t.length : Int) ≤ i := by omega
    have h2 : (i : Int) < t.length := by omega
    have hw : IntKind.i64.wrap ((i : Int) + 1) = i + 1 := w64 (by omega) (by omega)
    have hw2 : IntKind.i64.wrap ((i : Int) + 1 - 1) = i := by rw [w64 (by omega) (by omega)]; omega
    rw [List.drop_eq_getElem_cons h]
    simp only [h1, h2, decide_false, Bool.false_eq_true, if_false, show (0 : Int) ≤ i by omega, and_self, if_true, Int.toNat_natCast, getD_get h, hw, hw2]
    by_cases h3 : t[i] < a.length
    · have h4 : ¬ (a.length : Int) ≤ t[i] := by omega
      simp [h3, h4, F_impl_arityAt_eq ha h3]
    · have h4 : (a.length : Int) ≤ t[i] := by omega
      simp [h3, h4]
  · have h1 : (t.length : Int) ≤ i := by omega
    rw [List.drop_of_length_le (by omega)]
    simp [h1]
theorem skip_drop {a t : List Int} {i k : Nat} (h : i < t.length) : Tm.skip a (t.drop i) (k + 1) = if okx a (t[i]) then Tm.skip a (t.drop (i + 1)) (k + ari a t[i]) else none := by
  rw [List.drop_eq_getElem_cons h, skip_cons]
def endI (a t : List Int) (i : Nat) : Int := match Tm.skip a (t.drop i) 1 with | some r => (t.length : Int) - r.length | none => -1
theorem skip_len {a : List Int} : ∀ {t r : List Int} {k : Nat}, Tm.skip a t k = some r → r.length + k ≤ t.length := by
  intro t r k h
  obtain ⟨u, rfl, hu⟩ := skip_split h
  have := hu.len
  simp; omega
theorem F_impl_endAt_eq {a t : List Int} (ha : sigOk a = true) (hs : Small t) (hm : ∀ x ∈ t, -24 ≤ x) {i : Nat} (hi : i ≤ t.length) : F_impl_endAt a t i = some (endI a t i) := by
  have key : Okk True (F_impl_cursor_skip a t i) fun r => match Tm.skip a (t.drop i) 1 with | some q => r = (true, (t.length : Int) - q.length) | none => r.1 = false := by
    unfold F_impl_cursor_skip
    refine Okk.loop (fun s => ∃ (k c : Nat), s = ((k : Int), (c : Int)) ∧ c ≤ t.length ∧ k ≤ 1 + 3 * c ∧ Tm.skip a (t.drop c) k = Tm.skip a (t.drop i) 1) (fun s => t.length - s.2.toNat) ⟨1, i, rfl, hi, by omega, rfl⟩ ?_
    rintro _ ⟨k, c, rfl, h1, h2, h3⟩
    simp only [F_impl_cursor_skip_l1]
    cases k with
    | zero =>
      simp only [show ¬ (0 : Int) < ((0 : Nat) : Int) by omega, decide_false, Bool.false_eq_true, if_false, Option.map_some]
      refine .some ?_
      simp only [Rnd]
      rw [← h3, skip_zero]
      simp; omega
    | succ k =>
      simp only [show (0 : Int) < ((k + 1 : Nat) : Int) by omega, decide_true, if_true, F_impl_cursor_next_eq ha hs h1, Option.bind_some]
      by_cases hc : c < t.length
      · rw [List.drop_eq_getElem_cons hc]
        rw [skip_drop hc] at h3
        simp only
        have hx := hm _ (List.getElem_mem hc)
        by_cases hlt : t[c] < a.length
        · have ho : okx a t[c] := ⟨hx, hlt⟩
          rw [if_pos ho] at h3
          have hle := ari_le ha t[c]
          simp only [hlt, if_true, show ¬ ((ari a t[c] : Nat) : Int) < 0 by omega, decide_false, Bool.false_eq_true, if_false]
          have hw1 : IntKind.i64.wrap (((k + 1 : Nat) : Int) + (ari a t[c] : Int)) = (k + 1 : Nat) + ari a t[c] := w64 (by omega) (by omega)
          rw [hw1, w64 (by omega) (by omega)]
          refine .some ⟨⟨k + ari a t[c], c + 1, by simp; omega, by omega, by omega, h3⟩, by simp; omega⟩
        · have ho : ¬ okx a t[c] := fun h => hlt h.2
          rw [if_neg ho] at h3
          simp only [hlt, if_false, show (-1 : Int) < 0 by omega, decide_true, if_true, Option.map_some]
          refine .some ?_
          simp only [Rnd]
          rw [← h3]; trivial
      · rw [List.drop_of_length_le (by omega), skip_nil] at h3
        rw [List.drop_of_length_le (by omega)]
        simp only [show (-1 : Int) < 0 by omega, decide_true, if_true, Option.map_some]
        refine .some ?_
        simp only [Rnd]
        rw [← h3]; trivial
  unfold F_impl_endAt
  obtain ⟨r, h1, h2⟩ := key.get
  rw [h1, Option.bind_some]
  unfold endI
  cases h : Tm.skip a (t.drop i) 1 with
  | none => rw [h] at h2; simp only at h2; simp [h2]
  | some q => rw [h] at h2; simp only at h2; simp [h2]
def termOk (a t : List Int) : Bool := sigOk a && (decide (1 ≤ t.length) && decide (t.length ≤ 60)) && decide (Wf a 1 t)
theorem termOk_iff {a t : List Int} : termOk a t = true ↔ sigOk a = true ∧ 1 ≤ t.length ∧ t.length ≤ 60 ∧ Wf a 1 t := by simp [termOk, and_assoc]
theorem endI_wf {a t : List Int} : endI a t 0 = (t.length : Int) ↔ Wf a 1 t := by
  unfold endI Wf
  rw [List.drop_zero]
  cases h : Tm.skip a t 1 with
  | none =>
    simp only [reduceCtorEq, iff_false]
    try omega
  | some q =>
    simp only [Option.some.injEq]
    constructor
    · intro h; exact List.length_eq_zero_iff.1 (by omega)
    · rintro rfl; simp
theorem F_impl_TermOk_eq (a t : List Int) : F_impl_TermOk a t = some (termOk a t) := by
  unfold F_impl_TermOk termOk
  rw [F_impl_SigOk_eq, Option.bind_some]
  cases ha : sigOk a with
  | false => simp
  | true =>
    simp only [if_true, Bool.true_and]
    by_cases h1 : 1 ≤ t.length
    · by_cases h2 : t.length ≤ 60
      · have e1 : (0 : Int) < t.length := by omega
        have e2 : (t.length : Int) ≤ 60 := by omega
        simp only [e1, e2, h1, h2, decide_true, if_true, Bool.and_self, Bool.true_and]
        obtain ⟨m, h3, h4⟩ := (F_slices_Min_ok (x := t) (by omega) (show t.length < _ by omega)).get
        rw [h3, Option.bind_some]
        by_cases h5 : -24 ≤ m
        · simp only [h5, decide_true, if_true]
          have := F_impl_endAt_eq ha (show t.length < _ by omega) ((h4 _).1 h5) (i := 0) (by omega)
          rw [show ((0 : Nat) : Int) = 0 by rfl] at this
          rw [this, Option.bind_some]
          by_cases hw : Wf a 1 t
          · simp [hw, endI_wf.2 hw]
          · have := mt endI_wf.1 hw
            simp [hw, this]
        · have hw : ¬ Wf a 1 t := fun hw => h5 ((h4 _).2 fun y hy => (hw.all y hy).1)
          simp [h5, hw]
      · have e2 : ¬ (t.length : Int) ≤ 60 := by omega
        have e1 : (0 : Int) < t.length := by omega
        simp [e1, e2, h2]
    · have e1 : ¬ (0 : Int) < t.length := by omega
      simp only [e1, h1, decide_false, Bool.false_eq_true, if_false, Bool.false_and]
theorem F_spec_l1Arity_eq {a : List Int} (ha : sigOk a = true) (x : Int) : F_spec_l1Arity a x = some (if okx a x then (ari a x : Int) else -1) := by
  have hl := (sigOk_iff.1 ha).2.1
  unfold F_spec_l1Arity
  simp only [F_spec_l1In_eq, Option.bind_some, w64 (n := (a.length : Int) - 1) (by omega) (by omega)]
  by_cases h1 : -24 ≤ x
  · by_cases h2 : x ≤ -1
    · simp [h1, h2, okx, ari, show x < 0 by omega, show x < (a.length : Int) by omega]
    · by_cases h3 : x < a.length
      · have hx : x.toNat < a.length := by omega
        have := (sigOk_iff.1 ha).2.2 _ (getD_mem hx)
        simp only [h1, h2, h3, okx, show 0 ≤ x by omega, show x ≤ (a.length : Int) - 1 by omega, decide_true, decide_false, Bool.and_false, Bool.and_self, Bool.false_eq_true, if_false, and_self, if_true, ari, show ¬ x < 0 by omega]
        rw [show a.getD x.toNat 0 = a.getD x.toNat default from rfl]
        rw [show ((a.getD x.toNat default).toNat : Int) = a.getD x.toNat default by omega]
      · simp [h1, h2, h3, okx, show ¬ x ≤ (a.length : Int) - 1 by omega]
  · simp [h1, okx, show ¬ 0 ≤ x by omega]
theorem F_spec_l1End_eq {a t : List Int} (ha : sigOk a = true) (hs : Small t) {i : Nat} (hi : i ≤ t.length) : F_spec_l1End a t i = some (endI a t i) := by
  have key : Okk True (F_spec_l1End a t i) (· = endI a t i) := by
    unfold F_spec_l1End
    refine Okk.loop (fun s : Int × Int => ∃ (k c : Nat), s = (((k + 1 : Nat) : Int), (c : Int)) ∧ c ≤ t.length ∧ k ≤ 3 * c ∧ Tm.skip a (t.drop c) (k + 1) = Tm.skip a (t.drop i) 1) (fun s : Int × Int => t.length - s.2.toNat) ⟨0, i, rfl, hi, by omega, rfl⟩ ?_
    rintro _ ⟨k, c, rfl, h1, h2, h3⟩
    simp only [F_spec_l1End_l1]
    by_cases hc : c < t.length
    · rw [skip_drop hc] at h3
      have hc' : (c : Int) < t.length := by omega
      simp only [hc', decide_true, if_true, show (0 : Int) ≤ c by omega, and_self, Int.toNat_natCast, getD_get hc, F_spec_l1Arity_eq ha, Option.bind_some]
      have hle := ari_le ha t[c]
      by_cases ho : okx a t[c]
      · rw [if_pos ho] at h3
        simp only [ho, if_true, show ¬ ((ari a t[c] : Nat) : Int) < 0 by omega, decide_false, Bool.false_eq_true, if_false]
        rw [w64 (n := ((k + 1 : Nat) : Int) + (ari a t[c] : Int)) (by omega) (by omega), w64 (n := ((k + 1 : Nat) : Int) + (ari a t[c] : Int) - 1) (by omega) (by omega), w64 (n := (c : Int) + 1) (by omega) (by omega)]
        cases hk : k + ari a t[c] with
        | zero =>
          rw [hk, skip_zero] at h3
          have : (((k + 1 : Nat) : Int) + (ari a t[c] : Int) - 1 == 0) = true := by simp; omega
          simp only [this, if_true, Option.map_some]
          refine .some ?_
          simp only [Rnd, endI]
          rw [← h3]
          simp; omega
        | succ q =>
          have : ¬ (((k + 1 : Nat) : Int) + (ari a t[c] : Int) - 1 == 0) = true := by simp; omega
          simp only [this, if_false]
          refine .some ⟨⟨q, c + 1, by simp; omega, by omega, by omega, by rw [← hk]; exact h3⟩, by simp; omega⟩
      · rw [if_neg ho] at h3
        simp only [ho, if_false, show (-1 : Int) < 0 by omega, decide_true, if_true, Option.map_some]
        refine .some ?_
        simp only [Rnd, endI]
        rw [← h3]
    · have hc' : ¬ (c : Int) < t.length := by omega
      rw [List.drop_of_length_le (by omega), skip_nil] at h3
      simp only [hc', decide_false, Bool.false_eq_true, if_false, Option.map_some]
      refine .some ?_
      simp only [Rnd, endI]
      rw [← h3]
  exact key.eq
theorem F_spec_TermOk_eq (a t : List Int) : F_spec_TermOk a t = some (termOk a t) := by
  unfold F_spec_TermOk termOk
  rw [F_spec_SigOk_eq, Option.bind_some]
  cases ha : sigOk a with
  | false => simp
  | true =>
    simp only [if_true, Bool.true_and, F_spec_l1In_eq, Option.bind_some]
    have e : (decide ((1 : Int) ≤ t.length) && decide ((t.length : Int) ≤ 60)) = (decide (1 ≤ t.length) && decide (t.length ≤ 60)) := by
      congr 1 <;> exact decide_eq_decide.2 (by omega)
    rw [e]
    by_cases h : 1 ≤ t.length ∧ t.length ≤ 60
    · simp only [h.1, h.2, decide_true, Bool.and_self, if_true, Bool.true_and]
      have := F_spec_l1End_eq ha (show Small t by show t.length < _; omega) (i := 0) (by omega)
      rw [show ((0 : Nat) : Int) = 0 by rfl] at this
      rw [this, Option.bind_some]
      by_cases hw : Wf a 1 t
      · simp [hw, endI_wf.2 hw]
      · have := mt endI_wf.1 hw
        simp [hw, this]
    · have : (decide (1 ≤ t.length) && decide (t.length ≤ 60)) = false := by simp; omega
      simp [this]
theorem F_slices_Contains_eq {s : List Int} (hs : Small s) (v : Int) : F_slices_Contains_int64_int64 s v = some (decide (v ∈ s)) := by
  have key : Okk True (F_slices_Index_int64_int64 s v) fun r => 0 ≤ r ↔ v ∈ s := by
    unfold F_slices_Index_int64_int64
    refine Okk.loop (fun i' : Int => ∃ i : Nat, i' = i ∧ i ≤ s.length ∧ v ∉ s.take i) (fun i' : Int => s.length - i'.toNat) ⟨0, rfl, by omega, by simp⟩ ?_
    rintro _ ⟨i, rfl, h1, h2⟩
    simp only [F_slices_Index_int64_int64_l1]
    by_cases hi : i < s.length
    · have hi' : (i : Int) < s.length := by omega
      simp only [hi', decide_true, if_true, show (0 : Int) ≤ i by omega, and_self, Int.toNat_natCast, getD_get hi, w64 (n := (i : Int) + 1) (by omega) (by omega)]
      by_cases hv : v = s[i]
      · simp only [hv, beq_self_eq_true, if_true, Option.map_some]
        refine .some ?_
        simp only [Rnd]
        exact ⟨fun _ => List.getElem_mem hi, fun _ => by omega⟩
      · have : ¬ (v == s[i]) = true := by simpa using hv
        simp only [this, if_false]
        refine .some ⟨⟨i + 1, by simp, by omega, ?_⟩, by simp; omega⟩
        rw [List.take_add_one, List.getElem?_eq_getElem hi, List.mem_append]
        rintro (h | h)
        · exact h2 h
        · exact hv (by simpa using h)
    · have hi' : ¬ (i : Int) < s.length := by omega
      simp only [hi', decide_false, Bool.false_eq_true, if_false, Option.map_some]
      refine .some ?_
      rw [List.take_of_length_le (by omega)] at h2
      simp only [Rnd]
      exact ⟨fun h => by omega, fun h => absurd h h2⟩
  unfold F_slices_Contains_int64_int64
  obtain ⟨r, h1, h2⟩ := key.get
  rw [h1, Option.bind_some]
  congr 1
  exact decide_eq_decide.2 h2
theorem F_spec_l1Has_eq {s : List Int} (hs : Small s) (v : Int) : F_spec_l1Has s v = some (decide (v ∈ s)) := by
  unfold F_spec_l1Has
  rw [loop_any (xs := s) (p := fun x => x == v) (y := true) (n := false) (fun i x hi hi' _ hx => ?_) (by simp [F_spec_l1Has_l1])]
  · congr 1
    by_cases h : v ∈ s
    · have : s.any (fun x => x == v) = true := List.any_eq_true.2 ⟨v, h, by simp⟩
      simp [this, h]
    · have : s.any (fun x => x == v) = false := by
        rw [List.any_eq_false]
        intro x hx he
        have : x = v := by simpa using he
        subst this; exact h hx
      simp [this, h]
  · simp only [F_spec_l1Has_l1, hi', decide_true, if_true, Int.toNat_natCast, show (0 : Int) ≤ i by omega, and_self, hx, w64 (n := (i : Int) + 1) (by have := hs; omega) (by have := hs; omega)]
    by_cases h : (x == v) = true
    · simp [h]
    · simp [h]
def varIn (l : List Int) (x : Int) : Bool := decide (x < 0 → x ∈ l)
def ruleOk (a : List Int) (r : List Int × List Int) : Bool := termOk a r.1 && (termOk a r.2 && (decide (0 ≤ r.1.headD 0) && r.2.all (varIn r.1)))
def sysOk (s : List Int × List (List Int × List Int)) : Bool := sigOk s.1 && (decide (s.2.length ≤ 12) && s.2.all (ruleOk s.1))
theorem headD_getD {l : List Int} (h : 0 < l.length) : l.getD 0 default = l.headD 0 := by cases l with | nil => simp at h | cons x l => rfl
theorem F_impl_RuleOk_eq (a : List Int) (r : List Int × List Int) : F_impl_RuleOk a r = some (ruleOk a r) := by
  unfold F_impl_RuleOk ruleOk
  rw [F_impl_TermOk_eq, F_impl_TermOk_eq, Option.bind_some]
  cases h1 : termOk a r.1 with
  | false => simp
  | true =>
    rw [Option.bind_some]
    cases h2 : termOk a r.2 with
    | false => simp
    | true =>
      have e1 := termOk_iff.1 h1
      have e2 := termOk_iff.1 h2
      have e3 : (0 : Int) < r.1.length := by omega
      simp only [if_true, Int.le_refl, e3, and_self, Bool.true_and, and_true]
      rw [headD_getD (by omega)]
      by_cases h3 : r.1.headD 0 < 0
      · simp [-List.headD_eq_head?_getD, h3, show ¬ 0 ≤ r.1.headD 0 by omega]
      · simp only [h3, decide_false, Bool.false_eq_true, if_false, show 0 ≤ r.1.headD 0 by omega, decide_true, Bool.true_and]
        refine loop_all (fun i x hi hi' _ hx => ?_) (by simp [F_impl_RuleOk_l1])
        simp only [F_impl_RuleOk_l1, hi', decide_true, if_true, Int.toNat_natCast, show (0 : Int) ≤ i by omega, and_self, hx, w64 (n := (i : Int) + 1) (by omega) (by omega), varIn,
          F_slices_Contains_eq (show Small r.1 by show r.1.length < _; omega), Option.bind_some]
        by_cases h4 : x < 0 <;> by_cases h5 : x ∈ r.1 <;> simp [h4, h5]
theorem F_spec_RuleOk_eq (a : List Int) (r : List Int × List Int) : F_spec_RuleOk a r = some (ruleOk a r) := by
  unfold F_spec_RuleOk ruleOk
  rw [F_spec_TermOk_eq, F_spec_TermOk_eq, Option.bind_some]
  cases h1 : termOk a r.1 with
  | false => simp
  | true =>
    rw [Option.bind_some]
    cases h2 : termOk a r.2 with
    | false => simp
    | true =>
      have e1 := termOk_iff.1 h1
      have e2 := termOk_iff.1 h2
      have e3 : (0 : Int) < r.1.length := by omega
      simp only [if_true, Int.le_refl, e3, and_self, Bool.true_and, and_true]
      rw [headD_getD (by omega)]
      by_cases h3 : r.1.headD 0 < 0
      · simp [-List.headD_eq_head?_getD, h3, show ¬ 0 ≤ r.1.headD 0 by omega]
      · simp only [h3, decide_false, Bool.false_eq_true, if_false, show 0 ≤ r.1.headD 0 by omega, decide_true, Bool.true_and]
        refine loop_all (fun i x hi hi' _ hx => ?_) (by simp [F_spec_RuleOk_l1])
        simp only [F_spec_RuleOk_l1, hi', decide_true, if_true, Int.toNat_natCast, show (0 : Int) ≤ i by omega, and_self, hx, w64 (n := (i : Int) + 1) (by omega) (by omega), varIn,
          F_spec_l1Has_eq (show Small r.1 by show r.1.length < _; omega), Option.bind_some]
        by_cases h4 : x < 0 <;> by_cases h5 : x ∈ r.1 <;> simp [h4, h5]
theorem F_impl_SystemOk_eq (s : List Int × List (List Int × List Int)) : F_impl_SystemOk s = some (sysOk s) := by
  unfold F_impl_SystemOk sysOk
  rw [F_impl_SigOk_eq, Option.bind_some]
  cases h1 : sigOk s.1 with
  | false => simp
  | true =>
    by_cases h2 : 12 < (s.2.length : Int)
    · simp [h2, show ¬ s.2.length ≤ 12 by omega]
    · simp only [if_true, h2, decide_false, Bool.false_eq_true, if_false, Bool.true_and, show s.2.length ≤ 12 by omega, decide_true]
      refine loop_all (fun i x hi hi' _ hx => ?_) (by simp [F_impl_SystemOk_l1])
      simp only [F_impl_SystemOk_l1, hi', decide_true, if_true, Int.toNat_natCast, show (0 : Int) ≤ i by omega, and_self, hx, w64 (n := (i : Int) + 1) (by omega) (by omega), F_impl_RuleOk_eq, Option.bind_some]
      cases ruleOk s.1 x <;> simp
theorem F_spec_SystemOk_eq (s : List Int × List (List Int × List Int)) : F_spec_SystemOk s = some (sysOk s) := by
  unfold F_spec_SystemOk sysOk
  rw [F_spec_SigOk_eq, Option.bind_some]
  cases h1 : sigOk s.1 with
  | false => simp
  | true =>
    by_cases h2 : 12 < (s.2.length : Int)
    · simp [h2, show ¬ s.2.length ≤ 12 by omega]
    · simp only [if_true, h2, decide_false, Bool.false_eq_true, if_false, Bool.true_and, show s.2.length ≤ 12 by omega, decide_true]
      refine loop_all (fun i x hi hi' _ hx => ?_) (by simp [F_spec_SystemOk_l1])
      simp only [F_spec_SystemOk_l1, hi', decide_true, if_true, Int.toNat_natCast, show (0 : Int) ≤ i by omega, and_self, hx, w64 (n := (i : Int) + 1) (by omega) (by omega), F_spec_RuleOk_eq, Option.bind_some]
      cases ruleOk s.1 x <;> simp
theorem getD_ext {s t : List Int} (hl : s.length = t.length) : (s == t) = decide (∀ i < s.length, s.getD i default = t.getD i default) := by
  have : (s == t) = decide (s = t) := by by_cases h : s = t <;> simp [h]
  rw [this]
  refine decide_eq_decide.2 ⟨fun h => by subst h; simp, fun h => ?_⟩
  refine List.ext_getElem hl fun i h1 h2 => ?_
  have := h i h1
  rwa [getD_get h1, getD_get h2] at this
theorem loop_eq {s t : List Int} (hs : Small s) (hl : s.length = t.length) {f : Int → Option (Int ⊕ Bool)}
    (h : ∀ i : Nat, i < s.length → f i = some (if s.getD i default = t.getD i default then .inl ((i : Int) + 1) else .inr false)) (he : f s.length = some (.inr true)) : loopC f 0 = some (s == t) := by
  have key : Okk True (loopC f 0) fun r => r = decide (∀ i < s.length, s.getD i default = t.getD i default) := by
    refine Okk.loop (fun i' : Int => ∃ i : Nat, i' = i ∧ i ≤ s.length ∧ ∀ j < i, s.getD j default = t.getD j default) (fun i' : Int => s.length - i'.toNat) ⟨0, rfl, by omega, by omega⟩ ?_
    rintro _ ⟨i, rfl, h1, h2⟩
    by_cases hi : i < s.length
    · rw [h i hi]
      by_cases e : s.getD i default = t.getD i default
      · rw [if_pos e]
        refine .some ⟨⟨i + 1, by simp, by omega, fun j hj => ?_⟩, by simp; omega⟩
        rcases Nat.lt_or_ge j i with h3 | h3
        · exact h2 j h3
        · obtain rfl : j = i := by omega
          exact e
      · rw [if_neg e]
        refine .some ?_
        simp only [Rnd]
        exact (decide_eq_false fun h => e (h i hi)).symm
    · obtain rfl : i = s.length := by omega
      rw [he]
      refine .some ?_
      simp only [Rnd]
      exact (decide_eq_true h2).symm
  rw [getD_ext hl]
  obtain ⟨r, h1, h2⟩ := key.get
  rw [h1, h2]
theorem F_slices_Equal_eq {s t : List Int} (hs : Small s) : F_slices_Equal_int64_int64 s t = some (s == t) := by
  unfold F_slices_Equal_int64_int64
  by_cases hl : s.length = t.length
  · have : ¬ ((s.length : Int) != (t.length : Int)) = true := by simp; omega
    rw [if_neg this]
    refine loop_eq hs hl (fun i hi => ?_) (by simp [F_slices_Equal_int64_int64_l1])
    simp only [F_slices_Equal_int64_int64_l1, show (i : Int) < s.length by omega, show (i : Int) < t.length by omega, decide_true, if_true, show (0 : Int) ≤ i by omega, and_self, Int.toNat_natCast,
      w64 (n := (i : Int) + 1) (by have := hs; omega) (by have := hs; omega)]
    by_cases e : s.getD i default = t.getD i default
    · simp only [e, bne_self_eq_false, Bool.false_eq_true, if_false, if_true]
    · have : (s.getD i default != t.getD i default) = true := by simpa using e
      simp only [this, e, if_true, if_false, Option.map_some]
  · have : ((s.length : Int) != (t.length : Int)) = true := by simp; omega
    rw [if_pos this]
    congr 1
    symm
    rw [beq_eq_false_iff_ne]
    rintro rfl; exact hl rfl
theorem F_spec_SameTerm_eq {s t : List Int} (hs : Small s) : F_spec_SameTerm s t = some (s == t) := by
  unfold F_spec_SameTerm
  by_cases hl : s.length = t.length
  · have : ¬ ((s.length : Int) != (t.length : Int)) = true := by simp; omega
    rw [if_neg this]
    refine loop_eq hs hl (fun i hi => ?_) (by simp [F_spec_SameTerm_l1])
    simp only [F_spec_SameTerm_l1, show (i : Int) < s.length by omega, show (i : Int) < t.length by omega, decide_true, if_true, show (0 : Int) ≤ i by omega, and_self, Int.toNat_natCast,
      w64 (n := (i : Int) + 1) (by have := hs; omega) (by have := hs; omega)]
    by_cases e : s.getD i default = t.getD i default
    · simp only [e, bne_self_eq_false, Bool.false_eq_true, if_false, if_true]
    · have : (s.getD i default != t.getD i default) = true := by simpa using e
      simp only [this, e, if_true, if_false, Option.map_some]
  · have : ((s.length : Int) != (t.length : Int)) = true := by simp; omega
    rw [if_pos this]
    congr 1
    symm
    rw [beq_eq_false_iff_ne]
    rintro rfl; exact hl rfl
theorem F_spec_l1Copy_eq {l : List Int} (hs : Small l) : F_spec_l1Copy l = some l := by
  unfold F_spec_l1Copy; rw [if_pos (by have := hs; omega)]
theorem F_slices_Clone_eq {l : List Int} (hs : Small l) : F_slices_Clone_int64_int64 l = some l := by
  unfold F_slices_Clone_int64_int64
  refine (Okk.amb (t := True) (P := (· = l)) ?_ fun h => ?_).eq
  · rw [if_pos (by have := hs; omega)]; exact .some rfl
  · subst h; simp
theorem endI_app {a t u r : List Int} {i : Nat} (h : t.drop i = u ++ r) (hu : Wf a 1 u) : endI a t i = (t.length : Int) - r.length := by
  unfold endI; rw [h, hu.skip]
theorem take_sub {t u r : List Int} {i : Nat} (h : t.drop i = u ++ r) (hi : i ≤ t.length) : (t.take (t.length - r.length)).drop i = u := by
  have hl := congrArg List.length h
  simp at hl
  rw [List.drop_take, h, List.take_append_of_le_length (by omega), List.take_of_length_le (by omega)]
theorem F_impl_subAt_eq {a t u r : List Int} (ha : sigOk a = true) (hs : Small t) (hm : ∀ x ∈ t, -24 ≤ x) {i : Nat} (h : t.drop i = u ++ r) (hu : Wf a 1 u) : F_impl_subAt a t i = some u := by
  have hl := congrArg List.length h
  have hul := hu.len
  simp at hl
  have hi : i ≤ t.length := by omega
  unfold F_impl_subAt
  rw [F_impl_endAt_eq ha hs hm hi, Option.bind_some, endI_app h hu, if_pos (by omega), show ((t.length : Int) - r.length).toNat = t.length - r.length by omega, Int.toNat_natCast, take_sub h hi]
theorem F_spec_l1Sub_eq {a t u r : List Int} (ha : sigOk a = true) (hs : Small t) {i : Nat} (h : t.drop i = u ++ r) (hu : Wf a 1 u) : F_spec_l1Sub a t i = some u := by
  have hl := congrArg List.length h
  have hul := hu.len
  simp at hl
  have hi : i ≤ t.length := by omega
  unfold F_spec_l1Sub
  rw [F_spec_l1End_eq ha hs hi, Option.bind_some, endI_app h hu, if_pos (by omega), show ((t.length : Int) - r.length).toNat = t.length - r.length by omega, Int.toNat_natCast, take_sub h hi,
    F_spec_l1Copy_eq (by show u.length < _; have := hs; omega)]
  rfl
def encB (o : Option Bd) (r : Bd × Bool) : Prop := match o with | some b => r = (b, true) | none => r.2 = false
structure MSt (a p t : List Int) (b0 b : Bd) (i c : Nat) : Prop where
  hi : i ≤ p.length
  hc : c ≤ t.length
  hb : b.length = 24
  hsm : ∀ u ∈ b, u.length ≤ 60
  k : ∃ k, Wf a k (p.drop i) ∧ Wf a k (t.drop c)
  m : mat a (p.drop i) (t.drop c) b = mat a p t b0
theorem MSt.var {a p t : List Int} {b0 b : Bd} {i c : Nat} (h : MSt a p t b0 b i c) (hi : i < p.length) (hn : p[i] < 0) : ∃ u r, t.drop c = u ++ r ∧ Wf a 1 u ∧ c + u.length ≤ t.length ∧ okx a p[i] ∧
    mat a p t b0 = (if bget b p[i] = [] then mat a (p.drop (i + 1)) (t.drop (c + u.length)) (bset b p[i] u) else if bget b p[i] = u then mat a (p.drop (i + 1)) (t.drop (c + u.length)) b else none) ∧
    ∃ k, Wf a k (p.drop (i + 1)) ∧ Wf a k (t.drop (c + u.length)) := by
  obtain ⟨k, h1, h2⟩ := h.k
  rw [List.drop_eq_getElem_cons hi] at h1
  cases k with
  | zero => have := h1.zero; cases this
  | succ k =>
    obtain ⟨ho, h1⟩ := Wf.cons_iff.1 h1
    rw [show k + 1 = 1 + k by omega] at h2
    obtain ⟨u, r, e, hu, hr⟩ := h2.split
    have hr' : t.drop (c + u.length) = r := by rw [← List.drop_drop, e, List.drop_left]
    have hl := congrArg List.length e
    simp at hl
    have := hu.len
    refine ⟨u, r, e, hu, by omega, ho, ?_, k, ?_, by rw [hr']; exact hr⟩
    · rw [← h.m, List.drop_eq_getElem_cons hi, e, mat_var hn hu, hr']
    · have ha : ari a p[i] = 0 := by simp [ari, hn]
      rwa [ha, Nat.add_zero] at h1
theorem MSt.sym {a p t : List Int} {b0 b : Bd} {i c : Nat} (h : MSt a p t b0 b i c) (hi : i < p.length) (hn : ¬ p[i] < 0) : ∃ hc : c < t.length, okx a p[i] ∧ mat a p t b0 = (if t[c] = p[i] then mat a (p.drop (i + 1)) (t.drop (c + 1)) b else none) ∧
    (t[c] = p[i] → ∃ k, Wf a k (p.drop (i + 1)) ∧ Wf a k (t.drop (c + 1))) := by
  obtain ⟨k, h1, h2⟩ := h.k
  rw [List.drop_eq_getElem_cons hi] at h1
  cases k with
  | zero => have := h1.zero; cases this
  | succ k =>
    obtain ⟨ho, h1⟩ := Wf.cons_iff.1 h1
    have hc : c < t.length := by
      rcases Nat.lt_or_ge c t.length with h | h
      · exact h
      · rw [List.drop_of_length_le h] at h2; have := h2.len; simp at this
    rw [List.drop_eq_getElem_cons hc] at h2
    obtain ⟨ho', h2⟩ := Wf.cons_iff.1 h2
    refine ⟨hc, ho, ?_, fun e => ⟨k + ari a p[i], h1, by rw [← e]; exact h2⟩⟩
    rw [← h.m, List.drop_eq_getElem_cons hi, List.drop_eq_getElem_cons hc, mat_sym hn]
theorem MSt.at_lt {a p t : List Int} {b0 b : Bd} {i c : Nat} (h : MSt a p t b0 b i c) (hi : i < p.length) : c < t.length := by
  obtain ⟨k, h1, h2⟩ := h.k
  rw [List.drop_eq_getElem_cons hi] at h1
  cases k with
  | zero => have := h1.zero; cases this
  | succ k =>
    rcases Nat.lt_or_ge c t.length with h | h
    · exact h
    · rw [List.drop_of_length_le h] at h2; have := h2.len; simp at this
theorem bset_small {b : Bd} {n : Int} {u : List Int} (hs : ∀ u ∈ b, u.length ≤ 60) (hu : u.length ≤ 60) : ∀ v ∈ bset b n u, v.length ≤ 60 := fun v hv => by
  rcases List.mem_or_eq_of_mem_set hv with h | h
  · exact hs v h
  · subst h; exact hu
theorem bget_small {b : Bd} {n : Int} (hs : ∀ u ∈ b, u.length ≤ 60) : (bget b n).length ≤ 60 := by
  unfold bget
  rw [List.getD_eq_getElem?_getD]
  cases h : b[(-1 - n).toNat]? with
  | none => simp
  | some u => exact hs u (List.mem_of_getElem? h)
theorem F_impl_matchInto_ok {a p t : List Int} {b0 : Bd} (ha : sigOk a = true) (hp : Wf a 1 p) (ht : Wf a 1 t) (hpl : p.length ≤ 60) (htl : t.length ≤ 60) (hb : b0.length = 24) (hbs : ∀ u ∈ b0, u.length ≤ 60) :
    Okk True (F_impl_matchInto a p t b0) (fun r => encB (mat a p t b0) r ∧ r.1.length = 24) := by
  unfold F_impl_matchInto
  refine Okk.loop (fun s : Int × Int × Bd => ∃ i c : Nat, s.1 = (c : Int) ∧ s.2.1 = (i : Int) ∧ MSt a p t b0 s.2.2 i c) (fun s : Int × Int × Bd => p.length - s.2.1.toNat)
    ⟨0, 0, rfl, rfl, by omega, by omega, hb, hbs, ⟨1, by simpa using hp, by simpa using ht⟩, by simp⟩ ?_
  rintro ⟨_, _, b⟩ ⟨i, c, rfl, rfl, h⟩
  simp only at h
  have hb := h.hb
  simp only [F_impl_matchInto_l1]
  by_cases hi : i < p.length
  · have hc := h.at_lt hi
    simp only [show (i : Int) < p.length by omega, show ¬ (t.length : Int) ≤ c by omega, decide_true, decide_false, if_true, show (0 : Int) ≤ i by omega, show (0 : Int) ≤ c by omega, show (c : Int) < t.length by omega, and_self,
      Bool.false_eq_true, if_false, Int.toNat_natCast, getD_get hi, getD_get hc, w64 (n := (i : Int) + 1) (by omega) (by omega), w64 (n := (c : Int) + 1) (by omega) (by omega)]
    by_cases hn : p[i] < 0
    · obtain ⟨u, r, e, hu, hl, ho, hm, hk⟩ := h.var hi hn
      have hul := hu.len
      have hx : -24 ≤ p[i] := ho.1
      have hlt : (-1 - p[i]).toNat < b.length := by omega
      simp only [show ¬ 0 ≤ p[i] by omega, decide_false, Bool.false_eq_true, if_false, F_impl_subAt_eq ha (show Small t by show t.length < _; omega) (fun x hx => (ht.all x hx).1) e hu, Option.bind_some,
        w64 (n := -1 - p[i]) (by omega) (by omega), show 0 ≤ -1 - p[i] by omega, show -1 - p[i] < 24 by omega, show -1 - p[i] < (b.length : Int) by omega, and_self, if_true, hb, show ((-1 : Int) - p[i] < ((24 : Nat) : Int)) by omega,
        w64 (n := (c : Int) + u.length) (by omega) (by omega)]
      have eg : b.getD (-1 - p[i]).toNat default = bget b p[i] := rfl
      rw [eg]
      by_cases h0 : bget b p[i] = []
      · rw [if_pos h0] at hm
        simp only [h0, List.isEmpty_nil, if_true, show 0 < u.length by omega]
        exact .some ⟨⟨i + 1, c + u.length, by simp, by simp, by omega, by omega, by simpa using hb, bset_small h.hsm (by omega), hk, by rw [hm]; rfl⟩, by simp; omega⟩
      · rw [if_neg h0] at hm
        have : ¬ (bget b p[i]).isEmpty = true := by simpa using h0
        simp only [this, if_false, F_slices_Equal_eq (show Small (bget b p[i]) by show List.length _ < _; have := bget_small (n := p[i]) h.hsm; omega), Option.bind_some]
        by_cases h1 : bget b p[i] = u
        · rw [if_pos h1] at hm
          simp only [h1, beq_self_eq_true, if_true]
          exact .some ⟨⟨i + 1, c + u.length, by simp, by simp, by omega, by omega, hb, h.hsm, hk, hm.symm⟩, by simp; omega⟩
        · rw [if_neg h1] at hm
          have : ¬ (bget b p[i] == u) = true := by simpa using h1
          simp only [this, if_false, Option.map_some]
          refine .some ?_
          simp only [Rnd, encB, hm]
          exact ⟨trivial, hb⟩
    · obtain ⟨hc', ho, hm, hk⟩ := h.sym hi hn
      simp only [show 0 ≤ p[i] by omega, decide_true, if_true]
      by_cases e : t[c] = p[i]
      · rw [if_pos e] at hm
        simp only [e, bne_self_eq_false, Bool.false_eq_true, if_false]
        exact .some ⟨⟨i + 1, c + 1, by simp, by simp, by omega, by omega, hb, h.hsm, hk e, hm.symm⟩, by simp; omega⟩
      · rw [if_neg e] at hm
        have : (t[c] != p[i]) = true := by simpa using e
        simp only [this, if_true, hb, Option.map_some]
        refine .some ?_
        simp only [Rnd, encB, hm]
        exact ⟨trivial, hb⟩
  · have hm := h.m
    rw [List.drop_of_length_le (by omega), mat_nil] at hm
    simp only [show ¬ (i : Int) < p.length by omega, decide_false, Bool.false_eq_true, if_false, hb, if_true, Option.map_some]
    refine .some ?_
    simp only [Rnd, encB, ← hm]
    exact ⟨trivial, hb⟩
def plainAt (s : Bd) (i : Nat) : List Int := if s.getD i [] = [] ∨ s.getD i [] = [-1 - (i : Int)] then [] else s.getD i []
theorem getD_append {s : Bd} {u : List Int} {i : Nat} : (s ++ [u]).getD i [] = if i < s.length then s.getD i [] else if i = s.length then u else [] := by
  rw [List.getD_eq_getElem?_getD]
  by_cases h : i < s.length
  · rw [if_pos h, List.getElem?_append_left h, List.getD_eq_getElem?_getD]
  · rw [if_neg h, List.getElem?_append_right (by omega)]
    by_cases h2 : i = s.length
    · subst h2; simp
    · rw [if_neg h2, List.getElem?_eq_none (by simp; omega)]; rfl
theorem getD_out {s : Bd} {i : Nat} (h : s.length ≤ i) : s.getD i [] = [] := by
  rw [List.getD_eq_getElem?_getD, List.getElem?_eq_none h]; rfl
structure PSt (s : Bd) (o : Bd) (i : Nat) : Prop where
  hi : i ≤ s.length
  hl : o.length ≤ i
  he : ∀ j < i, o.getD j [] = plainAt s j
theorem F_impl_plain_ok {s : Bd} (hl : s.length ≤ 24) (hs : ∀ u ∈ s, u.length ≤ 60) : Okk True (F_impl_plain s) fun o => o.length ≤ 24 ∧ ∀ i, o.getD i [] = plainAt s i := by
  unfold F_impl_plain
  refine Okk.loop (fun q : Int × Bd => ∃ i : Nat, q.1 = i ∧ PSt s q.2 i) (fun q : Int × Bd => s.length - q.1.toNat) ⟨0, rfl, by omega, by simp, by omega⟩ ?_
  rintro ⟨_, o⟩ ⟨i, rfl, h⟩
  simp only at h
  simp only [F_impl_plain_l1]
  by_cases hi : i < s.length
  · have hu := hs _ (List.getElem_mem hi)
    have hg : s.getD i [] = s[i] := getD_get hi
    simp only [show (i : Int) < s.length by omega, decide_true, if_true, show (0 : Int) ≤ i by omega, and_self, Int.toNat_natCast, getD_get hi, w64 (n := (i : Int) + 1) (by omega) (by omega)]
    have skip : plainAt s i = [] → Okk True (some (Sum.inl ((i : Int) + 1, o)) : Option ((Int × Bd) ⊕ Bd)) (Rnd (fun q : Int × Bd => ∃ i : Nat, q.1 = i ∧ PSt s q.2 i) (fun q : Int × Bd => s.length - q.1.toNat) (fun o => o.length ≤ 24 ∧ ∀ i, o.getD i [] = plainAt s i) (s.length - i)) := fun hp =>
      .some ⟨⟨i + 1, by simp, by omega, Nat.le_succ_of_le h.hl, fun j hj => by
        rcases Nat.lt_or_ge j i with h3 | h3
        · exact h.he j h3
        · obtain rfl : j = i := by omega
          rw [hp, getD_out h.hl]⟩, by simp; omega⟩
    by_cases h0 : s[i] = []
    · simp only [h0, List.length_nil, Int.natCast_zero, beq_self_eq_true, if_true]
      exact skip (by unfold plainAt; rw [hg, if_pos (.inl h0)])
    · have hne : ¬ (((s[i]).length : Int) == 0) = true := by
        have := List.length_pos_iff.2 h0
        simp only [beq_iff_eq]; omega
      simp only [hne, if_false, F_impl_variable, Option.bind_some, w64 (n := -1 - (i : Int)) (by omega) (by omega), F_slices_Equal_eq (show Small s[i] by show List.length _ < _; omega)]
      by_cases h1 : s[i] = [-1 - (i : Int)]
      · simp only [h1, beq_self_eq_true, if_true]
        exact skip (by unfold plainAt; rw [hg, if_pos (.inr h1)])
      · have : ¬ (s[i] == [-1 - (i : Int)]) = true := by simpa using h1
        simp only [this, if_false]
        have hp : plainAt s i = s[i] := by unfold plainAt; rw [hg, if_neg (by simp [h0, h1])]
        refine Okk.loop (fun o' : Bd => o'.length ≤ i ∧ ∀ j < i, o'.getD j [] = plainAt s j) (fun o' : Bd => i - o'.length) ⟨h.hl, h.he⟩ ?_
        rintro o' ⟨h3, h4⟩
        simp only [F_impl_plain_l2]
        by_cases h5 : o'.length < i
        · simp only [show (o'.length : Int) < i by omega, decide_true, if_true, show (o'.length + 1) * 24 ≤ 140737488355328 by omega]
          refine .some ⟨⟨by simp; omega, fun j hj => ?_⟩, by simp; omega⟩
          rw [getD_append]
          split
          · exact h4 j hj
          · have := h4 j hj
            rw [getD_out (by omega)] at this
            simp [← this]
        · simp only [show ¬ (o'.length : Int) < i by omega, decide_false, Bool.false_eq_true, if_false, show (o'.length + 1) * 24 ≤ 140737488355328 by omega, if_true]
          rw [Int.toNat_natCast, getD_get hi, F_slices_Clone_eq (show Small s[i] by show List.length _ < _; omega), Option.bind_some, Option.map_some]
          refine .some ?_
          refine ⟨⟨i + 1, by simp [w64 (n := (i : Int) + 1) (by omega) (by omega)], by omega, by simp; omega, fun j hj => ?_⟩, by simp [w64 (n := (i : Int) + 1) (by omega) (by omega)]; omega⟩
          rw [getD_append]
          split
          · exact h4 j (by omega)
          · obtain rfl : j = i := by omega
            rw [if_pos (by omega), hp]
  · simp only [show ¬ (i : Int) < s.length by omega, decide_false, Bool.false_eq_true, if_false, Option.map_some]
    refine .some ⟨by have := h.hl; have := h.hi; omega, fun j => ?_⟩
    by_cases hj : j < i
    · exact h.he j hj
    · rw [getD_out (by have := h.hl; omega)]
      unfold plainAt
      rw [getD_out (s := s) (by omega)]; simp
def MRes (o : Option Bd) (r : Bd × Bool) : Prop := match o with
  | some b => r.2 = true ∧ r.1.length ≤ 24 ∧ ∀ i, r.1.getD i [] = plainAt b i
  | none => r.2 = false
theorem mat_small {a : List Int} : ∀ {p t : List Int} {b b' : Bd}, mat a p t b = some b' → (∀ u ∈ b, u.length ≤ 60) → t.length ≤ 60 → b.length = 24 → b'.length = 24 ∧ ∀ u ∈ b', u.length ≤ 60
  | [], t, b, b', h, hs, _, hb => by rw [mat_nil] at h; cases h; exact ⟨hb, hs⟩
  | n :: p, t, b, b', h, hs, ht, hb => by
    unfold mat at h
    split at h
    · split at h
      · cases h
      · rename_i r hr
        have := skip_len hr
        simp only at h
        split at h
        · exact mat_small (b := Tm.bset b n _) h (bset_small hs (by simp; omega)) (by omega) (by simpa [Tm.bset] using hb)
        · split at h
          · exact mat_small h hs (by omega) hb
          · cases h
    · split at h
      · cases h
      · split at h
        · exact mat_small h hs (by simp at ht; omega) hb
        · cases h
theorem F_impl_match_ok {a p t : List Int} (ha : sigOk a = true) (hp : Wf a 1 p) (ht : Wf a 1 t) (hpl : p.length ≤ 60) (htl : t.length ≤ 60) : Okk True (F_impl_match a p t) (MRes (mat a p t none24)) := by
  unfold F_impl_match
  have hn : ∀ u ∈ none24, u.length ≤ 60 := by intro u hu; simp [none24] at hu; subst hu; simp
  obtain ⟨r, h1, h2, h3⟩ := (F_impl_matchInto_ok ha hp ht hpl htl (b0 := none24) (by simp [none24]) hn).get
  rw [show (List.replicate 24 [] : Bd) = none24 from rfl, h1, Option.bind_some, if_pos h3]
  cases hm : mat a p t none24 with
  | none =>
    rw [hm] at h2
    simp only [encB] at h2
    simp only [h2, Bool.false_eq_true, if_false]
    exact .some rfl
  | some b =>
    rw [hm] at h2
    simp only [encB] at h2
    subst h2
    obtain ⟨h4, h5⟩ := mat_small hm hn htl (by simp [none24])
    simp only [if_true, h4, F_impl_bindings_subst, Option.bind_some]
    refine Okk.bind (F_impl_plain_ok (by omega) h5) fun o ho => .some ⟨rfl, ho.1, ho.2⟩
theorem F_spec_l2Gives_eq {s : Bd} (hs : ∀ u ∈ s, u.length ≤ 60) (hl : s.length ≤ 24) {i : Nat} (hi : i ≤ 24) : F_spec_l2Gives s i = some (if s.getD i [] = [] then [-1 - (i : Int)] else s.getD i []) := by
  unfold F_spec_l2Gives
  rw [w64 (n := -1 - (i : Int)) (by omega) (by omega)]
  by_cases h : i < s.length
  · have hu := hs _ (List.getElem_mem h)
    have hg : s.getD i [] = s[i] := getD_get h
    simp only [show (i : Int) < s.length by omega, decide_true, if_true, show (0 : Int) ≤ i by omega, and_self, Int.toNat_natCast, getD_get h, hg]
    by_cases h0 : s[i] = []
    · simp [h0]
    · have := List.length_pos_iff.2 h0
      simp only [h0, if_false, show (0 : Int) < s[i].length by omega, decide_true, if_true, F_spec_l1Copy_eq (show Small s[i] by show List.length _ < _; omega), Option.bind_some]
  · simp only [show ¬ (i : Int) < s.length by omega, decide_false, Bool.false_eq_true, if_false, getD_out (s := s) (i := i) (by omega), if_true]
theorem F_spec_l2Plain_ok {s : Bd} (hl : s.length ≤ 24) (hs : ∀ u ∈ s, u.length ≤ 60) : Okk True (F_spec_l2Plain s) fun o => o.length ≤ 24 ∧ ∀ i, o.getD i [] = plainAt s i := by
  unfold F_spec_l2Plain
  refine Okk.loop (fun q : Int × Bd => ∃ i : Nat, q.1 = i ∧ i ≤ s.length ∧ q.2.length = i ∧ ∀ j < i, q.2.getD j [] = plainAt s j) (fun q : Int × Bd => s.length - q.1.toNat) ⟨0, rfl, by omega, rfl, by omega⟩ ?_
  rintro ⟨_, o⟩ ⟨i, rfl, h1, h2, h3⟩
  simp only at h2 h3
  simp only [F_spec_l2Plain_l1]
  by_cases hi : i < s.length
  · have hw : IntKind.i64.wrap ((i : Int) + 1) = i + 1 := w64 (by omega) (by omega)
    have hw2 : IntKind.i64.wrap (-1 - (i : Int)) = -1 - i := w64 (by omega) (by omega)
    have hm : (o.length + 1) * 24 ≤ 140737488355328 := by omega
    have hg : s.getD i [] = s[i] := getD_get hi
    have step : ∀ u : List Int, plainAt s i = u → Okk True (some (Sum.inl ((i : Int) + 1, o ++ [u])) : Option ((Int × Bd) ⊕ Bd)) (Rnd (fun q : Int × Bd => ∃ i : Nat, q.1 = i ∧ i ≤ s.length ∧ q.2.length = i ∧ ∀ j < i, q.2.getD j [] = plainAt s j) (fun q : Int × Bd => s.length - q.1.toNat) (fun o => o.length ≤ 24 ∧ ∀ i, o.getD i [] = plainAt s i) (s.length - i)) := fun u hu =>
      .some ⟨⟨i + 1, by simp, by omega, by simp [h2], fun j hj => by
        rw [getD_append]
        split
        · exact h3 j (by omega)
        · rw [if_pos (by omega), show j = i by omega, hu]⟩, by simp; omega⟩
    simp only [show (i : Int) < s.length by omega, decide_true, if_true, F_spec_l2Gives_eq hs hl (i := i) (by omega), Option.bind_some, hm, hw, hw2]
    by_cases h0 : s[i] = []
    · simp only [hg, h0, if_true, List.length_singleton, Int.natCast_one, beq_self_eq_true, Int.le_refl, show (0 : Int) < 1 by omega, and_self, List.getD_cons_zero]
      exact step [] (by unfold plainAt; rw [hg, if_pos (.inl h0)])
    · simp only [hg, h0, if_false]
      by_cases hlen : s[i].length = 1
      · obtain ⟨x, hx⟩ := List.length_eq_one_iff.1 hlen
        simp only [hx, List.length_singleton, Int.natCast_one, beq_self_eq_true, if_true, Int.le_refl, show (0 : Int) < 1 by omega, and_self, List.getD_cons_zero]
        by_cases e : x = -1 - (i : Int)
        · simp only [e, beq_self_eq_true, if_true]
          exact step [] (by unfold plainAt; rw [hg, if_pos (.inr (by rw [hx, e]))])
        · have : ¬ (x == -1 - (i : Int)) = true := by simpa using e
          simp only [this, if_false]
          exact step [x] (by unfold plainAt; rw [hg, hx, if_neg (by simp [e])])
      · have : ¬ ((s[i].length : Int) == 1) = true := by simp only [beq_iff_eq]; omega
        simp only [this, if_false]
        refine step s[i] ?_
        unfold plainAt
        rw [hg, if_neg]
        rintro (h | h)
        · exact h0 h
        · exact hlen (by rw [h]; rfl)
  · simp only [show ¬ (i : Int) < s.length by omega, decide_false, Bool.false_eq_true, if_false]
    have hall : ∀ j, o.getD j [] = plainAt s j := fun j => by
      by_cases hj : j < i
      · exact h3 j hj
      · rw [getD_out (by omega)]; unfold plainAt; rw [getD_out (s := s) (by omega)]; simp
    refine Okk.inr ?_
    simp only [Rnd]
    refine Okk.loop (fun o' : Bd => o'.length ≤ 24 ∧ ∀ j, o'.getD j [] = plainAt s j) (fun o' : Bd => o'.length) ⟨by omega, hall⟩ ?_
    rintro o' ⟨h4, h5⟩
    simp only [F_spec_l2Plain_l2]
    by_cases h6 : 0 < o'.length
    · have hw : IntKind.i64.wrap ((o'.length : Int) - 1) = o'.length - 1 := w64 (by omega) (by omega)
      have ht : ((o'.length : Int) - 1).toNat = o'.length - 1 := by omega
      have hlt : o'.length - 1 < o'.length := by omega
      simp only [show (0 : Int) < o'.length by omega, decide_true, if_true, hw, show 0 ≤ (o'.length : Int) - 1 by omega, show (o'.length : Int) - 1 < o'.length by omega, show (o'.length : Int) - 1 ≤ o'.length by omega, and_self, ht, getD_get hlt]
      by_cases h7 : o'[o'.length - 1] = []
      · simp only [h7, List.length_nil, Int.natCast_zero, beq_self_eq_true, if_true]
        refine .some ⟨⟨by simp; omega, fun j => ?_⟩, by simp; omega⟩
        rw [← h5 j, List.getD_eq_getElem?_getD, List.getD_eq_getElem?_getD, List.getElem?_take]
        split
        · rfl
        · by_cases hj : j = o'.length - 1
          · subst hj; rw [List.getElem?_eq_getElem hlt, h7]; rfl
          · rw [List.getElem?_eq_none (by omega)]
      · have := List.length_pos_iff.2 h7
        have : ¬ ((o'[o'.length - 1].length : Int) == 0) = true := by simp only [beq_iff_eq]; omega
        simp only [this, if_false, Option.map_some]
        exact .some ⟨h4, h5⟩
    · simp only [show ¬ (0 : Int) < o'.length by omega, decide_false, Bool.false_eq_true, if_false, Option.map_some]
      exact .some ⟨h4, h5⟩
theorem F_spec_l4Match_ok {a p t : List Int} (ha : sigOk a = true) (hp : Wf a 1 p) (ht : Wf a 1 t) (hpl : p.length ≤ 60) (htl : t.length ≤ 60) : Okk True (F_spec_l4Match a p t) (MRes (mat a p t none24)) := by
  have hn : ∀ u ∈ none24, u.length ≤ 60 := by intro u hu; simp [none24] at hu; subst hu; simp
  unfold F_spec_l4Match
  rw [show (List.replicate 24 [] : Bd) = none24 from rfl]
  refine Okk.loop (fun s : Int × Int × Bd => ∃ i c : Nat, s.1 = (c : Int) ∧ s.2.1 = (i : Int) ∧ MSt a p t none24 s.2.2 i c) (fun s : Int × Int × Bd => p.length - s.2.1.toNat)
    ⟨0, 0, rfl, rfl, by omega, by omega, by simp [none24], hn, ⟨1, by simpa using hp, by simpa using ht⟩, by simp⟩ ?_
  rintro ⟨_, _, b⟩ ⟨i, c, rfl, rfl, h⟩
  simp only at h
  have hb := h.hb
  simp only [F_spec_l4Match_l1]
  by_cases hi : i < p.length
  · have hc := h.at_lt hi
    simp only [show (i : Int) < p.length by omega, show ¬ (t.length : Int) ≤ c by omega, decide_true, decide_false, if_true, show (0 : Int) ≤ i by omega, show (0 : Int) ≤ c by omega, show (c : Int) < t.length by omega, and_self,
      Bool.false_eq_true, if_false, Int.toNat_natCast, getD_get hi, getD_get hc, w64 (n := (i : Int) + 1) (by omega) (by omega), w64 (n := (c : Int) + 1) (by omega) (by omega)]
    by_cases hn : p[i] < 0
    · obtain ⟨u, r, e, hu, hl, ho, hm, hk⟩ := h.var hi hn
      have hul := hu.len
      have hx : -24 ≤ p[i] := ho.1
      have hlt : (-1 - p[i]).toNat < b.length := by omega
      simp only [show ¬ 0 ≤ p[i] by omega, decide_false, Bool.false_eq_true, if_false, F_spec_l1Sub_eq ha (show Small t by show t.length < _; omega) e hu, Option.bind_some,
        w64 (n := -1 - p[i]) (by omega) (by omega), show 0 ≤ -1 - p[i] by omega, show -1 - p[i] < 24 by omega, and_self, if_true, hb, show ((-1 : Int) - p[i] < ((24 : Nat) : Int)) by omega,
        w64 (n := (c : Int) + u.length) (by omega) (by omega)]
      have eg : b.getD (-1 - p[i]).toNat default = bget b p[i] := rfl
      rw [eg]
      by_cases h0 : bget b p[i] = []
      · rw [if_pos h0] at hm
        simp only [h0, List.length_nil, Int.natCast_zero, Int.lt_irrefl, decide_false, Bool.false_eq_true, if_false]
        exact .some ⟨⟨i + 1, c + u.length, by simp, by simp, by omega, by omega, by simpa using hb, bset_small h.hsm (by omega), hk, by rw [hm]; rfl⟩, by simp; omega⟩
      · rw [if_neg h0] at hm
        have hp0 := List.length_pos_iff.2 h0
        simp only [show (0 : Int) < ((bget b p[i]).length : Int) by omega, decide_true, if_true, F_spec_SameTerm_eq (show Small (bget b p[i]) by show List.length _ < _; have := bget_small (n := p[i]) h.hsm; omega), Option.bind_some]
        by_cases h1 : bget b p[i] = u
        · rw [if_pos h1] at hm
          simp only [h1, beq_self_eq_true, if_true]
          have hset : b.set (-1 - p[i]).toNat u = b := by
            have : b[(-1 - p[i]).toNat] = u := by rw [← h1]; exact (getD_get hlt).symm
            rw [← this]; exact List.set_getElem_self hlt
          rw [hset]
          exact .some ⟨⟨i + 1, c + u.length, by simp, by simp, by omega, by omega, hb, h.hsm, hk, hm.symm⟩, by simp; omega⟩
        · rw [if_neg h1] at hm
          have : ¬ (bget b p[i] == u) = true := by simpa using h1
          simp only [this, if_false, Option.map_some]
          refine .some ?_
          simp only [Rnd, MRes, hm]
    · obtain ⟨hc', ho, hm, hk⟩ := h.sym hi hn
      simp only [show 0 ≤ p[i] by omega, decide_true, if_true]
      by_cases e : t[c] = p[i]
      · rw [if_pos e] at hm
        simp only [e, bne_self_eq_false, Bool.false_eq_true, if_false]
        exact .some ⟨⟨i + 1, c + 1, by simp, by simp, by omega, by omega, hb, h.hsm, hk e, hm.symm⟩, by simp; omega⟩
      · rw [if_neg e] at hm
        have : (p[i] != t[c]) = true := by simpa using fun h => e h.symm
        simp only [this, if_true, Option.map_some]
        refine .some ?_
        simp only [Rnd, MRes, hm]
  · have hm := h.m
    rw [List.drop_of_length_le (by omega), mat_nil] at hm
    simp only [show ¬ (i : Int) < p.length by omega, decide_false, Bool.false_eq_true, if_false, hb, if_true]
    refine Okk.inr ?_
    refine Okk.bind (F_spec_l2Plain_ok (by omega) h.hsm) fun o ho => .some ?_
    simp only [Rnd, MRes, ← hm]
    exact ⟨trivial, ho.1, ho.2⟩
abbrev Sys := List Int × List (List Int × List Int)
theorem sysOk_iff {s : Sys} : sysOk s = true ↔ sigOk s.1 = true ∧ s.2.length ≤ 12 ∧ ∀ r ∈ s.2, ruleOk s.1 r = true := by simp [sysOk]
theorem ruleOk_iff {a : List Int} {r : List Int × List Int} : ruleOk a r = true ↔ termOk a r.1 = true ∧ termOk a r.2 = true ∧ 0 ≤ r.1.headD 0 ∧ ∀ x ∈ r.2, x < 0 → x ∈ r.1 := by
  simp only [ruleOk, varIn, Bool.and_eq_true, decide_eq_true_eq, List.all_eq_true]
end Go.Proofs.YtcbfefbocpikoaaGreat
namespace Go.Proofs.YtcbfefbocpikoaaGreat
open Go Abx Tm
theorem loop_map {α β γ σ : Type} [Inhabited α] (mk : Int → List β → σ) {xs : List α} {g : α → β} {out0 : List β} {c : γ} {f : σ → Option (σ ⊕ γ)}
    (h : ∀ (i : Nat) (out : List β) (x : α), i < xs.length → x ∈ xs → xs.getD i default = x → out.length = out0.length + i → f (mk i out) = some (.inl (mk ((i : Int) + 1) (out ++ [g x]))))
    (he : f (mk xs.length (out0 ++ xs.map g)) = some (.inr c)) : loopC f (mk 0 out0) = some c := by
  have key : ∀ (k i : Nat) (out : List β), i + k = xs.length → out.length = out0.length + i → out ++ (xs.drop i).map g = out0 ++ xs.map g → loopC f (mk i out) = some c := by
    intro k
    induction k with
    | zero =>
      intro i out hi _ ho
      obtain rfl : i = xs.length := by omega
      rw [List.drop_length] at ho
      simp at ho; subst ho
      exact loopC_inr he
    | succ k ih =>
      intro i out hi hl ho
      have hlt : i < xs.length := by omega
      rw [loopC_inl (h i out _ hlt (List.getElem_mem hlt) (getD_get hlt) hl), show ((i : Int) + 1) = ((i + 1 : Nat) : Int) by omega]
      refine ih (i + 1) _ (by omega) (by simp; omega) ?_
      rw [List.drop_eq_getElem_cons hlt, List.map_cons] at ho
      rw [List.append_assoc, List.singleton_append]
      exact ho
  exact key xs.length 0 out0 (by omega) (by omega) (by simp)
abbrev Mvv := Int × Int × Bool × List Int
abbrev Chn := List Int × List Mvv
abbrev Eqq := List Int × List Int
def inB (eqs : List Eqq) (t : List Int) (m : Mvv) : Prop := (0 ≤ m.1 ∧ m.1 < eqs.length) ∧ (0 ≤ m.2.1 ∧ m.2.1 < t.length) ∧ m.2.1 < m.2.2.2.length
instance (eqs : List Eqq) (t : List Int) (m : Mvv) : Decidable (inB eqs t m) := by unfold inB; infer_instance
end Go.Proofs.YtcbfefbocpikoaaGreat
namespace Go.Proofs.YtcbfefbocpikoaaGreat
open Go Abx Tm
def firstI {α : Type} (p : α → Bool) (xs : List α) : Int := match xs.findIdx? p with | some j => (j : Int) | none => -1
theorem loop_first {α : Type} [Inhabited α] {xs : List α} {p : α → Bool} {f : Int → Option (Int ⊕ Int)}
    (h : ∀ (i : Nat) (x : α), i < xs.length → x ∈ xs → xs.getD i default = x → f (i : Int) = some (if p x = true then .inr (i : Int) else .inl ((i : Int) + 1)))
    (he : f xs.length = some (.inr (-1))) : loopC f 0 = some (firstI p xs) := by
  have key : ∀ (k i : Nat), i + k = xs.length → loopC f (i : Int) = some (match (xs.drop i).findIdx? p with | some j => ((i + j : Nat) : Int) | none => -1) := by
    intro k
    induction k with
    | zero =>
      intro i hi
      obtain rfl : i = xs.length := by omega
      rw [loopC_inr he, List.drop_length]; rfl
    | succ k ih =>
      intro i hi
      have hlt : i < xs.length := by omega
      have e := h i _ hlt (List.getElem_mem hlt) (getD_get hlt)
      rw [List.drop_eq_getElem_cons hlt, List.findIdx?_cons]
      cases hp : p (xs[i]) with
      | true => rw [hp] at e; rw [loopC_inr e]; simp
      | false =>
        rw [hp] at e
        rw [loopC_inl e, show ((i : Int) + 1) = ((i + 1 : Nat) : Int) by omega, ih (i + 1) (by omega)]
        cases hf : (xs.drop (i + 1)).findIdx? p with
        | none => simp
        | some j =>
          simp only [Bool.false_eq_true, if_false, Option.map_some]
          show some (((i + 1 + j : Nat) : Int)) = some (((i + (j + 1) : Nat) : Int))
          rw [show i + 1 + j = i + (j + 1) by omega]
  have := key xs.length 0 (by omega)
  simp only [List.drop_zero, Nat.zero_add] at this
  exact this
theorem loop_filter {γ : Type} {n : Nat} {p : Nat → Bool} {g : Nat → Int} {c : γ} {f : List Int × Int → Option ((List Int × Int) ⊕ γ)}
    (h : ∀ (i : Nat) (out : List Int), i < n → out.length ≤ i → f (out, (i : Int)) = some (.inl (if p i = true then out ++ [g i] else out, (i : Int) + 1)))
    (he : f (((List.range n).filter p).map g, (n : Int)) = some (.inr c)) : loopC f ([], 0) = some c := by
  have key : ∀ (k i : Nat), i + k = n → loopC f (((List.range i).filter p).map g, (i : Int)) = some c := by
    intro k
    induction k with
    | zero => intro i hi; obtain rfl : i = n := (by omega); exact loopC_inr he
    | succ k ih =>
      intro i hi
      have hl : (((List.range i).filter p).map g).length ≤ i := by
        rw [List.length_map]
        exact Nat.le_trans (List.length_filter_le _ _) (by simp)
      rw [loopC_inl (h i _ (by omega) hl), show ((i : Int) + 1) = ((i + 1 : Nat) : Int) by omega]
      have e : (if p i = true then ((List.range i).filter p).map g ++ [g i] else ((List.range i).filter p).map g) = ((List.range (i + 1)).filter p).map g := by
        rw [List.range_succ, List.filter_append, List.map_append]
        cases hp : p i <;> simp [hp]
      rw [e]
      exact ih (i + 1) (by omega)
  exact key n 0 (by omega)
theorem firstI_none {α : Type} {p : α → Bool} {xs : List α} (h : ∀ x ∈ xs, p x = false) : firstI p xs = -1 := by
  unfold firstI
  rw [List.findIdx?_eq_none_iff.2 h]
theorem firstI_at {α : Type} {p : α → Bool} {xs : List α} {x : α} (hx : x ∈ xs) (hp : p x = true) : 0 ≤ firstI p xs := by
  unfold firstI
  cases h : xs.findIdx? p with
  | none => have := List.findIdx?_eq_none_iff.1 h x hx; rw [hp] at this; cases this
  | some j => simp only; omega
theorem at_place {a t : List Int} (ht : termOk a t = true) {i : Nat} (hi : i < t.length) : ∃ q, t.drop i = at' a t i ++ q ∧ Wf a 1 (at' a t i) ∧ (at' a t i).length ≤ 60 ∧ ∃ u, at' a t i = t[i] :: u := by
  obtain ⟨_, _, t2, t3⟩ := termOk_iff.1 ht
  obtain ⟨p, u, q, e, hp, hu⟩ := t3.place hi
  have ha : at' a t i = u := by rw [e, ← hp]; exact at_eq hu
  have hd : t.drop i = u ++ q := by rw [e, ← hp]; exact List.drop_left
  rw [ha]
  refine ⟨q, hd, hu, ?_, ?_⟩
  · have := congrArg List.length e; simp only [List.length_append] at this; omega
  · obtain ⟨y, r, e2, _, _⟩ := hu.pos
    subst e2
    rw [List.drop_eq_getElem_cons hi, List.cons_append] at hd
    exact ⟨r, by rw [(List.cons.inj hd).1]⟩
theorem match_isSome {a p t : List Int} {r : Bd × Bool} (h : MRes (mat a p t none24) r) : r.2 = (mat a p t none24).isSome := by
  cases hm : mat a p t none24 with
  | none => rw [hm] at h; exact h
  | some b => rw [hm] at h; exact h.1
end Go.Proofs.YtcbfefbocpikoaaGreat
namespace Go.Proofs.YtcbfefbocpikoaaGreat
open Go Abx Tm
theorem loop_st {σ γ : Type} {n : Nat} (st : Nat → σ) {c : γ} {f : σ → Option (σ ⊕ γ)} (h : ∀ i, i < n → f (st i) = some (.inl (st (i + 1)))) (he : f (st n) = some (.inr c)) : loopC f (st 0) = some c := by
  have key : ∀ k i, i + k = n → loopC f (st i) = some c := by
    intro k
    induction k with
    | zero => intro i hi; obtain rfl : i = n := by omega
              exact loopC_inr he
    | succ k ih => intro i hi; rw [loopC_inl (h i (by omega))]; exact ih (i + 1) (by omega)
  exact key n 0 (by omega)
theorem drop_cons {α : Type} [Inhabited α] {a : List α} {i : Nat} {x : α} {r : List α} (h : a.drop i = x :: r) : i < a.length ∧ a.getD i default = x ∧ a.drop (i + 1) = r := by
  have hlt : i < a.length := Nat.lt_of_not_le fun hn => by rw [List.drop_of_length_le hn] at h; cases h
  rw [List.drop_eq_getElem_cons hlt] at h
  simp only [List.cons.injEq] at h
  exact ⟨hlt, by rw [getD_get hlt, h.1], h.2⟩
theorem loop_to {α β : Type} [Inhabited α] {a : List α} {z : List β} {g : α → β} (hl : z.length = a.length) {f : Int × List β → Option ((Int × List β) ⊕ List β)}
    (h : ∀ (i : Nat) (out : List β), i < a.length → out.length = a.length → a.getD i default ∈ a → f ((i : Int), out) = some (.inl ((i : Int) + 1, out.set i (g (a.getD i default)))))
    (he : ∀ out, f ((a.length : Int), out) = some (.inr out)) : loopC f (0, z) = some (a.map g) := by
  have hz : (a.take 0).map g ++ z.drop 0 = z := by simp
  refine Eq.trans ?_ (loop_st (n := a.length) (fun i => ((i : Int), (a.take i).map g ++ z.drop i)) (fun i hi => ?_) ((he _).trans (by rw [List.take_length, ← hl, List.drop_length, List.append_nil])))
  · simp
  · rw [h i _ hi (by simp; omega) (getD_mem hi)]
    refine congrArg (fun x => some (Sum.inl x)) (Prod.ext (by simp) ?_)
    show ((a.take i).map g ++ z.drop i).set i _ = _
    rw [List.set_append_right _ _ (by simp; omega)]
    have hm : i - ((a.take i).map g).length = 0 := by simp; omega
    have hzl : i < z.length := by omega
    rw [hm, List.drop_eq_getElem_cons hzl, List.set_cons_zero, List.take_succ_eq_append_getElem hi, List.map_append, List.append_assoc, getD_get hi]
    simp
def mAcc {α : Type} (g : α → Int → α × Int) : List α → Int → List α × Int
  | [], k => ([], k)
  | x :: r, k => ((g x k).1 :: (mAcc g r (g x k).2).1, (mAcc g r (g x k).2).2)
theorem mAcc_len {α : Type} {g : α → Int → α × Int} : ∀ {a : List α} {k : Int}, (mAcc g a k).1.length = a.length
  | [], _ => rfl
  | x :: r, k => by simp [mAcc, mAcc_len (a := r)]
theorem loop_mk {α : Type} [Inhabited α] {a : List α} {g : α → Int → α × Int} (P : Nat → Int → Prop) {k0 : Int} {f : Int × Int × List α → Option ((Int × Int × List α) ⊕ (List α × Int))}
    (h : ∀ (i : Nat) (k : Int) (b : List α) (x : α), i < a.length → b.length = a.length → x ∈ a → b.getD i default = x → P i k →
      f (k, (i : Int), b) = some (.inl ((g x k).2, (i : Int) + 1, b.set i (g x k).1)) ∧ P (i + 1) (g x k).2)
    (he : ∀ k b, f (k, (a.length : Int), b) = some (.inr (b, k))) (h0 : P 0 k0) : loopC f (k0, 0, a) = some (mAcc g a k0) := by
  have key : ∀ (r done : List α) (k : Int), done.length + r.length = a.length → (∀ x ∈ r, x ∈ a) → P done.length k → loopC f (k, (done.length : Int), done ++ r) = some (done ++ (mAcc g r k).1, (mAcc g r k).2) := by
    intro r
    induction r with
    | nil =>
      intro done k hl _ _
      have : done.length = a.length := by simpa using hl
      rw [this]
      exact loopC_inr (by rw [he]; simp [mAcc])
    | cons x r ih =>
      intro done k hl hr hp
      simp only [List.length_cons] at hl
      obtain ⟨h1, h2⟩ := h done.length k (done ++ x :: r) x (by omega) (by simp; omega) (hr x (by simp)) (by rw [getD_get (by simp)]; simp) hp
      rw [loopC_inl h1]
      have e : (done ++ x :: r).set done.length (g x k).1 = (done ++ [(g x k).1]) ++ r := by
        rw [List.set_append_right _ _ (Nat.le_refl _), Nat.sub_self, List.set_cons_zero]; simp
      rw [e]
      have := ih (done ++ [(g x k).1]) (g x k).2 (by simp; omega) (fun y hy => hr y (by simp [hy])) (by simpa using h2)
      simp only [List.length_append, List.length_cons, List.length_nil, Nat.zero_add, Int.natCast_add, Int.natCast_one] at this
      rw [this]
      simp [mAcc]
  have := key a [] k0 (by simp) (fun x hx => hx) h0
  simpa using this
theorem loop_held {α : Type} [Inhabited α] {a : List α} {g : α → Int → α × Int} (P : Nat → Int → Prop) {k0 : Int} {f : Int × Int → Option ((Int × Int) ⊕ Int)}
    (h : ∀ (i : Nat) (k : Int) (x : α), i < a.length → x ∈ a → (mAcc g a k0).1.getD i default = (g x k).1 → P i k →
      f (k, (i : Int)) = some (.inl ((g x k).2, (i : Int) + 1)) ∧ P (i + 1) (g x k).2)
    (he : ∀ k, f (k, (a.length : Int)) = some (.inr k)) (h0 : P 0 k0) : loopC f (k0, 0) = some (mAcc g a k0).2 := by
  have key : ∀ (r : List α) (i : Nat) (k : Int), i + r.length = a.length → (∀ x ∈ r, x ∈ a) → (mAcc g a k0).1.drop i = (mAcc g r k).1 → P i k → loopC f (k, (i : Int)) = some (mAcc g r k).2 := by
    intro r
    induction r with
    | nil =>
      intro i k hl _ _ _
      have : i = a.length := by simpa using hl
      rw [this]
      exact loopC_inr (he _)
    | cons x r ih =>
      intro i k hl hr hd hp
      simp only [List.length_cons] at hl
      obtain ⟨g1, g2, g3⟩ := drop_cons hd
      obtain ⟨h1, h2⟩ := h i k x (by omega) (hr x (by simp)) g2 hp
      rw [loopC_inl h1, show ((i : Int) + 1) = ((i + 1 : Nat) : Int) by omega]
      exact ih (i + 1) _ (by omega) (fun y hy => hr y (by simp [hy])) g3 h2
  have := key a 0 k0 (by simp) (fun x hx => hx) (by simp) h0
  simpa using this
theorem loop_self {α : Type} {a : List α} {f : Int → Option (Int ⊕ Bool)} (h : ∀ i : Nat, i < a.length → f (i : Int) = some (.inl ((i : Int) + 1))) (he : f a.length = some (.inr true)) : loopC f 0 = some true :=
  loop_st (n := a.length) (fun i => (i : Int)) (fun i hi => h i hi) he
end Go.Proofs.YtcbfefbocpikoaaGreat
namespace Go.Proofs.YtcbfefbocpikoaaGreat
open Go Abx
attribute [local irreducible] vcm vgo vdr vrun vdrun MWp GhostQ BrC BrO BrG BrD BrH AmbO callR callD drQ EnvLe StoLe
set_option maxHeartbeats 4000000
def mc19 : MCode :=
 (.seq (.reg (sq 1 [bo 1 33 0, mb false])) (.seq (.reg (sq 3 [la 2 1, cf 44 [3], mv 4] ++ sg 5 true 6 [la 2 1, cf 45 [6]] ++ sq 8 [pa 5 7] ++ sq 2 [mv 8])) .ret))
theorem fn19 : MFn Tryz.prog 19 mc19 9 [.tmp 2] := ⟨_, Tryz.func19, by kernel_rfl, Tryz.ntmps19, by kernel_rfl⟩
noncomputable def F_spec_l24Right (sys : ((List Int) × (List ((List Int) × (List Int))))) : Option Bool :=
 (F_spec_SystemOk sys).bind fun r =>
 if r = true then
  (F_spec_LeftLinearIn sys).bind fun r_1 =>
  some r_1
 else
  some false
instance c_spec_l24Right {sys : ((List Int) × (List ((List Int) × (List Int))))} : HasC (F_spec_l24Right sys) fun rr => PFun Tryz.prog 19 [D_impl_System sys] (bD rr) := ⟨@fun rr h => by
  delta F_spec_l24Right at h
  refine fn19.pureL (vcm_sound ?_)
  delta mc19
  refine stp ?_
  exact aut⟩
def mc22 : MCode :=
 (.seq (.reg (sq 1 [bo 1 33 0, .mv (.const (.slice none 0 0))])) (.seq (.reg (sq 5 [.bsl 5 22 1 []] ++ sq 3 [mv 5])) (.seq (.seq (.reg (sq 4 [mi 0])) (.block 0 (.loop (.seq (.seq (.reg (sq 6 [mv 4, fa 1 1, ld 7, ln 8, bn .lss 6 9])) (.cond (t0 10) .skip (.exit 0))) (.seq (.block 1 (.reg (sq 13 [mv 3, fa 1 1, ld 14, mv 4, ix 2 15 16, fa 0 17, ld 18, .bsl 20 22 1 [(t0 19)], ap 21 22 1 24 13 20] ++ sq 3 [mv 21]))) (.reg (sq 11 [mv 4, bi .add 11 1] ++ sq 4 [mv 12]))))))) (.seq (.reg (sq 22 [mv 3] ++ sq 2 [mv 22])) .ret))))
theorem fn22 : MFn Tryz.prog 22 mc22 23 [.tmp 2] := ⟨_, Tryz.func22, by kernel_rfl, Tryz.ntmps22, by kernel_rfl⟩
noncomputable def F_spec_l24Ls_l1 (sys : ((List Int) × (List ((List Int) × (List Int))))) : ((List (List Int)) × Int) → Option (((List (List Int)) × Int) ⊕ (List (List Int)))
 | (out, i) =>
  if (decide (i < (sys.2.length : Int))) = true then
   if 0 ≤ i ∧ i < (sys.2.length : Int) then
    if (out.length + 1) * 24 ≤ 140737488355328 then
     some (.inl ((out ++ [(sys.2.getD i.toNat default).1]), (IntKind.i64.wrap (i + 1))))
    else none
   else none
  else
   Option.map Sum.inr (
    some out)
noncomputable def F_spec_l24Ls (sys : ((List Int) × (List ((List Int) × (List Int))))) : Option (List (List Int)) :=
 loopC (F_spec_l24Ls_l1 sys) ([], 0)
instance c_spec_l24Ls {sys : ((List Int) × (List ((List Int) × (List Int))))} : HasC (F_spec_l24Ls sys) fun rr => PFun Tryz.prog 22 [D_impl_System sys] ((slD 1 (slD 1 iD)) rr) := ⟨@fun rr h => by
  delta F_spec_l24Ls at h
  refine fn22.pureL (vcm_sound ?_)
  delta mc22
  refine stp ?_
  refine m_lW h [3, 4, 6, 7, 8, 9, 10, 11, 12, 13, 14, 15, 16, 17, 18, 19, 20, 21] (fun pp => [(3, .own 1 5 (List.map (slD 1 iD) pp.1)), (4, .d (iD pp.2))]) (fun pp => [(1, .obj 33 [.d (slD 1 iD sys.1), .d (slD 2 D_impl_Rule sys.2)]), (5, .tok 22 1 pp.1.length)]) ?_
  rintro ⟨out, i⟩ t1 h hb1
  unfold F_spec_l24Ls_l1 at h
  try dsimp only at h
  refine vcm_sound (stp ?_)
  refine iT h fun hc h => ?_
  refine ndI h fun hp h => ?_
  refine ndI h fun hp h => ?_
  cases h
  refine ⟨_, rfl, ?_⟩
  refine (Weak.drop 20 (by omega)).trans ?_
  exact wk⟩
def mc77 : MCode :=
 (.seq (.reg (sq 2 [.mv (.const (.slice none 0 0))])) (.seq (.reg (sq 5 [.bsl 5 2 1 []] ++ sq 3 [mv 5])) (.seq (.seq (.reg (sq 4 [mi 0])) (.block 0 (.loop (.seq (.seq (.reg (sq 6 [mv 4, mv 0, ln 7, bn .lss 6 8])) (.cond (t0 9) .skip (.exit 0))) (.seq (.block 1 (.seq (.reg (sq 12 [mv 0, mv 4, ix 1 12 13, ld 14, bi .lss 15 0, mv 16] ++ sg 17 true 18 [mv 3, mv 0, mv 4, ix 1 19 20, ld 21, cf 64 [18, 22], nt 23] ++ sq 25 [pa 17 24])) (.cond (t0 25) (.reg (sq 26 [mv 3, mv 0, mv 4, ix 1 27 28, ld 29, .bsl 31 2 1 [(t0 30)], ap 32 2 1 8 26 31] ++ sq 3 [mv 32])) .skip))) (.reg (sq 10 [mv 4, bi .add 10 1] ++ sq 4 [mv 11]))))))) (.seq (.reg (sq 33 [mv 3] ++ sq 2 [mv 33])) .ret))))
theorem fn77 : MFn Tryz.prog 77 mc77 34 [.tmp 2] := ⟨_, Tryz.func77, by kernel_rfl, Tryz.ntmps77, by kernel_rfl⟩
noncomputable def F_spec_l2Order_l1 (t : (List Int)) : ((List Int) × Int) → Option (((List Int) × Int) ⊕ (List Int))
 | (out, i) =>
  if (decide (i < (t.length : Int))) = true then
   if 0 ≤ i ∧ i < (t.length : Int) then
    if (decide ((t.getD i.toNat default) < 0)) = true then
     if 0 ≤ i ∧ i < (t.length : Int) then
      (F_spec_l1Has out (t.getD i.toNat default)).bind fun r =>
      if r = true then
       some (.inl (out, (IntKind.i64.wrap (i + 1))))
      else
       if 0 ≤ i ∧ i < (t.length : Int) then
        if (out.length + 1) * 8 ≤ 140737488355328 then
         some (.inl ((out ++ [(t.getD i.toNat default)]), (IntKind.i64.wrap (i + 1))))
        else none
       else none
     else none
    else
     some (.inl (out, (IntKind.i64.wrap (i + 1))))
   else none
  else
   Option.map Sum.inr (
    some out)
noncomputable def F_spec_l2Order (t : (List Int)) : Option (List Int) :=
 loopC (F_spec_l2Order_l1 t) ([], 0)
instance c_spec_l2Order {t : (List Int)} : HasC (F_spec_l2Order t) fun rr => PFun Tryz.prog 77 [(slD 1 iD) t] ((slD 1 iD) rr) := ⟨@fun rr h => by
  delta F_spec_l2Order at h
  refine fn77.pureL (vcm_sound ?_)
  delta mc77
  refine stp ?_
  refine m_lW h [3, 4, 6, 7, 8, 9, 10, 11, 12, 13, 14, 15, 16, 17, 18, 19, 20, 21, 22, 23, 24, 25, 26, 27, 28, 29, 30, 31, 32] (fun pp => [(3, .own 1 5 (List.map iD pp.1)), (4, .d (iD pp.2))]) (fun pp => [(5, .tok 2 1 pp.1.length)]) ?_
  rintro ⟨out, i⟩ t1 h hb1
  unfold F_spec_l2Order_l1 at h
  try dsimp only at h
  refine vcm_sound (stp ?_)
  refine iT h fun hc h => ?_
  refine ndI h fun hp h => ?_
  refine iT h fun hc h => ?_
  refine ndI h fun hp h => ?_
  refine rC h fun r hr h => ?_
  refine iF h fun hc h => ?_
  refine ndI h fun hp h => ?_
  refine ndI h fun hp h => ?_
  cases h
  refine ⟨_, rfl, ?_⟩
  refine (Weak.drop 31 (by omega)).trans ?_
  exact wk⟩
def mc76 : MCode :=
 (.seq (.reg (sq 4 [.mv (.const (.slice none 0 0))])) (.seq (.reg (sq 9 [.bsl 9 2 1 []] ++ sq 5 [mv 9])) (.seq (.seq (.reg (sq 6 [mi 0])) (.block 0 (.loop (.seq (.seq (.reg (sq 10 [mv 6, mv 1, ln 11, bn .lss 10 12])) (.cond (t0 13) .skip (.exit 0))) (.seq (.block 1 (.seq (.reg (sq 16 [mv 1, mv 6, ix 1 16 17, ld 18] ++ sq 7 [mv 19])) (.seq (.seq (.reg (sq 8 [mi 0])) (.block 2 (.loop (.seq (.seq (.reg (sq 20 [mv 8, mv 0, ln 21, bn .lss 20 22, mv 23] ++ sg 24 true 25 [mv 1, mv 6, ix 1 25 26, ld 27, bi .lss 28 0] ++ sq 30 [pa 24 29])) (.cond (t0 30) .skip (.exit 2))) (.seq (.block 3 (.seq (.draw (sq 33 [mv 0, mv 8, ix 1 33 34, ld 35, mv 1, mv 6, ix 1 37 38, ld 39, bn .eql 36 40]) [[], [], [0, 1], [2], [], [], [4, 5], [6], [3, 7]]) (.cond (t0 41) (.reg (sq 42 [mv 8, .bin .sub (i0 (-1)) (t0 42)] ++ sq 7 [mv 43])) .skip))) (.reg (sq 31 [mv 8, bi .add 31 1] ++ sq 8 [mv 32]))))))) (.reg (sq 44 [mv 5, mv 7, .bsl 46 2 1 [(t0 45)], ap 47 2 1 8 44 46] ++ sq 5 [mv 47]))))) (.reg (sq 14 [mv 6, bi .add 14 1] ++ sq 6 [mv 15]))))))) (.seq (.reg (sq 48 [mv 5] ++ sq 4 [mv 48])) .ret))))
theorem fn76 : MFn Tryz.prog 76 mc76 49 [.tmp 4] := ⟨_, Tryz.func76, by kernel_rfl, Tryz.ntmps76, by kernel_rfl⟩
noncomputable def F_spec_l2By_l2 (order : (List Int)) (t : (List Int)) (out : (List Int)) (i : Int) : (Int × Int) → Option ((Int × Int) ⊕ (((List Int) × Int) ⊕ (List Int)))
 | (n, k) =>
  if (decide (k < (order.length : Int))) = true then
   if 0 ≤ i ∧ i < (t.length : Int) then
    if (decide ((t.getD i.toNat default) < 0)) = true then
     if 0 ≤ k ∧ k < (order.length : Int) then
      if 0 ≤ i ∧ i < (t.length : Int) then
       if ((order.getD k.toNat default) == (t.getD i.toNat default)) = true then
        some (.inl ((IntKind.i64.wrap ((-1) - k)), (IntKind.i64.wrap (k + 1))))
       else
        some (.inl (n, (IntKind.i64.wrap (k + 1))))
      else none
     else none
    else
     Option.map Sum.inr (
      if (out.length + 1) * 8 ≤ 140737488355328 then
       some (.inl ((out ++ [n]), (IntKind.i64.wrap (i + 1))))
      else none)
   else none
  else
   Option.map Sum.inr (
    if (out.length + 1) * 8 ≤ 140737488355328 then
     some (.inl ((out ++ [n]), (IntKind.i64.wrap (i + 1))))
    else none)
noncomputable def F_spec_l2By_l1 (order : (List Int)) (t : (List Int)) : ((List Int) × Int) → Option (((List Int) × Int) ⊕ (List Int))
 | (out, i) =>
  if (decide (i < (t.length : Int))) = true then
   if 0 ≤ i ∧ i < (t.length : Int) then
    loopC (F_spec_l2By_l2 order t out i) ((t.getD i.toNat default), 0)
   else none
  else
   Option.map Sum.inr (
    some out)
noncomputable def F_spec_l2By (order : (List Int)) (t : (List Int)) : Option (List Int) :=
 loopC (F_spec_l2By_l1 order t) ([], 0)
instance c_spec_l2By {order : (List Int)} {t : (List Int)} : HasC (F_spec_l2By order t) fun rr => PFun Tryz.prog 76 [(slD 1 iD) order, (slD 1 iD) t] ((slD 1 iD) rr) := ⟨@fun rr h => by
  delta F_spec_l2By at h
  refine fn76.pureL (vcm_sound ?_)
  delta mc76
  refine stp ?_
  refine m_lW h [5, 6, 7, 8, 10, 11, 12, 13, 14, 15, 16, 17, 18, 19, 20, 21, 22, 23, 24, 25, 26, 27, 28, 29, 30, 31, 32, 33, 34, 35, 36, 37, 38, 39, 40, 41, 42, 43, 44, 45, 46, 47] (fun pp => [(5, .own 1 9 (List.map iD pp.1)), (6, .d (iD pp.2))]) (fun pp => [(9, .tok 2 1 pp.1.length)]) ?_
  rintro ⟨out, i⟩ t1 h hb1
  unfold F_spec_l2By_l1 at h
  try dsimp only at h
  refine vcm_sound (stp ?_)
  refine iT h fun hc h => ?_
  refine ndI h fun hp h => ?_
  refine m_lW h [7, 8, 20, 21, 22, 23, 24, 25, 26, 27, 28, 29, 30, 31, 32, 33, 34, 35, 36, 37, 38, 39, 40, 41, 42, 43] (fun pp => [(7, .d (iD pp.1)), (8, .d (iD pp.2))]) (fun pp => [(9, .tok 2 1 out.length)]) ?_
  rintro ⟨n, k⟩ t2 h hb2
  unfold F_spec_l2By_l2 at h
  try dsimp only at h
  refine vcm_sound (stp ?_)
  refine it h (fun hc h => ?_) fun hc h => ?_
  · refine ndI h fun hp h => ?_
    refine iF h fun hc h => ?_
    replace h := inr_some h hb2
    refine ndI h fun hp h => ?_
    cases h
    refine ⟨_, rfl, ?_⟩
    refine (Weak.drop 46 (by omega)).trans ?_
    exact wk
  replace h := inr_some h hb2
  refine ndI h fun hp h => ?_
  cases h
  refine ⟨_, rfl, ?_⟩
  refine (Weak.drop 46 (by omega)).trans ?_
  exact wk⟩
def mc48 : MCode :=
 (.seq (.reg (sq 2 [.mv (.const (.slice none 0 0))])) (.seq (.reg (sq 3 [mv 0, cf 77 [3], mv 0, cf 76 [4, 5]] ++ sq 2 [mv 6])) .ret))
theorem fn48 : MFn Tryz.prog 48 mc48 7 [.tmp 2] := ⟨_, Tryz.func48, by kernel_rfl, Tryz.ntmps48, by kernel_rfl⟩
noncomputable def F_spec_l2Renamed (t : (List Int)) : Option (List Int) :=
 (F_spec_l2Order t).bind fun r =>
 (F_spec_l2By r t).bind fun r_1 =>
 some r_1
instance c_spec_l2Renamed {t : (List Int)} : HasC (F_spec_l2Renamed t) fun rr => PFun Tryz.prog 48 [(slD 1 iD) t] ((slD 1 iD) rr) := ⟨@fun rr h => by
  delta F_spec_l2Renamed at h
  refine fn48.pureL (vcm_sound ?_)
  delta mc48
  refine stp ?_
  exact aut⟩
def mc50 : MCode :=
 (.seq (.reg (sq 4 [mi 0])) (.seq (.seq (.reg (sq 5 [mi 0])) (.block 0 (.loop (.seq (.seq (.reg (sq 6 [mv 5, mv 0, ln 7, bn .lss 6 8])) (.cond (t0 9) .skip (.exit 0))) (.seq (.block 1 (.seq (.reg (sq 12 [mv 0, mv 5, ix 1 12 13, ld 14, mv 1, cf 79 [15, 16]])) (.cond (t0 17) (.seq (.reg (sq 18 [mv 5] ++ sq 4 [mv 18])) .ret) .skip))) (.reg (sq 10 [mv 5, bi .add 10 1] ++ sq 5 [mv 11]))))))) (.seq (.reg (sq 4 [mi (-1)])) .ret)))
theorem fn50 : MFn Tryz.prog 50 mc50 19 [.tmp 4] := ⟨_, Tryz.func50, by kernel_rfl, Tryz.ntmps50, by kernel_rfl⟩
noncomputable def F_spec_l1TermPlace_l1 (list : (List (List Int))) (t : (List Int)) : Int → Option (Int ⊕ Int)
 | i =>
  if (decide (i < (list.length : Int))) = true then
   if 0 ≤ i ∧ i < (list.length : Int) then
    (F_spec_SameTerm (list.getD i.toNat default) t).bind fun r =>
    if r = true then
     Option.map Sum.inr (
      some i)
    else
     some (.inl (IntKind.i64.wrap (i + 1)))
   else none
  else
   Option.map Sum.inr (
    some (-1))
noncomputable def F_spec_l1TermPlace (list : (List (List Int))) (t : (List Int)) : Option Int :=
 loopC (F_spec_l1TermPlace_l1 list t) 0
instance c_spec_l1TermPlace {list : (List (List Int))} {t : (List Int)} : HasC (F_spec_l1TermPlace list t) fun rr => PFun Tryz.prog 50 [(slD 1 (slD 1 iD)) list, (slD 1 iD) t] (iD rr) := ⟨@fun rr h => by
  delta F_spec_l1TermPlace at h
  refine fn50.pureL (vcm_sound ?_)
  delta mc50
  refine stp ?_
  refine m_lW h [4, 5, 6, 7, 8, 9, 10, 11, 12, 13, 14, 15, 16, 17, 18] (fun pp => [(5, .d (iD pp))]) (fun pp => []) ?_
  rintro i t1 h hb1
  unfold F_spec_l1TermPlace_l1 at h
  try dsimp only at h
  refine vcm_sound (stp ?_)
  exact aut⟩
def mc80 : MCode :=
 (.seq (.reg (sq 4 [mb false])) (.seq (.seq (.reg (sq 6 [mv 0, ln 6, mv 1, ln 8, bn .neq 7 9])) (.cond (t0 10) (.seq (.reg (sq 11 [mv 0, ln 11, mv 1, ln 13, bn .lss 12 14] ++ sq 4 [mv 15])) .ret) .skip)) (.seq (.seq (.reg (sq 5 [mi 0])) (.block 0 (.loop (.seq (.seq (.reg (sq 16 [mv 5, mv 0, ln 17, bn .lss 16 18])) (.cond (t0 19) .skip (.exit 0))) (.seq (.block 1 (.seq (.draw (sq 22 [mv 0, mv 5, ix 1 22 23, ld 24, mv 1, mv 5, ix 1 26 27, ld 28, bn .neq 25 29]) [[], [], [0, 1], [2], [], [], [4, 5], [6], [3, 7]]) (.cond (t0 30) (.seq (.draw (sq 31 [mv 0, mv 5, ix 1 31 32, ld 33, mv 1, mv 5, ix 1 35 36, ld 37, bn .lss 34 38] ++ sq 4 [mv 39]) [[], [], [0, 1], [2], [], [], [4, 5], [6], [3, 7], [8, 0, 1, 2, 3, 4, 5, 6, 7, 8]]) .ret) .skip))) (.reg (sq 20 [mv 5, bi .add 20 1] ++ sq 5 [mv 21]))))))) (.seq (.reg (sq 4 [mb false])) .ret))))
theorem fn80 : MFn Tryz.prog 80 mc80 40 [.tmp 4] := ⟨_, Tryz.func80, by kernel_rfl, Tryz.ntmps80, by kernel_rfl⟩
noncomputable def F_spec_LessTerm_l1 (a : (List Int)) (b : (List Int)) : Int → Option (Int ⊕ Bool)
 | i =>
  if (decide (i < (a.length : Int))) = true then
   if 0 ≤ i ∧ i < (a.length : Int) then
    if 0 ≤ i ∧ i < (b.length : Int) then
     if ((a.getD i.toNat default) != (b.getD i.toNat default)) = true then
      if 0 ≤ i ∧ i < (a.length : Int) then
       if 0 ≤ i ∧ i < (b.length : Int) then
        Option.map Sum.inr (
         some (decide ((a.getD i.toNat default) < (b.getD i.toNat default))))
       else none
      else none
     else
      some (.inl (IntKind.i64.wrap (i + 1)))
    else none
   else none
  else
   Option.map Sum.inr (
    some false)
noncomputable def F_spec_LessTerm (a : (List Int)) (b : (List Int)) : Option Bool :=
 if ((a.length : Int) != (b.length : Int)) = true then
  some (decide ((a.length : Int) < (b.length : Int)))
 else
  loopC (F_spec_LessTerm_l1 a b) 0
instance c_spec_LessTerm {a : (List Int)} {b : (List Int)} : HasC (F_spec_LessTerm a b) fun rr => PFun Tryz.prog 80 [(slD 1 iD) a, (slD 1 iD) b] (bD rr) := ⟨@fun rr h => by
  delta F_spec_LessTerm at h
  refine fn80.pureL (vcm_sound ?_)
  delta mc80
  refine stp ?_
  refine iF h fun hc h => ?_
  refine m_lW h [4, 5, 16, 17, 18, 19, 20, 21, 22, 23, 24, 25, 26, 27, 28, 29, 30, 31, 32, 33, 34, 35, 36, 37, 38, 39] (fun pp => [(5, .d (iD pp))]) (fun pp => []) ?_
  rintro i t1 h hb1
  unfold F_spec_LessTerm_l1 at h
  try dsimp only at h
  refine vcm_sound (stp ?_)
  refine iT h fun hc h => ?_
  refine ndI h fun hp h => ?_
  refine ndI h fun hp h => ?_
  refine drQ_of (by kernel_rfl) (stp ?_)
  refine iT h fun hc h => ?_
  refine ndI h fun hp h => ?_
  refine ndI h fun hp h => ?_
  refine drQ_of (by kernel_rfl) (stp ?_)
  replace h := inr_some h hb1
  cases h
  exact don⟩
def mc51 : MCode :=
 (.seq (.reg (sq 4 [.mv (.const (.slice none 0 0))])) (.seq (.reg (sq 7 [mv 0, ln 7] ++ sq 5 [mv 8])) (.seq (.block 0 (.loop (.seq (.seq (.reg (sq 9 [mv 5, bi .gtr 9 0, mv 10] ++ sg 11 true 12 [mv 1, mv 0, mv 5, bi .sub 14 1, ix 1 13 15, ld 16, cf 80 [12, 17]] ++ sq 19 [pa 11 18])) (.cond (t0 19) .skip (.exit 0))) (.block 1 (.reg (sq 20 [mv 5, bi .sub 20 1] ++ sq 5 [mv 21])))))) (.seq (.reg (sq 22 [.bsl 22 22 1 [], mv 0, mv 5, .slc (t0 23) 1 none (some (t0 24)) none, ap 26 22 1 24 22 25] ++ sq 6 [mv 26])) (.seq (.reg (sq 27 [mv 6, mv 1, .bsl 29 22 1 [(t0 28)], ap 30 22 1 24 27 29] ++ sq 6 [mv 30])) (.seq (.reg (sq 31 [mv 6, mv 0, mv 5, .slc (t0 32) 1 (some (t0 33)) none none, ap 35 22 1 24 31 34] ++ sq 4 [mv 35])) .ret))))))
theorem fn51 : MFn Tryz.prog 51 mc51 36 [.tmp 4] := ⟨_, Tryz.func51, by kernel_rfl, Tryz.ntmps51, by kernel_rfl⟩
noncomputable def F_spec_l28Insert_l1 (list : (List (List Int))) (t : (List Int)) : Int → Option (Int ⊕ (List (List Int)))
 | k =>
  if (decide (0 < k)) = true then
   if 0 ≤ (IntKind.i64.wrap (k - 1)) ∧ (IntKind.i64.wrap (k - 1)) < (list.length : Int) then
    (F_spec_LessTerm t (list.getD (IntKind.i64.wrap (k - 1)).toNat default)).bind fun r =>
    if r = true then
     some (.inl (IntKind.i64.wrap (k - 1)))
    else
     Option.map Sum.inr (
      if 0 ≤ k ∧ k ≤ (list.length : Int) then
       if (0 + (list.take k.toNat).length) * 24 ≤ 140737488355328 then
        if ((list.take k.toNat).length + 1) * 24 ≤ 140737488355328 then
         if 0 ≤ k ∧ k ≤ (list.length : Int) then
          if (((list.take k.toNat) ++ [t]).length + (list.drop k.toNat).length) * 24 ≤ 140737488355328 then
           some (((list.take k.toNat) ++ [t]) ++ (list.drop k.toNat))
          else none
         else none
        else none
       else none
      else none)
   else none
  else
   Option.map Sum.inr (
    if 0 ≤ k ∧ k ≤ (list.length : Int) then
     if (0 + (list.take k.toNat).length) * 24 ≤ 140737488355328 then
      if ((list.take k.toNat).length + 1) * 24 ≤ 140737488355328 then
       if 0 ≤ k ∧ k ≤ (list.length : Int) then
        if (((list.take k.toNat) ++ [t]).length + (list.drop k.toNat).length) * 24 ≤ 140737488355328 then
         some (((list.take k.toNat) ++ [t]) ++ (list.drop k.toNat))
        else none
       else none
      else none
     else none
    else none)
noncomputable def F_spec_l28Insert (list : (List (List Int))) (t : (List Int)) : Option (List (List Int)) :=
 loopC (F_spec_l28Insert_l1 list t) (list.length : Int)
instance c_spec_l28Insert {list : (List (List Int))} {t : (List Int)} : HasC (F_spec_l28Insert list t) fun rr => PFun Tryz.prog 51 [(slD 1 (slD 1 iD)) list, (slD 1 iD) t] ((slD 1 (slD 1 iD)) rr) := ⟨@fun rr h => by
  delta F_spec_l28Insert at h
  refine fn51.pureL (vcm_sound ?_)
  delta mc51
  refine stp ?_
  refine m_lW h [5, 9, 10, 11, 12, 13, 14, 15, 16, 17, 18, 19, 20, 21] (fun pp => [(5, .d (iD pp))]) (fun pp => []) ?_
  rintro k t1 h hb1
  unfold F_spec_l28Insert_l1 at h
  try dsimp only at h
  refine vcm_sound (stp ?_)
  exact aut⟩
def mc21 : MCode :=
 (.seq (.reg (sq 2 [bo 2 30 0] ++ sq 4 [.mv (.const (.slice none 0 0))])) (.seq (.reg (sq 9 [.bsl 9 22 1 []] ++ sq 5 [mv 9])) (.seq (.seq (.reg (sq 6 [mi 0])) (.block 0 (.loop (.seq (.seq (.reg (sq 10 [mv 6, mv 1, ln 11, bn .lss 10 12])) (.cond (t0 13) .skip (.exit 0))) (.seq (.block 1 (.seq (.reg (sq 7 [mi 1])) (.block 2 (.loop (.seq (.seq (.reg (sq 16 [mv 7, mv 1, mv 6, ix 1 17 18, ld 19, ln 20, bn .lss 16 21])) (.cond (t0 22) .skip (.exit 2))) (.seq (.block 3 (.seq (.draw (sq 25 [la 1 2, mv 1, mv 6, ix 1 26 27, ld 28, mv 7, cf 49 [25, 29, 30], cf 48 [31]] ++ sq 8 [mv 32]) [[], [], [], [1, 2], [3], [], [0, 4, 5], [6, 6], [7, 7, 0, 1, 2, 3, 4, 5, 6, 7]]) (.seq (.reg (sq 33 [mv 8, .ixa 1 (t0 33) (i0 0), ld 34, bi .geq 35 0, mv 36] ++ sg 37 true 38 [mv 5, mv 8, cf 50 [38, 39], bi .lss 40 0] ++ sq 42 [pa 37 41])) (.cond (t0 42) (.reg (sq 43 [mv 5, mv 8, cf 51 [43, 44]] ++ sq 5 [mv 45])) .skip)))) (.reg (sq 23 [mv 7, bi .add 23 1] ++ sq 7 [mv 24])))))))) (.reg (sq 14 [mv 6, bi .add 14 1] ++ sq 6 [mv 15]))))))) (.seq (.reg (sq 46 [mv 5] ++ sq 4 [mv 46])) .ret))))
theorem fn21 : MFn Tryz.prog 21 mc21 47 [.tmp 4] := ⟨_, Tryz.func21, by kernel_rfl, Tryz.ntmps21, by kernel_rfl⟩
noncomputable def F_spec_l24Shapes_l2 (sig : (List Int)) (ls : (List (List Int))) (i : Int) : ((List (List Int)) × Int) → Option (((List (List Int)) × Int) ⊕ (((List (List Int)) × Int) ⊕ (List (List Int))))
 | (out_1, at') =>
  if 0 ≤ i ∧ i < (ls.length : Int) then
   if (decide (at' < ((ls.getD i.toNat default).length : Int))) = true then
    if 0 ≤ i ∧ i < (ls.length : Int) then
     (F_spec_l1Sub sig (ls.getD i.toNat default) at').bind fun r =>
     (F_spec_l2Renamed r).bind fun r_1 =>
     if 0 ≤ 0 ∧ 0 < (r_1.length : Int) then
      if (decide (0 ≤ (r_1.getD 0 default))) = true then
       (F_spec_l1TermPlace out_1 r_1).bind fun r_2 =>
       if (decide (r_2 < 0)) = true then
        (F_spec_l28Insert out_1 r_1).bind fun r_3 =>
        some (.inl (r_3, (IntKind.i64.wrap (at' + 1))))
       else
        some (.inl (out_1, (IntKind.i64.wrap (at' + 1))))
      else
       some (.inl (out_1, (IntKind.i64.wrap (at' + 1))))
     else none
    else none
   else
    Option.map Sum.inr (
     some (.inl (out_1, (IntKind.i64.wrap (i + 1)))))
  else none
noncomputable def F_spec_l24Shapes_l1 (sig : (List Int)) (ls : (List (List Int))) : ((List (List Int)) × Int) → Option (((List (List Int)) × Int) ⊕ (List (List Int)))
 | (out, i) =>
  if (decide (i < (ls.length : Int))) = true then
   loopC (F_spec_l24Shapes_l2 sig ls i) (out, 1)
  else
   Option.map Sum.inr (
    some out)
noncomputable def F_spec_l24Shapes (sig : (List Int)) (ls : (List (List Int))) : Option (List (List Int)) :=
 loopC (F_spec_l24Shapes_l1 sig ls) ([], 0)
instance c_spec_l24Shapes {sig : (List Int)} {ls : (List (List Int))} : HasC (F_spec_l24Shapes sig ls) fun rr => PFun Tryz.prog 21 [D_impl_Sig sig, (slD 1 (slD 1 iD)) ls] ((slD 1 (slD 1 iD)) rr) := ⟨@fun rr h => by
  delta F_spec_l24Shapes at h
  refine fn21.pureL (vcm_sound ?_)
  delta mc21
  refine stp ?_
  refine m_lW h [5, 6, 7, 8, 10, 11, 12, 13, 14, 15, 16, 17, 18, 19, 20, 21, 22, 23, 24, 25, 26, 27, 28, 29, 30, 31, 32, 33, 34, 35, 36, 37, 38, 39, 40, 41, 42, 43, 44, 45] (fun pp => [(5, .d (slD 1 (slD 1 iD) pp.1)), (6, .d (iD pp.2))]) (fun pp => [(2, .obj 30 [.d (slD 1 iD sig)]), (9, .tok 22 1 0)]) ?_
  rintro ⟨out, i⟩ t1 h hb1
  unfold F_spec_l24Shapes_l1 at h
  try dsimp only at h
  refine vcm_sound (stp ?_)
  refine iT h fun hc h => ?_
  refine m_lW h [5, 7, 8, 16, 17, 18, 19, 20, 21, 22, 23, 24, 25, 26, 27, 28, 29, 30, 31, 32, 33, 34, 35, 36, 37, 38, 39, 40, 41, 42, 43, 44, 45] (fun pp => [(5, .d (slD 1 (slD 1 iD) pp.1)), (7, .d (iD pp.2))]) (fun pp => [(2, .obj 30 [.d (slD 1 iD sig)]), (9, .tok 22 1 0)]) ?_
  rintro ⟨out_1, at'⟩ t2 h hb2
  unfold F_spec_l24Shapes_l2 at h
  try dsimp only at h
  refine vcm_sound (stp ?_)
  exact aut⟩
def mc6 : MCode :=
 (.seq (.reg (sq 2 [bo 2 33 0] ++ sq 4 [.mv (.const (.slice none 0 0))])) (.seq (.reg (sq 8 [.bsl 8 2 1 []] ++ sq 5 [mv 8])) (.seq (.seq (.reg (sq 9 [la 2 2, cf 19 [9], nt 10, mv 11] ++ sg 12 false 13 [fa 0 2, la 1 13, mv 1, cf 20 [14, 15], nt 16] ++ sq 18 [po 12 17])) (.cond (t0 18) (.seq (.reg (sq 19 [mv 5] ++ sq 4 [mv 19])) .ret) .skip)) (.seq (.draw (sq 20 [fa 0 2, la 1 20, la 2 2, cf 22 [22], cf 21 [21, 23]] ++ sq 6 [mv 24]) [[], [0], [], [2], [1, 3, 3], [4, 4, 0, 1, 2, 3, 4]]) (.seq (.seq (.reg (sq 7 [mi 0])) (.block 0 (.loop (.seq (.seq (.reg (sq 25 [mv 7, mv 6, ln 26, bn .lss 25 27])) (.cond (t0 28) .skip (.exit 0))) (.seq (.block 1 (.seq (.draw (sq 31 [fa 0 2, la 1 31, mv 6, mv 7, ix 1 33 34, ld 35, mv 1, cf 23 [32, 36, 37]]) [[], [0], [], [], [2, 3], [4], [], [1, 5, 6]]) (.cond (t0 38) (.reg (sq 39 [mv 5, mv 7, .bsl 41 2 1 [(t0 40)], ap 42 2 1 8 39 41] ++ sq 5 [mv 42])) .skip))) (.reg (sq 29 [mv 7, bi .add 29 1] ++ sq 7 [mv 30]))))))) (.seq (.reg (sq 43 [mv 5] ++ sq 4 [mv 43])) .ret))))))
theorem fn6 : MFn Tryz.prog 6 mc6 44 [.tmp 4] := ⟨_, Tryz.func6, by kernel_rfl, Tryz.ntmps6, by kernel_rfl⟩
noncomputable def F_spec_ShapesAt_l1 (sys : ((List Int) × (List ((List Int) × (List Int))))) (t : (List Int)) (r_3 : (List (List Int))) : ((List Int) × Int) → Option (((List Int) × Int) ⊕ (List Int))
 | (out, i) =>
  if (decide (i < (r_3.length : Int))) = true then
   if 0 ≤ i ∧ i < (r_3.length : Int) then
    (F_spec_InstanceIn sys.1 (r_3.getD i.toNat default) t).bind fun r_4 =>
    if r_4 = true then
     if (out.length + 1) * 8 ≤ 140737488355328 then
      some (.inl ((out ++ [i]), (IntKind.i64.wrap (i + 1))))
     else none
    else
     some (.inl (out, (IntKind.i64.wrap (i + 1))))
   else none
  else
   Option.map Sum.inr (
    some out)
noncomputable def F_spec_ShapesAt (sys : ((List Int) × (List ((List Int) × (List Int))))) (t : (List Int)) : Option (List Int) :=
 (F_spec_l24Right sys).bind fun r =>
 if r = true then
  (F_spec_GroundIn sys.1 t).bind fun r_1 =>
  if r_1 = true then
   (F_spec_l24Ls sys).bind fun r_2 =>
   (F_spec_l24Shapes sys.1 r_2).bind fun r_3 =>
   loopC (F_spec_ShapesAt_l1 sys t r_3) ([], 0)
  else
   some []
 else
  some []
instance c_spec_ShapesAt {sys : ((List Int) × (List ((List Int) × (List Int))))} {t : (List Int)} : HasC (F_spec_ShapesAt sys t) fun rr => PFun Tryz.prog 6 [D_impl_System sys, (slD 1 iD) t] ((slD 1 iD) rr) := ⟨@fun rr h => by
  delta F_spec_ShapesAt at h
  refine fn6.pureL (vcm_sound ?_)
  delta mc6
  refine stp ?_
  refine rC h fun r hr h => ?_
  refine iT h fun hc h => ?_
  refine rC h fun r_1 hr_1 h => ?_
  refine iT h fun hc h => ?_
  refine dC h fun r_2 hr_2 h => ?_
  refine dC h fun r_3 hr_3 h => ?_
  refine drQ_of (by kernel_rfl) (stp ?_)
  refine m_lW h [5, 7, 25, 26, 27, 28, 29, 30, 31, 32, 33, 34, 35, 36, 37, 38, 39, 40, 41, 42] (fun pp => [(5, .own 1 8 (List.map iD pp.1)), (7, .d (iD pp.2))]) (fun pp => [(2, .obj 33 [.d (slD 1 iD sys.1), .d (slD 2 D_impl_Rule sys.2)]), (8, .tok 2 1 pp.1.length)]) ?_
  rintro ⟨out, i⟩ t1 h hb1
  unfold F_spec_ShapesAt_l1 at h
  try dsimp only at h
  refine vcm_sound (stp ?_)
  refine iT h fun hc h => ?_
  refine ndI h fun hp h => ?_
  refine dC h fun r_4 hr_4 h => ?_
  refine drQ_of (by kernel_rfl) (stp ?_)
  refine iT h fun hc h => ?_
  refine ndI h fun hp h => ?_
  cases h
  refine ⟨_, rfl, ?_⟩
  refine (Weak.drop 41 (by omega)).trans ?_
  exact wk⟩
end Go.Proofs.YtcbfefbocpikoaaGreat
namespace Go.Proofs.YtcbfefbocpikoaaGreat
open Go Go.RowKit Go.Proofs
def RdN (w : World) (A : Option Addr) (xs : List Int) : Prop := ∀ j x, xs[j]? = some x → ∃ ad, A = some ad ∧ w.cell? (ad.add j) = some (.int .i64 x)
def lexI : List Int → List Int → Int
  | [], [] => 0
  | [], _ :: _ => -1
  | _ :: _, [] => 1
  | x :: xs, y :: ys => if x < y then -1 else if y < x then 1 else lexI xs ys
def cmpT (a b : List Int) : Int := if a.length = b.length then lexI a b else (a.length : Int) - b.length
set_option maxHeartbeats 1000000 in
theorem cmp_walk (x y : Int) (w : World) : Calls Tryz.prog 146 #[.int .i64 x, .int .i64 y] w fun e w' => e = .returned (.int .i64 (if x < y then -1 else if y < x then 1 else 0)) ∧ w' = w := by
  have N : ∀ (z : Int) (w : World), Calls Tryz.prog 162 #[.int .i64 z] w fun e w' => e = .returned (.bool false) ∧ w' = w := fun z w => by
    go_enter Tryz.func162, Tryz.ntmps162
    go_wp2
    go_ret
    exact ⟨by simp, rfl⟩
  go_enter Tryz.func146, Tryz.ntmps146
  go_wp2_with (go_at_call 162; refine (N _ _).mono ?_; rintro e w' ⟨rfl, rfl⟩)
  all_goals (go_ret; refine ⟨?_, rfl⟩)
  · simp [*]
  · have : ¬ x < y := by omega
    simp [*]
  · have h1 : ¬ x < y := by omega
    have h2 : ¬ y < x := by omega
    simp [*]
set_option maxHeartbeats 4000000 in
theorem lex_walk (xs ys : List Int) (A B : Option Addr) (ca cb : Nat) (w : World) (hx : RdN w A xs) (hy : RdN w B ys) (h1 : xs.length < 2 ^ 62) (h2 : ys.length < 2 ^ 62) :
    Calls Tryz.prog 121 #[.slice A xs.length ca, .slice B ys.length cb] w fun e w' => e = .returned (.int .i64 (lexI xs ys)) ∧ w' = w := by
  go_enter Tryz.func121, Tryz.ntmps121
  go_wp2
  go_loopw [11] (fun i wr => ∃ q : Nat, i = .int .i64 q ∧ q ≤ xs.length ∧ q ≤ ys.length ∧ wr = w ∧ lexI xs ys = lexI (xs.drop q) (ys.drop q)) (fun i _ => (xs.length - intOf i).toNat)
  case atStart => exact ⟨0, rfl, by omega, by omega, rfl, by simp⟩
  case round =>
    obtain ⟨q, rfl, hq, hq2, rfl, hl⟩ := hrel
    by_cases ha : q < xs.length
    · obtain ⟨ad, rfl, cx⟩ := hx q _ (List.getElem?_eq_getElem ha)
      by_cases hb : q < ys.length
      · obtain ⟨bd, rfl, cy⟩ := hy q _ (List.getElem?_eq_getElem hb)
        have hl' : lexI xs ys = if xs[q] < ys[q] then -1 else if ys[q] < xs[q] then 1 else lexI (xs.drop (q + 1)) (ys.drop (q + 1)) := by
          rw [hl, List.drop_eq_getElem_cons ha, List.drop_eq_getElem_cons hb]; rfl
        clear hl hx hy
        generalize xs[q] = x at *
        generalize ys[q] = y at *
        rcases Int.lt_trichotomy x y with h | h | h
        · have C := fun w => cmp_walk x y w
          simp only [if_pos h] at C hl'
          go_wp2_with (go_at_call 146; refine (C _).mono ?_; rintro e w' ⟨rfl, rfl⟩)
          go_ret
          exact ⟨by rw [hl']; rfl, rfl⟩
        · subst h
          have C := fun w => cmp_walk x x w
          simp only [Int.lt_irrefl, if_false] at C hl'
          go_wp2_with (go_at_call 146; refine (C _).mono ?_; rintro e w' ⟨rfl, rfl⟩)
          go_roundw
          case rel => exact ⟨q + 1, by go_num, by omega, by omega, by trivial, hl'⟩
          case measure => simp [intOf]; omega
        · have C := fun w => cmp_walk x y w
          simp only [if_neg (show ¬ x < y by omega), if_pos h] at C hl'
          go_wp2_with (go_at_call 146; refine (C _).mono ?_; rintro e w' ⟨rfl, rfl⟩)
          go_ret
          exact ⟨by rw [hl']; rfl, rfl⟩
      · have e : lexI xs ys = 1 := by
          rw [hl, List.drop_eq_getElem_cons ha, List.drop_of_length_le (show ys.length ≤ q by omega)]; rfl
        have : q = ys.length := by omega
        subst this
        go_wp2
        go_ret
        exact ⟨by rw [e]; rfl, rfl⟩
    · have : q = xs.length := by omega
      subst this
      rw [List.drop_length] at hl
      by_cases hb : xs.length < ys.length
      · have e : lexI xs ys = -1 := by rw [hl, List.drop_eq_getElem_cons hb]; rfl
        go_wp2
        go_ret
        exact ⟨by rw [e]; rfl, rfl⟩
      · have e : lexI xs ys = 0 := by rw [hl, List.drop_of_length_le (by omega)]; rfl
        go_wp2
        go_ret
        exact ⟨by rw [e]; rfl, rfl⟩
set_option maxHeartbeats 2000000 in
set_option maxRecDepth 100000 in
theorem cmpT_walk (xs ys : List Int) (A B : Option Addr) (ca cb : Nat) (w : World) (hx : RdN w A xs) (hy : RdN w B ys) (h1 : xs.length < 2 ^ 62) (h2 : ys.length < 2 ^ 62) :
    Calls Tryz.prog 94 #[.slice A xs.length ca, .slice B ys.length cb] w fun e w' => e = .returned (.int .i64 (cmpT xs ys)) ∧ w' = w := by
  have L := lex_walk xs ys A B ca cb w hx hy h1 h2
  clear hx hy
  have C : cmpT xs ys = if xs.length = ys.length then lexI xs ys else (xs.length : Int) - ys.length := rfl
  generalize cmpT xs ys = c at C ⊢
  generalize lexI xs ys = l at C L
  generalize xs.length = n at *
  generalize ys.length = m at *
  clear xs ys
  by_cases h : n = m
  · subst h
    rw [if_pos rfl] at C
    subst C
    go_enter Tryz.func94, Tryz.ntmps94
    go_wp2_with (go_at_call 121; refine L.mono ?_; rintro e w' ⟨rfl, rfl⟩)
    go_ret
    exact ⟨rfl, rfl⟩
  · rw [if_neg h] at C
    subst C
    clear L
    go_enter Tryz.func94, Tryz.ntmps94
    go_wp2
    go_ret
    exact ⟨rfl, rfl⟩
end Go.Proofs.YtcbfefbocpikoaaGreat
namespace Go.Proofs.YtcbfefbocpikoaaGreat
open Go Go.RowKit Go.Proofs
theorem lexI_self : ∀ a : List Int, lexI a a = 0
  | [] => rfl
  | x :: xs => by simp [lexI, lexI_self xs]
theorem lexI_neg : ∀ a b : List Int, lexI b a = - lexI a b
  | [], [] => rfl
  | [], _ :: _ => rfl
  | _ :: _, [] => rfl
  | x :: xs, y :: ys => by
    simp only [lexI]
    have := lexI_neg xs ys
    repeat' split
    all_goals first | rfl | omega
theorem lexI_zero : ∀ {a b : List Int}, lexI a b = 0 → a = b
  | [], [], _ => rfl
  | [], _ :: _, h => by simp [lexI] at h
  | _ :: _, [], h => by simp [lexI] at h
  | x :: xs, y :: ys, h => by
    simp only [lexI] at h
    split at h
    · omega
    · split at h
      · omega
      · rw [lexI_zero h, show x = y by omega]
theorem lexI_trans : ∀ {a b c : List Int}, lexI a b ≤ 0 → lexI b c ≤ 0 → lexI a c ≤ 0 ∧ (lexI a b < 0 ∨ lexI b c < 0 → lexI a c < 0)
  | [], [], c, h1, h2 => ⟨h2, fun h => h.elim (fun h => by simp [lexI] at h) id⟩
  | [], _ :: _, [], h1, h2 => by simp [lexI] at h2
  | [], _ :: _, _ :: _, h1, h2 => by simp [lexI]
  | _ :: _, [], _, h1, h2 => by simp [lexI] at h1
  | _ :: _, _ :: _, [], h1, h2 => by simp [lexI] at h2
  | x :: xs, y :: ys, z :: zs, h1, h2 => by
    have ih := fun h1 h2 => lexI_trans (a := xs) (b := ys) (c := zs) h1 h2
    simp only [lexI] at h1 h2 ⊢
    by_cases h3 : x < y
    · by_cases h4 : y < z
      · rw [if_pos (show x < z by omega)]; omega
      · rw [if_neg h4] at h2
        by_cases h5 : z < y
        · rw [if_pos h5] at h2; omega
        · rw [if_pos (show x < z by omega)]; omega
    · rw [if_neg h3] at h1 ⊢
      by_cases h5 : y < x
      · rw [if_pos h5] at h1; omega
      · rw [if_neg h5] at h1 ⊢
        obtain rfl : x = y := by omega
        by_cases h4 : x < z
        · rw [if_pos h4]; omega
        · by_cases h6 : z < x
          · rw [if_neg h4, if_pos h6] at h2; omega
          · simp only [if_neg h6, if_neg h4] at h2 ⊢
            exact ih h1 h2
theorem cmpT_self (a : List Int) : cmpT a a = 0 := by unfold cmpT; rw [if_pos rfl, lexI_self]
theorem cmpT_neg (a b : List Int) : cmpT b a = - cmpT a b := by
  unfold cmpT
  by_cases h : a.length = b.length
  · rw [if_pos h, if_pos h.symm, lexI_neg]
  · rw [if_neg h, if_neg (fun e => h e.symm)]; omega
theorem cmpT_zero {a b : List Int} (h : cmpT a b = 0) : a = b := by
  unfold cmpT at h
  split at h
  · exact lexI_zero h
  · omega
theorem cmpT_trans {a b c : List Int} (h1 : cmpT a b ≤ 0) (h2 : cmpT b c ≤ 0) : cmpT a c ≤ 0 ∧ (cmpT a b < 0 ∨ cmpT b c < 0 → cmpT a c < 0) := by
  unfold cmpT at *
  by_cases h : a.length = b.length
  · rw [if_pos h] at h1 ⊢
    by_cases h' : b.length = c.length
    · rw [if_pos h'] at h2 ⊢
      rw [if_pos (h.trans h')]
      exact lexI_trans h1 h2
    · rw [if_neg h'] at h2 ⊢
      rw [if_neg (by omega)]; omega
  · rw [if_neg h] at h1 ⊢
    by_cases h' : b.length = c.length
    · rw [if_pos h'] at h2 ⊢
      rw [if_neg (by omega)]; omega
    · rw [if_neg h'] at h2 ⊢
      rw [if_neg (by omega)]; omega
def sortT (xs : List (List Int)) : List (List Int) := xs.mergeSort fun a b => decide (cmpT a b ≤ 0)
theorem sortT_perm (xs : List (List Int)) : (sortT xs).Perm xs := List.mergeSort_perm _ _
theorem sortT_len {xs : List (List Int)} : (sortT xs).length = xs.length := (sortT_perm xs).length_eq
theorem sortT_sorted (xs : List (List Int)) : (sortT xs).Pairwise fun a b => cmpT a b ≤ 0 := by
  refine (List.pairwise_mergeSort (le := fun a b => decide (cmpT a b ≤ 0)) (fun a b c h1 h2 => ?_) (fun a b => ?_) xs).imp (fun h => of_decide_eq_true h)
  · exact decide_eq_true (cmpT_trans (of_decide_eq_true h1) (of_decide_eq_true h2)).1
  · have := cmpT_neg a b
    simp only [Bool.or_eq_true, decide_eq_true_eq]; omega
theorem sorted_uniq {l l' : List (List Int)} (hp : l.Perm l') (h : l.Pairwise fun a b => cmpT a b ≤ 0) (h' : l'.Pairwise fun a b => cmpT a b ≤ 0) : l = l' := by
  refine List.Perm.eq_of_pairwise (fun a b _ _ h1 h2 => ?_) h h' hp
  have := cmpT_neg a b
  exact cmpT_zero (by omega)
end Go.Proofs.YtcbfefbocpikoaaGreat
namespace Go.Proofs.YtcbfefbocpikoaaGreat
open Go Go.RowKit Go.Proofs Go.Shelf Go.Lib Go.Sort
structure El (w : World) (blk : Nat) where
  v : Value
  xs : List Int
  ok : ∃ A cap, v = .slice A xs.length cap ∧ xs.length < 2 ^ 62 ∧ ∀ j x, xs[j]? = some x → ∃ ad : Addr, A = some ad ∧ ad.block ≠ blk ∧ ad.block < w.heap.size ∧ w.cell? (ad.add j) = some (.int .i64 x)
instance {w : World} {blk : Nat} : Inhabited (El w blk) := ⟨⟨.slice none 0 0, [], none, 0, rfl, by decide, fun j x h => by simp at h⟩⟩
theorem blk_add' (a : Addr) (n : Nat) : (a.add n).block = a.block := by unfold Addr.add; split <;> rfl
theorem el_rd {w : World} {blk : Nat} (x : El w blk) (n m : Nat) (d : Array (El w blk)) (os : Array Obj) : ∃ A cap, x.v = .slice A x.xs.length cap ∧ x.xs.length < 2 ^ 62 ∧ RdN (sortWorld El.v w blk 0 m d os) A x.xs := by
  obtain ⟨A, cap, h1, h2, h3⟩ := x.ok
  refine ⟨A, cap, h1, h2, fun j y hj => ?_⟩
  obtain ⟨ad, h4, h5, h6, h7⟩ := h3 j y hj
  refine ⟨ad, h4, ?_⟩
  unfold sortWorld
  rw [cell?_grow _ _ _ (by rw [size_putRow, blk_add']; exact h6), cell?_putRow_other _ _ _ _ _ _ (.inl (by rw [blk_add']; exact h5))]
  exact h7
theorem swo_cmp {w : World} {blk : Nat} : SWO (ltOf fun x y : El w blk => cmpT x.xs y.xs) where
  irrefl x := by simp [ltOf, cmpT_self]
  trans x y z h1 h2 := by
    simp only [ltOf, decide_eq_true_eq] at *
    exact (cmpT_trans (by omega) (by omega)).2 (.inl h1)
  ntrans x y z h1 h2 := by
    simp only [ltOf, decide_eq_false_iff_not] at *
    have g1 := cmpT_neg x.xs y.xs
    have g2 := cmpT_neg y.xs z.xs
    have g3 := cmpT_neg x.xs z.xs
    have := (cmpT_trans (a := z.xs) (b := y.xs) (c := x.xs) (by omega) (by omega)).1
    omega
theorem getI {α : Type} [Inhabited α] {d : Array α} {i : Nat} (h : i < d.size) : d[i]! = d[i] := getElem!_pos d i h
theorem sort_walk {w : World} {blk cap : Nat} {d : Array (El w blk)} (hH : Holds El.v w blk 0 d) (hblk : blk < w.heap.size) (hsz : d.size < 4611686018427387904) :
    Calls Tryz.prog 93 #[.slice (some ⟨blk, 0, none⟩) d.size cap, .func (.func 94) #[] #[]] w fun e w' => e = .returned (.tuple #[]) ∧
      ∃ (d' : Array (El w blk)) (n : Nat) (os : Array Obj), w' = sortWorld El.v w blk 0 n d' os ∧ d'.size = d.size ∧ d'.toList.Perm d.toList ∧ d'.toList.map El.xs = sortT (d.toList.map El.xs) := by
  have eg : ∀ args w, (callFunc 94 args).run Tryz.prog w = .ok (.enter 94 args) w := enters_of Tryz.func94 (by kernel_rfl) rfl
  refine (Tryz.slices_SortFunc El.v (fun x => by obtain ⟨A, cap, h, _⟩ := x.ok; rw [h]; rfl) (fun x y => cmpT x.xs y.xs) swo_cmp 94 #[] blk 0 cap d w eg (fun m os dk hs x y => ?_) hH hblk hsz).mono ?_
  · obtain ⟨A, ca, h1, h2, h3⟩ := el_rd x 0 m dk os
    obtain ⟨B, cb, k1, k2, k3⟩ := el_rd y 0 m dk os
    rw [h1, k1]
    refine (cmpT_walk x.xs y.xs A B ca cb _ h3 k3 h2 k2).mono ?_
    rintro e w' ⟨rfl, rfl⟩
    exact ⟨rfl, 0, #[], by rw [grow_empty]; rfl⟩
  · rintro e w' ⟨rfl, d', n, os, hp, hs, rfl⟩
    obtain ⟨p1, p2, p3⟩ := hp
    have p5 : d'.toList.Perm d.toList := by
      have e1 : d'.extract 0 d.size = d' := by rw [← p1]; simp
      have e2 : d.extract 0 d.size = d := by simp
      rw [e1, e2] at p3
      exact p3
    refine ⟨rfl, d', n, os, rfl, p1, p5, ?_⟩
    have p4 : (d'.toList.map El.xs).Perm (d.toList.map El.xs) := p5.map _
    refine sorted_uniq (p4.trans (sortT_perm _).symm) ?_ (sortT_sorted _)
    rw [List.pairwise_map, List.pairwise_iff_getElem]
    intro i j hi hj hij
    have hj' : j < d'.size := by simpa using hj
    have hi' : i < d'.size := by omega
    have := hs i j (Nat.zero_le _) hij (by omega)
    rw [getI hj', getI hi'] at this
    simp only [ltOf, decide_eq_false_iff_not] at this
    have g := cmpT_neg d'[i].xs d'[j].xs
    show cmpT d'.toList[i].xs d'.toList[j].xs ≤ 0
    simp only [Array.getElem_toList]
    omega
end Go.Proofs.YtcbfefbocpikoaaGreat
namespace Abx
open Go
mutual
inductive LentV (s : Sto) : AV → AV → Prop
  | d {x : AV} {a : D} (h : AV.le x (.d a)) : LentV s x (.d a)
  | gro {e id n : Nat} {ds : List D} (h : FrzOk s id ds) (hx : (AV.gow e id n).frz id ds = .d (.sl e none ds)) : LentV s (.gow e id n) (.d (.sl e none ds))
  | ptr {id t : Nat} {cs : List AV} {ds : List D} (h : sat s id = .obj t cs) (hd : cs = ds.map .d) : LentV s (.ptr id 0) (.pv ds)
  | fn {f : Nat} {a b a' b' : List AV} (h : LentVs s a a') (h' : LentVs s b b') : LentV s (.fn f a b) (.fn f a' b')
inductive LentVs (s : Sto) : List AV → List AV → Prop
  | nil : LentVs s [] []
  | cons {x y : AV} {xs ys : List AV} (h : LentV s x y) (hs : LentVs s xs ys) : LentVs s (x :: xs) (y :: ys)
end
theorem own_off {C : Ctx} {β : Beta} {s : Sto} {w : World} (h : Inv C β s w) {b o : Nat} (ho : own β s b o) : ¬ C.O b o := fun hO => by
  have hl := h.low b o hO
  rcases h.ownd b o ho with h4 | h4
  · exact hl.2 h4
  · omega
theorem oks_d {β : Beta} {O : Own} {w : World} : ∀ {ds : List D} {vs : List Value}, AV.oks β O w (ds.map .d) vs → D.oks O w ds vs ∨ ∃ v ∈ vs, one v = false
  | [], vs, h => by simp only [List.map_nil, AV.oks] at h; exact .inl (by simpa [D.oks] using h)
  | d :: ds, vs, h => by
    simp only [List.map_cons, AV.oks, AV.ok] at h
    obtain ⟨v, r, rfl, h1, h2⟩ := h
    cases hv : one v with
    | false => exact .inr ⟨v, by simp, hv⟩
    | true =>
      rcases oks_d h2 with h3 | ⟨u, hu, h3⟩
      · exact .inl (by simp only [D.oks]; exact ⟨v, r, rfl, hv, h1, h3⟩)
      · exact .inr ⟨u, by simp [hu], h3⟩
mutual
theorem LentV.ok {C : Ctx} {β : Beta} {s : Sto} {w : World} (h : Inv C β s w) (β' : Beta) : ∀ {x y : AV} {v : Value}, LentV s x y → AV.ok β (C.forb β s) w x v → AV.ok β' C.O w y v
  | _, _, v, .d hl, hv => by
    have := hl _ _ _ _ hv
    simp only [AV.ok] at this ⊢
    exact D.ok_less (fun b o ho => .inl ho) this
  | _, _, v, .gro (id := id) hf hx, hv => by
    have := frz_ok h hf _ _ hv
    rw [hx] at this
    simp only [AV.ok] at this ⊢
    exact D.ok_less (fun b o ho => .inl ho) this
  | _, _, v, .ptr (id := id) (ds := ds) hs hd, hv => by
    have hob := h.obs id
    rw [hs] at hob
    simp only [AV.ok] at hv ⊢
    obtain ⟨b, h1, rfl⟩ := hv
    obtain ⟨b', vs, h2, h3, h4, pre, rest, h5, h6⟩ := hob
    rw [h1] at h2
    cases h2
    rw [hd] at h6
    have hb : ∀ o, ¬ C.O b o := fun o => own_off h ⟨id, by rw [hs]; exact h1⟩
    refine ⟨b, 0, pre, rfl, fun j u hj => ⟨?_, hb _, h4 u (by rw [h5]; exact List.mem_append_left _ (List.mem_of_getElem? hj))⟩, ?_⟩
    · have : vs.toList[j]? = some u := by rw [h5, List.getElem?_append_left (List.getElem?_eq_some_iff.1 hj).1]; exact hj
      simp only [World.cell?, h3, Nat.zero_add]
      simpa using this
    · rcases oks_d h6 with h7 | ⟨u, hu, h7⟩
      · have : ∀ {ds : List D} {vs : List Value}, D.oks (C.forb β s) w ds vs → D.oks C.O w ds vs := by
          intro ds
          induction ds with
          | nil => intro vs h; simpa [D.oks] using h
          | cons d ds ih =>
            intro vs h
            simp only [D.oks] at h ⊢
            obtain ⟨v, r, rfl, k1, k2, k3⟩ := h
            exact ⟨v, r, rfl, k1, D.ok_less (fun b o ho => .inl ho) k2, ih k3⟩
        exact this h7
      · have := h4 u (by rw [h5]; exact List.mem_append_left _ hu)
        rw [h7] at this; cases this
  | _, _, v, .fn h1 h2, hv => by
    simp only [AV.ok] at hv ⊢
    obtain ⟨fs, cs, rfl, h3, h4⟩ := hv
    exact ⟨fs, cs, rfl, LentVs.oks h β' h1 h3, LentVs.oks h β' h2 h4⟩
theorem LentVs.oks {C : Ctx} {β : Beta} {s : Sto} {w : World} (h : Inv C β s w) (β' : Beta) : ∀ {xs ys : List AV} {vs : List Value}, LentVs s xs ys → AV.oks β (C.forb β s) w xs vs → AV.oks β' C.O w ys vs
  | _, _, vs, .nil, hv => by simpa [AV.oks] using hv
  | _, _, vs, .cons hl hs, hv => by
    simp only [AV.oks] at hv ⊢
    obtain ⟨v, r, rfl, h2, h3⟩ := hv
    exact ⟨v, r, rfl, LentV.ok h β' hl h2, LentVs.oks h β' hs h3⟩
end
theorem callR_lent {P : Program} {k0 f : Nat} {args env : List AV} {s : Sto} {d : Option Nat} {R : List AV → Sto → Prop} {dz : List AV} {u : Value}
    (hc : ACalls P f dz [] 0 fun x _ => x = .d (.lit u)) (hl : LentVs s args dz) (hk : R (setD d env (.d (.lit u))) s) : callR P k0 f args env s d R := fun C β a w vs hC hst hvs => by
  have hi := hst.inv
  have hb := Cbare.inv (Inv.here hi (K := 0))
  refine (hc (Cbare _) vs rfl rfl hb (by rw [Cbare.forb]; exact LentVs.oks hi _ hl hvs)).mono ?_
  rintro e w' ⟨v, x, β', s', rfl, hi', hx, rfl⟩
  refine ⟨v, .d (.lit u), β, env, s, rfl, hst.grow hi'.size hi'.io fun b hb => hi'.blks b hb fun id hq => hq.elim, ?_, hk⟩
  simp only [AV.ok, D.ok] at hx ⊢
  exact hx
theorem litF_is {α : Type} {f : α → D} [LitF f] (x : α) : ∃ u, f x = .lit u := by
  have h := LitF.lit (f := f) x
  cases hx : f x with
  | lit u => exact ⟨u, rfl⟩
  | _ => rw [hx] at h; cases h
theorem LentV.groF {α : Type} {f : α → D} {e : Nat} [Cel f e] {s : Sto} {id t n : Nat} {xs : List α} (h : sat s id = .gro t e n (groL f xs)) (hn : n = xs.length) : LentV s (.gow e id n) (.d (slD e f xs)) := by
  subst hn
  have hf : FrzOk s id (xs.map f) := FrzOk.gro f xs h fun x => Cel.len x
  refine .gro hf ?_
  have := frz_gowN (id := id) (e := e) (f := f) (xs := xs) (n := xs.length) rfl
  exact this
section
variable {α γ : Type} {P : Program} {k0 f : Nat} {args env : List AV} {s : Sto} {d : Option Nat} {R : List AV → Sto → Prop} {x : Option α} {β : Type} {K : α → Option β} {r : β} {q : α → Prop}
theorem rLent {enc : γ → D} [LitF enc] {g : α → γ} {dz : List AV} [i : HasC x fun a => ACalls P f dz [] 0 fun x s' => x = .d (enc (g a)) ∧ s' = []] (h : Bnd x K r) (hk : ∀ a, x = some a → K a = some r → q a)
    (hl : LentVs s args dz := by repeat' (first | exact LentVs.nil | refine LentVs.cons ?_ ?_ | refine LentV.fn ?_ ?_ | exact LentV.ptr rfl rfl | exact LentV.groF rfl (by simp) | exact LentV.d (AV.le_refl _) | refine LentV.d ?_; exact don))
    (e : ∀ a, R (setD d env (.d (enc (g a)))) s = q a := by intro a; first | ((conv => lhs; simp (config := { maxSteps := 1000000 }) (disch := omega) only [go_sem, take_mapR, drop_mapR, take_all, drop_all, List.drop_zero, List.append_nil, List.nil_append, Nat.reduceAdd, Nat.reduceSub, Nat.reduceLeDiff, Nat.reduceEqDiff, Nat.reduceLT, Int.reduceToNat, reduceIte, reduceCtorEq]) <;> rfl) | rfl) : callR P k0 f args env s d R := by
  obtain ⟨a, h1, h2⟩ := bind_some h
  obtain ⟨u, hu⟩ := litF_is (f := enc) (g a)
  have hc := i.c h1
  have he := (e a).symm ▸ hk a h1 h2
  rw [hu] at hc he
  exact callR_lent (hc.mono fun _ _ ⟨h, _⟩ => ⟨_, AV.le_refl _, h⟩) hl he
end
end Abx
namespace Go.Proofs.YtcbfefbocpikoaaGreat
open Go Abx Go.RowKit Go.Sort Go.Shelf
attribute [go_sem, simp] sortT_len
def F_sortT (xs : List (List Int)) : Option Unit := if xs.length < 4611686018427387904 ∧ ∀ x ∈ xs, x.length < 4611686018427387904 then some () else none
theorem groL_len1 : ∀ (xs : List (List Int)), (groL (slD 1 iD) xs).length = xs.length
  | [] => rfl
  | x :: xs => by rw [groL_cons, List.length_append, groL_len1 xs]; simp [slD, dcells]; omega
theorem cells_el {O : Abx.Own} {w : World} {b : Nat} (hO : ∀ o, O b o) : ∀ {xs : List (List Int)} {vs : List Value}, (∀ x ∈ xs, x.length < 4611686018427387904) → D.oks O w (groL (slD 1 iD) xs) vs →
    ∃ d : List (El w b), d.map El.v = vs ∧ d.map El.xs = xs ∧ ∀ x ∈ d, D.ok O w (slD 1 iD x.xs) x.v
  | [], vs, _, h => by simp only [groL_nil, D.oks] at h; exact ⟨[], by simp [h], rfl, fun x hx => by cases hx⟩
  | x :: xs, vs, hl, h => by
    rw [groL_cons] at h
    simp only [slD, dcells, List.singleton_append, D.oks] at h
    obtain ⟨v, r, rfl, _, h1, h2⟩ := h
    obtain ⟨d, h3, h4, h9⟩ := cells_el hO (fun y hy => hl y (by simp [hy])) h2
    have h1' : D.ok O w (slD 1 iD x) v := h1
    have h10 := h1'
    simp only [slD, D.ok, List.length_map] at h1'
    obtain ⟨A, cap, rfl, _, _, hr⟩ := h1'
    refine ⟨⟨.slice A x.length cap, x, A, cap, rfl, hl x (by simp), fun j y hj => ?_⟩ :: d, by simp [h3], by simp [h4], fun y hy => ?_⟩
    rotate_left
    · rcases List.mem_cons.1 hy with rfl | hy
      · exact h10
      · exact h9 y hy
    rcases hr with hr | ⟨b', o, rfl, hr⟩
    · simp at hr; subst hr; simp at hj
    · obtain ⟨us, k1, k2, k3⟩ := row_get hr (i := j) (x := iD y) (by simp [hj])
      simp only [D.cel, D.ok] at k3
      obtain ⟨u, rfl, rfl, _⟩ := k3
      have k4 := k2 0 _ rfl
      simp only [Nat.mul_one, Nat.add_zero] at k4
      refine ⟨⟨b', o, none⟩, rfl, fun e => k4.2.1 (by rw [show b' = b from e]; exact hO _), cell_lt k4.1, ?_⟩
      unfold Addr.add
      split
      · rename_i hz; subst hz; simpa using k4.1
      · exact k4.1
theorem els_oks {O : Abx.Own} {w : World} {b : Nat} {O' : Abx.Own} {w' : World} : ∀ (d : List (El w b)), (∀ x ∈ d, D.ok O' w' (slD 1 iD x.xs) x.v) → D.oks O' w' (groL (slD 1 iD) (d.map El.xs)) (d.map El.v)
  | [], _ => by simp [groL_nil, D.oks]
  | x :: d, h => by
    simp only [List.map_cons, groL_cons, slD, dcells, List.singleton_append, D.oks]
    refine ⟨_, _, rfl, ?_, h x (by simp), els_oks (O := O) d fun y hy => h y (by simp [hy])⟩
    obtain ⟨A, cap, e, _⟩ := x.ok
    rw [e]; rfl
set_option maxHeartbeats 1000000 in
instance c_sortT {xs : List (List Int)} : HasC (F_sortT xs) fun _ => ACalls Tryz.prog 93 [.gow 1 0 xs.length, .fn 94 [] []] [(0, .gro 22 1 xs.length (groL (slD 1 iD) xs))] 1 fun xx ss => xx = .tup [] ∧ ss = [(0, .gro 22 1 xs.length (groL (slD 1 iD) (sortT xs)))] := ⟨fun {rr} h => by
  unfold F_sortT at h
  split at h
  · rename_i hl
    intro C vs hs hk hinv hargs
    have hst : St C C.β [] C.s { tmps := #[], defers := [] } C.w := ⟨.nil, hinv, rfl, fun i x hx => by simp at hx⟩
    have ho := hinv.obs 0
    rw [show sat C.s 0 = .gro 22 1 xs.length (groL (slD 1 iD) xs) by rw [hs]; rfl] at ho
    obtain ⟨u, hβ, hlen, hg⟩ := ho
    have hdead : ∀ id, id ≠ 0 → C.β id = .no := fun id hid => by
      have := hinv.obs id
      rw [hs, show sat [(0, Ob.gro 22 1 xs.length (groL (slD 1 iD) xs))] id = .dead by simp [sat, hid]] at this
      exact this
    simp only [AV.oks, AV.ok] at hargs
    obtain ⟨v, r, hv, ⟨u', m, g1, g2, g3, _⟩, v2, r2, rfl, ⟨fs, cs, rfl, h5, h6⟩, rfl⟩ := hargs
    rw [hβ] at g1
    obtain ⟨rfl, rfl⟩ : u' = u ∧ m = xs.length := by simpa [Place.at, eq_comm] using g1
    have hvu := g3 rfl
    subst hvu
    have e1 : fs = #[] := Array.ext' h5
    have e2 : cs = #[] := Array.ext' h6
    subst e1 e2
    have e3 : vs = #[v, .func (.func 94) #[] #[]] := Array.ext' hv
    subst e3
    rcases hg with ⟨rfl, h0⟩ | ⟨b, cap, us, rfl, hb, hus, hncap, hcap, hone, pre, rest, hpre, hoks⟩
    · have hx : xs = [] := List.eq_nil_of_length_eq_zero h0
      subst hx
      refine (Tryz.slices_SortFunc_none (α := Nat) none 0 _ C.w).mono ?_
      rintro e w' ⟨rfl, rfl⟩
      refine ⟨.tuple #[], .tup [], C.β, C.s, rfl, hinv, ?_, rfl, by rw [hs]; simp [sortT]⟩
      simp only [AV.ok, AV.oks]
      exact ⟨#[], rfl, rfl⟩
    · have hO : ∀ o, C.forb C.β C.s b o := fun o => .inr ⟨0, by rw [hs]; exact ⟨cap, hβ⟩⟩
      obtain ⟨d, hd1, hd2, hd3⟩ := cells_el hO hl.2 hoks
      have hdl : d.length = xs.length := by rw [← hd2, List.length_map]
      have hbs : b < C.w.heap.size := (Array.getElem?_eq_some_iff.1 hb).1
      have hpl : pre.length = d.length := by rw [← hd1, List.length_map]
      have hH : Holds El.v C.w b 0 d.toArray := fun j hj => by
        have hj' : j < d.length := by simpa using hj
        have g : us[j]? = some d[j].v := by
          have : us.toList[j]? = some d[j].v := by rw [hpre, List.getElem?_append_left (by omega), ← hd1]; simp [hj']
          simpa using this
        refine ⟨?_, by simp [World.frozen?, hb]⟩
        rw [getElem!_pos _ j hj]
        simp only [World.cell?, hb, Nat.zero_add]
        simpa using g
      have W := sort_walk (cap := cap) hH hbs (by simp; omega)
      rw [show d.toArray.size = xs.length by simp [hdl]] at W
      refine W.mono ?_
      rintro e w' ⟨rfl, d', n, os, rfl, hs', hperm, hsorted⟩
      have hs2 : d'.size = d.length := by rw [hdl]; exact hs'
      have hp2 : d'.toList.Perm d := by simpa using hperm
      have hs3 : d'.toList.map El.xs = sortT xs := by rw [hsorted]; simp [hd2]
      have H2 : ∀ k, k ≠ b → k < C.w.heap.size → (sortWorld El.v C.w b 0 n d' os).heap[k]? = C.w.heap[k]? := fun k hk hlt => by
        simp only [sortWorld, grow, putRow, mapBlock, Go.Sort.ahead]
        rw [Array.getElem?_append_left (by simpa using hlt), Array.getElem?_modify, if_neg (fun e => hk e.symm)]
      have H3 : (sortWorld El.v C.w b 0 n d' os).heap[b]? = some (.cells (putCells El.v 0 d' us) 22 (0, 0)) := by
        simp only [sortWorld, grow, putRow, mapBlock, Go.Sort.ahead]
        rw [Array.getElem?_append_left (by simpa using hbs), Array.getElem?_modify, if_pos rfl, hb]
        rfl
      have H4 : (putCells El.v 0 d' us).toList = d'.toList.map El.v ++ rest := by
        apply List.ext_getElem?
        intro k
        simp only [putCells, Array.toList_mapIdx, List.getElem?_mapIdx, Nat.zero_le, true_and, Nat.zero_add, Nat.sub_zero, hpre]
        by_cases hk : k < d'.size
        · rw [List.getElem?_append_left (by rw [hpl]; omega), List.getElem?_append_left (by simpa using hk)]
          rw [List.getElem?_eq_getElem (show k < pre.length by omega)]
          simp [hk]
        · rw [List.getElem?_append_right (by rw [hpl]; omega), List.getElem?_append_right (by simpa using hk)]
          have : k - pre.length = k - (d'.toList.map El.v).length := by simp; omega
          rw [this]
          cases hq : rest[k - (d'.toList.map El.v).length]? with
          | none => rfl
          | some z => simp [hk]
      have same : ∀ b' o, own C.β [(0, Ob.gro 22 1 xs.length (groL (slD 1 iD) (sortT xs)))] b' o ↔ own C.β C.s b' o := fun b' o => by
        rw [hs]
        constructor
        · rintro ⟨id, h⟩
          by_cases hid : id = 0
          · subst hid; exact ⟨0, h⟩
          · rw [show sat [(0, Ob.gro 22 1 xs.length (groL (slD 1 iD) (sortT xs)))] id = .dead by simp [sat, hid]] at h; exact h.elim
        · rintro ⟨id, h⟩
          by_cases hid : id = 0
          · subst hid; exact ⟨0, h⟩
          · rw [show sat [(0, Ob.gro 22 1 xs.length (groL (slD 1 iD) xs))] id = .dead by simp [sat, hid]] at h; exact h.elim
      have sameB : ∀ id b', blockOf C.β [(0, Ob.gro 22 1 xs.length (groL (slD 1 iD) (sortT xs)))] id b' ↔ blockOf C.β C.s id b' := fun id b' => by
        rw [hs]
        by_cases hid : id = 0
        · subst hid; exact Iff.rfl
        · unfold blockOf
          rw [show sat [(0, Ob.gro 22 1 xs.length (groL (slD 1 iD) (sortT xs)))] id = .dead by simp [sat, hid], show sat [(0, Ob.gro 22 1 xs.length (groL (slD 1 iD) xs))] id = .dead by simp [sat, hid]]
      have m : Moves C.β C.s C.w C.β [(0, Ob.gro 22 1 xs.length (groL (slD 1 iD) (sortT xs)))] (sortWorld El.v C.w b 0 n d' os) := {
        size := by simp only [sortWorld, grow, putRow, mapBlock, Go.Sort.ahead]; simp
        io := rfl
        keep := fun b' o v hc hn => by
          have hne : b' ≠ b := fun e => hn (by subst e; exact ⟨0, by rw [hs]; exact ⟨cap, hβ⟩⟩)
          have := H2 b' hne (cell_lt hc)
          simp only [World.cell?] at hc ⊢
          rw [this]; exact hc
        blks := fun b' hlt hn => H2 b' (fun e => hn 0 (by subst e; rw [hs]; exact ⟨cap, hβ⟩)) hlt
        ownd := fun b' o h => .inl ((same b' o).1 h)
        ownB := fun id b' h => .inl ⟨id, (sameB id b').1 h⟩
        pl := fun id => .refl _ }
      have hst' := hst.move m (fun id => by
        by_cases hid : id = 0
        · subst hid
          show ObOk C.β _ _ 0 (.gro 22 1 xs.length (groL (slD 1 iD) (sortT xs)))
          refine ⟨_, hβ, by rw [groL_len1, sortT_len]; omega, .inr ⟨b, cap, _, rfl, H3, by simp [putCells, hus], hncap, hcap, ?_, _, rest, H4, ?_⟩⟩
          · intro z hz
            rw [H4, List.mem_append] at hz
            rcases hz with hz | hz
            · obtain ⟨y, _, rfl⟩ := List.mem_map.1 hz
              obtain ⟨A, ca, e, _⟩ := y.ok
              rw [e]; rfl
            · exact hone z (by rw [hpre]; simp [hz])
          · have g : D.oks (C.forb C.β [(0, Ob.gro 22 1 xs.length (groL (slD 1 iD) (sortT xs)))]) (sortWorld El.v C.w b 0 n d' os) (groL (slD 1 iD) (d'.toList.map El.xs)) (d'.toList.map El.v) := ?_
            · rw [hs3] at g; exact g
            refine els_oks (O := C.O) d'.toList fun y hy => ?_
            have := m.ok (C := C) (x := .d (slD 1 iD y.xs)) (v := y.v) (by simp only [AV.ok]; exact hd3 y (hp2.mem_iff.1 hy))
            simp only [AV.ok] at this
            exact this
        · rw [show sat [(0, Ob.gro 22 1 xs.length (groL (slD 1 iD) (sortT xs)))] id = .dead by simp [sat, hid]]
          exact hdead id hid) (fun i j b' hi hj => hinv.inj i j b' ((sameB i b').1 hi) ((sameB j b').1 hj))
      refine ⟨.tuple #[], .tup [], C.β, _, rfl, hst'.inv, ?_, rfl, rfl⟩
      simp only [AV.ok, AV.oks]
      exact ⟨#[], rfl, rfl⟩
  · cases h⟩
end Go.Proofs.YtcbfefbocpikoaaGreat
namespace Abx
open Go
section
open Go.RowKit
theorem satN0 (id : Nat) : sat [] id = .dead := rfl
theorem own_nilS {β : Beta} {b o : Nat} : ¬ own β [] b o := fun ⟨_, h⟩ => h
theorem blk_nilS {β : Beta} {id b : Nat} : ¬ blockOf β [] id b := fun h => h
theorem cell_below {w w' : World} (h : Below w.heap.size w w') {b o : Nat} {v : Value} (hc : w.cell? ⟨b, o, none⟩ = some v) : w'.cell? ⟨b, o, none⟩ = some v := by
  have hb : b < w.heap.size := cell_lt hc
  have := h.block b hb
  simp only [World.cell?] at hc ⊢
  rw [this]; exact hc
theorem Inv.belowN {C : Ctx} {w' : World} (hs : C.s = []) (h : Inv C C.β C.s C.w) (hb : Below C.w.heap.size C.w w') : Inv C C.β [] w' where
  size := hb.size
  io := by unfold wio; rw [hb.os, hb.output, hb.tape]
  keep b o v hc _ := cell_below hb hc
  blks b hlt _ := hb.block b hlt
  ownd b o h := (own_nilS h).elim
  ownB id b h := (blk_nilS h).elim
  pl := h.pl
  low := h.low
  obs id := by
    have := h.obs id
    rw [hs] at this
    rw [satN0] at this ⊢
    exact this
  inj i j b h := (blk_nilS h).elim
theorem pfun_of {P : Program} {f : Nat} {args : List D} {r : D}
    (h : ∀ (β : Beta) (O : Own) (w : World) (vs : Array Value), (∀ b o, O b o → b < w.heap.size) → AV.oks β O w (args.map .d) vs.toList → Calls P f vs w fun e w' => ∃ v, e = .returned v ∧ D.ok O w' r v ∧ Below w.heap.size w w') : PFun P f args r := fun C vs hs hk hinv hargs => by
  have hO : ∀ b o, C.forb C.β C.s b o → b < C.w.heap.size := fun b o ho => by
    rcases ho with ho | ho
    · exact (hinv.low b o ho).1
    · rw [hs] at ho; exact (own_nilS ho).elim
  refine (h _ _ _ vs hO hargs).mono ?_
  rintro e w' ⟨v, rfl, hv, hb⟩
  refine ⟨v, .d r, C.β, [], rfl, hinv.belowN hs hb, ?_, rfl⟩
  simp only [AV.ok]
  refine D.ok_mono (fun b o v hc hn => ⟨hc, fun ho => hn ?_⟩) _ _ hv
  rcases ho with ho | ho
  · exact .inl ho
  · exact (own_nilS ho).elim
theorem row_ints {O : Own} {w : World} {b : Nat} : ∀ {xs : List Int} {o : Nat}, D.row O w b o 1 (xs.map iD) → ∀ j x, xs[j]? = some x → w.cell? ⟨b, o + j, none⟩ = some (.int .i64 x)
  | [], _, _, j, x, h => by simp at h
  | y :: ys, o, hr, j, x, h => by
    rw [List.map_cons, D.row_cons] at hr
    obtain ⟨⟨vs, h1, h2, v, rfl, h3⟩, h4⟩ := hr
    cases j with
    | zero =>
      simp at h; subst h
      simp only [D.ok] at h3
      rw [← h3.1]; exact (h2 0 v rfl).1
    | succ j =>
      have := row_ints h4 j x (by simpa using h)
      rwa [show o + 1 + j = o + (j + 1) by omega] at this
end
end Abx
namespace Go.Proofs.YtcbfefbocpikoaaGreat
open Go Go.RowKit Go.Proofs
def ClN (B : Nat) (out : Value) (w : World) (x : List Int) (u : Value) : Prop :=
  ∃ A cap, u = .slice A x.length cap ∧ x.length ≤ cap ∧ cap ≤ maxLen ∧ ∀ j y, x[j]? = some y → ∃ b, A = some ⟨b, 0, none⟩ ∧ B ≤ b ∧ out.ownBlock ≠ some b ∧ w.cell? ⟨b, j, none⟩ = some (.int .i64 y)
def RuleAt (w : World) (A : Option Addr) (j : Nat) (x : List Int × List Int) : Prop :=
  ∃ (b o : Nat) (AL AR : Option Addr) (cl cr : Nat), A = some ⟨b, o, none⟩ ∧ w.cell? ⟨b, o + j * 2, none⟩ = some (.slice AL x.1.length cl) ∧ w.cell? ⟨b, o + j * 2 + 1, none⟩ = some (.slice AR x.2.length cr) ∧ x.1.length ≤ cl ∧ cl ≤ maxLen ∧
    (x.1 = [] ∨ ∃ b o, AL = some ⟨b, o, none⟩ ∧ ∀ k y, x.1[k]? = some y → w.cell? ⟨b, o + k, none⟩ = some (.int .i64 y))
def LeftR (w0 : World) (rs : List (List Int × List Int)) (out i : Value) (wr : World) : Prop :=
  ∃ (q : Nat) (us : List Value), i = .int .i64 q ∧ q ≤ rs.length ∧ us.length = q ∧ wr.ownsRow w0.heap.size 22 1 out q us ∧ Below w0.heap.size w0 wr ∧ ∀ (k : Nat) (x : List Int × List Int), rs[k]? = some x → k < q → ∃ u, us[k]? = some u ∧ ClN w0.heap.size out wr x.1 u
theorem infoInt : (Tryz.prog.info? 2).map (fun i => (i.zero, i.size, i.bytes)) = some (some (.int .i64 0), 1, 8) := by kernel_rfl
theorem infoSl : (Tryz.prog.info? 22).map (fun i => (i.zero, i.size, i.bytes)) = some (some (.slice none 0 0), 1, 24) := by kernel_rfl
theorem grown_below {w w1 w' : World} {row : Option Nat} {B : Nat} (h : Below B w w1) (hg : w1.grownBy w' row) (hB : B ≤ w1.heap.size) (hr : ∀ k, row = some k → B ≤ k) : Below B w w' :=
  h.trans ⟨hg.os, hg.tape, hg.output, hg.size, fun k hk => hg.block k (by omega) (fun e => by have := hr k e.symm; omega)⟩
set_option maxHeartbeats 2000000 in
set_option maxRecDepth 100000 in
theorem clone_walk (xs : List Int) (ad : Addr) (cap : Nat) (w : World) (hl : xs.length * 8 ≤ 140737488355328) (hrd : ∀ j y, xs[j]? = some y → w.cell? (ad.add j) = some (.int .i64 y)) :
    Calls Tryz.prog 95 #[.slice (some ad) xs.length cap] w fun e w' => ∃ v, e = .returned v ∧ w'.ownsRow w.heap.size 2 1 v xs.length (xs.map (Value.int .i64)) ∧ Below w.heap.size w w' := by
  obtain ⟨i0, hi, hz0, hz1, hz2⟩ := info_parts infoInt
  have hown := World.ownsRow_made (e := 2) (size := 1) (base := w.heap.size) w #[] 0 (Nat.le_refl _) (Nat.zero_le _) rfl
  have hcells : ∀ j u, (xs.map (Value.int .i64))[j]? = some u → (w.alloc (.cells #[] 2)).cell? (ad.add j) = some u := fun j u hj => by
    rw [List.getElem?_map] at hj
    cases hx : xs[j]? with
    | none => rw [hx] at hj; cases hj
    | some y =>
      rw [hx] at hj; cases hj
      have := hrd j y hx
      rw [World.cell?_alloc_lt w _ _ (World.block_lt_of_cell? w _ this)]; exact this
  clear hrd
  have q22 : ∀ (w : World) (a : Option Addr) (n c n' c' : Nat), (binOp .eql 22 (.slice a n c) (.slice none n' c')).run Tryz.prog w = .ok (.bool a.isNone) w := fun w a n c n' c' => Go.Lib.run_eql_slice_nil w _ _ a n c n' c' Tryz.underlying22
  go_enter Tryz.func95, Tryz.ntmps95
  go_wp2_with (at_builtin; refine wpList_append_own_at _ rfl _ _ 22 rfl w.heap.size 2 i0 (.int .i64 0) 1 8 Tryz.underlying22 hi hz0 hz1 hz2 rfl (by decide) _ _ _ rfl hown ad xs.length cap (xs.map (Value.int .i64)) rfl (by simp) hcells ?c1 ?c2 ?c3 ?c4 ?_)
  case c1 => intro u hu; obtain ⟨y, _, rfl⟩ := List.mem_map.1 hu; rfl
  case c2 => unfold maxLen; omega
  case c3 => omega
  case c4 => simp
  intro v' w' h1 hg _ _
  go_wp2
  go_ret
  refine ⟨_, rfl, by simpa using h1, ?_⟩
  exact grown_below ((Below.refl _ _).alloc (Nat.le_refl _) _) hg (by simp) (fun k hk => by cases hk; exact Nat.le_refl _)
theorem below_grown {w w' : World} (h : Below w.heap.size w w') : w.grownBy w' none := ⟨h.os, h.tape, h.output, h.size, fun k hk _ => h.block k hk⟩
theorem add_off {b o k : Nat} : Addr.add ⟨b, o, none⟩ k = ⟨b, o + k, none⟩ := by
  unfold Addr.add; split
  · rename_i h; subst h; rfl
  · rfl
theorem ta70 (v : Value) (w : World) : (Instr.typeAssert (.iface 70 v) 102 70 true).run Tryz.prog w = .ok (.tuple #[v, .bool true]) w := by kernel_rfl
set_option maxHeartbeats 4000000 in
set_option maxRecDepth 100000 in
theorem lefts_walk (rs : List (List Int × List Int)) (A : Option Addr) (c : Nat) (w : World) (hr : ∀ j x, rs[j]? = some x → RuleAt w A j x) (hl : rs.length < 2 ^ 40) (hx1 : ∀ x ∈ rs, x.1.length < 2 ^ 40) :
    Calls Tryz.prog 59 #[.slice A rs.length c] w fun e w' => ∃ out us, e = .returned out ∧ us.length = rs.length ∧ w'.ownsRow w.heap.size 22 1 out rs.length us ∧ Below w.heap.size w w' ∧ ∀ (k : Nat) (x : List Int × List Int), rs[k]? = some x → ∃ u, us[k]? = some u ∧ ClN w.heap.size out w' x.1 u := by
  go_enter Tryz.func59, Tryz.ntmps59
  go_wp2
  go_loopw [3, 10] (fun out i wr => LeftR w rs out i wr) (fun _ i _ => (rs.length - intOf i).toNat)
  case atStart => exact ⟨0, [], rfl, by omega, rfl, World.ownsRow_nil _ _ _ _, Below.refl _ _, fun k x _ h => by omega⟩
  case round =>
    rename_i out i
    obtain ⟨q, us, rfl, hq, hus, hown, hb, hcl⟩ := hrel
    by_cases hlt : q < rs.length
    · obtain ⟨b0, o0, AL, AR, cl, cr, rfl, c0, c1, k1, k2, k3⟩ := hr q _ (List.getElem?_eq_getElem hlt)
      have c0' : wr.cell? ⟨b0, o0 + q * 2, none⟩ = some (.slice AL rs[q].1.length cl) := by rw [hb.cell (World.block_lt_of_cell? w _ c0)]; exact c0
      have c1' : wr.cell? ⟨b0, o0 + q * 2 + 1, none⟩ = some (.slice AR rs[q].2.length cr) := by rw [hb.cell (World.block_lt_of_cell? w _ c1)]; exact c1
      have hx := hx1 _ (List.getElem_mem hlt)
      have CW : ∀ W', Below w.heap.size w W' → Calls Tryz.prog 95 #[.slice AL rs[q].1.length cl] W' fun e w' => ∃ A' cap', e = .returned (.slice A' rs[q].1.length cap') ∧ Below W'.heap.size W' w' ∧ rs[q].1.length ≤ cap' ∧ cap' ≤ maxLen ∧ ∀ j y, rs[q].1[j]? = some y → ∃ b, A' = some ⟨b, 0, none⟩ ∧ W'.heap.size ≤ b ∧ w'.cell? ⟨b, j, none⟩ = some (.int .i64 y) := fun W' hW => by
        cases hA : AL with
        | none =>
          have hn : rs[q].1 = [] := by
            rcases k3 with h | ⟨b, o, h, _⟩
            · exact h
            · rw [hA] at h; cases h
          refine (Tryz.slices_Clone_nil _ _ W').mono ?_
          rintro e w' ⟨rfl, rfl⟩
          exact ⟨none, 0, by rw [hn]; rfl, Below.refl _ _, by simp [hn], Nat.zero_le _, fun j y h => by simp [hn] at h⟩
        | some ad =>
          refine (clone_walk rs[q].1 ad cl W' (by omega) (fun j y hj => ?_)).mono ?_
          · rcases k3 with h | ⟨b, o, h, h2⟩
            · simp [h] at hj
            · rw [hA] at h; cases h
              rw [add_off]
              have := h2 j y hj
              rw [hW.cell (World.block_lt_of_cell? w _ this)]; exact this
          · rintro e w' ⟨v, rfl, ⟨h1, h2⟩, hb'⟩
            rcases h2 with ⟨rfl, h0⟩ | ⟨g, cap, cur, rfl, g1, g2, g3, g4, g5, g6⟩
            · exact ⟨none, 0, by rw [h0], hb', by omega, Nat.zero_le _, fun j y h => by have := (List.getElem?_eq_some_iff.1 h).1; omega⟩
            · refine ⟨_, cap, rfl, hb', g3, g4, fun j y hj => ⟨g, rfl, g1, ?_⟩⟩
              have hr := World.ownsRow.cells (w := w') (base := W'.heap.size) (e := 2) (size := 1) ⟨h1, .inr ⟨g, cap, cur, rfl, g1, g2, g3, g4, g5, g6⟩⟩ (g := g) rfl j (.int .i64 y) (by rw [List.getElem?_map, hj]; rfl)
              rw [add_off, Nat.zero_add] at hr
              exact hr
      have hkeep := hcl
      clear hcl k3 hr
      have hq' : rs[q]? = some rs[q] := List.getElem?_eq_getElem hlt
      generalize rs[q] = x at *
      obtain ⟨i0, hi, hz0, hz1, hz2⟩ := info_parts infoSl
      have hta := ta70
      go_wp2_with (go_at_call 95; refine (CW _ ((hb.alloc hb.size _).alloc (by have := hb.size; simp; omega) _)).mono ?_)
      rintro e w' ⟨A', cap', rfl, hb', hc1, hc2, hc3⟩
      have hb1 : Below wr.heap.size wr w' := (((Below.refl _ _).alloc (Nat.le_refl _) _).alloc (by simp) _).trans (hb'.mono (by simp; omega))
      have hsz := hb.size
      have hsz1 := hb1.size
      have hown1 : ∀ o, (w'.alloc o).ownsRow w.heap.size 22 1 u3 q us := fun o => ((hown.kept (below_grown hb1) (by cases u3.ownBlock <;> simp)).alloc o)
      go_wp2_with (at_builtin; refine wpList_append_own_at _ rfl _ _ 47 rfl w.heap.size 22 i0 (.slice none 0 0) 1 24 Tryz.underlying47 hi hz0 hz1 hz2 rfl (by decide) _ _ _ rfl (hown1 _) ⟨w'.heap.size, 0, none⟩ 1 1 [.slice A' x.1.length cap'] rfl rfl ?c0 ?c1 ?c2 ?c3 ?c4 ?_)
      case c0 =>
        intro j u hj
        match j, hj with
        | 0, hj => simp at hj; subst hj; simp [Addr.add]
      case c1 => intro u hu; simp at hu; subst hu; rfl
      case c2 => unfold maxLen; omega
      case c3 => omega
      case c4 => simp; omega
      intro v' w2 hown2 hg2 _ hat
      go_wp2
      go_roundw
      case rel =>
        refine ⟨q + 1, us ++ [.slice A' x.1.length cap'], by go_num, by omega, by simp [hus], hown2, ?_, ?_⟩
        · exact grown_below ((hb.trans (hb1.mono hsz)).alloc (by omega) _) hg2 (by simp; omega) (fun k hk => (hown.lt k hk).1)
        · intro k y hk hkq
          have up : ∀ b j z, w'.cell? ⟨b, j, none⟩ = some z → u3.ownBlock ≠ some b → w2.cell? ⟨b, j, none⟩ = some z := fun b j z hc hn => by
            refine hg2.cell (a := ⟨b, j, none⟩) ?_ (fun e => hn e.symm)
            rw [World.cell?_alloc_lt w' _ _ (World.block_lt_of_cell? w' _ hc)]; exact hc
          have off : ∀ b, u3.ownBlock ≠ some b → b < w'.heap.size → v'.ownBlock ≠ some b := fun b hn hlt2 => by
            rcases hat with h | h
            · rw [h]; exact hn
            · rw [h]; intro e; have e2 := Option.some.inj e; have e3 : (w'.alloc (Obj.cells #[Value.slice A' x.1.length cap'] 22)).heap.size = w'.heap.size + 1 := World.size_alloc _ _; omega
          rcases Nat.lt_or_ge k q with hlt2 | hge
          · obtain ⟨u, hu, A1, c1', rfl, e1, e2, e3⟩ := hkeep k y hk hlt2
            refine ⟨_, by rw [List.getElem?_append_left (by omega)]; exact hu, A1, c1', rfl, e1, e2, fun j z hz => ?_⟩
            obtain ⟨b, rfl, f1, f2, f3⟩ := e3 j z hz
            have hbw : b < wr.heap.size := World.block_lt_of_cell? wr _ f3
            exact ⟨b, rfl, f1, off b f2 (by omega), up b j _ (by rw [hb1.cell (p := ⟨b, j, none⟩) hbw]; exact f3) f2⟩
          · obtain rfl : k = q := by omega
            rw [hq'] at hk
            cases hk
            refine ⟨_, by rw [List.getElem?_append_right (by omega), hus, Nat.sub_self]; rfl, A', cap', rfl, hc1, hc2, fun j z hz => ?_⟩
            obtain ⟨b, rfl, f1, f2⟩ := hc3 j z hz
            simp at f1
            have fn : u3.ownBlock ≠ some b := fun e => by have := (hown.lt b e).2; omega
            exact ⟨b, rfl, by omega, off b fn (World.block_lt_of_cell? w' _ f2), up b j _ f2 fn⟩
      case measure => simp [intOf]; omega
    · have : q = rs.length := by omega
      subst this
      go_wp2
      go_ret
      exact ⟨_, us, rfl, hus, hown, hb, fun k x hk => hcl k x hk (List.getElem?_eq_some_iff.1 hk).1⟩
open Abx in
def F_impl_leftsOf (all : List (List Int × List Int)) : Option (List (List Int)) := if all.length < 1099511627776 ∧ ∀ x ∈ all, x.1.length < 1099511627776 then some (all.map (·.1)) else none
open Abx in
theorem row_clones {O : Abx.Own} {w' : World} {g : Nat} {us : List Value} {B : Nat} (hO : ∀ b o, O b o → b < B) (hg : B ≤ g) {out : Value} {xs : List (List Int)} (hc : ∀ (j : Nat) u, us[j]? = some u → w'.cell? ⟨g, j, none⟩ = some u)
    (h : ∀ (k : Nat) (x : List Int), xs[k]? = some x → ∃ u, us[k]? = some u ∧ ClN B out w' x u) : ∀ (n : Nat) (ys : List (List Int)), xs.drop n = ys → D.row O w' g n 1 (ys.map (slD 1 iD))
  | _, [], _ => trivial
  | n, y :: ys, hd => by
    have hn : xs[n]? = some y := by rw [← List.head?_drop, hd]; rfl
    have hd2 : xs.drop (n + 1) = ys := by rw [← List.drop_drop, hd]; rfl
    rw [List.map_cons, D.row_cons]
    obtain ⟨u, hu, A, cp, rfl, h1, h2, h3⟩ := h n y hn
    refine ⟨⟨[.slice A y.length cp], rfl, fun j v hj => ?_, _, rfl, ?_⟩, row_clones hO hg hc h (n + 1) ys hd2⟩
    · cases j with
      | zero => simp at hj; subst hj; exact ⟨hc n _ hu, fun ho => by have := hO _ _ ho; omega, rfl⟩
      | succ j => simp at hj
    · simp only [slD, D.ok, List.length_map]
      refine ⟨A, cp, rfl, ⟨h1, by unfold maxLen at h2; omega⟩, trivial, ?_⟩
      cases y with
      | nil => exact .inl rfl
      | cons z zs =>
        obtain ⟨b, rfl, g1, g2, g3⟩ := h3 0 z rfl
        refine .inr ⟨b, 0, rfl, ?_⟩
        have : ∀ (m : Nat) (rs : List Int), (z :: zs).drop m = rs → D.row O w' b m 1 (rs.map iD) := by
          intro m rs
          induction rs generalizing m with
          | nil => intro _; trivial
          | cons r rs ih =>
            intro hr
            have hm : (z :: zs)[m]? = some r := by rw [← List.head?_drop, hr]; rfl
            rw [List.map_cons, D.row_cons]
            obtain ⟨b', e, k1, k2, k3⟩ := h3 m r hm
            cases e
            refine ⟨⟨[.int .i64 r], rfl, fun j v hj => ?_, _, rfl, by simp only [D.ok]; exact ⟨trivial, rfl⟩⟩, ih (m + 1) (by rw [← List.drop_drop, hr]; rfl)⟩
            cases j with
            | zero => simp at hj; subst hj; exact ⟨k3, fun ho => by have := hO _ _ ho; omega, rfl⟩
            | succ j => simp at hj
        exact this 0 _ rfl
open Abx in
instance c_impl_leftsOf {all : List (List Int × List Int)} : HasC (F_impl_leftsOf all) fun rr => PFun Tryz.prog 59 [slD 2 D_impl_Rule all] (slD 1 (slD 1 iD) rr) := ⟨fun {rr} h => by
  unfold F_impl_leftsOf at h
  split at h
  · rename_i hl
    cases h
    refine pfun_of fun β O w vs hO ha => ?_
    simp only [List.map_cons, List.map_nil, AV.oks, AV.ok] at ha
    obtain ⟨v, r, hv, ha, rfl⟩ := ha
    simp only [slD, D.ok, List.length_map] at ha
    obtain ⟨A, cap, rfl, _, _, hrow⟩ := ha
    have e1 : vs = #[.slice A all.length cap] := Array.ext' hv
    subst e1
    have hr : ∀ j x, all[j]? = some x → RuleAt w A j x := fun j x hj => by
      rcases hrow with h | ⟨b, o, rfl, h⟩
      · simp at h; subst h; simp at hj
      · obtain ⟨vs, h1, h2, h3⟩ := row_get h (i := j) (x := D_impl_Rule x) (by simp [hj])
        simp only [D_impl_Rule, D.cel, D.oks, slD, D.ok, List.length_map] at h3
        obtain ⟨_, _, rfl, _, ⟨AL, cl, rfl, k1, _, k2⟩, _, _, rfl, _, ⟨AR, cr, rfl, _, _, _⟩, rfl⟩ := h3
        have c0 := (h2 0 _ rfl).1
        have c1 := (h2 1 _ rfl).1
        refine ⟨b, o, AL, AR, cl, cr, rfl, by simpa using c0, c1, k1.1, by have := k1.2; unfold maxLen; omega, ?_⟩
        rcases k2 with k2 | ⟨b2, o2, rfl, k2⟩
        · exact .inl (by simpa using k2)
        · exact .inr ⟨b2, o2, rfl, fun k y hk => row_ints k2 k y hk⟩
    refine (lefts_walk all A cap w hr hl.1 hl.2).mono ?_
    rintro e w' ⟨out, us, rfl, hus, hown, hb, hcl⟩
    refine ⟨out, rfl, ?_, hb⟩
    have hown' := hown
    obtain ⟨h1, h2⟩ := hown
    simp only [slD, D.ok, List.length_map]
    rcases h2 with ⟨rfl, h0⟩ | ⟨g, cp, cur, rfl, g1, g2, g3, g4, g5, g6⟩
    · exact ⟨none, 0, by rw [h0], ⟨by omega, by decide⟩, trivial, .inl (by simp [List.eq_nil_of_length_eq_zero h0])⟩
    · refine ⟨_, cp, rfl, ⟨g3, by unfold maxLen at g4; omega⟩, trivial, .inr ⟨g, 0, rfl, ?_⟩⟩
      rw [List.map_map]
      have := row_clones (O := O) (w' := w') (g := g) (us := us) (out := .slice (some ⟨g, 0, none⟩) all.length cp) (xs := all.map (·.1)) hO g1 (fun j u hj => by
        have := hown'.cells (g := g) rfl j u hj
        rwa [add_off, Nat.zero_add] at this) (fun k x hk => by
        rw [List.getElem?_map] at hk
        cases hx : all[k]? with
        | none => rw [hx] at hk; cases hk
        | some y => rw [hx] at hk; cases hk; exact hcl k y hx) 0 _ rfl
      simpa [Function.comp_def] using this
  · cases h⟩
end Go.Proofs.YtcbfefbocpikoaaGreat
namespace Go.Proofs.YtcbfefbocpikoaaGreat
open Go Abx
attribute [local irreducible] vcm vgo vdr vrun vdrun MWp GhostQ BrC BrO BrG BrD BrH AmbO callR callD drQ EnvLe StoLe
set_option maxHeartbeats 4000000
def mc95_slices_Clone_int64_int64_s1 : MCode :=
 (.seq (.reg (sq 2 [.mv (.const (.slice none 0 0))])) (.seq (.seq (.reg (sq 3 [mv 0, .eqnil false (t0 3)])) (.cond (t0 4) (.seq (.reg (sq 2 [.mv (.const (.slice none 0 0))])) .ret) .skip)) (.seq (.reg (sq 5 [.bslg 5 2 1 [], mv 0, ap 7 2 1 8 5 6] ++ sq 2 [mv 7])) .ret)))
theorem fn95_slices_Clone_int64_int64_s1 : MFn Tryz.prog 95 mc95_slices_Clone_int64_int64_s1 8 [.tmp 2] := ⟨_, Tryz.func95, by kernel_rfl, Tryz.ntmps95, by kernel_rfl⟩
noncomputable def F_slices_Clone_int64_int64_s1 (s : (List Int)) : Option (List Int) :=
 ambO s (
  some []) (
  if (0 + s.length) * 8 ≤ 140737488355328 then
   some s
  else none)
instance c_slices_Clone_int64_int64_s1 {s : (List Int)} : HasC (F_slices_Clone_int64_int64_s1 s) fun rr => ACalls Tryz.prog 95 [.d (slD 1 iD s)] [] 0 fun xx ss => xx = .gow 1 900000 rr.length ∧ ss = [(900000, .gro 2 1 rr.length (groL iD rr))] := ⟨@fun rr h => by
  delta F_slices_Clone_int64_int64_s1 at h
  refine fn95_slices_Clone_int64_int64_s1.callsD (vcm_sound ?_)
  delta mc95_slices_Clone_int64_int64_s1
  refine stp ?_
  have h1 := amb_some h
  refine AmbO.of (fun he => ?_) ?_
  · replace h := h1.1 (by simpa using he)
    clear h1
    refine stp ?_
    cases h
    exact Done.trans ((Done.thawN 900000 2 1 (.gow 1 900000 0) (by simp [sat]) (by repeat' (first | exact TL.nil | refine TL.tup ?_ | refine TL.aggD ?_ | refine TL.agg ?_ | refine TLs.cons ?_ ?_ | exact TLs.nil | exact TL.refl)))) (Done.told frd don)
  · replace h := h1.2
    clear h1
    refine stp ?_
    refine ndI h fun hp h => ?_
    cases h
    exact Done.trans ((Done.move 5 900000 (ob := .gro 2 1 s.length (groL iD s)) (by omega) (by omega) (by omega) rfl (by first | rfl | (simp; done) | (simp [sat, smove, sset, skill, sdel, sdels, Ob.ren, Ob.kill, rens_tolds]; done)))) (Done.told frd don)⟩
def mc117_impl_renumber : MCode :=
 (.seq (.reg (sq 2 [.mv (.const (.slice none 0 0))])) (.seq (.reg (sq 3 [.mv (.const (.slice none 0 0))])) (.seq (.reg (sq 4 [.mv (.const (.slice none 0 0))])) (.seq (.seq (.reg (sq 11 [mv 0, ln 11, mi 0])) (.block 0 (.loop (.seq (.reg (sq 14 [bn .lss 13 12])) (.seq (.cond (t0 14) .skip (.exit 0)) (.seq (.block 1 (.seq (.reg (sq 15 [ix 1 11 13, ld 15] ++ sq 6 [mv 16])) (.seq (.reg (sq 17 [mv 6, cf 95 [17]] ++ sq 7 [mv 18])) (.seq (.seq (.reg (sq 19 [mv 7, ln 19, mi 0])) (.block 2 (.loop (.seq (.reg (sq 22 [bn .lss 21 20])) (.seq (.cond (t0 22) .skip (.exit 2)) (.seq (.block 3 (.seq (.reg (sq 23 [mv 21, ix 1 19 21, ld 24] ++ sq 8 [mv 23, mv 25])) (.seq (.seq (.reg (sq 26 [mv 9, bi .geq 26 0])) (.cond (t0 27) (.exit 3) .skip)) (.seq (.reg (sq 28 [mv 3, mv 9, cf 116 [28, 29]] ++ sq 10 [mv 30])) (.seq (.seq (.reg (sq 31 [mv 10, bi .lss 31 0])) (.cond (t0 32) (.seq (.reg (sq 33 [mv 3, ln 33] ++ sq 10 [mv 34])) (.reg (sq 35 [mv 3, mv 9, .bsl 37 2 1 [(t0 36)], ap 38 2 1 8 35 37] ++ sq 3 [mv 38]))) .skip)) (.reg (sq 39 [mv 7, mv 8, mv 10, .bin .sub (i0 (-1)) (t0 41), ix 1 39 40] ++ s0 (sr 1 43 42)))))))) (.reg (sq 44 [bi .add 21 1] ++ sq 21 [mv 44])))))))) (.ghost (.reg (sq 45 [mv 4, mv 7, .bsl 47 22 1 [(t0 46)], ap 48 22 1 24 45 47] ++ sq 4 [mv 48]))))))) (.reg (sq 49 [bi .add 13 1] ++ sq 13 [mv 49])))))))) (.seq (.reg (sq 50 [mv 4] ++ sq 2 [mv 50])) .ret)))))
theorem fn117_impl_renumber : MFn Tryz.prog 117 mc117_impl_renumber 51 [.tmp 2] := ⟨_, Tryz.func117, by kernel_rfl, Tryz.ntmps117, by kernel_rfl⟩
noncomputable def F_impl_renumber_l2 (out : (List (List Int))) (v13 : Int) (r : (List Int)) : ((List Int) × Int × (List Int)) → Option (((List Int) × Int × (List Int)) ⊕ (((List Int) × (List (List Int)) × Int) ⊕ (List (List Int))))
 | (seen_1, v21, g18) =>
  if (decide (v21 < (r.length : Int))) = true then
   if 0 ≤ v21 ∧ v21 < (g18.length : Int) then
    if (decide (0 ≤ (g18.getD v21.toNat default))) = true then
     some (.inl (seen_1, (IntKind.i64.wrap (v21 + 1)), g18))
    else
     (F_slices_Index_int64_int64 seen_1 (g18.getD v21.toNat default)).bind fun r_1 =>
     if (decide (r_1 < 0)) = true then
      if (seen_1.length + 1) * 8 ≤ 140737488355328 then
       if 0 ≤ v21 ∧ v21 < (g18.length : Int) then
        some (.inl ((seen_1 ++ [(g18.getD v21.toNat default)]), (IntKind.i64.wrap (v21 + 1)), (g18.set v21.toNat (IntKind.i64.wrap ((-1) - (seen_1.length : Int))))))
       else none
      else none
     else
      if 0 ≤ v21 ∧ v21 < (g18.length : Int) then
       some (.inl (seen_1, (IntKind.i64.wrap (v21 + 1)), (g18.set v21.toNat (IntKind.i64.wrap ((-1) - r_1)))))
      else none
   else none
  else
   Option.map Sum.inr (
    if (out.length + 1) * 24 ≤ 140737488355328 then
     some (.inl (seen_1, (out ++ [g18]), (IntKind.i64.wrap (v13 + 1))))
    else none)
noncomputable def F_impl_renumber_l1 (ts : (List (List Int))) : ((List Int) × (List (List Int)) × Int) → Option (((List Int) × (List (List Int)) × Int) ⊕ (List (List Int)))
 | (seen, out, v13) =>
  if (decide (v13 < (ts.length : Int))) = true then
   if 0 ≤ v13 ∧ v13 < (ts.length : Int) then
    (F_slices_Clone_int64_int64_s1 (ts.getD v13.toNat default)).bind fun r =>
    loopC (F_impl_renumber_l2 out v13 r) (seen, 0, r)
   else none
  else
   Option.map Sum.inr (
    some out)
noncomputable def F_impl_renumber (ts : (List (List Int))) : Option (List (List Int)) :=
 loopC (F_impl_renumber_l1 ts) ([], [], 0)
instance c_impl_renumber {ts : (List (List Int))} : HasC (F_impl_renumber ts) fun rr => PFun Tryz.prog 117 [(slD 1 (slD 1 iD)) ts] ((slD 1 (slD 1 iD)) rr) := ⟨@fun rr h => by
  delta F_impl_renumber at h
  refine fn117_impl_renumber.pureL (vcm_sound ?_)
  delta mc117_impl_renumber
  refine stp ?_
  refine m_loopF h [3, 4, 6, 7, 8, 9, 10, 13, 14, 15, 16, 17, 18, 19, 20, 21, 22, 23, 24, 25, 26, 27, 28, 29, 30, 31, 32, 33, 34, 35, 36, 37, 38, 39, 40, 41, 42, 43, 44, 45, 46, 47, 48, 49] (fun pp => [(3, .own 1 38 (List.map iD pp.1)), (4, .own 1 48 (List.map (slD 1 iD) pp.2.1)), (13, .d (iD pp.2.2))]) (fun pp => [(38, .tok 2 1 pp.1.length), (48, .tok 22 1 pp.2.1.length)]) ?_ ?_
  · try dsimp only
    refine (Weak.thaw 3 38 2 1 rfl rfl).trans ?_
    refine (Weak.thaw 4 48 22 1 rfl rfl).trans ?_
    exact wk
  rintro ⟨seen, out, v13⟩ t1 h hb1
  unfold F_impl_renumber_l1 at h
  try dsimp only at h
  refine vcm_sound (stp ?_)
  refine iT h fun hc h => ?_
  refine ndI h fun hp h => ?_
  refine rCo [] [(900000, 18)] h fun r hr h => ?_
  refine m_lW h [3, 7, 8, 9, 10, 19, 21, 22, 23, 24, 25, 26, 27, 28, 29, 30, 31, 32, 33, 34, 35, 36, 37, 38, 39, 40, 41, 42, 43, 44] (fun pp => [(3, .own 1 38 (List.map iD pp.1)), (21, .d (iD pp.2.1)), (7, .gow 1 18 pp.2.2.length), (19, .gow 1 18 pp.2.2.length)]) (fun pp => [(18, .gro 2 1 pp.2.2.length (groL iD pp.2.2)), (38, .tok 2 1 pp.1.length), (48, .tok 22 1 out.length)]) ?_
  rintro ⟨seen_1, v21, g18⟩ t2 h hb2
  unfold F_impl_renumber_l2 at h
  try dsimp only at h
  refine vcm_sound (stp ?_)
  refine it h (fun hc h => ?_) fun hc h => ?_
  · refine ndI h fun hp h => ?_
    refine nds ?_
    refine iF h fun hc h => ?_
    refine rC h fun r_1 hr_1 h => ?_
    refine iT h fun hc h => ?_
    refine ndI h fun hp h => ?_
    refine ndI h fun hp h => ?_
    refine nds ?_
    cases h
    refine ⟨_, rfl, ?_⟩
    refine (Weak.drop 37 (by omega)).trans ?_
    exact wk
  replace h := inr_some h hb2
  refine GhostQ.of ((Weak.fz 18 iD rfl g18)) ?_
  refine stpf ?_
  refine stp ?_
  refine ndI h fun hp h => ?_
  cases h
  refine ⟨_, rfl, ?_⟩
  refine (Weak.drop 47 (by omega)).trans ?_
  exact wk⟩
def mc88 : MCode :=
 (.seq (.reg (sq 2 [.mv (.const (.slice none 0 0))])) (.seq (.reg (sq 3 [mv 0, .bsl 4 22 1 [(t0 3)], cf 117 [4], .ixa 1 (t0 5) (i0 0), ld 6] ++ sq 2 [mv 7])) .ret))
theorem fn88 : MFn Tryz.prog 88 mc88 8 [.tmp 2] := ⟨_, Tryz.func88, by kernel_rfl, Tryz.ntmps88, by kernel_rfl⟩
noncomputable def F_impl_renamed (t : (List Int)) : Option (List Int) :=
 (F_impl_renumber [t]).bind fun r =>
 if 0 ≤ 0 ∧ 0 < (r.length : Int) then
  some (r.getD 0 default)
 else none
instance c_impl_renamed {t : (List Int)} : HasC (F_impl_renamed t) fun rr => PFun Tryz.prog 88 [(slD 1 iD) t] ((slD 1 iD) rr) := ⟨@fun rr h => by
  delta F_impl_renamed at h
  refine fn88.pureL (vcm_sound ?_)
  delta mc88
  refine stp ?_
  exact aut⟩
def mc91 : MCode :=
 (.seq (.reg (sq 3 [mb false])) (.seq (.reg (sq 4 [mv 0, ld 1, cf 92 [4, 5]] ++ sq 3 [mv 6])) .ret))
theorem fn91 : MFn Tryz.prog 91 mc91 7 [.tmp 3] := ⟨_, Tryz.func91, by kernel_rfl, Tryz.ntmps91, by kernel_rfl⟩
def mc118 : MCode :=
 (.seq (.reg (sq 4 [mi 0])) (.seq (.seq (.reg (sq 6 [mv 0, ln 6, mi 0])) (.block 0 (.loop (.seq (.reg (sq 9 [bn .lss 8 7])) (.seq (.cond (t0 9) .skip (.exit 0)) (.seq (.block 1 (.seq (.reg (sq 10 [mv 8] ++ sq 5 [mv 10])) (.seq (.reg (sq 11 [mv 1, mv 0, mv 5, ix 1 12 13, ld 14, .callv (t0 11) [(t0 15)]])) (.cond (t0 16) (.seq (.reg (sq 17 [mv 5] ++ sq 4 [mv 17])) .ret) .skip)))) (.reg (sq 18 [bi .add 8 1] ++ sq 8 [mv 18])))))))) (.seq (.reg (sq 4 [mi (-1)])) .ret)))
theorem fn118 : MFn Tryz.prog 118 mc118 19 [.tmp 4] := ⟨_, Tryz.func118, by kernel_rfl, Tryz.ntmps118, by kernel_rfl⟩
def mc90 : MCode :=
 (.seq (.reg (sq 4 [mb false])) (.seq (.reg (sq 5 [mv 0, mv 1, cf 118 [5, 6], bi .geq 7 0] ++ sq 4 [mv 8])) .ret))
theorem fn90 : MFn Tryz.prog 90 mc90 9 [.tmp 4] := ⟨_, Tryz.func90, by kernel_rfl, Tryz.ntmps90, by kernel_rfl⟩
noncomputable def F_impl_shapesOf_1_s1 (t : (List Int)) (a1 : (List Int)) : Option Bool :=
 (F_slices_Equal_int64_int64 t a1).bind fun r =>
 some r
instance c_impl_shapesOf_1_s1 {t : (List Int)} {a1 : (List Int)} : HasC (F_impl_shapesOf_1_s1 t a1) fun rr => ACalls Tryz.prog 91 [.d (slD 1 iD t), .pv [slD 1 iD a1]] [] 0 fun xx ss => xx = .d (bD rr) ∧ ss = [] := ⟨@fun rr h => by
  delta F_impl_shapesOf_1_s1 at h
  refine fn91.callsO (vcm_sound ?_)
  delta mc91
  refine stp ?_
  exact aut⟩
noncomputable def F_slices_IndexFunc_int64_int64_s1_l1 (s : (List (List Int))) (f : (List Int)) : Int → Option (Int ⊕ Int)
 | v8 =>
  if (decide (v8 < (s.length : Int))) = true then
   if 0 ≤ v8 ∧ v8 < (s.length : Int) then
    (F_impl_shapesOf_1_s1 (s.getD v8.toNat default) f).bind fun r =>
    if r = true then
     Option.map Sum.inr (
      some v8)
    else
     some (.inl (IntKind.i64.wrap (v8 + 1)))
   else none
  else
   Option.map Sum.inr (
    some (-1))
noncomputable def F_slices_IndexFunc_int64_int64_s1 (s : (List (List Int))) (f : (List Int)) : Option Int :=
 loopC (F_slices_IndexFunc_int64_int64_s1_l1 s f) 0
instance c_slices_IndexFunc_int64_int64_s1 {s : (List (List Int))} {f : (List Int)} : HasC (F_slices_IndexFunc_int64_int64_s1 s f) fun rr => ACalls Tryz.prog 118 [.d (slD 1 (slD 1 iD) s), .fn 91 [] [.pv [slD 1 iD f]]] [] 0 fun xx ss => xx = .d (iD rr) ∧ ss = [] := ⟨@fun rr h => by
  delta F_slices_IndexFunc_int64_int64_s1 at h
  refine fn118.callsO (vcm_sound ?_)
  delta mc118
  refine stp ?_
  refine m_lW h [4, 5, 8, 9, 10, 11, 12, 13, 14, 15, 16, 17, 18] (fun pp => [(8, .d (iD pp))]) (fun pp => []) ?_
  rintro v8 t1 h hb1
  unfold F_slices_IndexFunc_int64_int64_s1_l1 at h
  try dsimp only at h
  refine vcm_sound (stp ?_)
  refine iT h fun hc h => ?_
  refine ndI h fun hp h => ?_
  refine need_i (by kernel_rfl) ?_
  refine rCo [] [] h fun r hr h => ?_
  exact aut⟩
noncomputable def F_slices_ContainsFunc_int64_int64_s1 (s : (List (List Int))) (f : (List Int)) : Option Bool :=
 (F_slices_IndexFunc_int64_int64_s1 s f).bind fun r =>
 some (decide (0 ≤ r))
instance c_slices_ContainsFunc_int64_int64_s1 {s : (List (List Int))} {f : (List Int)} : HasC (F_slices_ContainsFunc_int64_int64_s1 s f) fun rr => ACalls Tryz.prog 90 [.d (slD 1 (slD 1 iD) s), .fn 91 [] [.pv [slD 1 iD f]]] [] 0 fun xx ss => xx = .d (bD rr) ∧ ss = [] := ⟨@fun rr h => by
  delta F_slices_ContainsFunc_int64_int64_s1 at h
  refine fn90.callsO (vcm_sound ?_)
  delta mc90
  refine stp ?_
  refine rCo [] [] h fun r hr h => ?_
  exact aut⟩
def mc58_impl_shapesOf : MCode :=
 (.seq (.reg (sq 2 [bo 2 30 0] ++ sq 4 [.mv (.const (.slice none 0 0))])) (.seq (.reg (sq 5 [.mv (.const (.slice none 0 0))])) (.seq (.seq (.reg (sq 10 [mv 1, ln 10, mi 0])) (.block 0 (.loop (.seq (.reg (sq 13 [bn .lss 12 11])) (.seq (.cond (t0 13) .skip (.exit 0)) (.seq (.block 1 (.seq (.reg (sq 14 [ix 1 10 12, ld 14] ++ sq 7 [mv 15])) (.seq (.reg (sq 8 [mi 1])) (.block 2 (.loop (.seq (.seq (.reg (sq 16 [mv 8, mv 7, ln 17, bn .lss 16 18])) (.cond (t0 19) .skip (.exit 2))) (.seq (.block 3 (.seq (.seq (.reg (sq 22 [mv 7, mv 8, ix 1 22 23, ld 24, bi .lss 25 0])) (.cond (t0 26) (.exit 3) .skip)) (.seq (.reg (sq 27 [la 1 2, mv 7, mv 8, cf 89 [27, 28, 29], cf 88 [30]] ++ sq 9 [.alloc 9 22 [.sl 0 (some true) []]] ++ s0 (sr 1 9 31))) (.seq (.reg (sq 32 [mv 5, .mkfn 91 [] [(t0 9)], cf 90 [32, 33], nt 34])) (.cond (t0 35) (.reg (sq 36 [mv 5, ld 9, .bsl 38 22 1 [(t0 37)], .appg 39 22 1 24 (t0 36) (t0 38)] ++ sq 5 [mv 39])) .skip))))) (.reg (sq 20 [mv 8, bi .add 20 1] ++ sq 8 [mv 21]))))))))) (.reg (sq 40 [bi .add 12 1] ++ sq 12 [mv 40])))))))) (.seq (.reg (sq 41 [mv 5, .callf 93 [(t0 41), (.func 94)]])) (.seq (.reg (sq 43 [mv 5] ++ sq 4 [mv 43])) .ret)))))
theorem fn58_impl_shapesOf : MFn Tryz.prog 58 mc58_impl_shapesOf 44 [.tmp 4] := ⟨_, Tryz.func58, by kernel_rfl, Tryz.ntmps58, by kernel_rfl⟩
noncomputable def F_impl_shapesOf_l2 (sig : (List Int)) (lefts : (List (List Int))) (v12 : Int) : (Int × (List (List Int))) → Option ((Int × (List (List Int))) ⊕ ((Int × (List (List Int))) ⊕ (List (List Int))))
 | (at', g39_1) =>
  if (decide (at' < ((lefts.getD v12.toNat default).length : Int))) = true then
   if 0 ≤ at' ∧ at' < ((lefts.getD v12.toNat default).length : Int) then
    if (decide (((lefts.getD v12.toNat default).getD at'.toNat default) < 0)) = true then
     some (.inl ((IntKind.i64.wrap (at' + 1)), g39_1))
    else
     (F_impl_subAt sig (lefts.getD v12.toNat default) at').bind fun r =>
     (F_impl_renamed r).bind fun r_1 =>
     (F_slices_ContainsFunc_int64_int64_s1 g39_1 r_1).bind fun r_2 =>
     if r_2 = true then
      some (.inl ((IntKind.i64.wrap (at' + 1)), g39_1))
     else
      if (g39_1.length + 1) * 24 ≤ 140737488355328 then
       some (.inl ((IntKind.i64.wrap (at' + 1)), (g39_1 ++ [r_1])))
      else none
   else none
  else
   Option.map Sum.inr (
    some (.inl ((IntKind.i64.wrap (v12 + 1)), g39_1)))
noncomputable def F_impl_shapesOf_l1 (sig : (List Int)) (lefts : (List (List Int))) : (Int × (List (List Int))) → Option ((Int × (List (List Int))) ⊕ (List (List Int)))
 | (v12, g39) =>
  if (decide (v12 < (lefts.length : Int))) = true then
   if 0 ≤ v12 ∧ v12 < (lefts.length : Int) then
    loopC (F_impl_shapesOf_l2 sig lefts v12) (1, g39)
   else none
  else
   Option.map Sum.inr (
    (F_sortT g39).bind fun u =>
    some (sortT g39))
noncomputable def F_impl_shapesOf (sig : (List Int)) (lefts : (List (List Int))) : Option (List (List Int)) :=
 loopC (F_impl_shapesOf_l1 sig lefts) (0, [])
instance c_impl_shapesOf {sig : (List Int)} {lefts : (List (List Int))} : HasC (F_impl_shapesOf sig lefts) fun rr => PFun Tryz.prog 58 [D_impl_Sig sig, (slD 1 (slD 1 iD)) lefts] ((slD 1 (slD 1 iD)) rr) := ⟨@fun rr h => by
  delta F_impl_shapesOf at h
  refine fn58_impl_shapesOf.pureD (vcm_sound ?_)
  delta mc58_impl_shapesOf
  refine stp ?_
  refine m_loopF h [5, 7, 8, 9, 12, 13, 14, 15, 16, 17, 18, 19, 20, 21, 22, 23, 24, 25, 26, 27, 28, 29, 30, 31, 32, 33, 34, 35, 36, 37, 38, 39, 40] (fun pp => [(5, .gow 1 39 pp.2.length), (12, .d (iD pp.1))]) (fun pp => [(2, .obj 30 [.d (slD 1 iD sig)]), (39, .gro 22 1 pp.2.length (groL (slD 1 iD) pp.2))]) ?_ ?_
  · try dsimp only
    refine (Weak.thawG 5 39 22 1 rfl rfl).trans ?_
    exact wk
  rintro ⟨v12, g39⟩ t1 h hb1
  unfold F_impl_shapesOf_l1 at h
  try dsimp only at h
  refine vcm_sound (stp ?_)
  refine it h (fun hc h => ?_) fun hc h => ?_
  · refine ndI h fun hp h => ?_
    refine m_lW h [5, 8, 9, 16, 17, 18, 19, 20, 21, 22, 23, 24, 25, 26, 27, 28, 29, 30, 31, 32, 33, 34, 35, 36, 37, 38, 39] (fun pp => [(5, .gow 1 39 pp.2.length), (8, .d (iD pp.1))]) (fun pp => [(2, .obj 30 [.d (slD 1 iD sig)]), (39, .gro 22 1 pp.2.length (groL (slD 1 iD) pp.2))]) ?_
    rintro ⟨at', g39_1⟩ t2 h hb2
    unfold F_impl_shapesOf_l2 at h
    try dsimp only at h
    refine vcm_sound (stp ?_)
    refine iT h fun hc h => ?_
    refine ndI h fun hp h => ?_
    refine iF h fun hc h => ?_
    refine rC h fun r hr h => ?_
    refine rC h fun r_1 hr_1 h => ?_
    refine rLent h fun r_2 hr_2 h => ?_
    refine it h (fun hc h => ?_) fun hc h => ?_
    · cases h
      refine ⟨_, rfl, ?_⟩
      refine (Weak.drop 9 (by omega)).trans ?_
      exact wk
    refine ndI h fun hp h => ?_
    cases h
    refine ⟨_, rfl, ?_⟩
    refine (Weak.drop 9 (by omega)).trans ?_
    refine (Weak.drop 38 (by omega)).trans ?_
    exact wk
  replace h := inr_some h hb1
  refine rCo [(0, 39)] [] h fun u hu h => ?_
  cases h
  exact ⟨_, _, (Done.fz 39 (slD 1 iD) rfl (sortT g39)), frd⟩⟩
def mc28 : MCode :=
 (.seq (.reg (sq 1 [bo 1 33 0, .mv (.const (.slice none 0 0))])) (.seq (.seq (.reg (sq 3 [la 2 1, cf 26 [3], nt 4])) (.cond (t0 5) (.seq (.reg (sq 2 [.mv (.const (.slice none 0 0))])) .ret) .skip)) (.seq (.draw (sq 6 [fa 0 1, la 1 6, fa 1 1, ld 8, cf 59 [9], cf 58 [7, 10]] ++ sq 2 [mv 11]) [[], [0], [], [2], [3], [1, 4, 4], [5, 5, 0, 1, 2, 3, 4, 5]]) .ret)))
theorem fn28 : MFn Tryz.prog 28 mc28 12 [.tmp 2] := ⟨_, Tryz.func28, by kernel_rfl, Tryz.ntmps28, by kernel_rfl⟩
noncomputable def F_impl_ShapesOf (sys : ((List Int) × (List ((List Int) × (List Int))))) : Option (List (List Int)) :=
 (F_impl_LeftLinearIn sys).bind fun r =>
 if r = true then
  (F_impl_leftsOf sys.2).bind fun r_1 =>
  (F_impl_shapesOf sys.1 r_1).bind fun r_2 =>
  some r_2
 else
  some []
instance c_impl_ShapesOf {sys : ((List Int) × (List ((List Int) × (List Int))))} : HasC (F_impl_ShapesOf sys) fun rr => PFun Tryz.prog 28 [D_impl_System sys] ((slD 1 (slD 1 iD)) rr) := ⟨@fun rr h => by
  delta F_impl_ShapesOf at h
  refine fn28.pureL (vcm_sound ?_)
  delta mc28
  refine stp ?_
  exact aut⟩
def mc9 : MCode :=
 (.seq (.reg (sq 2 [bo 2 33 0] ++ sq 4 [.mv (.const (.slice none 0 0))])) (.seq (.seq (.reg (sq 8 [la 2 2, cf 26 [8], nt 9, mv 10] ++ sg 11 false 12 [fa 0 2, la 1 12, mv 1, cf 27 [13, 14], nt 15] ++ sq 17 [po 11 16])) (.cond (t0 17) (.seq (.reg (sq 4 [.mv (.const (.slice none 0 0))])) .ret) .skip)) (.seq (.reg (sq 5 [.mv (.const (.slice none 0 0))])) (.seq (.seq (.reg (sq 18 [la 2 2, cf 28 [18], ln 19, mi 0])) (.block 0 (.loop (.seq (.reg (sq 22 [bn .lss 21 20])) (.seq (.cond (t0 22) .skip (.exit 0)) (.seq (.block 1 (.seq (.reg (sq 23 [mv 21, ix 1 19 21, ld 24] ++ sq 6 [mv 23, mv 25])) (.seq (.reg (sq 26 [fa 0 2, la 1 26, mv 7, mv 1, cf 29 [27, 28, 29]])) (.cond (t0 30) (.reg (sq 31 [mv 5, mv 6, .bsl 33 2 1 [(t0 32)], ap 34 2 1 8 31 33] ++ sq 5 [mv 34])) .skip)))) (.reg (sq 35 [bi .add 21 1] ++ sq 21 [mv 35])))))))) (.seq (.reg (sq 36 [mv 5] ++ sq 4 [mv 36])) .ret)))))
theorem fn9 : MFn Tryz.prog 9 mc9 37 [.tmp 4] := ⟨_, Tryz.func9, by kernel_rfl, Tryz.ntmps9, by kernel_rfl⟩
end Go.Proofs.YtcbfefbocpikoaaGreat
namespace Go.Proofs.YtcbfefbocpikoaaGreat
open Go Abx
attribute [local irreducible] vcm vgo vdr vrun vdrun MWp GhostQ BrC BrO BrG BrD BrH AmbO callR callD drQ EnvLe StoLe
set_option maxHeartbeats 4000000
def D_laws_Sig (x : (List Int)) : D := .agg [(slD 1 iD) x]
def D_laws_Rule (x : ((List Int) × (List Int))) : D := .agg [(slD 1 iD) x.1, (slD 1 iD) x.2]
def D_laws_System (x : ((List Int) × (List ((List Int) × (List Int))))) : D := .agg [(slD 1 iD) x.1, (slD 2 D_laws_Rule) x.2]
instance : Cel D_laws_Sig 1 := ⟨fun _ => rfl⟩
instance : Cel D_laws_Rule 2 := ⟨fun _ => rfl⟩
instance : Cel D_laws_System 2 := ⟨fun _ => rfl⟩
attribute [go_sem] D_laws_Sig D_laws_Rule D_laws_System
def mc42 : MCode :=
 (.seq (.reg (sq 4 [mi 0])) (.seq (.reg (sq 5 [mv 1, mv 0, ln 6, bn .sub 5 7] ++ sq 1 [mv 8])) (.seq (.seq (.reg (sq 9 [mv 1, bi .lss 9 0])) (.cond (t0 10) (.seq (.reg (sq 4 [mi (-1)])) .ret) .skip)) (.seq (.reg (sq 11 [mv 1] ++ sq 4 [mv 11])) .ret))))
theorem fn42 : MFn Tryz.prog 42 mc42 12 [.tmp 4] := ⟨_, Tryz.func42, by kernel_rfl, Tryz.ntmps42, by kernel_rfl⟩
noncomputable def F_laws_szInt64S (a : (List Int)) (left : Int) : Option Int :=
 if (decide ((IntKind.i64.wrap (left - (a.length : Int))) < 0)) = true then
  some (-1)
 else
  some (IntKind.i64.wrap (left - (a.length : Int)))
instance c_laws_szInt64S {a : (List Int)} {left : Int} : HasC (F_laws_szInt64S a left) fun rr => PFun Tryz.prog 42 [(slD 1 iD) a, iD left] (iD rr) := ⟨@fun rr h => by
  delta F_laws_szInt64S at h
  refine fn42.pureL (vcm_sound ?_)
  delta mc42
  refine stp ?_
  exact aut⟩
def mc17 : MCode :=
 (.seq (.reg (sq 2 [bo 2 24 0] ++ sq 4 [mi 0])) (.seq (.reg (sq 5 [fa 0 2, ld 5, mv 1, cf 42 [6, 7]] ++ sq 1 [mv 8])) (.seq (.seq (.reg (sq 9 [mv 1, bi .lss 9 0])) (.cond (t0 10) (.seq (.reg (sq 4 [mi (-1)])) .ret) .skip)) (.seq (.reg (sq 11 [mv 1] ++ sq 4 [mv 11])) .ret))))
theorem fn17 : MFn Tryz.prog 17 mc17 12 [.tmp 4] := ⟨_, Tryz.func17, by kernel_rfl, Tryz.ntmps17, by kernel_rfl⟩
noncomputable def F_laws_szSig (a : (List Int)) (left : Int) : Option Int :=
 (F_laws_szInt64S a left).bind fun r =>
 if (decide (r < 0)) = true then
  some (-1)
 else
  some r
instance c_laws_szSig {a : (List Int)} {left : Int} : HasC (F_laws_szSig a left) fun rr => PFun Tryz.prog 17 [D_laws_Sig a, iD left] (iD rr) := ⟨@fun rr h => by
  delta F_laws_szSig at h
  refine fn17.pureL (vcm_sound ?_)
  delta mc17
  refine stp ?_
  exact aut⟩
def mc43 : MCode :=
 (.seq (.reg (sq 2 [bo 2 66 0] ++ sq 4 [mi 0])) (.seq (.reg (sq 5 [fa 0 2, ld 5, mv 1, cf 42 [6, 7]] ++ sq 1 [mv 8])) (.seq (.seq (.reg (sq 9 [mv 1, bi .lss 9 0])) (.cond (t0 10) (.seq (.reg (sq 4 [mi (-1)])) .ret) .skip)) (.seq (.reg (sq 11 [fa 1 2, ld 11, mv 1, cf 42 [12, 13]] ++ sq 1 [mv 14])) (.seq (.seq (.reg (sq 15 [mv 1, bi .lss 15 0])) (.cond (t0 16) (.seq (.reg (sq 4 [mi (-1)])) .ret) .skip)) (.seq (.reg (sq 17 [mv 1] ++ sq 4 [mv 17])) .ret))))))
theorem fn43 : MFn Tryz.prog 43 mc43 18 [.tmp 4] := ⟨_, Tryz.func43, by kernel_rfl, Tryz.ntmps43, by kernel_rfl⟩
noncomputable def F_laws_szRule (a : ((List Int) × (List Int))) (left : Int) : Option Int :=
 (F_laws_szInt64S a.1 left).bind fun r =>
 if (decide (r < 0)) = true then
  some (-1)
 else
  (F_laws_szInt64S a.2 r).bind fun r_1 =>
  if (decide (r_1 < 0)) = true then
   some (-1)
  else
   some r_1
instance c_laws_szRule {a : ((List Int) × (List Int))} {left : Int} : HasC (F_laws_szRule a left) fun rr => PFun Tryz.prog 43 [D_laws_Rule a, iD left] (iD rr) := ⟨@fun rr h => by
  delta F_laws_szRule at h
  refine fn43.pureL (vcm_sound ?_)
  delta mc43
  refine stp ?_
  exact aut⟩
def mc18 : MCode :=
 (.seq (.reg (sq 4 [mi 0])) (.seq (.reg (sq 6 [mv 1, mv 0, ln 7, bn .sub 6 8] ++ sq 1 [mv 9])) (.seq (.seq (.reg (sq 10 [mv 1, bi .lss 10 0])) (.cond (t0 11) (.seq (.reg (sq 4 [mi (-1)])) .ret) .skip)) (.seq (.seq (.reg (sq 5 [mi 0])) (.block 0 (.loop (.seq (.seq (.reg (sq 12 [mv 5, mv 0, ln 13, bn .lss 12 14])) (.cond (t0 15) .skip (.exit 0))) (.seq (.block 1 (.seq (.reg (sq 18 [mv 0, mv 5, ix 2 18 19, la 2 20, mv 1, cf 43 [21, 22]] ++ sq 1 [mv 23])) (.seq (.reg (sq 24 [mv 1, bi .lss 24 0])) (.cond (t0 25) (.seq (.reg (sq 4 [mi (-1)])) .ret) .skip)))) (.reg (sq 16 [mv 5, bi .add 16 1] ++ sq 5 [mv 17]))))))) (.seq (.reg (sq 26 [mv 1] ++ sq 4 [mv 26])) .ret)))))
theorem fn18 : MFn Tryz.prog 18 mc18 27 [.tmp 4] := ⟨_, Tryz.func18, by kernel_rfl, Tryz.ntmps18, by kernel_rfl⟩
noncomputable def F_laws_szRuleS_l1 (a : (List ((List Int) × (List Int)))) : (Int × Int) → Option ((Int × Int) ⊕ Int)
 | (left_1, i) =>
  if (decide (i < (a.length : Int))) = true then
   if 0 ≤ i ∧ i < (a.length : Int) then
    (F_laws_szRule ((a.getD i.toNat default).1, (a.getD i.toNat default).2) left_1).bind fun r =>
    if (decide (r < 0)) = true then
     Option.map Sum.inr (
      some (-1))
    else
     some (.inl (r, (IntKind.i64.wrap (i + 1))))
   else none
  else
   Option.map Sum.inr (
    some left_1)
noncomputable def F_laws_szRuleS (a : (List ((List Int) × (List Int)))) (left : Int) : Option Int :=
 if (decide ((IntKind.i64.wrap (left - (a.length : Int))) < 0)) = true then
  some (-1)
 else
  loopC (F_laws_szRuleS_l1 a) ((IntKind.i64.wrap (left - (a.length : Int))), 0)
instance c_laws_szRuleS {a : (List ((List Int) × (List Int)))} {left : Int} : HasC (F_laws_szRuleS a left) fun rr => PFun Tryz.prog 18 [(slD 2 D_laws_Rule) a, iD left] (iD rr) := ⟨@fun rr h => by
  delta F_laws_szRuleS at h
  refine fn18.pureL (vcm_sound ?_)
  delta mc18
  refine stp ?_
  refine iF h fun hc h => ?_
  refine m_lW h [1, 4, 5, 12, 13, 14, 15, 16, 17, 18, 19, 20, 21, 22, 23, 24, 25] (fun pp => [(1, .d (iD pp.1)), (5, .d (iD pp.2))]) (fun pp => []) ?_
  rintro ⟨left_1, i⟩ t1 h hb1
  unfold F_laws_szRuleS_l1 at h
  try dsimp only at h
  refine vcm_sound (stp ?_)
  exact aut⟩
def mc5 : MCode :=
 (.seq (.reg (sq 2 [bo 2 27 0] ++ sq 4 [mi 0])) (.seq (.reg (sq 5 [fa 0 2, la 1 5, mv 1, cf 17 [6, 7]] ++ sq 1 [mv 8])) (.seq (.seq (.reg (sq 9 [mv 1, bi .lss 9 0])) (.cond (t0 10) (.seq (.reg (sq 4 [mi (-1)])) .ret) .skip)) (.seq (.reg (sq 11 [fa 1 2, ld 11, mv 1, cf 18 [12, 13]] ++ sq 1 [mv 14])) (.seq (.seq (.reg (sq 15 [mv 1, bi .lss 15 0])) (.cond (t0 16) (.seq (.reg (sq 4 [mi (-1)])) .ret) .skip)) (.seq (.reg (sq 17 [mv 1] ++ sq 4 [mv 17])) .ret))))))
theorem fn5 : MFn Tryz.prog 5 mc5 18 [.tmp 4] := ⟨_, Tryz.func5, by kernel_rfl, Tryz.ntmps5, by kernel_rfl⟩
noncomputable def F_laws_szSystem (a : ((List Int) × (List ((List Int) × (List Int))))) (left : Int) : Option Int :=
 (F_laws_szSig a.1 left).bind fun r =>
 if (decide (r < 0)) = true then
  some (-1)
 else
  (F_laws_szRuleS a.2 r).bind fun r_1 =>
  if (decide (r_1 < 0)) = true then
   some (-1)
  else
   some r_1
instance c_laws_szSystem {a : ((List Int) × (List ((List Int) × (List Int))))} {left : Int} : HasC (F_laws_szSystem a left) fun rr => PFun Tryz.prog 5 [D_laws_System a, iD left] (iD rr) := ⟨@fun rr h => by
  delta F_laws_szSystem at h
  refine fn5.pureL (vcm_sound ?_)
  delta mc5
  refine stp ?_
  exact aut⟩
def mc10 : MCode :=
 (.seq (.reg (sq 4 [mb false])) (.seq (.seq (.reg (sq 6 [mv 0, ln 6, mv 1, ln 8, bn .neq 7 9])) (.cond (t0 10) (.seq (.reg (sq 4 [mb false])) .ret) .skip)) (.seq (.seq (.reg (sq 5 [mi 0])) (.block 0 (.loop (.seq (.seq (.reg (sq 11 [mv 5, mv 0, ln 12, bn .lss 11 13])) (.cond (t0 14) .skip (.exit 0))) (.seq (.block 1 (.seq (.draw (sq 17 [mv 0, mv 5, ix 1 17 18, ld 19, mv 1, mv 5, ix 1 21 22, ld 23, bn .neq 20 24]) [[], [], [0, 1], [2], [], [], [4, 5], [6], [3, 7]]) (.cond (t0 25) (.seq (.reg (sq 4 [mb false])) .ret) .skip))) (.reg (sq 15 [mv 5, bi .add 15 1] ++ sq 5 [mv 16]))))))) (.seq (.reg (sq 4 [mb true])) .ret))))
theorem fn10 : MFn Tryz.prog 10 mc10 26 [.tmp 4] := ⟨_, Tryz.func10, by kernel_rfl, Tryz.ntmps10, by kernel_rfl⟩
noncomputable def F_laws_eqInt64S_l1 (a : (List Int)) (b : (List Int)) : Int → Option (Int ⊕ Bool)
 | i =>
  if (decide (i < (a.length : Int))) = true then
   if 0 ≤ i ∧ i < (a.length : Int) then
    if 0 ≤ i ∧ i < (b.length : Int) then
     if ((a.getD i.toNat default) != (b.getD i.toNat default)) = true then
      Option.map Sum.inr (
       some false)
     else
      some (.inl (IntKind.i64.wrap (i + 1)))
    else none
   else none
  else
   Option.map Sum.inr (
    some true)
noncomputable def F_laws_eqInt64S (a : (List Int)) (b : (List Int)) : Option Bool :=
 if ((a.length : Int) != (b.length : Int)) = true then
  some false
 else
  loopC (F_laws_eqInt64S_l1 a b) 0
instance c_laws_eqInt64S {a : (List Int)} {b : (List Int)} : HasC (F_laws_eqInt64S a b) fun rr => PFun Tryz.prog 10 [(slD 1 iD) a, (slD 1 iD) b] (bD rr) := ⟨@fun rr h => by
  delta F_laws_eqInt64S at h
  refine fn10.pureL (vcm_sound ?_)
  delta mc10
  refine stp ?_
  refine iF h fun hc h => ?_
  refine m_lW h [4, 5, 11, 12, 13, 14, 15, 16, 17, 18, 19, 20, 21, 22, 23, 24, 25] (fun pp => [(5, .d (iD pp))]) (fun pp => []) ?_
  rintro i t1 h hb1
  unfold F_laws_eqInt64S_l1 at h
  try dsimp only at h
  refine vcm_sound (stp ?_)
  exact aut⟩
def mc30 : MCode :=
 (.seq (.reg (sq 2 [bo 2 30 0, bo 3 30 1, mb false])) (.seq (.seq (.reg (sq 5 [fa 0 2, ld 5, fa 0 3, ld 7, cf 10 [6, 8], nt 9])) (.cond (t0 10) (.seq (.reg (sq 4 [mb false])) .ret) .skip)) (.seq (.reg (sq 4 [mb true])) .ret)))
theorem fn30 : MFn Tryz.prog 30 mc30 11 [.tmp 4] := ⟨_, Tryz.func30, by kernel_rfl, Tryz.ntmps30, by kernel_rfl⟩
noncomputable def F_laws_eqSig (a : (List Int)) (b : (List Int)) : Option Bool :=
 (F_laws_eqInt64S a b).bind fun r =>
 if r = true then
  some true
 else
  some false
instance c_laws_eqSig {a : (List Int)} {b : (List Int)} : HasC (F_laws_eqSig a b) fun rr => PFun Tryz.prog 30 [D_impl_Sig a, D_impl_Sig b] (bD rr) := ⟨@fun rr h => by
  delta F_laws_eqSig at h
  refine fn30.pureL (vcm_sound ?_)
  delta mc30
  refine stp ?_
  exact aut⟩
def mc61 : MCode :=
 (.seq (.reg (sq 2 [bo 2 70 0, bo 3 70 1, mb false])) (.seq (.seq (.reg (sq 5 [fa 0 2, ld 5, fa 0 3, ld 7, cf 10 [6, 8], nt 9])) (.cond (t0 10) (.seq (.reg (sq 4 [mb false])) .ret) .skip)) (.seq (.seq (.reg (sq 11 [fa 1 2, ld 11, fa 1 3, ld 13, cf 10 [12, 14], nt 15])) (.cond (t0 16) (.seq (.reg (sq 4 [mb false])) .ret) .skip)) (.seq (.reg (sq 4 [mb true])) .ret))))
theorem fn61 : MFn Tryz.prog 61 mc61 17 [.tmp 4] := ⟨_, Tryz.func61, by kernel_rfl, Tryz.ntmps61, by kernel_rfl⟩
noncomputable def F_laws_eqRule (a : ((List Int) × (List Int))) (b : ((List Int) × (List Int))) : Option Bool :=
 (F_laws_eqInt64S a.1 b.1).bind fun r =>
 if r = true then
  (F_laws_eqInt64S a.2 b.2).bind fun r_1 =>
  if r_1 = true then
   some true
  else
   some false
 else
  some false
instance c_laws_eqRule {a : ((List Int) × (List Int))} {b : ((List Int) × (List Int))} : HasC (F_laws_eqRule a b) fun rr => PFun Tryz.prog 61 [D_impl_Rule a, D_impl_Rule b] (bD rr) := ⟨@fun rr h => by
  delta F_laws_eqRule at h
  refine fn61.pureL (vcm_sound ?_)
  delta mc61
  refine stp ?_
  exact aut⟩
def mc31 : MCode :=
 (.seq (.reg (sq 4 [mb false])) (.seq (.seq (.reg (sq 6 [mv 0, ln 6, mv 1, ln 8, bn .neq 7 9])) (.cond (t0 10) (.seq (.reg (sq 4 [mb false])) .ret) .skip)) (.seq (.seq (.reg (sq 5 [mi 0])) (.block 0 (.loop (.seq (.seq (.reg (sq 11 [mv 5, mv 0, ln 12, bn .lss 11 13])) (.cond (t0 14) .skip (.exit 0))) (.seq (.block 1 (.seq (.draw (sq 17 [mv 0, mv 5, ix 2 17 18, la 2 19, mv 1, mv 5, ix 2 21 22, la 2 23, cf 61 [20, 24], nt 25]) [[], [], [0, 1], [2], [], [], [4, 5], [6], [3, 7], [8]]) (.cond (t0 26) (.seq (.reg (sq 4 [mb false])) .ret) .skip))) (.reg (sq 15 [mv 5, bi .add 15 1] ++ sq 5 [mv 16]))))))) (.seq (.reg (sq 4 [mb true])) .ret))))
theorem fn31 : MFn Tryz.prog 31 mc31 27 [.tmp 4] := ⟨_, Tryz.func31, by kernel_rfl, Tryz.ntmps31, by kernel_rfl⟩
noncomputable def F_laws_eqRuleS_l1 (a : (List ((List Int) × (List Int)))) (b : (List ((List Int) × (List Int)))) : Int → Option (Int ⊕ Bool)
 | i =>
  if (decide (i < (a.length : Int))) = true then
   if 0 ≤ i ∧ i < (a.length : Int) then
    if 0 ≤ i ∧ i < (b.length : Int) then
     (F_laws_eqRule ((a.getD i.toNat default).1, (a.getD i.toNat default).2) ((b.getD i.toNat default).1, (b.getD i.toNat default).2)).bind fun r =>
     if r = true then
      some (.inl (IntKind.i64.wrap (i + 1)))
     else
      Option.map Sum.inr (
       some false)
    else none
   else none
  else
   Option.map Sum.inr (
    some true)
noncomputable def F_laws_eqRuleS (a : (List ((List Int) × (List Int)))) (b : (List ((List Int) × (List Int)))) : Option Bool :=
 if ((a.length : Int) != (b.length : Int)) = true then
  some false
 else
  loopC (F_laws_eqRuleS_l1 a b) 0
instance c_laws_eqRuleS {a : (List ((List Int) × (List Int)))} {b : (List ((List Int) × (List Int)))} : HasC (F_laws_eqRuleS a b) fun rr => PFun Tryz.prog 31 [(slD 2 D_impl_Rule) a, (slD 2 D_impl_Rule) b] (bD rr) := ⟨@fun rr h => by
  delta F_laws_eqRuleS at h
  refine fn31.pureL (vcm_sound ?_)
  delta mc31
  refine stp ?_
  refine iF h fun hc h => ?_
  refine m_lW h [4, 5, 11, 12, 13, 14, 15, 16, 17, 18, 19, 20, 21, 22, 23, 24, 25, 26] (fun pp => [(5, .d (iD pp))]) (fun pp => []) ?_
  rintro i t1 h hb1
  unfold F_laws_eqRuleS_l1 at h
  try dsimp only at h
  refine vcm_sound (stp ?_)
  exact aut⟩
def mc11 : MCode :=
 (.seq (.reg (sq 2 [bo 2 33 0, bo 3 33 1, mb false])) (.seq (.seq (.reg (sq 5 [fa 0 2, la 1 5, fa 0 3, la 1 7, cf 30 [6, 8], nt 9])) (.cond (t0 10) (.seq (.reg (sq 4 [mb false])) .ret) .skip)) (.seq (.seq (.reg (sq 11 [fa 1 2, ld 11, fa 1 3, ld 13, cf 31 [12, 14], nt 15])) (.cond (t0 16) (.seq (.reg (sq 4 [mb false])) .ret) .skip)) (.seq (.reg (sq 4 [mb true])) .ret))))
theorem fn11 : MFn Tryz.prog 11 mc11 17 [.tmp 4] := ⟨_, Tryz.func11, by kernel_rfl, Tryz.ntmps11, by kernel_rfl⟩
noncomputable def F_laws_eqSystem (a : ((List Int) × (List ((List Int) × (List Int))))) (b : ((List Int) × (List ((List Int) × (List Int))))) : Option Bool :=
 (F_laws_eqSig a.1 b.1).bind fun r =>
 if r = true then
  (F_laws_eqRuleS a.2 b.2).bind fun r_1 =>
  if r_1 = true then
   some true
  else
   some false
 else
  some false
instance c_laws_eqSystem {a : ((List Int) × (List ((List Int) × (List Int))))} {b : ((List Int) × (List ((List Int) × (List Int))))} : HasC (F_laws_eqSystem a b) fun rr => PFun Tryz.prog 11 [D_impl_System a, D_impl_System b] (bD rr) := ⟨@fun rr h => by
  delta F_laws_eqSystem at h
  refine fn11.pureL (vcm_sound ?_)
  delta mc11
  refine stp ?_
  exact aut⟩
def mc14 : MCode :=
 (.seq (.reg (sq 4 [mi 0])) (.seq (.seq (.reg (sq 5 [mi 0])) (.block 0 (.loop (.seq (.seq (.reg (sq 6 [mv 5, mv 0, ln 7, bn .lss 6 8])) (.cond (t0 9) .skip (.exit 0))) (.seq (.block 1 (.seq (.seq (.reg (sq 12 [mv 0, mv 5, ix 1 12 13, ld 14, mv 1, bn .neq 15 16])) (.cond (t0 17) (.seq (.reg (sq 4 [mi (-1)])) .ret) .skip)) (.reg (sq 18 [mv 1, bi .add 18 1] ++ sq 1 [mv 19])))) (.reg (sq 10 [mv 5, bi .add 10 1] ++ sq 5 [mv 11]))))))) (.seq (.reg (sq 20 [mv 1] ++ sq 4 [mv 20])) .ret)))
theorem fn14 : MFn Tryz.prog 14 mc14 21 [.tmp 4] := ⟨_, Tryz.func14, by kernel_rfl, Tryz.ntmps14, by kernel_rfl⟩
noncomputable def F_laws_heldInt64S_l1 (a : (List Int)) : (Int × Int) → Option ((Int × Int) ⊕ Int)
 | (k_1, i) =>
  if (decide (i < (a.length : Int))) = true then
   if 0 ≤ i ∧ i < (a.length : Int) then
    if ((a.getD i.toNat default) != k_1) = true then
     Option.map Sum.inr (
      some (-1))
    else
     some (.inl ((IntKind.i64.wrap (k_1 + 1)), (IntKind.i64.wrap (i + 1))))
   else none
  else
   Option.map Sum.inr (
    some k_1)
noncomputable def F_laws_heldInt64S (a : (List Int)) (k : Int) : Option Int :=
 loopC (F_laws_heldInt64S_l1 a) (k, 0)
instance c_laws_heldInt64S {a : (List Int)} {k : Int} : HasC (F_laws_heldInt64S a k) fun rr => PFun Tryz.prog 14 [(slD 1 iD) a, iD k] (iD rr) := ⟨@fun rr h => by
  delta F_laws_heldInt64S at h
  refine fn14.pureL (vcm_sound ?_)
  delta mc14
  refine stp ?_
  refine m_lW h [1, 4, 5, 6, 7, 8, 9, 10, 11, 12, 13, 14, 15, 16, 17, 18, 19] (fun pp => [(1, .d (iD pp.1)), (5, .d (iD pp.2))]) (fun pp => []) ?_
  rintro ⟨k_1, i⟩ t1 h hb1
  unfold F_laws_heldInt64S_l1 at h
  try dsimp only at h
  refine vcm_sound (stp ?_)
  exact aut⟩
end Go.Proofs.YtcbfefbocpikoaaGreat
namespace Abx
open Go
attribute [go_sem] List.set_cons_zero List.set_cons_succ
def TW (nid : Nat) (x y : AV) : Prop := ∀ (β : Beta) (O : Own) (w : World) (v : Value), (β nid).at (.slice none 0 0) 0 → AV.ok β O w x v → AV.ok β O w y v
def TWs (nid : Nat) (xs ys : List AV) : Prop := ∀ (β : Beta) (O : Own) (w : World) (vs : List Value), (β nid).at (.slice none 0 0) 0 → AV.oks β O w xs vs → AV.oks β O w ys vs
theorem TW.refl {nid : Nat} {x : AV} : TW nid x x := fun _ _ _ _ _ h => h
theorem TWs.nil {nid : Nat} : TWs nid [] [] := fun _ _ _ _ _ h => h
theorem TWs.cons {nid : Nat} {x y : AV} {xs ys : List AV} (h : TW nid x y) (hs : TWs nid xs ys) : TWs nid (x :: xs) (y :: ys) := fun β O w vs hb hv => by
  simp only [AV.oks] at hv ⊢
  obtain ⟨v, r, h1, h2, h3⟩ := hv
  exact ⟨v, r, h1, h β O w v hb h2, hs β O w r hb h3⟩
theorem TW.nil {nid e e0 : Nat} : TW nid (.d (.sl e0 (some true) [])) (.own e nid []) := fun β O w v hb hv => by
  simp only [AV.ok] at hv ⊢
  have := nil_ok hv
  subst this
  simp only [D.ok]
  exact ⟨⟨none, 0, rfl, ⟨Nat.le_refl _, by omega⟩, trivial, .inl trivial⟩, _, 0, hb, Nat.le_refl _, fun _ => rfl⟩
theorem TW.tup {nid : Nat} {xs ys : List AV} (h : TWs nid xs ys) : TW nid (.tup xs) (.tup ys) := fun β O w v hb hv => by
  simp only [AV.ok] at hv ⊢
  obtain ⟨vs, h1, h2⟩ := hv
  exact ⟨vs, h1, h β O w _ hb h2⟩
theorem TW.agg {nid : Nat} {xs ys : List AV} (h : TWs nid xs ys) : TW nid (.agg xs) (.agg ys) := fun β O w v hb hv => by
  simp only [AV.ok] at hv ⊢
  obtain ⟨vs, h1, h0, h2⟩ := hv
  exact ⟨vs, h1, h0, h β O w _ hb h2⟩
theorem TW.aggD {nid : Nat} {ds : List D} {ys : List AV} (h : TWs nid (ds.map .d) ys) : TW nid (.d (.agg ds)) (.agg ys) := fun β O w v hb hv => by
  have hm : ∀ (ds : List D) (vs : List Value), D.oks O w ds vs → AV.oks β O w (ds.map .d) vs := fun ds => by
    induction ds with
    | nil => intro vs h; simpa [D.oks, AV.oks] using h
    | cons d ds ih =>
      intro vs h
      simp only [D.oks] at h
      obtain ⟨v, r, h1, _, h2, h3⟩ := h
      simp only [List.map_cons, AV.oks]
      exact ⟨v, r, h1, by simpa only [AV.ok] using h2, ih r h3⟩
  simp only [AV.ok, D.ok] at hv ⊢
  obtain ⟨vs, h1, h2⟩ := hv
  exact ⟨vs, h1, doks_ones h2, h β O w _ hb (hm _ _ h2)⟩
theorem Done.thawT {k : Nat} {x : AV} {s : Sto} (nid t e : Nat) (y : AV) (hd : sat s nid = .dead) (hxy : TW nid x y) : Done k x s y (sset s nid (.tok t e 0)) := fun C β w v _ hi hx => by
  obtain ⟨h1, m⟩ := St.tokNil (env := []) (a := { tmps := #[], defers := [] }) (t := t) (e := e) ⟨.nil, hi, rfl, fun i x hx => by simp at hx⟩ hd
  exact ⟨_, h1.inv, hxy _ _ _ _ (by simp [bset, Place.at, nilV0]) (m.ok hx)⟩
theorem noDp_nil : noDp [] = true := (rfl)
theorem noDp_d {x : D} {xs : List AV} : noDp (.d x :: xs) = noDp xs := (rfl)
theorem noDp_gow {e id n : Nat} {xs : List AV} : noDp (.gow e id n :: xs) = noDp xs := (rfl)
attribute [go_sem] noDp_nil noDp_d noDp_gow
theorem NsLe_refl_t {xs : List AV} : NsLe xs xs ↔ True := ⟨fun _ => trivial, fun _ => NsLe.refl xs⟩
attribute [go_sem] NsLe_refl_t ne_eq not_false_eq_true
theorem rens_take {ρ : Nat → Option Nat} {xs : List AV} {n : Nat} : AV.rens ρ (xs.take n) = (AV.rens ρ xs).take n := by simp only [rens_mapB, List.map_take]
theorem rens_drop {ρ : Nat → Option Nat} {xs : List AV} {n : Nat} : AV.rens ρ (xs.drop n) = (AV.rens ρ xs).drop n := by simp only [rens_mapB, List.map_drop]
attribute [go_sem] rens_take rens_drop
theorem Inv.prv_len {C : Ctx} {β : Beta} {s : Sto} {w : World} (h : Inv C β s w) {id e n : Nat} {xs : List D} (hs : sat s id = .prv e n (tolds xs)) (he : ∀ x ∈ xs, (dcells x).length = e) (h0 : 0 < e) : n = xs.length := by
  have ho := h.obs id
  rw [hs] at ho
  obtain ⟨u, bs, _, _, hl, _⟩ := ho
  rw [tolds_len he] at hl
  exact (Nat.eq_of_mul_eq_mul_right h0 hl).symm
section
variable {α γ : Type} [Inhabited α] {f : α → D} {f' : γ → D} {e e' n k0 : Nat} {s : Sto} {env : List AV} {xs : List α} {y y' : α} {ys : List γ} {i k : Nat}
theorem set_self (hi : i < xs.length) : xs.set i (xs.getD i default) = xs := by
  rw [List.getD_eq_getElem?_getD, List.getElem?_eq_getElem hi]
  exact List.set_getElem_self hi
theorem getD_set_self (hi : i < xs.length) : (xs.set i y).getD i default = y := by
  rw [List.getD_eq_getElem?_getD, List.getElem?_set_self hi]; rfl
theorem told_at2 [Cel f e] (hi : i < xs.length) (hk : k < e) : (tolds ((xs.set i y).map f))[i * e + k]? = some (toldC ((dcells (f y)).getD k .any)) := by
  have := told_at (f := f) (e := e) (xs := xs.set i y) (i := i) (k := k) (by simpa using hi) hk
  rwa [getD_set_self hi] at this
theorem told_setc2 [Cel f e] {d : D} (hi : i < xs.length) (hk : k < e) (h : (dcells (f y)).set k d = dcells (f y')) :
    (tolds ((xs.set i y).map f)).set (i * e + k) (toldC d) = tolds ((xs.set i y').map f) := by
  rw [told_setc (xs := xs.set i y) (y := y') (by simpa using hi) hk (by rw [getD_set_self hi]; exact h), List.set_set]
theorem told_segE [Cel f e] {L : List AV} {m m' : Nat} (hi : i < xs.length) (hm : m = i * e) (hm' : m' = i * e + e) (hL : L = (dcells (f y)).map toldC) :
    (tolds (xs.map f)).take m ++ L ++ (tolds (xs.map f)).drop m' = tolds ((xs.set i y).map f) := by
  subst hm; subst hm'; subst hL
  have h1 := groL_take Cel.len xs i 0 hi (Nat.zero_le e) (f := f)
  have h2 := groL_drop Cel.len xs i e hi (Nat.le_refl e) (f := f)
  rw [tolds_L, tolds_L, ← List.map_take, ← List.map_drop, h2]
  rw [Nat.add_zero] at h1
  rw [h1, List.take_zero, List.append_nil, List.drop_of_length_le (by rw [Cel.len]; exact Nat.le_refl _), List.nil_append, List.set_eq_take_append_cons_drop, if_pos hi, groL_append, groL_cons]
  simp only [List.map_append, List.append_assoc]
theorem set_getD2 [Cel f e] {x : AV} (hi : i < xs.length) (hk : k < e) : ((tolds ((xs.set i y).map f)).set (i * e + k) x).getD (i * e + k) .junk = x := by
  rw [List.getD_eq_getElem?_getD, List.getElem?_set, if_pos rfl, if_pos (by rw [told_len, List.length_set]; exact idx_lt hi hk)]; rfl
theorem set_getD20 [Cel f e] {x : AV} (hi : i < xs.length) (hk : 0 < e) : ((tolds ((xs.set i y).map f)).set (i * e) x).getD (i * e) .junk = x := set_getD2 (k := 0) hi hk
theorem Weak.extC [Cel f e] [Cel f' e'] [Cl f'] (id c i k : Nat) {m : Nat} (hs : sat s id = .prv e n (tolds ((xs.set i y).map f))) (hi : i < xs.length) (hk : k < e) (hm : m = i * e + k) (hy : (dcells (f y)).getD k .any = slD e' f' ys)
    (hd : sat s c = .dead) (hc : k0 ≤ c) :
    Weak k0 env s env (sset (sset s c (.prv e' ys.length (tolds (ys.map f')))) id (.prv e n ((tolds ((xs.set i y).map f)).set m (.gow e' c ys.length)))) := by
  subst hm
  have h1 := told_at2 (f := f) (e := e) (xs := xs) (y := y) hi hk
  rw [hy] at h1
  have := Weak.extract (env := env) (k := k0) id c (i * e + k) hs h1 hd hc told_cond.1 told_cond.2
  simpa only [List.length_map] using this
theorem Weak.absC [Cel f e] [Cel f' e'] [Cl f'] (id c i k : Nat) {m q q' : Nat} (hs : sat s id = .prv e n ((tolds ((xs.set i y).map f)).set m (.gow e' c q))) (hcs : sat s c = .prv e' q' (tolds (ys.map f'))) (hq : q = q')
    (hi : i < xs.length) (hk : k < e) (hm : m = i * e + k) (h0 : 0 < e') (h : (dcells (f y)).set k (slD e' f' ys) = dcells (f y')) (hc : k0 ≤ c) (hne : id ≠ c) :
    Weak k0 env s (AV.rens (killρ c) env) (sset (sdel c s) id (.prv e n (tolds ((xs.set i y').map f)))) := fun C β a w hC hst => by
  subst hC; subst hm; subst hq
  have hlen := hst.inv.prv_len hcs told_cond.1 h0
  rw [List.length_map] at hlen
  subst hlen
  have hj : ((tolds ((xs.set i y).map f)).set (i * e + k) (.gow e' c ys.length))[i * e + k]? = some (.gow e' c (ys.map f').length) := by
    rw [List.getElem?_set, if_pos rfl, if_pos (by rw [told_len, List.length_set]; exact idx_lt hi hk), List.length_map]
  obtain ⟨β', h2⟩ := hst.absorbP hne hc hs hj (WholeP.of hcs rfl)
  have hcs' : (AV.rens (killρ c) ((tolds ((xs.set i y).map f)).set (i * e + k) (.gow e' c ys.length))).set (i * e + k) (.dp (.sl e' none (ys.map f'))) = tolds ((xs.set i y').map f) := by
    rw [rens_set', rens_tolds, List.set_set]
    exact told_setc2 hi hk h
  rw [hcs'] at h2
  have hsat : ∀ q, sat (sset (sdel c s) id (.prv e n (tolds ((xs.set i y').map f)))) q = sat (sset (skill c s) id (.prv e n (tolds ((xs.set i y').map f)))) q := fun q => by
    rw [sat_sset, sat_sset, sat_sdel]
  obtain ⟨g1, g2⟩ := h2.inv.told (s' := sset (sdel c s) id (.prv e n (tolds ((xs.set i y').map f)))) fun q => by rw [hsat]; exact ObLe.refl _
  exact ⟨β', h2.defers, g1, h2.len, fun j x hx => by rw [g2]; exact h2.env j x hx⟩
theorem Weak.absSeg [Cel f' e'] [Cl f'] (id c q : Nat) {A L B : List AV} {m m' : Nat} (hs : sat s id = .prv e n (A ++ L ++ B)) (hq : L[q]? = some (.gow e' c m)) (hcs : sat s c = .prv e' m' (tolds (ys.map f'))) (hm : m = m') (h0 : 0 < e')
    (hc : k0 ≤ c) (hne : id ≠ c) :
    Weak k0 env s (AV.rens (killρ c) env) (sset (skill c s) id (.prv e n (AV.rens (killρ c) A ++ (AV.rens (killρ c) L).set q (.dp (slD e' f' ys)) ++ AV.rens (killρ c) B))) := fun C β a w hC hst => by
  subst hC; subst hm
  have hlen := hst.inv.prv_len hcs told_cond.1 h0
  rw [List.length_map] at hlen
  subst hlen
  have hqL : q < L.length := (List.getElem?_eq_some_iff.1 hq).1
  have hj : (A ++ L ++ B)[A.length + q]? = some (.gow e' c (ys.map f').length) := by
    rw [List.append_assoc, List.getElem?_append_right (by omega), Nat.add_sub_cancel_left, List.getElem?_append_left hqL, hq, List.length_map]
  obtain ⟨β', h2⟩ := hst.absorbP hne hc hs hj (WholeP.of hcs rfl)
  refine ⟨β', ?_⟩
  have : (AV.rens (killρ c) (A ++ L ++ B)).set (A.length + q) (.dp (.sl e' none (ys.map f'))) = AV.rens (killρ c) A ++ (AV.rens (killρ c) L).set q (.dp (slD e' f' ys)) ++ AV.rens (killρ c) B := by
    rw [rens_append', rens_append', List.append_assoc, List.append_assoc, List.set_append, if_neg (by rw [rens_length]; omega), rens_length, Nat.add_sub_cancel_left, List.set_append, if_pos (by rw [rens_length]; exact hqL)]
    rfl
  rw [this] at h2
  exact h2
end
attribute [go_sem] set_getD2 set_getD20 told_len
theorem Weak.prvZ {α : Type} {f : α → D} {e n m k0 id : Nat} {s : Sto} {env : List AV} {z : List AV} (x0 : α) (hs : sat s id = .prv e n ((List.replicate m z).flatten)) (h : NsLe z ((dcells (f x0)).map toldC)) :
    Weak k0 env s env (sset s id (.prv e n (tolds ((List.replicate m x0).map f)))) :=
  Weak.prvLe id _ hs (by rw [List.map_replicate]; exact NsLe.rep h m)
end Abx
namespace Go.Proofs.YtcbfefbocpikoaaGreat
open Go Abx
attribute [local irreducible] vcm vgo vdr vrun vdrun MWp GhostQ BrC BrO BrG BrD BrH AmbO callR callD drQ EnvLe StoLe
set_option maxHeartbeats 4000000
instance : Cl D_impl_Rule := Cl.agg _ (fun _ => rfl) (fun _ => rfl)
noncomputable def F_impl_ShapesAt_s1_l1 (sys : ((List Int) × (List ((List Int) × (List Int))))) (t : (List Int)) (r_2 : (List (List Int))) : ((List Int) × Int) → Option (((List Int) × Int) ⊕ (List Int))
 | (out, v21) =>
  if (decide (v21 < (r_2.length : Int))) = true then
   if 0 ≤ v21 ∧ v21 < (r_2.length : Int) then
    (F_impl_instance sys.1 (r_2.getD v21.toNat default) t).bind fun r_3 =>
    if r_3 = true then
     if (out.length + 1) * 8 ≤ 140737488355328 then
      some (.inl ((out ++ [v21]), (IntKind.i64.wrap (v21 + 1))))
     else none
    else
     some (.inl (out, (IntKind.i64.wrap (v21 + 1))))
   else none
  else
   Option.map Sum.inr (
    some out)
noncomputable def F_impl_ShapesAt_s1 (sys : ((List Int) × (List ((List Int) × (List Int))))) (t : (List Int)) : Option (List Int) :=
 (F_impl_LeftLinearIn sys).bind fun r =>
 if r = true then
  (F_impl_GroundIn sys.1 t).bind fun r_1 =>
  if r_1 = true then
   (F_impl_ShapesOf sys).bind fun r_2 =>
   loopC (F_impl_ShapesAt_s1_l1 sys t r_2) ([], 0)
  else
   some []
 else
  some []
instance c_impl_ShapesAt_s1 {sys : ((List Int) × (List ((List Int) × (List Int))))} {t : (List Int)} : HasC (F_impl_ShapesAt_s1 sys t) fun rr => ACalls Tryz.prog 9 [.d (.agg [slD 1 iD sys.1, slD 2 D_impl_Rule sys.2]), .d (slD 1 iD t)] [] 0 fun xx ss => xx = .own 1 900000 (List.map iD rr) ∧ ss = [(900000, .tok 2 1 rr.length)] := ⟨@fun rr h => by
  delta F_impl_ShapesAt_s1 at h
  refine fn9.callsD (vcm_sound ?_)
  delta mc9
  refine stp ?_
  refine rC h fun r hr h => ?_
  refine it h (fun hc h => ?_) fun hc h => ?_
  · refine rC h fun r_1 hr_1 h => ?_
    refine it h (fun hc h => ?_) fun hc h => ?_
    · refine rC h fun r_2 hr_2 h => ?_
      refine m_loopF h [5, 6, 7, 21, 22, 23, 24, 25, 26, 27, 28, 29, 30, 31, 32, 33, 34, 35] (fun pp => [(5, .own 1 34 (List.map iD pp.1)), (21, .d (iD pp.2))]) (fun pp => [(2, .obj 33 [.d (slD 1 iD sys.1), .d (slD 2 D_impl_Rule sys.2)]), (34, .tok 2 1 pp.1.length)]) ?_ ?_
      · try dsimp only
        refine (Weak.thaw 5 34 2 1 rfl rfl).trans ?_
        exact wk
      rintro ⟨out, v21⟩ t1 h hb1
      unfold F_impl_ShapesAt_s1_l1 at h
      try dsimp only at h
      refine vcm_sound (stp ?_)
      refine it h (fun hc h => ?_) fun hc h => ?_
      · refine ndI h fun hp h => ?_
        refine rC h fun r_3 hr_3 h => ?_
        refine iT h fun hc h => ?_
        refine ndI h fun hp h => ?_
        cases h
        refine ⟨_, rfl, ?_⟩
        refine (Weak.drop 33 (by omega)).trans ?_
        exact wk
      replace h := inr_some h hb1
      cases h
      exact Done.trans ((Done.trans (Done.move 34 900000 (ob := .tok 2 1 rr.length) (by omega) (by omega) (by omega) rfl (by first | rfl | (simp; done) | (simp [sat, smove, sset, skill, sdel, sdels, Ob.ren, Ob.kill, rens_tolds]; done))) (Done.drops [2] (by simp)))) (Done.told frd don)
    cases h
    exact Done.trans ((Done.trans (Done.thawT 900000 2 1 (.own 1 900000 (List.map iD [])) (by first | rfl | simp [sat]) (by repeat' (first | exact TW.nil | refine TW.tup ?_ | refine TW.aggD ?_ | refine TW.agg ?_ | refine TWs.cons ?_ ?_ | exact TWs.nil | exact TW.refl))) (Done.drops [2] (by simp)))) (Done.told frd don)
  cases h
  exact Done.trans ((Done.trans (Done.thawT 900000 2 1 (.own 1 900000 (List.map iD [])) (by first | rfl | simp [sat]) (by repeat' (first | exact TW.nil | refine TW.tup ?_ | refine TW.aggD ?_ | refine TW.agg ?_ | refine TWs.cons ?_ ?_ | exact TWs.nil | exact TW.refl))) (Done.drops [2] (by simp)))) (Done.told frd don)⟩
end Go.Proofs.YtcbfefbocpikoaaGreat
namespace Abx
open Go
theorem ACalls.eq {P : Program} {f : Nat} {args : List AV} {s : Sto} {k : Nat} {y y' : AV} {t t' : Sto} (h : ACalls P f args s k fun x s' => x = y ∧ s' = t) (hy : y = y') (ht : t = t') :
    ACalls P f args s k fun x s' => x = y' ∧ s' = t' := by subst hy; subst ht; exact h
mutual
inductive Pub (tl : List (Nat × Nat × List D)) : AV → D → Prop
  | lit {u : Value} : Pub tl (.d (.lit u)) (.lit u)
  | gow {e id n : Nat} {ds : List D} (h : WholeP (toks tl) id e ds) (hn : n = ds.length) : Pub tl (.gow e id n) (.sl e none ds)
  | agg {xs : List AV} {ds : List D} (h : Pubs tl xs ds) : Pub tl (.agg xs) (.agg ds)
inductive Pubs (tl : List (Nat × Nat × List D)) : List AV → List D → Prop
  | nil : Pubs tl [] []
  | cons {x : AV} {a : D} {xs : List AV} {ds : List D} (h : Pub tl x a) (hs : Pubs tl xs ds) : Pubs tl (x :: xs) (a :: ds)
end
mutual
theorem Pub.ok {C : Ctx} {β β2 : Beta} {tl : List (Nat × Nat × List D)} {w : World} (h : Inv C β (toks tl) w) : ∀ {x : AV} {a : D} {v : Value}, Pub tl x a → AV.ok β (C.forb β (toks tl)) w x v → D.ok C.O w a v
  | _, _, v, .lit, hv => by simp only [AV.ok, D.ok] at hv ⊢; exact hv
  | _, _, v, .gow hw hn, hv => lent_tok h hw hn hv
  | _, _, v, .agg hl, hv => by
    simp only [AV.ok] at hv
    obtain ⟨vs, rfl, h1, h2⟩ := hv
    simp only [D.ok]
    exact ⟨vs, rfl, Pubs.oks (β2 := β2) h hl h1 h2⟩
theorem Pubs.oks {C : Ctx} {β β2 : Beta} {tl : List (Nat × Nat × List D)} {w : World} (h : Inv C β (toks tl) w) : ∀ {xs : List AV} {ds : List D} {vs : List Value}, Pubs tl xs ds → (∀ u ∈ vs, one u = true) → AV.oks β (C.forb β (toks tl)) w xs vs → D.oks C.O w ds vs
  | _, _, vs, .nil, _, hv => by simpa [AV.oks, D.oks] using hv
  | _, _, vs, .cons hl hs, h1, hv => by
    simp only [AV.oks] at hv
    obtain ⟨v, r, rfl, h2, h3⟩ := hv
    simp only [D.oks]
    exact ⟨v, r, rfl, h1 v (by simp), Pub.ok (β2 := β2) h hl h2, Pubs.oks (β2 := β2) h hs (fun u hu => h1 u (by simp [hu])) h3⟩
end
theorem ACalls.pub {P : Program} {f : Nat} {dz : List D} {y : AV} {t : Sto} {tl : List (Nat × Nat × List D)} {r : D} (hc : ACalls P f (dz.map .d) [] 0 fun x s' => x = y ∧ s' = t) (ht : t = toks tl) (hp : Pub tl y r) : PFun P f dz r := fun C vs hs hk hinv hargs => by
  subst ht
  refine (hc C vs hs hk hinv hargs).mono ?_
  rintro e w' ⟨v, x, β', s', rfl, hi, hx, rfl, rfl⟩
  refine ⟨v, .d r, fun _ => .no, [], rfl, ⟨hi.size, hi.io, hi.keep, hi.blks, fun b o ⟨id, h⟩ => h.elim, fun id b h => h.elim, fun id hid => by omega, hi.low, fun id => rfl, fun i j b h => h.elim⟩, ?_, rfl⟩
  have h1 := Pub.ok (β2 := β') hi hp hx
  simp only [AV.ok]
  exact D.ok_mono (fun b o v hc hn => ⟨hc, fun h => hn (h.elim (fun h => h) fun ⟨_, h⟩ => h.elim)⟩) r v h1
theorem Pub.tok {α : Type} {f : α → D} {e n id : Nat} {xs : List α} {tl : List (Nat × Nat × List D)} [Cel f e] [Cl f] (h : sat (toks tl) id = .prv e n (tolds (xs.map f))) (hn : n = xs.length) : Pub tl (.gow e id n) (slD e f xs) :=
  .gow (WholeP.of h hn) (by rw [hn, List.length_map])
theorem told_flat {α : Type} {f : α → D} [LitF f] : ∀ xs : List α, List.map (aD f) xs = tolds (xs.map f)
  | [] => rfl
  | x :: xs => by
    rw [List.map_cons, List.map_cons, tolds_cons, told_flat xs]
    have := LitF.lit (f := f) x
    cases h : f x with
    | lit u => simp only [dcells, List.map_cons, List.map_nil, toldC, aD, h]; rfl
    | _ => rw [h] at this; cases this
theorem sat_hit {i : Nat} {o : Ob} {s : Sto} : sat ((i, o) :: s) i = o := by simp [sat]
theorem sat_miss {i j : Nat} {o : Ob} {s : Sto} (h : j ≠ i) : sat ((i, o) :: s) j = sat s j := by simp [sat, h]
theorem sat_nil {j : Nat} : sat [] j = .dead := rfl
theorem sset_hit {i : Nat} {o x : Ob} {s : Sto} : sset ((i, o) :: s) i x = (i, x) :: s := by simp [sset]
theorem sset_lt {i j : Nat} {o x : Ob} {s : Sto} (h : i < j) : sset ((j, o) :: s) i x = (i, x) :: (j, o) :: s := by simp [sset, h, Nat.ne_of_lt h]
theorem sset_gt {i j : Nat} {o x : Ob} {s : Sto} (h : j < i) : sset ((j, o) :: s) i x = (j, o) :: sset s i x := by simp [sset, Nat.ne_of_gt h, Nat.not_lt_of_gt h]
theorem sset_nil {i : Nat} {x : Ob} : sset [] i x = [(i, x)] := rfl
attribute [go_sem] sat_hit sat_miss sat_nil sset_hit sset_lt sset_gt sset_nil
end Abx
