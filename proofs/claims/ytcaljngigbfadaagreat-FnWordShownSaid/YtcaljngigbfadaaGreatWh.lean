/- Functions of the program and the equations that they compute, draws, third part; nothing is assumed. -/
import Derived.Test.YtcaljngigbfadaaGreatWg
set_option linter.unusedSimpArgs false
set_option linter.unusedVariables false
set_option linter.unusedSectionVars false
namespace Go.Proofs.YtcaljngigbfadaaGreat
noncomputable section
open Go Abx
attribute [local irreducible] vcm vgo vdr vrun vdrun MWp GhostQ BrC BrO BrG BrD BrH AmbO callR callD drQ EnvLe StoLe
set_option maxHeartbeats 4000000
def mc101 : MCode :=
 (.seq (.reg [⟨some 2, .alloc 2 46 [.sl 0 (some true) [], .sl 0 (some true) []], none⟩]) (.seq (.reg [⟨some 4, .mv (.tmp 0), none⟩, ⟨some 5, .callf 204 [.tmp 4], none⟩, ⟨some 3, .alloc 3 46 [.sl 0 (some true) [], .sl 0 (some true) []], none⟩, ⟨none, .store 2 (.tmp 3) (.tmp 5), none⟩]) (.seq (.seq (.reg [⟨some 6, .mv (.tmp 0), none⟩, ⟨some 7, .callf 103 [.tmp 6, (.const (.int .i64 15))], none⟩]) (.cond (.tmp 7) (.seq (.reg [⟨some 8, .mv (.tmp 0), none⟩, ⟨some 9, .callf 105 [.tmp 8, (.const (.int .i64 4))], none⟩]) (.block 0 (.seq (.reg [⟨some 11, .bin .eql (.tmp 9) (.const (.int .i64 0)), none⟩, ⟨some 10, .mv (.tmp 11), none⟩]) (.cond (.tmp 10) (.draw [⟨some 12, .fad 1 (.tmp 3), none⟩, ⟨some 13, .load 1 false (.tmp 12), none⟩, ⟨some 14, .mv (.tmp 0), none⟩, ⟨some 15, .fad 0 (.tmp 3), none⟩, ⟨some 16, .load 1 true (.tmp 15), none⟩, ⟨some 17, .callf 205 [.tmp 14, .tmp 16], none⟩, ⟨some 18, .mv (.tmp 0), none⟩, ⟨some 19, .fad 0 (.tmp 3), none⟩, ⟨some 20, .load 1 true (.tmp 19), none⟩, ⟨some 21, .callf 205 [.tmp 18, .tmp 20], none⟩, ⟨some 22, .build [.sl 0 (some true) [], .sl 0 (some true) []] [(0, 1, .tmp 17), (1, 1, .tmp 21)], none⟩, ⟨some 23, .bsl 23 146 2 [.tmp 22], none⟩, ⟨some 24, .app 24 146 2 48 (.tmp 13) (.tmp 23), none⟩, ⟨some 25, .fad 1 (.tmp 3), none⟩, ⟨none, .store 1 (.tmp 25) (.tmp 24), none⟩] [[], [0], [], [], [3], [2, 4], [], [], [7], [6, 8, 5], [5, 9], [10], [1, 11, 9], [0, 1, 2, 3, 4, 5, 6, 7, 8, 9, 10, 11, 12], [13, 12, 12, 0, 1, 2, 3, 4, 5, 6, 7, 8, 9, 10, 11, 12]]) (.seq (.reg [⟨some 27, .bin .eql (.tmp 9) (.const (.int .i64 1)), none⟩, ⟨some 26, .mv (.tmp 27), none⟩]) (.cond (.tmp 26) (.reg [⟨some 28, .mv (.tmp 0), none⟩, ⟨some 29, .callf 206 [.tmp 28], none⟩, ⟨some 30, .fad 0 (.tmp 3), none⟩, ⟨none, .store 1 (.tmp 30) (.tmp 29), none⟩]) (.seq (.reg [⟨some 32, .bin .eql (.tmp 9) (.const (.int .i64 2)), none⟩, ⟨some 31, .mv (.tmp 32), none⟩]) (.cond (.tmp 31) (.block 1 (.loop (.seq (.seq (.reg [⟨some 33, .fad 1 (.tmp 3), none⟩, ⟨some 34, .load 1 false (.tmp 33), none⟩, ⟨some 35, .len (.tmp 34), none⟩, ⟨some 36, .bin .lss (.tmp 35) (.const (.int .i64 13)), none⟩]) (.cond (.tmp 36) .skip (.exit 1))) (.block 2 (.reg [⟨some 37, .fad 1 (.tmp 3), none⟩, ⟨some 38, .load 1 false (.tmp 37), none⟩, ⟨some 39, .bsl 39 2 1 [(.const (.int .i64 2))], none⟩, ⟨some 40, .bsl 40 2 1 [(.const (.int .i64 2))], none⟩, ⟨some 41, .build [.sl 0 (some true) [], .sl 0 (some true) []] [(0, 1, .tmp 39), (1, 1, .tmp 40)], none⟩, ⟨some 42, .bsl 42 146 2 [.tmp 41], none⟩, ⟨some 43, .app 43 146 2 48 (.tmp 38) (.tmp 42), none⟩, ⟨some 44, .fad 1 (.tmp 3), none⟩, ⟨none, .store 1 (.tmp 44) (.tmp 43), none⟩]))))) (.seq (.reg [⟨some 46, .bin .eql (.tmp 9) (.const (.int .i64 3)), none⟩, ⟨some 45, .mv (.tmp 46), none⟩]) (.cond (.tmp 45) (.reg [⟨some 47, .fad 1 (.tmp 3), none⟩, ⟨some 48, .load 1 false (.tmp 47), none⟩, ⟨some 49, .bsl 49 2 1 [(.const (.int .i64 (-1)))], none⟩, ⟨some 50, .bsl 50 2 1 [(.const (.int .i64 (-1)))], none⟩, ⟨some 51, .build [.sl 0 (some true) [], .sl 0 (some true) []] [(0, 1, .tmp 49), (1, 1, .tmp 50)], none⟩, ⟨some 52, .bsl 52 146 2 [.tmp 51], none⟩, ⟨some 53, .app 53 146 2 48 (.tmp 48) (.tmp 52), none⟩, ⟨some 54, .fad 1 (.tmp 3), none⟩, ⟨none, .store 1 (.tmp 54) (.tmp 53), none⟩]) .skip)))))))))) .skip)) (.seq (.reg [⟨some 55, .load 2 true (.tmp 3), none⟩, ⟨none, .store 2 (.tmp 2) (.tmp 55), none⟩]) .ret))))
theorem fn101 : MFn Tryz.prog 101 mc101 56 [.cell 2 2 true] :=
  ⟨Tryz.f101, Tryz.func101, by kernel_rfl, Tryz.ntmps101, by kernel_rfl⟩
def F_spec_l6DrawAny_l1 (r : (Ls × (List (Ls × Ls)) × Int × Int)) (r_2 : (Int × Int × Int)) : (List (Ls × Ls)) → Option ((List (Ls × Ls)) ⊕ ((Ls × (List (Ls × Ls))) × Int × Int))
 | g5 =>
  if (decide ((g5.length : Int) < 13)) = true then
   if (g5.length + 1) * 48 ≤ 140737488355328 then
    some (.inl (g5 ++ [([2], [2])]))
   else none
  else
   Option.map Sum.inr (
    some ((r.1, g5), r_2.2.1, r_2.2.2))
def F_spec_l6DrawAny (c0 : Ls) (c1 : Int) (c2 : Int) : Option ((Ls × (List (Ls × Ls))) × Int × Int) :=
 (F_spec_l6Draw_s1 c0 c1 c2).bind fun r =>
 (F_spec_l1Once 15 c0 r.2.2.1 r.2.2.2).bind fun r_1 =>
 if r_1.1 = true then
  (F_spec_l1Below 4 c0 r_1.2.1 r_1.2.2).bind fun r_2 =>
  if (r_2.1 == 0) = true then
   (F_spec_l1DrawAny r.1 c0 r_2.2.1 r_2.2.2).bind fun r_3 =>
   (F_spec_l1DrawAny r.1 c0 r_3.2.1 r_3.2.2).bind fun r_4 =>
   if (r.2.1.length + 1) * 48 ≤ 140737488355328 then
    some ((r.1, (r.2.1 ++ [(r_3.1, r_4.1)])), r_4.2.1, r_4.2.2)
   else none
  else
   if (r_2.1 == 1) = true then
    (F_spec_l1DrawSigAny c0 r_2.2.1 r_2.2.2).bind fun r_5 =>
    some ((r_5.1, r.2.1), r_5.2.1, r_5.2.2)
   else
    if (r_2.1 == 2) = true then
     loopC (F_spec_l6DrawAny_l1 r r_2) r.2.1
    else
     if (r_2.1 == 3) = true then
      if (r.2.1.length + 1) * 48 ≤ 140737488355328 then
       some ((r.1, (r.2.1 ++ [([(-1)], [(-1)])])), r_2.2.1, r_2.2.2)
      else none
     else
      some ((r.1, r.2.1), r_2.2.1, r_2.2.2)
 else
  some ((r.1, r.2.1), r_1.2.1, r_1.2.2)
theorem c_spec_l6DrawAny {c0 : Ls} {c1 : Int} {c2 : Int} {rr : ((Ls × (List (Ls × Ls))) × Int × Int)} (h : F_spec_l6DrawAny c0 c1 c2 = some rr) : ACalls Tryz.prog 101 [.ptr 0 0] [(0, .obj 216 [.d (slD 1 (kD .u8) c0), .d (iD c1), .d (iD c2)])] 1 fun xx ss => xx = .d (.agg [slD 1 iD rr.1.1, slD 2 D_impl_Rule rr.1.2]) ∧ ss = [(0, .obj 216 [.d (slD 1 (kD .u8) c0), .d (iD rr.2.1), .d (iD rr.2.2)])] := by
  delta F_spec_l6DrawAny at h
  refine fn101.callsD (vcm_sound ?_)
  delta mc101
  refine stp ?_
  obtain ⟨r, hr, h⟩ := bind_some h
  refine cRo [(0, 0)] [(900000, 5)] (c_spec_l6Draw_s1 hr) (stp ?_)
  obtain ⟨r_1, hr_1, h⟩ := bind_some h
  refine cRo [(0, 0)] [] (c_spec_l1Once hr_1) (stp ?_)
  rcases ite_some h with ⟨hc, h⟩ | ⟨hc, h⟩
  · refine stpc hc ?_
    obtain ⟨r_2, hr_2, h⟩ := bind_some h
    refine cRo [(0, 0)] [] (c_spec_l1Below hr_2) (stp ?_)
    rcases ite_some h with ⟨hc, h⟩ | ⟨hc, h⟩
    · refine stpc hc ?_
      obtain ⟨r_3, hr_3, h⟩ := bind_some h
      refine cDo [(0, 0)] [] (c_spec_l1DrawAny hr_3) (stp ?_)
      obtain ⟨r_4, hr_4, h⟩ := bind_some h
      refine cDo [(0, 0)] [] (c_spec_l1DrawAny hr_4) (stp ?_)
      obtain ⟨hp, h⟩ := need_some h
      repeat (refine need_i (by omega) ?_; refine stp ?_)
      refine drQ_of (by kernel_rfl) ?_
      refine stp ?_
      cases h
      exact Done.trans ((Done.trans (Done.told (t := [(0, .obj 216 [.d (slD 1 (kD .u8) c0), .d (iD r_4.2.1), .d (iD r_4.2.2)]), (2, .obj 46 [.d (slD 1 iD r.1), .gow 2 5 ((r.2.1 ++ [(r_3.1, r_4.1)]).length)]), (3, .obj 46 [.d (slD 1 iD r.1), .gow 2 5 ((r.2.1 ++ [(r_3.1, r_4.1)]).length)]), (5, .gro 146 2 ((r.2.1 ++ [(r_3.1, r_4.1)]).length) (groL D_impl_Rule (r.2.1 ++ [(r_3.1, r_4.1)]))), (23, .tok 146 2 1)]) (AV.le_refl _) (by exact (stoC (ObLe.refl _) (stoC ⟨rfl, don⟩ (stoC ⟨rfl, don⟩ (stoC ⟨rfl, rfl, by simp, gro_snoc don⟩ (stoC (ObLe.refl _) stoN))))))) (Done.trans (Done.fz 5 D_impl_Rule rfl (r.2.1 ++ [(r_3.1, r_4.1)])) (Done.drops [2, 3, 23] (by simp))))) (Done.told frd don)
    refine stpc hc ?_
    rcases ite_some h with ⟨hc, h⟩ | ⟨hc, h⟩
    · refine stpc hc ?_
      obtain ⟨r_5, hr_5, h⟩ := bind_some h
      refine cRo [(0, 0)] [] (c_spec_l1DrawSigAny hr_5) (stp ?_)
      cases h
      exact Done.trans ((Done.trans (Done.fz 5 D_impl_Rule rfl r.2.1) (Done.drops [2, 3] (by simp)))) (Done.told frd don)
    refine stpc hc ?_
    rcases ite_some h with ⟨hc, h⟩ | ⟨hc, h⟩
    · refine stpc hc ?_
      refine m_loopF h [33, 34, 35, 36, 37, 38, 39, 40, 41, 42, 43, 44] (fun pp => []) (fun pp => [(0, .obj 216 [.d (slD 1 (kD .u8) c0), .d (iD r_2.2.1), .d (iD r_2.2.2)]), (2, .obj 46 [.d (.sl 0 (some true) []), .d (.sl 0 (some true) [])]), (3, .obj 46 [.d (slD 1 iD r.1), .gow 2 5 pp.length]), (5, .gro 146 2 pp.length (groL D_impl_Rule pp))]) ?_ ?_
      · try dsimp only
        exact wk
      rintro g5 t1 h hb1
      unfold F_spec_l6DrawAny_l1 at h
      try dsimp only at h
      refine vcm_sound (stp ?_)
      rcases ite_some h with ⟨hc, h⟩ | ⟨hc, h⟩
      · refine stpc hc ?_
        obtain ⟨hp, h⟩ := need_some h
        repeat (refine need_i (by omega) ?_; refine stp ?_)
        cases h
        refine ⟨_, rfl, ?_⟩
        refine (Weak.leS (s' := [(0, .obj 216 [.d (slD 1 (kD .u8) c0), .d (iD r_2.2.1), .d (iD r_2.2.2)]), (2, .obj 46 [.d (.sl 0 (some true) []), .d (.sl 0 (some true) [])]), (3, .obj 46 [.d (slD 1 iD r.1), .gow 2 5 ((g5 ++ [([2], [2])]).length)]), (5, .gro 146 2 ((g5 ++ [([2], [2])]).length) (groL D_impl_Rule (g5 ++ [([2], [2])]))), (39, .tok 2 1 1), (40, .tok 2 1 1), (42, .tok 146 2 1)]) (EnvLe.refl _) (by exact (stoC (ObLe.refl _) (stoC (ObLe.refl _) (stoC ⟨rfl, don⟩ (stoC ⟨rfl, rfl, by simp, gro_snoc don⟩ (stoC (ObLe.refl _) (stoC (ObLe.refl _) (stoC (ObLe.refl _) stoN))))))))).trans ?_
        refine (Weak.drop 39 (by omega)).trans ?_
        refine (Weak.drop 40 (by omega)).trans ?_
        refine (Weak.drop 42 (by omega)).trans ?_
        exact wk
      refine stpc hc ?_
      replace h := inr_some h hb1
      cases h
      exact Done.trans ((Done.trans (Done.fz 5 D_impl_Rule rfl g5) (Done.drops [2, 3] (by simp)))) (Done.told frd don)
    refine stpc hc ?_
    rcases ite_some h with ⟨hc, h⟩ | ⟨hc, h⟩
    · refine stpc hc ?_
      obtain ⟨hp, h⟩ := need_some h
      repeat (refine need_i (by omega) ?_; refine stp ?_)
      cases h
      exact Done.trans ((Done.trans (Done.told (t := [(0, .obj 216 [.d (slD 1 (kD .u8) c0), .d (iD r_2.2.1), .d (iD r_2.2.2)]), (2, .obj 46 [.d (slD 1 iD r.1), .gow 2 5 ((r.2.1 ++ [([(-1)], [(-1)])]).length)]), (3, .obj 46 [.d (slD 1 iD r.1), .gow 2 5 ((r.2.1 ++ [([(-1)], [(-1)])]).length)]), (5, .gro 146 2 ((r.2.1 ++ [([(-1)], [(-1)])]).length) (groL D_impl_Rule (r.2.1 ++ [([(-1)], [(-1)])]))), (49, .tok 2 1 1), (50, .tok 2 1 1), (52, .tok 146 2 1)]) (AV.le_refl _) (by exact (stoC (ObLe.refl _) (stoC ⟨rfl, don⟩ (stoC ⟨rfl, don⟩ (stoC ⟨rfl, rfl, by simp, gro_snoc don⟩ (stoC (ObLe.refl _) (stoC (ObLe.refl _) (stoC (ObLe.refl _) stoN))))))))) (Done.trans (Done.fz 5 D_impl_Rule rfl (r.2.1 ++ [([(-1)], [(-1)])])) (Done.drops [2, 3, 49, 50, 52] (by simp))))) (Done.told frd don)
    refine stpc hc ?_
    cases h
    exact Done.trans ((Done.trans (Done.fz 5 D_impl_Rule rfl r.2.1) (Done.drops [2, 3] (by simp)))) (Done.told frd don)
  refine stpc hc ?_
  cases h
  exact Done.trans ((Done.trans (Done.fz 5 D_impl_Rule rfl r.2.1) (Done.drops [2, 3] (by simp)))) (Done.told frd don)
def mc300 : MCode :=
 (.seq (.reg [⟨some 3, .box 3 43 (.tmp 1), none⟩, ⟨some 4, .alloc 4 48 [.sl 0 (some true) []], none⟩]) (.seq (.reg [⟨some 8, .build [.sl 0 (some true) []] [], none⟩, ⟨some 5, .alloc 5 48 [.sl 0 (some true) []], none⟩, ⟨none, .store 1 (.tmp 5) (.tmp 8), none⟩]) (.seq (.seq (.reg [⟨some 9, .mv (.tmp 0), none⟩, ⟨some 10, .callf 105 [.tmp 9, (.const (.int .i64 4))], none⟩, ⟨some 6, .mv (.tmp 10), none⟩]) (.block 0 (.loop (.seq (.seq (.reg [⟨some 11, .mv (.tmp 6), none⟩, ⟨some 12, .bin .gtr (.tmp 11) (.const (.int .i64 0)), none⟩]) (.cond (.tmp 12) .skip (.exit 0))) (.seq (.block 1 (.seq (.reg [⟨some 15, .bsl 15 2 1 [], none⟩, ⟨some 7, .mv (.tmp 15), none⟩]) (.seq (.seq (.reg [⟨some 16, .mv (.tmp 0), none⟩, ⟨some 17, .callf 103 [.tmp 16, (.const (.int .i64 3))], none⟩, ⟨some 18, .un .not (.tmp 17), none⟩]) (.cond (.tmp 18) (.draw [⟨some 19, .mv (.tmp 0), none⟩, ⟨some 20, .load 1 true (.tmp 3), none⟩, ⟨some 21, .mv (.tmp 0), none⟩, ⟨some 22, .callf 105 [.tmp 21, (.const (.int .i64 3))], none⟩, ⟨some 23, .bin .add (.const (.int .i64 1)) (.tmp 22), none⟩, ⟨some 24, .callf 298 [.tmp 19, .tmp 20, .tmp 23, (.const (.int .i64 3))], none⟩, ⟨some 7, .mv (.tmp 24), none⟩] [[], [], [], [2], [3], [0, 1, 4, 3], [5, 5, 0, 1, 2, 3, 4, 5]]) .skip)) (.reg [⟨some 25, .fad 0 (.tmp 5), none⟩, ⟨some 26, .load 1 false (.tmp 25), none⟩, ⟨some 27, .mv (.tmp 7), none⟩, ⟨some 28, .bsl 28 22 1 [.tmp 27], none⟩, ⟨some 29, .app 29 22 1 24 (.tmp 26) (.tmp 28), none⟩, ⟨some 30, .fad 0 (.tmp 5), none⟩, ⟨none, .store 1 (.tmp 30) (.tmp 29), none⟩])))) (.reg [⟨some 13, .mv (.tmp 6), none⟩, ⟨some 14, .bin .sub (.tmp 13) (.const (.int .i64 1)), none⟩, ⟨some 6, .mv (.tmp 14), none⟩])))))) (.seq (.reg [⟨some 31, .load 1 true (.tmp 5), none⟩, ⟨none, .store 1 (.tmp 4) (.tmp 31), none⟩]) .ret))))
theorem fn300 : MFn Tryz.prog 300 mc300 32 [.cell 4 1 true] :=
  ⟨Tryz.f300, Tryz.func300, by kernel_rfl, Tryz.ntmps300, by kernel_rfl⟩
def F_spec_l2Draw_l1 (sig : Ls) (c0 : Ls) : (Int × Int × Int × (List Ls)) → Option ((Int × Int × Int × (List Ls)) ⊕ ((List Ls) × Int × Int))
 | (n, c, c_1, s) =>
  if (decide (0 < n)) = true then
   (F_spec_l1Once 3 c0 c c_1).bind fun r_1 =>
   if r_1.1 = true then
    if (s.length + 1) * 24 ≤ 140737488355328 then
     some (.inl ((IntKind.i64.wrap (n - 1)), r_1.2.1, r_1.2.2, (s ++ [[]])))
    else none
   else
    (F_spec_l1Below 3 c0 r_1.2.1 r_1.2.2).bind fun r_2 =>
    (F_spec_l1DrawTerm_all sig (IntKind.i64.wrap (1 + r_2.1)) 3 c0 r_2.2.1 r_2.2.2).bind fun r_3 =>
    if (s.length + 1) * 24 ≤ 140737488355328 then
     some (.inl ((IntKind.i64.wrap (n - 1)), r_3.2.1, r_3.2.2, (s ++ [r_3.1])))
    else none
  else
   Option.map Sum.inr (
    some (s, c, c_1))
def F_spec_l2Draw (sig : Ls) (c0 : Ls) (c1 : Int) (c2 : Int) : Option ((List Ls) × Int × Int) :=
 (F_spec_l1Below 4 c0 c1 c2).bind fun r =>
 loopC (F_spec_l2Draw_l1 sig c0) (r.1, r.2.1, r.2.2, [])
theorem c_spec_l2Draw {sig : Ls} {c0 : Ls} {c1 : Int} {c2 : Int} {rr : ((List Ls) × Int × Int)} (h : F_spec_l2Draw sig c0 c1 c2 = some rr) : ACalls Tryz.prog 300 [.ptr 0 0, .d (.agg [slD 1 iD sig])] [(0, .obj 216 [.d (slD 1 (kD .u8) c0), .d (iD c1), .d (iD c2)])] 1 fun xx ss => xx = .d (.agg [slD 1 (slD 1 iD) rr.1]) ∧ ss = [(0, .obj 216 [.d (slD 1 (kD .u8) c0), .d (iD rr.2.1), .d (iD rr.2.2)])] := by
  delta F_spec_l2Draw at h
  refine fn300.callsO (vcm_sound ?_)
  delta mc300
  refine stp ?_
  obtain ⟨r, hr, h⟩ := bind_some h
  refine cRo [(0, 0)] [] (c_spec_l1Below hr) (stp ?_)
  refine m_loopF h [6, 7, 11, 12, 13, 14, 15, 16, 17, 18, 19, 20, 21, 22, 23, 24, 25, 26, 27, 28, 29, 30] (fun pp => [(6, .d (iD pp.1))]) (fun pp => [(0, .obj 216 [.d (slD 1 (kD .u8) c0), .d (iD pp.2.1), .d (iD pp.2.2.1)]), (3, .obj 43 [.d (slD 1 iD sig)]), (4, .obj 48 [.d (.sl 0 (some true) [])]), (5, .obj 48 [.own 1 29 (List.map (slD 1 iD) pp.2.2.2)]), (29, .tok 22 1 pp.2.2.2.length)]) ?_ ?_
  · try dsimp only
    refine (Weak.thawCell 5 0 29 22 1 rfl rfl rfl).trans ?_
    exact wk
  rintro ⟨n, c, c_1, s⟩ t1 h hb1
  unfold F_spec_l2Draw_l1 at h
  try dsimp only at h
  refine vcm_sound (stp ?_)
  rcases ite_some h with ⟨hc, h⟩ | ⟨hc, h⟩
  · refine stpc hc ?_
    obtain ⟨r_1, hr_1, h⟩ := bind_some h
    refine cRo [(0, 0)] [] (c_spec_l1Once hr_1) (stp ?_)
    rcases ite_some h with ⟨hc, h⟩ | ⟨hc, h⟩
    · refine stpc hc ?_
      obtain ⟨hp, h⟩ := need_some h
      repeat (refine need_i (by omega) ?_; refine stp ?_)
      cases h
      refine ⟨_, rfl, ?_⟩
      refine (Weak.drop 15 (by omega)).trans ?_
      refine (Weak.drop 28 (by omega)).trans ?_
      exact wk
    refine stpc hc ?_
    obtain ⟨r_2, hr_2, h⟩ := bind_some h
    refine cDo [(0, 0)] [] (c_spec_l1Below hr_2) (stp ?_)
    obtain ⟨r_3, hr_3, h⟩ := bind_some h
    refine cDo [(0, 0)] [] (c_spec_l1DrawTerm_all hr_3) (stp ?_)
    refine drQ_of (by kernel_rfl) ?_
    refine stp ?_
    obtain ⟨hp, h⟩ := need_some h
    repeat (refine need_i (by omega) ?_; refine stp ?_)
    cases h
    refine ⟨_, rfl, ?_⟩
    refine (Weak.drop 15 (by omega)).trans ?_
    refine (Weak.drop 28 (by omega)).trans ?_
    exact wk
  refine stpc hc ?_
  replace h := inr_some h hb1
  cases h
  exact ⟨[3, 4, 5, 29], by simp, don, don⟩
end
end Go.Proofs.YtcaljngigbfadaaGreat
namespace Go.Proofs.YtcaljngigbfadaaGreat
noncomputable section
open Go Abx
attribute [local irreducible] vcm vgo vdr vrun vdrun MWp GhostQ BrC BrO BrG BrD BrH AmbO callR callD drQ EnvLe StoLe
set_option maxHeartbeats 4000000
def mc207 : MCode :=
 (.seq (.reg [⟨some 3, .box 3 46 (.tmp 1), none⟩, ⟨some 4, .mv (.const (.slice none 0 0)), none⟩]) (.seq (.seq (.reg [⟨some 10, .load 2 true (.tmp 3), none⟩, ⟨some 11, .callf 113 [.tmp 10], none⟩, ⟨some 12, .un .not (.tmp 11), none⟩]) (.cond (.tmp 12) (.seq (.reg [⟨some 13, .mv (.tmp 0), none⟩, ⟨some 14, .fad 0 (.tmp 3), none⟩, ⟨some 15, .load 1 true (.tmp 14), none⟩, ⟨some 16, .callf 205 [.tmp 13, .tmp 15], none⟩, ⟨some 4, .mv (.tmp 16), none⟩]) .ret) .skip)) (.seq (.seq (.reg [⟨some 17, .fad 1 (.tmp 3), none⟩, ⟨some 18, .load 1 false (.tmp 17), none⟩, ⟨some 19, .len (.tmp 18), none⟩, ⟨some 20, .bin .gtr (.tmp 19) (.const (.int .i64 0)), none⟩, ⟨some 21, .mv (.tmp 20), none⟩, ⟨some 22, .mv (.tmp 0), (some (some 21, true))⟩, ⟨some 23, .callf 103 [.tmp 22, (.const (.int .i64 2))], (some (some 21, true))⟩, ⟨some 24, .pick (.tmp 21) (.tmp 23) (.const (.bool false)), none⟩]) (.cond (.tmp 24) (.seq (.draw [⟨some 26, .mv (.tmp 0), none⟩, ⟨some 27, .fad 0 (.tmp 3), none⟩, ⟨some 28, .load 1 true (.tmp 27), none⟩, ⟨some 29, .callf 300 [.tmp 26, .tmp 28], none⟩, ⟨some 30, .fad 1 (.tmp 3), none⟩, ⟨some 31, .load 1 false (.tmp 30), none⟩, ⟨some 32, .mv (.tmp 0), none⟩, ⟨some 33, .fad 1 (.tmp 3), none⟩, ⟨some 34, .load 1 false (.tmp 33), none⟩, ⟨some 35, .len (.tmp 34), none⟩, ⟨some 36, .callf 105 [.tmp 32, .tmp 35], none⟩, ⟨some 37, .ixa 2 (.tmp 31) (.tmp 36), none⟩, ⟨some 38, .fad 0 (.tmp 37), none⟩, ⟨some 39, .load 1 false (.tmp 38), none⟩, ⟨some 40, .callf 186 [.tmp 29, .tmp 39], none⟩, ⟨some 25, .mv (.tmp 40), none⟩, ⟨some 41, .ext (.tmp 25) 0, none⟩, ⟨some 42, .ext (.tmp 25) 1, none⟩, ⟨some 5, .mv (.tmp 41), none⟩, ⟨some 6, .mv (.tmp 42), none⟩] [[], [], [1], [0, 2], [], [4], [], [], [7], [8], [6, 9, 3], [5, 10], [11], [12], [3, 13, 10], [14], [15], [15], [16, 14, 0, 1, 2, 3, 4, 5, 6, 7, 8, 9, 10, 11, 12, 13, 14, 15, 16], [17, 18, 0, 1, 2, 3, 4, 5, 6, 7, 8, 9, 10, 11, 12, 13, 14, 15, 16, 17, 18]]) (.seq (.reg [⟨some 43, .mv (.tmp 6), none⟩]) (.cond (.tmp 43) (.seq (.seq (.reg [⟨some 44, .mv (.tmp 0), none⟩, ⟨some 45, .callf 103 [.tmp 44, (.const (.int .i64 2))], none⟩]) (.cond (.tmp 45) (.seq (.reg [⟨some 46, .mv (.tmp 5), none⟩, ⟨some 4, .mv (.tmp 46), none⟩]) .ret) .skip)) (.seq (.reg [⟨some 47, .mv (.tmp 0), none⟩, ⟨some 48, .fad 0 (.tmp 3), none⟩, ⟨some 49, .load 1 true (.tmp 48), none⟩, ⟨some 50, .callf 298 [.tmp 47, .tmp 49, (.const (.int .i64 3)), (.const (.int .i64 2))], none⟩, ⟨some 7, .mv (.tmp 50), none⟩]) (.seq (.draw [⟨some 52, .fad 0 (.tmp 3), none⟩, ⟨some 53, .load 1 true (.tmp 52), none⟩, ⟨some 54, .mv (.tmp 7), none⟩, ⟨some 55, .mv (.tmp 0), none⟩, ⟨some 56, .mv (.tmp 7), none⟩, ⟨some 57, .len (.tmp 56), none⟩, ⟨some 58, .callf 105 [.tmp 55, .tmp 57], none⟩, ⟨some 59, .mv (.tmp 5), none⟩, ⟨some 60, .callf 189 [.tmp 53, .tmp 54, .tmp 58, .tmp 59], none⟩, ⟨some 51, .mv (.tmp 60), none⟩, ⟨some 61, .ext (.tmp 51) 0, none⟩, ⟨some 62, .ext (.tmp 51) 1, none⟩, ⟨some 8, .mv (.tmp 61), none⟩, ⟨some 9, .mv (.tmp 62), none⟩] [[], [0], [], [], [], [4], [3, 5], [], [1, 2, 6, 7, 6], [8], [9], [9], [10, 8, 0, 1, 2, 3, 4, 5, 6, 7, 8, 9, 10], [11, 12, 0, 1, 2, 3, 4, 5, 6, 7, 8, 9, 10, 11, 12]]) (.seq (.reg [⟨some 63, .mv (.tmp 9), none⟩]) (.cond (.tmp 63) (.seq (.reg [⟨some 64, .mv (.tmp 8), none⟩, ⟨some 4, .mv (.tmp 64), none⟩]) .ret) .skip))))) .skip))) .skip)) (.seq (.reg [⟨some 65, .mv (.tmp 0), none⟩, ⟨some 66, .fad 0 (.tmp 3), none⟩, ⟨some 67, .load 1 true (.tmp 66), none⟩, ⟨some 68, .callf 205 [.tmp 65, .tmp 67], none⟩, ⟨some 4, .mv (.tmp 68), none⟩]) .ret))))
theorem fn207 : MFn Tryz.prog 207 mc207 69 [.tmp 4] :=
  ⟨Tryz.f207, Tryz.func207, by kernel_rfl, Tryz.ntmps207, by kernel_rfl⟩
def F_spec_l7DrawTerm (sys : (Ls × (List (Ls × Ls)))) (c0 : Ls) (c1 : Int) (c2 : Int) : Option (Ls × Int × Int) :=
 (F_spec_SystemOk sys).bind fun r =>
 if r = true then
  if (decide (0 < (sys.2.length : Int))) = true then
   (F_spec_l1Once 2 c0 c1 c2).bind fun r_1 =>
   if r_1.1 = true then
    (F_spec_l2Draw sys.1 c0 r_1.2.1 r_1.2.2).bind fun r_2 =>
    (F_spec_l1Below (sys.2.length : Int) c0 r_2.2.1 r_2.2.2).bind fun r_3 =>
    if 0 ≤ r_3.1 ∧ r_3.1 < (sys.2.length : Int) then
     (F_spec_l2Filled r_2.1 ((sys.2.getD r_3.1.toNat default).1)).bind fun r_4 =>
     if r_4.2 = true then
      (F_spec_l1Once 2 c0 r_3.2.1 r_3.2.2).bind fun r_5 =>
      if r_5.1 = true then
       some (r_4.1, r_5.2.1, r_5.2.2)
      else
       (F_spec_l1DrawTerm_all sys.1 3 2 c0 r_5.2.1 r_5.2.2).bind fun r_6 =>
       (F_spec_l1Below (r_6.1.length : Int) c0 r_6.2.1 r_6.2.2).bind fun r_7 =>
       (F_spec_l3Put sys.1 r_6.1 r_7.1 r_4.1).bind fun r_8 =>
       if r_8.2 = true then
        some (r_8.1, r_7.2.1, r_7.2.2)
       else
        (F_spec_l1DrawAny sys.1 c0 r_7.2.1 r_7.2.2).bind fun r_9 =>
        some r_9
     else
      (F_spec_l1DrawAny sys.1 c0 r_3.2.1 r_3.2.2).bind fun r_10 =>
      some r_10
    else none
   else
    (F_spec_l1DrawAny sys.1 c0 r_1.2.1 r_1.2.2).bind fun r_11 =>
    some r_11
  else
   (F_spec_l1DrawAny sys.1 c0 c1 c2).bind fun r_12 =>
   some r_12
 else
  (F_spec_l1DrawAny sys.1 c0 c1 c2).bind fun r_13 =>
  some r_13
theorem c_spec_l7DrawTerm {sys : (Ls × (List (Ls × Ls)))} {c0 : Ls} {c1 : Int} {c2 : Int} {rr : (Ls × Int × Int)} (h : F_spec_l7DrawTerm sys c0 c1 c2 = some rr) : ACalls Tryz.prog 207 [.ptr 0 0, .d (.agg [slD 1 iD sys.1, slD 2 D_impl_Rule sys.2])] [(0, .obj 216 [.d (slD 1 (kD .u8) c0), .d (iD c1), .d (iD c2)])] 1 fun xx ss => xx = .d (slD 1 iD rr.1) ∧ ss = [(0, .obj 216 [.d (slD 1 (kD .u8) c0), .d (iD rr.2.1), .d (iD rr.2.2)])] := by
  delta F_spec_l7DrawTerm at h
  refine fn207.callsO (vcm_sound ?_)
  delta mc207
  refine stp ?_
  obtain ⟨r, hr, h⟩ := bind_some h
  refine cR (c_spec_SystemOk hr) (stp ?_)
  rcases ite_some h with ⟨hc, h⟩ | ⟨hc, h⟩
  · refine stpc hc ?_
    rcases ite_some h with ⟨hc, h⟩ | ⟨hc, h⟩
    · refine stpc hc ?_
      obtain ⟨r_1, hr_1, h⟩ := bind_some h
      refine cRo [(0, 0)] [] (c_spec_l1Once hr_1) (stp ?_)
      rcases ite_some h with ⟨hc, h⟩ | ⟨hc, h⟩
      · refine stpc hc ?_
        obtain ⟨r_2, hr_2, h⟩ := bind_some h
        refine cDo [(0, 0)] [] (c_spec_l2Draw hr_2) (stp ?_)
        obtain ⟨r_3, hr_3, h⟩ := bind_some h
        refine cDo [(0, 0)] [] (c_spec_l1Below hr_3) (stp ?_)
        obtain ⟨hp, h⟩ := need_some h
        repeat (refine need_i (by omega) ?_; refine stp ?_)
        obtain ⟨r_4, hr_4, h⟩ := bind_some h
        refine cDN (c_spec_l2Filled hr_4) (stp ?_)
        refine drQ_of (by kernel_rfl) ?_
        refine stp ?_
        rcases ite_some h with ⟨hc, h⟩ | ⟨hc, h⟩
        · refine stpc hc ?_
          obtain ⟨r_5, hr_5, h⟩ := bind_some h
          refine cRo [(0, 0)] [] (c_spec_l1Once hr_5) (stp ?_)
          rcases ite_some h with ⟨hc, h⟩ | ⟨hc, h⟩
          · refine stpc hc ?_
            cases h
            exact ⟨[3], by simp, don, don⟩
          refine stpc hc ?_
          obtain ⟨r_6, hr_6, h⟩ := bind_some h
          refine cRo [(0, 0)] [] (c_spec_l1DrawTerm_all hr_6) (stp ?_)
          obtain ⟨r_7, hr_7, h⟩ := bind_some h
          refine cDo [(0, 0)] [] (c_spec_l1Below hr_7) (stp ?_)
          obtain ⟨r_8, hr_8, h⟩ := bind_some h
          refine cDN (c_spec_l3Put hr_8) (stp ?_)
          refine drQ_of (by kernel_rfl) ?_
          refine stp ?_
          rcases ite_some h with ⟨hc, h⟩ | ⟨hc, h⟩
          · refine stpc hc ?_
            cases h
            exact ⟨[3], by simp, don, don⟩
          refine stpc hc ?_
          obtain ⟨r_9, hr_9, h⟩ := bind_some h
          refine cRo [(0, 0)] [] (c_spec_l1DrawAny hr_9) (stp ?_)
          cases h
          exact ⟨[3], by simp, don, don⟩
        refine stpc hc ?_
        obtain ⟨r_10, hr_10, h⟩ := bind_some h
        refine cRo [(0, 0)] [] (c_spec_l1DrawAny hr_10) (stp ?_)
        cases h
        exact ⟨[3], by simp, don, don⟩
      refine stpc hc ?_
      obtain ⟨r_11, hr_11, h⟩ := bind_some h
      refine cRo [(0, 0)] [] (c_spec_l1DrawAny hr_11) (stp ?_)
      cases h
      exact ⟨[3], by simp, don, don⟩
    refine stpc hc ?_
    obtain ⟨r_12, hr_12, h⟩ := bind_some h
    refine cRo [(0, 0)] [] (c_spec_l1DrawAny hr_12) (stp ?_)
    cases h
    exact ⟨[3], by simp, don, don⟩
  refine stpc hc ?_
  obtain ⟨r_13, hr_13, h⟩ := bind_some h
  refine cRo [(0, 0)] [] (c_spec_l1DrawAny hr_13) (stp ?_)
  cases h
  exact ⟨[3], by simp, don, don⟩
def mc209 : MCode :=
 (.seq (.reg [⟨some 3, .box 3 46 (.tmp 0), none⟩, ⟨some 6, .mv (.const (.bool false)), none⟩]) (.seq (.reg [⟨some 7, .load 2 true (.tmp 3), none⟩, ⟨some 8, .mv (.tmp 1), none⟩, ⟨some 9, .callf 131 [.tmp 7, .tmp 8], none⟩, ⟨some 10, .mv (.tmp 9), none⟩, ⟨some 11, .mv (.tmp 2), (some (some 10, true))⟩, ⟨some 12, .callf 79 [.tmp 11, (.const (.int .i64 1)), (.const (.int .i64 3))], (some (some 10, true))⟩, ⟨some 13, .pick (.tmp 10) (.tmp 12) (.const (.bool false)), none⟩, ⟨some 6, .mv (.tmp 13), none⟩]) .ret))
theorem fn209 : MFn Tryz.prog 209 mc209 14 [.tmp 6] :=
  ⟨Tryz.f209, Tryz.func209, by kernel_rfl, Tryz.ntmps209, by kernel_rfl⟩
def F_spec_l8Right (sys : (Ls × (List (Ls × Ls)))) (t : Ls) (strategy : Int) : Option Bool :=
 (F_spec_l7Right sys t).bind fun r =>
 if r = true then
  (F_spec_l1In strategy 1 3).bind fun r_1 =>
  some r_1
 else
  some false
theorem c_spec_l8Right {sys : (Ls × (List (Ls × Ls)))} {t : Ls} {strategy : Int} {rr : Bool} (h : F_spec_l8Right sys t strategy = some rr) : PFun Tryz.prog 209 [D_impl_System sys, (slD 1 iD) t, iD strategy] (bD rr) := by
  delta F_spec_l8Right at h
  refine fn209.pureL (vcm_sound ?_)
  delta mc209
  refine stp ?_
  obtain ⟨r, hr, h⟩ := bind_some h
  refine cR (c_spec_l7Right hr) (stp ?_)
  rcases ite_some h with ⟨hc, h⟩ | ⟨hc, h⟩
  · refine stpc hc ?_
    obtain ⟨r_1, hr_1, h⟩ := bind_some h
    refine cR (c_spec_l1In hr_1) (stp ?_)
    cases h
    exact don
  refine stpc hc ?_
  cases h
  exact don
def mc303 : MCode :=
 (.seq (.reg [⟨some 3, .box 3 46 (.tmp 0), none⟩, ⟨some 6, .mv (.const (.int .i64 0)), none⟩]) (.seq (.reg [⟨some 11, .fad 0 (.tmp 3), none⟩, ⟨some 12, .load 1 true (.tmp 11), none⟩, ⟨some 13, .mv (.tmp 1), none⟩, ⟨some 14, .mv (.tmp 2), none⟩, ⟨some 15, .callf 246 [.tmp 12, .tmp 13, .tmp 14], none⟩, ⟨some 7, .mv (.tmp 15), none⟩]) (.seq (.seq (.reg [⟨some 8, .mv (.const (.int .i64 0)), none⟩]) (.block 0 (.loop (.seq (.seq (.reg [⟨some 16, .mv (.tmp 8), none⟩, ⟨some 17, .fad 1 (.tmp 3), none⟩, ⟨some 18, .load 1 false (.tmp 17), none⟩, ⟨some 19, .len (.tmp 18), none⟩, ⟨some 20, .bin .lss (.tmp 16) (.tmp 19), none⟩]) (.cond (.tmp 20) .skip (.exit 0))) (.seq (.block 1 (.seq (.draw [⟨some 24, .fad 0 (.tmp 3), none⟩, ⟨some 25, .load 1 true (.tmp 24), none⟩, ⟨some 26, .fad 1 (.tmp 3), none⟩, ⟨some 27, .load 1 false (.tmp 26), none⟩, ⟨some 28, .mv (.tmp 8), none⟩, ⟨some 29, .ixa 2 (.tmp 27) (.tmp 28), none⟩, ⟨some 30, .fad 0 (.tmp 29), none⟩, ⟨some 31, .load 1 false (.tmp 30), none⟩, ⟨some 32, .mv (.tmp 7), none⟩, ⟨some 33, .callf 265 [.tmp 25, .tmp 31, .tmp 32], none⟩, ⟨some 23, .mv (.tmp 33), none⟩, ⟨some 34, .ext (.tmp 23) 0, none⟩, ⟨some 35, .ext (.tmp 23) 1, none⟩, ⟨some 9, .alloc 9 48 [.sl 0 (some true) []], none⟩, ⟨none, .store 1 (.tmp 9) (.tmp 34), none⟩, ⟨some 10, .mv (.tmp 35), none⟩] [[], [0], [], [2], [], [3, 4], [5], [6], [], [1, 7, 8], [9], [10], [10], [], [13, 11, 9, 0, 1, 2, 3, 4, 5, 6, 7, 8, 9, 10, 11, 13], [12, 14, 0, 1, 2, 3, 4, 5, 6, 7, 8, 9, 10, 11, 12, 13, 14]]) (.seq (.reg [⟨some 36, .mv (.tmp 10), none⟩]) (.cond (.tmp 36) (.seq (.reg [⟨some 37, .mv (.tmp 8), none⟩, ⟨some 6, .mv (.tmp 37), none⟩]) .ret) .skip)))) (.reg [⟨some 21, .mv (.tmp 8), none⟩, ⟨some 22, .bin .add (.tmp 21) (.const (.int .i64 1)), none⟩, ⟨some 8, .mv (.tmp 22), none⟩])))))) (.seq (.reg [⟨some 6, .mv (.const (.int .i64 (-1))), none⟩]) .ret))))
theorem fn303 : MFn Tryz.prog 303 mc303 38 [.tmp 6] :=
  ⟨Tryz.f303, Tryz.func303, by kernel_rfl, Tryz.ntmps303, by kernel_rfl⟩
def F_spec_l8Redex_l1 (sys : (Ls × (List (Ls × Ls)))) (r : Ls) : Int → Option (Int ⊕ Int)
 | rule =>
  if (decide (rule < (sys.2.length : Int))) = true then
   if 0 ≤ rule ∧ rule < (sys.2.length : Int) then
    (F_spec_l4Match sys.1 ((sys.2.getD rule.toNat default).1) r).bind fun r_1 =>
    if r_1.2 = true then
     Option.map Sum.inr (
      some rule)
    else
     some (.inl (IntKind.i64.wrap (rule + 1)))
   else none
  else
   Option.map Sum.inr (
    some (-1))
def F_spec_l8Redex (sys : (Ls × (List (Ls × Ls)))) (t : Ls) (at' : Int) : Option Int :=
 (F_spec_l1Sub sys.1 t at').bind fun r =>
 loopC (F_spec_l8Redex_l1 sys r) 0
theorem c_spec_l8Redex {sys : (Ls × (List (Ls × Ls)))} {t : Ls} {at' : Int} {rr : Int} (h : F_spec_l8Redex sys t at' = some rr) : PFun Tryz.prog 303 [D_impl_System sys, (slD 1 iD) t, iD at'] (iD rr) := by
  delta F_spec_l8Redex at h
  refine fn303.pureL (vcm_sound ?_)
  delta mc303
  refine stp ?_
  obtain ⟨r, hr, h⟩ := bind_some h
  refine cR (c_spec_l1Sub hr) (stp ?_)
  refine m_loopF h [6, 8, 9, 10, 16, 17, 18, 19, 20, 21, 22, 23, 24, 25, 26, 27, 28, 29, 30, 31, 32, 33, 34, 35, 36, 37] (fun pp => [(8, .d (iD pp))]) (fun pp => [(3, .obj 46 [.d (slD 1 iD sys.1), .d (slD 2 D_impl_Rule sys.2)])]) ?_ ?_
  · try dsimp only
    exact wk
  rintro rule t1 h hb1
  unfold F_spec_l8Redex_l1 at h
  try dsimp only at h
  refine vcm_sound (stp ?_)
  rcases ite_some h with ⟨hc, h⟩ | ⟨hc, h⟩
  · refine stpc hc ?_
    obtain ⟨hp, h⟩ := need_some h
    repeat (refine need_i (by omega) ?_; refine stp ?_)
    obtain ⟨r_1, hr_1, h⟩ := bind_some h
    refine cDN (c_spec_l4Match hr_1) (stp ?_)
    refine drQ_of (by kernel_rfl) ?_
    refine stp ?_
    rcases ite_some h with ⟨hc, h⟩ | ⟨hc, h⟩
    · refine stpc hc ?_
      replace h := inr_some h hb1
      cases h
      exact don
    refine stpc hc ?_
    cases h
    refine ⟨_, rfl, ?_⟩
    refine (Weak.drop 9 (by omega)).trans ?_
    exact wk
  refine stpc hc ?_
  replace h := inr_some h hb1
  cases h
  exact don
end
end Go.Proofs.YtcaljngigbfadaaGreat
namespace Go.Proofs.YtcaljngigbfadaaGreat
noncomputable section
open Go Abx
attribute [local irreducible] vcm vgo vdr vrun vdrun MWp GhostQ BrC BrO BrG BrD BrH AmbO callR callD drQ EnvLe StoLe
set_option maxHeartbeats 4000000
def mc374 : MCode :=
 (.seq (.reg [⟨some 2, .box 2 46 (.tmp 0), none⟩, ⟨some 4, .mv (.const (.slice none 0 0)), none⟩]) (.seq (.reg [⟨some 7, .bsl 7 2 1 [], none⟩, ⟨some 5, .mv (.tmp 7), none⟩]) (.seq (.seq (.reg [⟨some 6, .mv (.const (.int .i64 0)), none⟩]) (.block 0 (.loop (.seq (.seq (.reg [⟨some 8, .mv (.tmp 6), none⟩, ⟨some 9, .mv (.tmp 1), none⟩, ⟨some 10, .len (.tmp 9), none⟩, ⟨some 11, .bin .lss (.tmp 8) (.tmp 10), none⟩, ⟨some 12, .mv (.tmp 11), none⟩, ⟨some 13, .load 2 true (.tmp 2), (some (some 12, true))⟩, ⟨some 14, .mv (.tmp 1), (some (some 12, true))⟩, ⟨some 15, .callf 131 [.tmp 13, .tmp 14], (some (some 12, true))⟩, ⟨some 16, .pick (.tmp 12) (.tmp 15) (.const (.bool false)), none⟩]) (.cond (.tmp 16) .skip (.exit 0))) (.seq (.block 1 (.seq (.reg [⟨some 19, .load 2 true (.tmp 2), none⟩, ⟨some 20, .mv (.tmp 1), none⟩, ⟨some 21, .mv (.tmp 6), none⟩, ⟨some 22, .callf 303 [.tmp 19, .tmp 20, .tmp 21], none⟩, ⟨some 23, .bin .geq (.tmp 22) (.const (.int .i64 0)), none⟩]) (.cond (.tmp 23) (.reg [⟨some 24, .mv (.tmp 5), none⟩, ⟨some 25, .mv (.tmp 6), none⟩, ⟨some 26, .bsl 26 2 1 [.tmp 25], none⟩, ⟨some 27, .app 27 2 1 8 (.tmp 24) (.tmp 26), none⟩, ⟨some 5, .mv (.tmp 27), none⟩]) .skip))) (.reg [⟨some 17, .mv (.tmp 6), none⟩, ⟨some 18, .bin .add (.tmp 17) (.const (.int .i64 1)), none⟩, ⟨some 6, .mv (.tmp 18), none⟩])))))) (.seq (.reg [⟨some 28, .mv (.tmp 5), none⟩, ⟨some 4, .mv (.tmp 28), none⟩]) .ret))))
theorem fn374 : MFn Tryz.prog 374 mc374 29 [.tmp 4] :=
  ⟨Tryz.f374, Tryz.func374, by kernel_rfl, Tryz.ntmps374, by kernel_rfl⟩
def F_spec_RedexesIn_l1 (sys : (Ls × (List (Ls × Ls)))) (t : Ls) : (Ls × Int) → Option ((Ls × Int) ⊕ Ls)
 | (out, at') =>
  if (decide (at' < (t.length : Int))) = true then
   (F_spec_l7Right sys t).bind fun r =>
   if r = true then
    (F_spec_l8Redex sys t at').bind fun r_1 =>
    if (decide (0 ≤ r_1)) = true then
     if (out.length + 1) * 8 ≤ 140737488355328 then
      some (.inl ((out ++ [at']), (IntKind.i64.wrap (at' + 1))))
     else none
    else
     some (.inl (out, (IntKind.i64.wrap (at' + 1))))
   else
    Option.map Sum.inr (
     some out)
  else
   Option.map Sum.inr (
    some out)
def F_spec_RedexesIn (sys : (Ls × (List (Ls × Ls)))) (t : Ls) : Option Ls :=
 loopC (F_spec_RedexesIn_l1 sys t) ([], 0)
theorem c_spec_RedexesIn {sys : (Ls × (List (Ls × Ls)))} {t : Ls} {rr : Ls} (h : F_spec_RedexesIn sys t = some rr) : PFun Tryz.prog 374 [D_impl_System sys, (slD 1 iD) t] ((slD 1 iD) rr) := by
  delta F_spec_RedexesIn at h
  refine fn374.pureL (vcm_sound ?_)
  delta mc374
  refine stp ?_
  refine m_loopF h [5, 6, 8, 9, 10, 11, 12, 13, 14, 15, 16, 17, 18, 19, 20, 21, 22, 23, 24, 25, 26, 27] (fun pp => [(5, .own 1 7 (List.map iD pp.1)), (6, .d (iD pp.2))]) (fun pp => [(2, .obj 46 [.d (slD 1 iD sys.1), .d (slD 2 D_impl_Rule sys.2)]), (7, .tok 2 1 pp.1.length)]) ?_ ?_
  · try dsimp only
    exact wk
  rintro ⟨out, at'⟩ t1 h hb1
  unfold F_spec_RedexesIn_l1 at h
  try dsimp only at h
  refine vcm_sound (stp ?_)
  rcases ite_some h with ⟨hc, h⟩ | ⟨hc, h⟩
  · refine stpc hc ?_
    obtain ⟨r, hr, h⟩ := bind_some h
    refine cR (c_spec_l7Right hr) (stp ?_)
    rcases ite_some h with ⟨hc, h⟩ | ⟨hc, h⟩
    · refine stpc hc ?_
      obtain ⟨r_1, hr_1, h⟩ := bind_some h
      refine cR (c_spec_l8Redex hr_1) (stp ?_)
      rcases ite_some h with ⟨hc, h⟩ | ⟨hc, h⟩
      · refine stpc hc ?_
        obtain ⟨hp, h⟩ := need_some h
        repeat (refine need_i (by omega) ?_; refine stp ?_)
        cases h
        refine ⟨_, rfl, ?_⟩
        refine (Weak.drop 26 (by omega)).trans ?_
        exact wk
      refine stpc hc ?_
      cases h
      refine ⟨_, rfl, ?_⟩
      exact wk
    refine stpc hc ?_
    replace h := inr_some h hb1
    cases h
    exact don
  refine stpc hc ?_
  replace h := inr_some h hb1
  cases h
  exact don
def mc373 : MCode :=
 (.seq (.reg [⟨some 2, .box 2 46 (.tmp 0), none⟩, ⟨some 4, .mv (.const (.slice none 0 0)), none⟩]) (.seq (.reg [⟨some 9, .bsl 9 2 1 [], none⟩, ⟨some 5, .mv (.tmp 9), none⟩]) (.seq (.reg [⟨some 10, .load 2 true (.tmp 2), none⟩, ⟨some 11, .mv (.tmp 1), none⟩, ⟨some 12, .callf 374 [.tmp 10, .tmp 11], none⟩, ⟨some 6, .mv (.tmp 12), none⟩]) (.seq (.seq (.reg [⟨some 7, .mv (.const (.int .i64 0)), none⟩]) (.block 0 (.loop (.seq (.seq (.reg [⟨some 13, .mv (.tmp 7), none⟩, ⟨some 14, .mv (.tmp 6), none⟩, ⟨some 15, .len (.tmp 14), none⟩, ⟨some 16, .bin .lss (.tmp 13) (.tmp 15), none⟩]) (.cond (.tmp 16) .skip (.exit 0))) (.seq (.block 1 (.seq (.draw [⟨some 19, .fad 0 (.tmp 2), none⟩, ⟨some 20, .load 1 true (.tmp 19), none⟩, ⟨some 21, .mv (.tmp 1), none⟩, ⟨some 22, .mv (.tmp 6), none⟩, ⟨some 23, .mv (.tmp 7), none⟩, ⟨some 24, .ixa 1 (.tmp 22) (.tmp 23), none⟩, ⟨some 25, .load 1 false (.tmp 24), none⟩, ⟨some 26, .callf 220 [.tmp 20, .tmp 21, .tmp 25], none⟩, ⟨some 8, .mv (.tmp 26), none⟩] [[], [0], [], [], [], [3, 4], [5], [1, 2, 6], [7, 7, 0, 1, 2, 3, 4, 5, 6, 7]]) (.seq (.reg [⟨some 27, .mv (.tmp 7), none⟩, ⟨some 28, .bin .add (.tmp 27) (.const (.int .i64 1)), none⟩, ⟨some 29, .mv (.tmp 6), none⟩, ⟨some 30, .len (.tmp 29), none⟩, ⟨some 31, .bin .eql (.tmp 28) (.tmp 30), none⟩, ⟨some 32, .mv (.tmp 31), none⟩, ⟨some 33, .mv (.tmp 6), (some (some 32, false))⟩, ⟨some 34, .mv (.tmp 7), (some (some 32, false))⟩, ⟨some 35, .bin .add (.tmp 34) (.const (.int .i64 1)), (some (some 32, false))⟩, ⟨some 36, .ixa 1 (.tmp 33) (.tmp 35), (some (some 32, false))⟩, ⟨some 37, .load 1 false (.tmp 36), (some (some 32, false))⟩, ⟨some 38, .mv (.tmp 8), (some (some 32, false))⟩, ⟨some 39, .bin .geq (.tmp 37) (.tmp 38), (some (some 32, false))⟩, ⟨some 40, .pick (.tmp 32) (.const (.bool true)) (.tmp 39), none⟩]) (.cond (.tmp 40) (.reg [⟨some 41, .mv (.tmp 5), none⟩, ⟨some 42, .mv (.tmp 6), none⟩, ⟨some 43, .mv (.tmp 7), none⟩, ⟨some 44, .ixa 1 (.tmp 42) (.tmp 43), none⟩, ⟨some 45, .load 1 false (.tmp 44), none⟩, ⟨some 46, .bsl 46 2 1 [.tmp 45], none⟩, ⟨some 47, .app 47 2 1 8 (.tmp 41) (.tmp 46), none⟩, ⟨some 5, .mv (.tmp 47), none⟩]) .skip)))) (.reg [⟨some 17, .mv (.tmp 7), none⟩, ⟨some 18, .bin .add (.tmp 17) (.const (.int .i64 1)), none⟩, ⟨some 7, .mv (.tmp 18), none⟩])))))) (.seq (.reg [⟨some 48, .mv (.tmp 5), none⟩, ⟨some 4, .mv (.tmp 48), none⟩]) .ret)))))
theorem fn373 : MFn Tryz.prog 373 mc373 49 [.tmp 4] :=
  ⟨Tryz.f373, Tryz.func373, by kernel_rfl, Tryz.ntmps373, by kernel_rfl⟩
def F_spec_InmostIn_l1 (sys : (Ls × (List (Ls × Ls)))) (t : Ls) (r : Ls) : (Ls × Int) → Option ((Ls × Int) ⊕ Ls)
 | (out, i) =>
  if (decide (i < (r.length : Int))) = true then
   if 0 ≤ i ∧ i < (r.length : Int) then
    (F_spec_l1End sys.1 t (r.getD i.toNat default)).bind fun r_1 =>
    if ((IntKind.i64.wrap (i + 1)) == (r.length : Int)) = true then
     if 0 ≤ i ∧ i < (r.length : Int) then
      if (out.length + 1) * 8 ≤ 140737488355328 then
       some (.inl ((out ++ [(r.getD i.toNat default)]), (IntKind.i64.wrap (i + 1))))
      else none
     else none
    else
     if 0 ≤ (IntKind.i64.wrap (i + 1)) ∧ (IntKind.i64.wrap (i + 1)) < (r.length : Int) then
      if (decide (r_1 ≤ (r.getD (IntKind.i64.wrap (i + 1)).toNat default))) = true then
       if 0 ≤ i ∧ i < (r.length : Int) then
        if (out.length + 1) * 8 ≤ 140737488355328 then
         some (.inl ((out ++ [(r.getD i.toNat default)]), (IntKind.i64.wrap (i + 1))))
        else none
       else none
      else
       some (.inl (out, (IntKind.i64.wrap (i + 1))))
     else none
   else none
  else
   Option.map Sum.inr (
    some out)
def F_spec_InmostIn (sys : (Ls × (List (Ls × Ls)))) (t : Ls) : Option Ls :=
 (F_spec_RedexesIn sys t).bind fun r =>
 loopC (F_spec_InmostIn_l1 sys t r) ([], 0)
theorem c_spec_InmostIn {sys : (Ls × (List (Ls × Ls)))} {t : Ls} {rr : Ls} (h : F_spec_InmostIn sys t = some rr) : PFun Tryz.prog 373 [D_impl_System sys, (slD 1 iD) t] ((slD 1 iD) rr) := by
  delta F_spec_InmostIn at h
  refine fn373.pureL (vcm_sound ?_)
  delta mc373
  refine stp ?_
  obtain ⟨r, hr, h⟩ := bind_some h
  refine cR (c_spec_RedexesIn hr) (stp ?_)
  refine m_loopF h [5, 7, 8, 13, 14, 15, 16, 17, 18, 19, 20, 21, 22, 23, 24, 25, 26, 27, 28, 29, 30, 31, 32, 33, 34, 35, 36, 37, 38, 39, 40, 41, 42, 43, 44, 45, 46, 47] (fun pp => [(5, .own 1 9 (List.map iD pp.1)), (7, .d (iD pp.2))]) (fun pp => [(2, .obj 46 [.d (slD 1 iD sys.1), .d (slD 2 D_impl_Rule sys.2)]), (9, .tok 2 1 pp.1.length)]) ?_ ?_
  · try dsimp only
    exact wk
  rintro ⟨out, i⟩ t1 h hb1
  unfold F_spec_InmostIn_l1 at h
  try dsimp only at h
  refine vcm_sound (stp ?_)
  rcases ite_some h with ⟨hc, h⟩ | ⟨hc, h⟩
  · refine stpc hc ?_
    obtain ⟨hp, h⟩ := need_some h
    repeat (refine need_i (by omega) ?_; refine stp ?_)
    obtain ⟨r_1, hr_1, h⟩ := bind_some h
    refine cD' (c_spec_l1End hr_1) (stp ?_)
    refine drQ_of (by kernel_rfl) ?_
    refine stp ?_
    rcases ite_some h with ⟨hc, h⟩ | ⟨hc, h⟩
    · refine stpc hc ?_
      obtain ⟨hp, h⟩ := need_some h
      repeat (refine need_i (by omega) ?_; refine stp ?_)
      obtain ⟨hp, h⟩ := need_some h
      repeat (refine need_i (by omega) ?_; refine stp ?_)
      cases h
      refine ⟨_, rfl, ?_⟩
      refine (Weak.drop 46 (by omega)).trans ?_
      exact wk
    refine stpc hc ?_
    obtain ⟨hp, h⟩ := need_some h
    repeat (refine need_i (by omega) ?_; refine stp ?_)
    rcases ite_some h with ⟨hc, h⟩ | ⟨hc, h⟩
    · refine stpc hc ?_
      obtain ⟨hp, h⟩ := need_some h
      repeat (refine need_i (by omega) ?_; refine stp ?_)
      obtain ⟨hp, h⟩ := need_some h
      repeat (refine need_i (by omega) ?_; refine stp ?_)
      cases h
      refine ⟨_, rfl, ?_⟩
      refine (Weak.drop 46 (by omega)).trans ?_
      exact wk
    refine stpc hc ?_
    cases h
    refine ⟨_, rfl, ?_⟩
    exact wk
  refine stpc hc ?_
  replace h := inr_some h hb1
  cases h
  exact don
def mc302 : MCode :=
 (.seq (.reg [⟨some 3, .box 3 46 (.tmp 0), none⟩, ⟨some 6, .mv (.const (.slice none 0 0)), none⟩]) (.seq (.seq (.reg [⟨some 8, .mv (.tmp 2), none⟩]) (.block 0 (.seq (.reg [⟨some 10, .bin .eql (.tmp 8) (.const (.int .i64 1)), none⟩, ⟨some 9, .mv (.tmp 10), none⟩]) (.cond (.tmp 9) (.seq (.reg [⟨some 11, .load 2 true (.tmp 3), none⟩, ⟨some 12, .mv (.tmp 1), none⟩, ⟨some 13, .callf 373 [.tmp 11, .tmp 12], none⟩, ⟨some 6, .mv (.tmp 13), none⟩]) .ret) (.seq (.reg [⟨some 15, .bin .eql (.tmp 8) (.const (.int .i64 2)), none⟩, ⟨some 14, .mv (.tmp 15), none⟩]) (.cond (.tmp 14) (.seq (.reg [⟨some 16, .load 2 true (.tmp 3), none⟩, ⟨some 17, .mv (.tmp 1), none⟩, ⟨some 18, .callf 374 [.tmp 16, .tmp 17], none⟩, ⟨some 6, .mv (.tmp 18), none⟩]) .ret) .skip)))))) (.seq (.reg [⟨some 19, .load 2 true (.tmp 3), none⟩, ⟨some 20, .mv (.tmp 1), none⟩, ⟨some 21, .callf 374 [.tmp 19, .tmp 20], none⟩, ⟨some 7, .mv (.tmp 21), none⟩]) (.seq (.seq (.reg [⟨some 22, .mv (.tmp 7), none⟩, ⟨some 23, .len (.tmp 22), none⟩, ⟨some 24, .bin .gtr (.tmp 23) (.const (.int .i64 0)), none⟩]) (.cond (.tmp 24) (.reg [⟨some 25, .mv (.tmp 7), none⟩, ⟨some 26, .mv (.tmp 7), none⟩, ⟨some 27, .len (.tmp 26), none⟩, ⟨some 28, .bin .sub (.tmp 27) (.const (.int .i64 1)), none⟩, ⟨some 29, .slc (.tmp 25) 1 (some (.tmp 28)) none none, none⟩, ⟨some 7, .mv (.tmp 29), none⟩]) .skip)) (.seq (.reg [⟨some 30, .mv (.tmp 7), none⟩, ⟨some 6, .mv (.tmp 30), none⟩]) .ret)))))
theorem fn302 : MFn Tryz.prog 302 mc302 31 [.tmp 6] :=
  ⟨Tryz.f302, Tryz.func302, by kernel_rfl, Tryz.ntmps302, by kernel_rfl⟩
def F_spec_l8Places (sys : (Ls × (List (Ls × Ls)))) (t : Ls) (strategy : Int) : Option Ls :=
 if (strategy == 1) = true then
  (F_spec_InmostIn sys t).bind fun r =>
  some r
 else
  if (strategy == 2) = true then
   (F_spec_RedexesIn sys t).bind fun r_1 =>
   some r_1
  else
   (F_spec_RedexesIn sys t).bind fun r_2 =>
   if (decide (0 < (r_2.length : Int))) = true then
    if 0 ≤ (IntKind.i64.wrap ((r_2.length : Int) - 1)) ∧ (IntKind.i64.wrap ((r_2.length : Int) - 1)) ≤ (r_2.length : Int) then
     some (r_2.drop (IntKind.i64.wrap ((r_2.length : Int) - 1)).toNat)
    else none
   else
    some r_2
theorem c_spec_l8Places {sys : (Ls × (List (Ls × Ls)))} {t : Ls} {strategy : Int} {rr : Ls} (h : F_spec_l8Places sys t strategy = some rr) : PFun Tryz.prog 302 [D_impl_System sys, (slD 1 iD) t, iD strategy] ((slD 1 iD) rr) := by
  delta F_spec_l8Places at h
  refine fn302.pureL (vcm_sound ?_)
  delta mc302
  refine stp ?_
  rcases ite_some h with ⟨hc, h⟩ | ⟨hc, h⟩
  · refine stpc hc ?_
    obtain ⟨r, hr, h⟩ := bind_some h
    refine cR (c_spec_InmostIn hr) (stp ?_)
    cases h
    exact don
  refine stpc hc ?_
  rcases ite_some h with ⟨hc, h⟩ | ⟨hc, h⟩
  · refine stpc hc ?_
    obtain ⟨r_1, hr_1, h⟩ := bind_some h
    refine cR (c_spec_RedexesIn hr_1) (stp ?_)
    cases h
    exact don
  refine stpc hc ?_
  obtain ⟨r_2, hr_2, h⟩ := bind_some h
  refine cR (c_spec_RedexesIn hr_2) (stp ?_)
  rcases ite_some h with ⟨hc, h⟩ | ⟨hc, h⟩
  · refine stpc hc ?_
    obtain ⟨hp, h⟩ := need_some h
    repeat (refine need_i (by omega) ?_; refine stp ?_)
    cases h
    exact don
  refine stpc hc ?_
  cases h
  exact don
end
end Go.Proofs.YtcaljngigbfadaaGreat
namespace Go.Proofs.YtcaljngigbfadaaGreat
noncomputable section
open Go Abx
attribute [local irreducible] vcm vgo vdr vrun vdrun MWp GhostQ BrC BrO BrG BrD BrH AmbO callR callD drQ EnvLe StoLe
set_option maxHeartbeats 4000000
def mc210 : MCode :=
 (.seq (.reg [⟨some 3, .box 3 46 (.tmp 0), none⟩, ⟨some 6, .mv (.const (.int .i64 0)), none⟩, ⟨some 7, .mv (.const (.int .i64 0)), none⟩, ⟨some 8, .mv (.const (.bool false)), none⟩]) (.seq (.seq (.reg [⟨some 10, .load 2 true (.tmp 3), none⟩, ⟨some 11, .mv (.tmp 1), none⟩, ⟨some 12, .mv (.tmp 2), none⟩, ⟨some 13, .callf 209 [.tmp 10, .tmp 11, .tmp 12], none⟩, ⟨some 14, .un .not (.tmp 13), none⟩]) (.cond (.tmp 14) (.seq (.reg [⟨some 6, .mv (.const (.int .i64 0)), none⟩, ⟨some 7, .mv (.const (.int .i64 0)), none⟩, ⟨some 8, .mv (.const (.bool false)), none⟩]) .ret) .skip)) (.seq (.reg [⟨some 15, .load 2 true (.tmp 3), none⟩, ⟨some 16, .mv (.tmp 1), none⟩, ⟨some 17, .mv (.tmp 2), none⟩, ⟨some 18, .callf 302 [.tmp 15, .tmp 16, .tmp 17], none⟩, ⟨some 9, .mv (.tmp 18), none⟩]) (.seq (.seq (.reg [⟨some 19, .mv (.tmp 9), none⟩, ⟨some 20, .len (.tmp 19), none⟩, ⟨some 21, .bin .eql (.tmp 20) (.const (.int .i64 0)), none⟩]) (.cond (.tmp 21) (.seq (.reg [⟨some 6, .mv (.const (.int .i64 0)), none⟩, ⟨some 7, .mv (.const (.int .i64 0)), none⟩, ⟨some 8, .mv (.const (.bool false)), none⟩]) .ret) .skip)) (.seq (.draw [⟨some 22, .mv (.tmp 9), none⟩, ⟨some 23, .ixa 1 (.tmp 22) (.const (.int .i64 0)), none⟩, ⟨some 24, .load 1 false (.tmp 23), none⟩, ⟨some 25, .load 2 true (.tmp 3), none⟩, ⟨some 26, .mv (.tmp 1), none⟩, ⟨some 27, .mv (.tmp 9), none⟩, ⟨some 28, .ixa 1 (.tmp 27) (.const (.int .i64 0)), none⟩, ⟨some 29, .load 1 false (.tmp 28), none⟩, ⟨some 30, .callf 303 [.tmp 25, .tmp 26, .tmp 29], none⟩, ⟨some 6, .mv (.tmp 24), none⟩, ⟨some 7, .mv (.tmp 30), none⟩, ⟨some 8, .mv (.const (.bool true)), none⟩] [[], [0], [1], [], [], [], [5], [6], [3, 4, 7], [2, 8, 0, 1, 2], [8, 9, 0, 1, 2, 3, 4, 5, 6, 7, 8, 9], [10, 0, 1, 2, 3, 4, 5, 6, 7, 8, 9, 10]]) .ret)))))
theorem fn210 : MFn Tryz.prog 210 mc210 31 [.tmp 6, .tmp 7, .tmp 8] :=
  ⟨Tryz.f210, Tryz.func210, by kernel_rfl, Tryz.ntmps210, by kernel_rfl⟩
def F_spec_PickBy (sys : (Ls × (List (Ls × Ls)))) (t : Ls) (strategy : Int) : Option (Int × Int × Bool) :=
 (F_spec_l8Right sys t strategy).bind fun r =>
 if r = true then
  (F_spec_l8Places sys t strategy).bind fun r_1 =>
  if ((r_1.length : Int) == 0) = true then
   some (0, 0, false)
  else
   if 0 ≤ 0 ∧ 0 < (r_1.length : Int) then
    if 0 ≤ 0 ∧ 0 < (r_1.length : Int) then
     (F_spec_l8Redex sys t (r_1.getD 0 default)).bind fun r_2 =>
     some ((r_1.getD 0 default), r_2, true)
    else none
   else none
 else
  some (0, 0, false)
theorem c_spec_PickBy {sys : (Ls × (List (Ls × Ls)))} {t : Ls} {strategy : Int} {rr : (Int × Int × Bool)} (h : F_spec_PickBy sys t strategy = some rr) : PFunN Tryz.prog 210 [D_impl_System sys, (slD 1 iD) t, iD strategy] [iD rr.1, iD rr.2.1, bD rr.2.2] := by
  delta F_spec_PickBy at h
  refine fn210.pureLN (vcm_sound ?_)
  delta mc210
  refine stp ?_
  obtain ⟨r, hr, h⟩ := bind_some h
  refine cR (c_spec_l8Right hr) (stp ?_)
  rcases ite_some h with ⟨hc, h⟩ | ⟨hc, h⟩
  · refine stpc hc ?_
    obtain ⟨r_1, hr_1, h⟩ := bind_some h
    refine cR (c_spec_l8Places hr_1) (stp ?_)
    rcases ite_some h with ⟨hc, h⟩ | ⟨hc, h⟩
    · refine stpc hc ?_
      cases h
      exact don
    refine stpc hc ?_
    obtain ⟨hp, h⟩ := need_some h
    repeat (refine need_i (by omega) ?_; refine stp ?_)
    obtain ⟨hp, h⟩ := need_some h
    repeat (refine need_i (by omega) ?_; refine stp ?_)
    obtain ⟨r_2, hr_2, h⟩ := bind_some h
    refine cD' (c_spec_l8Redex hr_2) (stp ?_)
    refine drQ_of (by kernel_rfl) ?_
    refine stp ?_
    cases h
    exact don
  refine stpc hc ?_
  cases h
  exact don
def mc152 : MCode :=
 (.seq (.reg [⟨some 2, .box 2 46 (.tmp 0), none⟩, ⟨some 4, .mv (.const (.int .i64 0)), none⟩]) (.seq (.reg [⟨some 5, .mv (.const (.int .i64 0)), none⟩]) (.seq (.seq (.reg [⟨some 6, .mv (.const (.int .i64 0)), none⟩]) (.block 0 (.loop (.seq (.seq (.reg [⟨some 10, .mv (.tmp 6), none⟩, ⟨some 11, .mv (.tmp 1), none⟩, ⟨some 12, .len (.tmp 11), none⟩, ⟨some 13, .bin .lss (.tmp 10) (.tmp 12), none⟩]) (.cond (.tmp 13) .skip (.exit 0))) (.seq (.block 1 (.seq (.reg [⟨some 7, .mv (.const (.int .i64 0)), none⟩]) (.block 2 (.loop (.seq (.seq (.reg [⟨some 16, .mv (.tmp 7), none⟩, ⟨some 17, .fad 1 (.tmp 2), none⟩, ⟨some 18, .load 1 false (.tmp 17), none⟩, ⟨some 19, .len (.tmp 18), none⟩, ⟨some 20, .bin .lss (.tmp 16) (.tmp 19), none⟩]) (.cond (.tmp 20) .skip (.exit 2))) (.seq (.block 3 (.seq (.draw [⟨some 24, .fad 0 (.tmp 2), none⟩, ⟨some 25, .load 1 true (.tmp 24), none⟩, ⟨some 26, .fad 1 (.tmp 2), none⟩, ⟨some 27, .load 1 false (.tmp 26), none⟩, ⟨some 28, .mv (.tmp 7), none⟩, ⟨some 29, .ixa 2 (.tmp 27) (.tmp 28), none⟩, ⟨some 30, .fad 0 (.tmp 29), none⟩, ⟨some 31, .load 1 false (.tmp 30), none⟩, ⟨some 32, .fad 0 (.tmp 2), none⟩, ⟨some 33, .load 1 true (.tmp 32), none⟩, ⟨some 34, .mv (.tmp 1), none⟩, ⟨some 35, .mv (.tmp 6), none⟩, ⟨some 36, .callf 246 [.tmp 33, .tmp 34, .tmp 35], none⟩, ⟨some 37, .callf 265 [.tmp 25, .tmp 31, .tmp 36], none⟩, ⟨some 23, .mv (.tmp 37), none⟩, ⟨some 38, .ext (.tmp 23) 0, none⟩, ⟨some 39, .ext (.tmp 23) 1, none⟩, ⟨some 8, .alloc 8 48 [.sl 0 (some true) []], none⟩, ⟨none, .store 1 (.tmp 8) (.tmp 38), none⟩, ⟨some 9, .mv (.tmp 39), none⟩] [[], [0], [], [2], [], [3, 4], [5], [6], [], [8], [], [], [9, 10, 11], [1, 7, 12, 12], [13], [14], [14], [], [17, 15, 13, 0, 1, 2, 3, 4, 5, 6, 7, 8, 9, 10, 11, 12, 13, 14, 15, 17], [16, 18, 0, 1, 2, 3, 4, 5, 6, 7, 8, 9, 10, 11, 12, 13, 14, 15, 16, 17, 18]]) (.seq (.reg [⟨some 40, .mv (.tmp 9), none⟩]) (.cond (.tmp 40) (.reg [⟨some 41, .mv (.tmp 5), none⟩, ⟨some 42, .bin .add (.tmp 41) (.const (.int .i64 1)), none⟩, ⟨some 5, .mv (.tmp 42), none⟩]) .skip)))) (.reg [⟨some 21, .mv (.tmp 7), none⟩, ⟨some 22, .bin .add (.tmp 21) (.const (.int .i64 1)), none⟩, ⟨some 7, .mv (.tmp 22), none⟩]))))))) (.reg [⟨some 14, .mv (.tmp 6), none⟩, ⟨some 15, .bin .add (.tmp 14) (.const (.int .i64 1)), none⟩, ⟨some 6, .mv (.tmp 15), none⟩])))))) (.seq (.reg [⟨some 43, .mv (.tmp 5), none⟩, ⟨some 4, .mv (.tmp 43), none⟩]) .ret))))
theorem fn152 : MFn Tryz.prog 152 mc152 44 [.tmp 4] :=
  ⟨Tryz.f152, Tryz.func152, by kernel_rfl, Tryz.ntmps152, by kernel_rfl⟩
def F_spec_l7Redexes_l2 (sys : (Ls × (List (Ls × Ls)))) (t : Ls) (at' : Int) : (Int × Int) → Option ((Int × Int) ⊕ ((Int × Int) ⊕ Int))
 | (many_1, rule) =>
  if (decide (rule < (sys.2.length : Int))) = true then
   if 0 ≤ rule ∧ rule < (sys.2.length : Int) then
    (F_spec_l1Sub sys.1 t at').bind fun r =>
    (F_spec_l4Match sys.1 ((sys.2.getD rule.toNat default).1) r).bind fun r_1 =>
    if r_1.2 = true then
     some (.inl ((IntKind.i64.wrap (many_1 + 1)), (IntKind.i64.wrap (rule + 1))))
    else
     some (.inl (many_1, (IntKind.i64.wrap (rule + 1))))
   else none
  else
   Option.map Sum.inr (
    some (.inl (many_1, (IntKind.i64.wrap (at' + 1)))))
def F_spec_l7Redexes_l1 (sys : (Ls × (List (Ls × Ls)))) (t : Ls) : (Int × Int) → Option ((Int × Int) ⊕ Int)
 | (many, at') =>
  if (decide (at' < (t.length : Int))) = true then
   loopC (F_spec_l7Redexes_l2 sys t at') (many, 0)
  else
   Option.map Sum.inr (
    some many)
def F_spec_l7Redexes (sys : (Ls × (List (Ls × Ls)))) (t : Ls) : Option Int :=
 loopC (F_spec_l7Redexes_l1 sys t) (0, 0)
theorem c_spec_l7Redexes {sys : (Ls × (List (Ls × Ls)))} {t : Ls} {rr : Int} (h : F_spec_l7Redexes sys t = some rr) : PFun Tryz.prog 152 [D_impl_System sys, (slD 1 iD) t] (iD rr) := by
  delta F_spec_l7Redexes at h
  refine fn152.pureL (vcm_sound ?_)
  delta mc152
  refine stp ?_
  refine m_loopF h [5, 6, 7, 8, 9, 10, 11, 12, 13, 14, 15, 16, 17, 18, 19, 20, 21, 22, 23, 24, 25, 26, 27, 28, 29, 30, 31, 32, 33, 34, 35, 36, 37, 38, 39, 40, 41, 42] (fun pp => [(5, .d (iD pp.1)), (6, .d (iD pp.2))]) (fun pp => [(2, .obj 46 [.d (slD 1 iD sys.1), .d (slD 2 D_impl_Rule sys.2)])]) ?_ ?_
  · try dsimp only
    exact wk
  rintro ⟨many, at'⟩ t1 h hb1
  unfold F_spec_l7Redexes_l1 at h
  try dsimp only at h
  refine vcm_sound (stp ?_)
  rcases ite_some h with ⟨hc, h⟩ | ⟨hc, h⟩
  · refine stpc hc ?_
    refine m_loopF h [5, 7, 8, 9, 16, 17, 18, 19, 20, 21, 22, 23, 24, 25, 26, 27, 28, 29, 30, 31, 32, 33, 34, 35, 36, 37, 38, 39, 40, 41, 42] (fun pp => [(5, .d (iD pp.1)), (7, .d (iD pp.2))]) (fun pp => [(2, .obj 46 [.d (slD 1 iD sys.1), .d (slD 2 D_impl_Rule sys.2)])]) ?_ ?_
    · try dsimp only
      exact wk
    rintro ⟨many_1, rule⟩ t2 h hb2
    unfold F_spec_l7Redexes_l2 at h
    try dsimp only at h
    refine vcm_sound (stp ?_)
    rcases ite_some h with ⟨hc, h⟩ | ⟨hc, h⟩
    · refine stpc hc ?_
      obtain ⟨hp, h⟩ := need_some h
      repeat (refine need_i (by omega) ?_; refine stp ?_)
      obtain ⟨r, hr, h⟩ := bind_some h
      refine cD' (c_spec_l1Sub hr) (stp ?_)
      obtain ⟨r_1, hr_1, h⟩ := bind_some h
      refine cDN (c_spec_l4Match hr_1) (stp ?_)
      refine drQ_of (by kernel_rfl) ?_
      refine stp ?_
      rcases ite_some h with ⟨hc, h⟩ | ⟨hc, h⟩
      · refine stpc hc ?_
        cases h
        refine ⟨_, rfl, ?_⟩
        refine (Weak.drop 8 (by omega)).trans ?_
        exact wk
      refine stpc hc ?_
      cases h
      refine ⟨_, rfl, ?_⟩
      refine (Weak.drop 8 (by omega)).trans ?_
      exact wk
    refine stpc hc ?_
    replace h := inr_some h hb2
    cases h
    refine ⟨_, rfl, ?_⟩
    exact wk
  refine stpc hc ?_
  replace h := inr_some h hb1
  cases h
  exact don
def mc56 : MCode :=
 (.seq (.reg [⟨some 2, .box 2 46 (.tmp 0), none⟩, ⟨some 4, .mv (.const (.bool false)), none⟩]) (.seq (.reg [⟨some 5, .load 2 true (.tmp 2), none⟩, ⟨some 6, .mv (.tmp 1), none⟩, ⟨some 7, .callf 131 [.tmp 5, .tmp 6], none⟩, ⟨some 8, .mv (.tmp 7), none⟩, ⟨some 9, .load 2 true (.tmp 2), (some (some 8, true))⟩, ⟨some 10, .mv (.tmp 1), (some (some 8, true))⟩, ⟨some 11, .callf 152 [.tmp 9, .tmp 10], (some (some 8, true))⟩, ⟨some 12, .bin .eql (.tmp 11) (.const (.int .i64 0)), (some (some 8, true))⟩, ⟨some 13, .pick (.tmp 8) (.tmp 12) (.const (.bool false)), none⟩, ⟨some 4, .mv (.tmp 13), none⟩]) .ret))
theorem fn56 : MFn Tryz.prog 56 mc56 14 [.tmp 4] :=
  ⟨Tryz.f56, Tryz.func56, by kernel_rfl, Tryz.ntmps56, by kernel_rfl⟩
def F_spec_NormalIn (sys : (Ls × (List (Ls × Ls)))) (t : Ls) : Option Bool :=
 (F_spec_l7Right sys t).bind fun r =>
 if r = true then
  (F_spec_l7Redexes sys t).bind fun r_1 =>
  some (r_1 == 0)
 else
  some false
theorem c_spec_NormalIn {sys : (Ls × (List (Ls × Ls)))} {t : Ls} {rr : Bool} (h : F_spec_NormalIn sys t = some rr) : PFun Tryz.prog 56 [D_impl_System sys, (slD 1 iD) t] (bD rr) := by
  delta F_spec_NormalIn at h
  refine fn56.pureL (vcm_sound ?_)
  delta mc56
  refine stp ?_
  obtain ⟨r, hr, h⟩ := bind_some h
  refine cR (c_spec_l7Right hr) (stp ?_)
  rcases ite_some h with ⟨hc, h⟩ | ⟨hc, h⟩
  · refine stpc hc ?_
    obtain ⟨r_1, hr_1, h⟩ := bind_some h
    refine cR (c_spec_l7Redexes hr_1) (stp ?_)
    cases h
    exact don
  refine stpc hc ?_
  cases h
  exact don
end
end Go.Proofs.YtcaljngigbfadaaGreat
namespace Go.Proofs.YtcaljngigbfadaaGreat
noncomputable section
open Go Abx
attribute [local irreducible] vcm vgo vdr vrun vdrun MWp GhostQ BrC BrO BrG BrD BrH AmbO callR callD drQ EnvLe StoLe
set_option maxHeartbeats 4000000
def mc104 : MCode :=
 (.seq (.reg [⟨some 4, .box 4 46 (.tmp 0), none⟩, ⟨some 8, .alloc 8 40 [.sl 0 (some true) [], .sl 0 (some true) []], none⟩, ⟨some 9, .mv (.const (.bool false)), none⟩]) (.seq (.seq (.reg [⟨some 17, .load 2 true (.tmp 4), none⟩, ⟨some 18, .mv (.tmp 1), none⟩, ⟨some 19, .mv (.tmp 2), none⟩, ⟨some 20, .callf 209 [.tmp 17, .tmp 18, .tmp 19], none⟩, ⟨some 21, .un .not (.tmp 20), none⟩, ⟨some 22, .mv (.tmp 21), none⟩, ⟨some 23, .mv (.tmp 3), (some (some 22, false))⟩, ⟨some 24, .callf 79 [.tmp 23, (.const (.int .i64 0)), (.const (.int .i64 60))], (some (some 22, false))⟩, ⟨some 25, .un .not (.tmp 24), (some (some 22, false))⟩, ⟨some 26, .pick (.tmp 22) (.const (.bool true)) (.tmp 25), none⟩]) (.cond (.tmp 26) (.seq (.reg [⟨some 27, .build [.sl 0 (some true) [], .sl 0 (some true) []] [], none⟩, ⟨none, .store 2 (.tmp 8) (.tmp 27), none⟩, ⟨some 9, .mv (.const (.bool false)), none⟩]) .ret) .skip)) (.seq (.reg [⟨some 28, .mv (.tmp 1), none⟩, ⟨some 29, .callf 114 [.tmp 28], none⟩, ⟨some 30, .build [.sl 0 (some true) [], .sl 0 (some true) []] [(0, 1, .tmp 29)], none⟩, ⟨some 10, .alloc 10 40 [.sl 0 (some true) [], .sl 0 (some true) []], none⟩, ⟨none, .store 2 (.tmp 10) (.tmp 30), none⟩]) (.seq (.reg [⟨some 31, .mv (.tmp 1), none⟩, ⟨some 32, .callf 114 [.tmp 31], none⟩, ⟨some 11, .mv (.tmp 32), none⟩]) (.seq (.block 0 (.loop (.seq (.seq (.reg [⟨some 33, .fad 1 (.tmp 10), none⟩, ⟨some 34, .load 1 false (.tmp 33), none⟩, ⟨some 35, .len (.tmp 34), none⟩, ⟨some 36, .mv (.tmp 3), none⟩, ⟨some 37, .bin .lss (.tmp 35) (.tmp 36), none⟩]) (.cond (.tmp 37) .skip (.exit 0))) (.block 1 (.seq (.reg [⟨some 39, .load 2 true (.tmp 4), none⟩, ⟨some 40, .mv (.tmp 11), none⟩, ⟨some 41, .mv (.tmp 2), none⟩, ⟨some 42, .callf 210 [.tmp 39, .tmp 40, .tmp 41], none⟩, ⟨some 38, .mv (.tmp 42), none⟩, ⟨some 43, .ext (.tmp 38) 0, none⟩, ⟨some 44, .ext (.tmp 38) 1, none⟩, ⟨some 45, .ext (.tmp 38) 2, none⟩, ⟨some 12, .mv (.tmp 43), none⟩, ⟨some 13, .mv (.tmp 44), none⟩, ⟨some 14, .mv (.tmp 45), none⟩]) (.seq (.seq (.reg [⟨some 46, .mv (.tmp 14), none⟩, ⟨some 47, .un .not (.tmp 46), none⟩]) (.cond (.tmp 47) (.exit 0) .skip)) (.seq (.reg [⟨some 49, .load 2 true (.tmp 4), none⟩, ⟨some 50, .mv (.tmp 11), none⟩, ⟨some 51, .mv (.tmp 12), none⟩, ⟨some 52, .mv (.tmp 13), none⟩, ⟨some 53, .callf 211 [.tmp 49, .tmp 50, .tmp 51, .tmp 52], none⟩, ⟨some 48, .mv (.tmp 53), none⟩, ⟨some 54, .ext (.tmp 48) 0, none⟩, ⟨some 55, .ext (.tmp 48) 1, none⟩, ⟨some 15, .mv (.tmp 54), none⟩, ⟨some 16, .mv (.tmp 55), none⟩]) (.seq (.seq (.reg [⟨some 56, .mv (.tmp 16), none⟩, ⟨some 57, .un .not (.tmp 56), none⟩]) (.cond (.tmp 57) (.exit 0) .skip)) (.seq (.reg [⟨some 58, .fad 1 (.tmp 10), none⟩, ⟨some 59, .load 1 false (.tmp 58), none⟩, ⟨some 60, .mv (.tmp 12), none⟩, ⟨some 61, .mv (.tmp 13), none⟩, ⟨some 62, .mv (.tmp 15), none⟩, ⟨some 63, .build [.lit (.int .i64 0), .lit (.int .i64 0), .sl 0 (some true) []] [(0, 1, .tmp 60), (1, 1, .tmp 61), (2, 1, .tmp 62)], none⟩, ⟨some 64, .bsl 64 84 3 [.tmp 63], none⟩, ⟨some 65, .app 65 84 3 40 (.tmp 59) (.tmp 64), none⟩, ⟨some 66, .fad 1 (.tmp 10), none⟩, ⟨none, .store 1 (.tmp 66) (.tmp 65), none⟩]) (.reg [⟨some 67, .mv (.tmp 15), none⟩, ⟨some 68, .callf 114 [.tmp 67], none⟩, ⟨some 11, .mv (.tmp 68), none⟩])))))))))) (.seq (.draw [⟨some 69, .load 2 true (.tmp 10), none⟩, ⟨some 70, .load 2 true (.tmp 4), none⟩, ⟨some 71, .mv (.tmp 11), none⟩, ⟨some 72, .callf 56 [.tmp 70, .tmp 71], none⟩, ⟨none, .store 2 (.tmp 8) (.tmp 69), none⟩, ⟨some 9, .mv (.tmp 72), none⟩] [[], [], [], [1, 2], [0, 3, 0], [3, 4, 0, 1, 2, 3, 4]]) .ret))))))
theorem fn104 : MFn Tryz.prog 104 mc104 73 [.cell 8 2 true, .tmp 9] :=
  ⟨Tryz.f104, Tryz.func104, by kernel_rfl, Tryz.ntmps104, by kernel_rfl⟩
def F_spec_WalkBy_l1 (sys : (Ls × (List (Ls × Ls)))) (strategy : Int) (fuel : Int) (r_2 : Ls) : (Ls × (List (Int × Int × Ls))) → Option ((Ls × (List (Int × Int × Ls))) ⊕ ((Ls × (List (Int × Int × Ls))) × Bool))
 | (now, w) =>
  if (decide ((w.length : Int) < fuel)) = true then
   (F_spec_PickBy sys now strategy).bind fun r_4 =>
   if r_4.2.2 = true then
    (F_spec_l7Step sys now r_4.1 r_4.2.1).bind fun r_5 =>
    if r_5.2 = true then
     if (w.length + 1) * 40 ≤ 140737488355328 then
      (F_spec_l1Copy r_5.1).bind fun r_6 =>
      some (.inl (r_6, (w ++ [(r_4.1, r_4.2.1, r_5.1)])))
     else none
    else
     Option.map Sum.inr (
      (F_spec_NormalIn sys now).bind fun r_7 =>
      some ((r_2, w), r_7))
   else
    Option.map Sum.inr (
     (F_spec_NormalIn sys now).bind fun r_8 =>
     some ((r_2, w), r_8))
  else
   Option.map Sum.inr (
    (F_spec_NormalIn sys now).bind fun r_9 =>
    some ((r_2, w), r_9))
def F_spec_WalkBy (sys : (Ls × (List (Ls × Ls)))) (t : Ls) (strategy : Int) (fuel : Int) : Option ((Ls × (List (Int × Int × Ls))) × Bool) :=
 (F_spec_l8Right sys t strategy).bind fun r =>
 if r = true then
  (F_spec_l1In fuel 0 60).bind fun r_1 =>
  if r_1 = true then
   (F_spec_l1Copy t).bind fun r_2 =>
   (F_spec_l1Copy t).bind fun r_3 =>
   loopC (F_spec_WalkBy_l1 sys strategy fuel r_2) (r_3, [])
  else
   some (([], []), false)
 else
  some (([], []), false)
theorem c_spec_WalkBy {sys : (Ls × (List (Ls × Ls)))} {t : Ls} {strategy : Int} {fuel : Int} {rr : ((Ls × (List (Int × Int × Ls))) × Bool)} (h : F_spec_WalkBy sys t strategy fuel = some rr) : PFunN Tryz.prog 104 [D_impl_System sys, (slD 1 iD) t, iD strategy, iD fuel] [D_impl_Walk rr.1, bD rr.2] := by
  delta F_spec_WalkBy at h
  refine fn104.pureLN (vcm_sound ?_)
  delta mc104
  refine stp ?_
  obtain ⟨r, hr, h⟩ := bind_some h
  refine cR (c_spec_l8Right hr) (stp ?_)
  rcases ite_some h with ⟨hc, h⟩ | ⟨hc, h⟩
  · refine stpc hc ?_
    obtain ⟨r_1, hr_1, h⟩ := bind_some h
    refine cR (c_spec_l1In hr_1) (stp ?_)
    rcases ite_some h with ⟨hc, h⟩ | ⟨hc, h⟩
    · refine stpc hc ?_
      obtain ⟨r_2, hr_2, h⟩ := bind_some h
      refine cRo [] [(3, 29)] (c_spec_l1Copy hr_2) (stp ?_)
      obtain ⟨r_3, hr_3, h⟩ := bind_some h
      refine cRo [] [(3, 32)] (c_spec_l1Copy hr_3) (stp ?_)
      refine m_loopF h [11, 12, 13, 14, 15, 16, 33, 34, 35, 36, 37, 38, 39, 40, 41, 42, 43, 44, 45, 46, 47, 48, 49, 50, 51, 52, 53, 54, 55, 56, 57, 58, 59, 60, 61, 62, 63, 64, 65, 66, 67, 68] (fun pp => [(11, .d (slD 1 iD pp.1))]) (fun pp => [(4, .obj 46 [.d (slD 1 iD sys.1), .d (slD 2 D_impl_Rule sys.2)]), (8, .obj 40 [.d (.sl 0 (some true) []), .d (.sl 0 (some true) [])]), (10, .obj 40 [.own 1 29 (List.map iD r_2), .own 3 65 (List.map D_impl_Step pp.2)]), (29, .tok 2 1 r_2.length), (32, .tok 2 1 r_3.length), (65, .tok 84 3 pp.2.length)]) ?_ ?_
      · try dsimp only
        refine (Weak.thawCell 10 1 65 84 3 rfl rfl rfl).trans ?_
        exact wk
      rintro ⟨now, w⟩ t1 h hb1
      unfold F_spec_WalkBy_l1 at h
      try dsimp only at h
      refine vcm_sound (stp ?_)
      rcases ite_some h with ⟨hc, h⟩ | ⟨hc, h⟩
      · refine stpc hc ?_
        obtain ⟨r_4, hr_4, h⟩ := bind_some h
        refine cRN (c_spec_PickBy hr_4) (stp ?_)
        rcases ite_some h with ⟨hc, h⟩ | ⟨hc, h⟩
        · refine stpc hc ?_
          obtain ⟨r_5, hr_5, h⟩ := bind_some h
          refine cRN (c_spec_l7Step hr_5) (stp ?_)
          rcases ite_some h with ⟨hc, h⟩ | ⟨hc, h⟩
          · refine stpc hc ?_
            obtain ⟨hp, h⟩ := need_some h
            repeat (refine need_i (by omega) ?_; refine stp ?_)
            obtain ⟨r_6, hr_6, h⟩ := bind_some h
            refine cRo [] [(3, 68)] (c_spec_l1Copy hr_6) (stp ?_)
            cases h
            refine ⟨_, rfl, ?_⟩
            refine (Weak.drop 64 (by omega)).trans ?_
            refine (Weak.drop 68 (by omega)).trans ?_
            exact wk
          refine stpc hc ?_
          replace h := inr_some h hb1
          obtain ⟨r_7, hr_7, h⟩ := bind_some h
          refine cD' (c_spec_NormalIn hr_7) (stp ?_)
          refine drQ_of (by kernel_rfl) ?_
          refine stp ?_
          cases h
          exact don
        refine stpc hc ?_
        replace h := inr_some h hb1
        obtain ⟨r_8, hr_8, h⟩ := bind_some h
        refine cD' (c_spec_NormalIn hr_8) (stp ?_)
        refine drQ_of (by kernel_rfl) ?_
        refine stp ?_
        cases h
        exact don
      refine stpc hc ?_
      replace h := inr_some h hb1
      obtain ⟨r_9, hr_9, h⟩ := bind_some h
      refine cD' (c_spec_NormalIn hr_9) (stp ?_)
      refine drQ_of (by kernel_rfl) ?_
      refine stp ?_
      cases h
      exact don
    refine stpc hc ?_
    cases h
    exact don
  refine stpc hc ?_
  cases h
  exact don
def mc301 : MCode :=
 (.seq (.reg [⟨some 4, .mv (.const (.int .i64 0)), none⟩]) (.seq (.seq (.reg [⟨some 5, .mv (.tmp 0), none⟩, ⟨some 6, .mv (.tmp 1), none⟩, ⟨some 7, .bin .lss (.tmp 5) (.tmp 6), none⟩]) (.cond (.tmp 7) (.seq (.reg [⟨some 8, .mv (.tmp 0), none⟩, ⟨some 4, .mv (.tmp 8), none⟩]) .ret) .skip)) (.seq (.reg [⟨some 9, .mv (.tmp 1), none⟩, ⟨some 4, .mv (.tmp 9), none⟩]) .ret)))
theorem fn301 : MFn Tryz.prog 301 mc301 10 [.tmp 4] :=
  ⟨Tryz.f301, Tryz.func301, by kernel_rfl, Tryz.ntmps301, by kernel_rfl⟩
def F_spec_l1Min (a : Int) (b : Int) : Option Int :=
 if (decide (a < b)) = true then
  some a
 else
  some b
theorem c_spec_l1Min {a : Int} {b : Int} {rr : Int} (h : F_spec_l1Min a b = some rr) : PFun Tryz.prog 301 [iD a, iD b] (iD rr) := by
  delta F_spec_l1Min at h
  refine fn301.pureL (vcm_sound ?_)
  delta mc301
  refine stp ?_
  rcases ite_some h with ⟨hc, h⟩ | ⟨hc, h⟩
  · refine stpc hc ?_
    cases h
    exact don
  refine stpc hc ?_
  cases h
  exact don
end
end Go.Proofs.YtcaljngigbfadaaGreat
namespace Go.Proofs.YtcaljngigbfadaaGreat
noncomputable section
open Go Abx
attribute [local irreducible] vcm vgo vdr vrun vdrun MWp GhostQ BrC BrO BrG BrD BrH AmbO callR callD drQ EnvLe StoLe
set_option maxHeartbeats 4000000
def mc208 : MCode :=
 (.seq (.reg [⟨some 4, .mv (.const (.int .i64 0)), none⟩]) (.seq (.seq (.reg [⟨some 5, .mv (.tmp 0), none⟩, ⟨some 6, .callf 103 [.tmp 5, (.const (.int .i64 10))], none⟩]) (.cond (.tmp 6) (.seq (.reg [⟨some 7, .mv (.tmp 1), none⟩, ⟨some 8, .mv (.tmp 1), none⟩, ⟨some 9, .bin .add (.tmp 8) (.const (.int .i64 1)), none⟩, ⟨some 10, .mv (.tmp 0), none⟩, ⟨some 11, .callf 299 [.tmp 10], none⟩, ⟨some 12, .bsl 12 2 1 [(.const (.int .i64 (-1))), .tmp 7, .tmp 9, .tmp 11], none⟩, ⟨some 13, .mv (.tmp 0), none⟩, ⟨some 14, .callf 105 [.tmp 13, (.const (.int .i64 4))], none⟩, ⟨some 15, .ixa 1 (.tmp 12) (.tmp 14), none⟩, ⟨some 16, .load 1 false (.tmp 15), none⟩, ⟨some 4, .mv (.tmp 16), none⟩]) .ret) .skip)) (.seq (.seq (.reg [⟨some 17, .mv (.tmp 0), none⟩, ⟨some 18, .callf 103 [.tmp 17, (.const (.int .i64 2))], none⟩]) (.cond (.tmp 18) (.seq (.reg [⟨some 19, .mv (.tmp 0), none⟩, ⟨some 20, .mv (.tmp 1), none⟩, ⟨some 21, .callf 301 [.tmp 20, (.const (.int .i64 4))], none⟩, ⟨some 22, .bin .add (.tmp 21) (.const (.int .i64 1)), none⟩, ⟨some 23, .callf 105 [.tmp 19, .tmp 22], none⟩, ⟨some 4, .mv (.tmp 23), none⟩]) .ret) .skip)) (.seq (.reg [⟨some 24, .mv (.tmp 0), none⟩, ⟨some 25, .mv (.tmp 1), none⟩, ⟨some 26, .bin .add (.tmp 25) (.const (.int .i64 1)), none⟩, ⟨some 27, .callf 105 [.tmp 24, .tmp 26], none⟩, ⟨some 4, .mv (.tmp 27), none⟩]) .ret))))
theorem fn208 : MFn Tryz.prog 208 mc208 28 [.tmp 4] :=
  ⟨Tryz.f208, Tryz.func208, by kernel_rfl, Tryz.ntmps208, by kernel_rfl⟩
def F_spec_l1Num (most : Int) (c0 : Ls) (c1 : Int) (c2 : Int) : Option (Int × Int × Int) :=
 (F_spec_l1Once 10 c0 c1 c2).bind fun r =>
 if r.1 = true then
  (F_spec_l1Odd c0 r.2.1 r.2.2).bind fun r_1 =>
  (F_spec_l1Below 4 c0 r_1.2.1 r_1.2.2).bind fun r_2 =>
  if 0 ≤ r_2.1 ∧ r_2.1 < 4 then
   some (([(-1), most, (IntKind.i64.wrap (most + 1)), r_1.1].getD r_2.1.toNat default), r_2.2.1, r_2.2.2)
  else none
 else
  (F_spec_l1Once 2 c0 r.2.1 r.2.2).bind fun r_3 =>
  if r_3.1 = true then
   (F_spec_l1Min most 4).bind fun r_4 =>
   (F_spec_l1Below (IntKind.i64.wrap (r_4 + 1)) c0 r_3.2.1 r_3.2.2).bind fun r_5 =>
   some r_5
  else
   (F_spec_l1Below (IntKind.i64.wrap (most + 1)) c0 r_3.2.1 r_3.2.2).bind fun r_6 =>
   some r_6
theorem c_spec_l1Num {most : Int} {c0 : Ls} {c1 : Int} {c2 : Int} {rr : (Int × Int × Int)} (h : F_spec_l1Num most c0 c1 c2 = some rr) : ACalls Tryz.prog 208 [.ptr 0 0, .d (iD most)] [(0, .obj 216 [.d (slD 1 (kD .u8) c0), .d (iD c1), .d (iD c2)])] 1 fun xx ss => xx = .d (iD rr.1) ∧ ss = [(0, .obj 216 [.d (slD 1 (kD .u8) c0), .d (iD rr.2.1), .d (iD rr.2.2)])] := by
  delta F_spec_l1Num at h
  refine fn208.callsO (vcm_sound ?_)
  delta mc208
  refine stp ?_
  obtain ⟨r, hr, h⟩ := bind_some h
  refine cRo [(0, 0)] [] (c_spec_l1Once hr) (stp ?_)
  rcases ite_some h with ⟨hc, h⟩ | ⟨hc, h⟩
  · refine stpc hc ?_
    obtain ⟨r_1, hr_1, h⟩ := bind_some h
    refine cRo [(0, 0)] [] (c_spec_l1Odd hr_1) (stp ?_)
    obtain ⟨r_2, hr_2, h⟩ := bind_some h
    refine cRo [(0, 0)] [] (c_spec_l1Below hr_2) (stp ?_)
    obtain ⟨hp, h⟩ := need_some h
    repeat (refine need_i (by omega) ?_; try simp (config := { maxSteps := 1000000 }) (disch := omega) only [go_sem, ← List.map_take, ← List.map_drop, mixedT, Nat.reduceAdd, Nat.reduceSub, Nat.reduceLeDiff, Nat.reduceEqDiff, Nat.reduceLT, Int.reduceToNat, reduceIte, reduceCtorEq, getD_lit (l := [iD (-1), iD most, iD (IntKind.i64.wrap (most + 1)), iD r_1.1]) (f := iD) (xs := [(-1), most, (IntKind.i64.wrap (most + 1)), r_1.1]) rfl (n := 4) rfl])
    cases h
    exact ⟨[12], by simp, don, don⟩
  refine stpc hc ?_
  obtain ⟨r_3, hr_3, h⟩ := bind_some h
  refine cRo [(0, 0)] [] (c_spec_l1Once hr_3) (stp ?_)
  rcases ite_some h with ⟨hc, h⟩ | ⟨hc, h⟩
  · refine stpc hc ?_
    obtain ⟨r_4, hr_4, h⟩ := bind_some h
    refine cR (c_spec_l1Min hr_4) (stp ?_)
    obtain ⟨r_5, hr_5, h⟩ := bind_some h
    refine cRo [(0, 0)] [] (c_spec_l1Below hr_5) (stp ?_)
    cases h
    exact ⟨[], by simp, don, don⟩
  refine stpc hc ?_
  obtain ⟨r_6, hr_6, h⟩ := bind_some h
  refine cRo [(0, 0)] [] (c_spec_l1Below hr_6) (stp ?_)
  cases h
  exact ⟨[], by simp, don, don⟩
end
end Go.Proofs.YtcaljngigbfadaaGreat
namespace Go.Proofs.YtcaljngigbfadaaGreat
noncomputable section
open Go Abx
attribute [local irreducible] vcm vgo vdr vrun vdrun MWp GhostQ BrC BrO BrG BrD BrH AmbO callR callD drQ EnvLe StoLe
set_option maxHeartbeats 4000000
end
end Go.Proofs.YtcaljngigbfadaaGreat
namespace Go.Proofs.YtcaljngigbfadaaGreat
noncomputable section
open Go Abx
attribute [local irreducible] vcm vgo vdr vrun vdrun MWp GhostQ BrC BrO BrG BrD BrH AmbO callR callD drQ EnvLe StoLe
set_option maxHeartbeats 4000000
set_option maxRecDepth 4000
def mc26 : MCode :=
 (.seq (.reg [⟨some 2, .mv (.const (.bool false)), none⟩]) (.seq (.reg [⟨some 3, .mv (.tmp 0), none⟩, ⟨some 4, .len (.tmp 3), none⟩, ⟨some 5, .bin .gtr (.tmp 4) (.const (.int .i64 4096)), none⟩, ⟨some 2, .mv (.tmp 5), none⟩]) .ret))
theorem fn26 : MFn Tryz.prog 26 mc26 6 [.tmp 2] :=
  ⟨Tryz.f26, Tryz.func26, by kernel_rfl, Tryz.ntmps26, by kernel_rfl⟩
def F_laws_big (code : Ls) : Option Bool :=
 some (decide (4096 < (code.length : Int)))
theorem c_laws_big {code : Ls} {rr : Bool} (h : F_laws_big code = some rr) : PFun Tryz.prog 26 [(slD 1 (kD .u8)) code] (bD rr) := by
  delta F_laws_big at h
  refine fn26.pureL (vcm_sound ?_)
  delta mc26
  refine stp ?_
  cases h
  exact don
end
end Go.Proofs.YtcaljngigbfadaaGreat
