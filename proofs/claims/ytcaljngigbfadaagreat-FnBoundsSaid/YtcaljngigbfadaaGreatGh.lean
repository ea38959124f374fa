/- Functions of the program that draw inputs, and the equations that they compute; nothing is assumed. -/
import Derived.Test.YtcaljngigbfadaaGreatGg
set_option linter.unusedSimpArgs false
set_option linter.unusedVariables false
set_option linter.unusedSectionVars false
namespace Go.Proofs.YtcaljngigbfadaaGreat
open Go Abx
attribute [local irreducible] vcm vgo vdr vrun vdrun MWp GhostQ BrC BrO BrG BrD BrH AmbO callR callD drQ EnvLe StoLe
set_option maxHeartbeats 4000000
def mc206 : MCode :=
 (.seq (.reg [⟨some 2, .alloc 2 43 [.sl 0 (some true) []], none⟩]) (.seq (.reg [⟨some 4, .mv (.tmp 0), none⟩, ⟨some 5, .callf 296 [(.tmp 4)], none⟩, ⟨some 3, .alloc 3 43 [.sl 0 (some true) []], none⟩, ⟨none, .store 1 (.tmp 3) (.tmp 5), none⟩]) (.seq (.seq (.reg [⟨some 6, .mv (.tmp 0), none⟩, ⟨some 7, .callf 103 [(.tmp 6), (.const (.int .i64 15))], none⟩]) (.cond (.tmp 7) (.seq (.reg [⟨some 8, .mv (.tmp 0), none⟩, ⟨some 9, .callf 105 [(.tmp 8), (.const (.int .i64 3))], none⟩]) (.block 0 (.seq (.reg [⟨some 11, .bin .eql (.tmp 9) (.const (.int .i64 0)), none⟩, ⟨some 10, .mv (.tmp 11), none⟩]) (.cond (.tmp 10) (.draw [⟨some 12, .fad 0 (.tmp 3), none⟩, ⟨some 13, .load 1 false (.tmp 12), none⟩, ⟨some 14, .mv (.tmp 0), none⟩, ⟨some 15, .callf 235 [(.tmp 14), (.const (.int .i64 (-1))), (.const (.int .i64 4))], none⟩, ⟨some 16, .bsl 16 2 1 [(.tmp 15)], none⟩, ⟨some 17, .app 17 2 1 8 (.tmp 13) (.tmp 16), none⟩, ⟨some 18, .fad 0 (.tmp 3), none⟩, ⟨none, .store 1 (.tmp 18) (.tmp 17), none⟩] [[], [0], [], [2], [3], [1, 4, 3], [0, 1, 2, 3, 4, 5], [6, 5, 5, 0, 1, 2, 3, 4, 5]]) (.seq (.reg [⟨some 20, .bin .eql (.tmp 9) (.const (.int .i64 1)), none⟩, ⟨some 19, .mv (.tmp 20), none⟩]) (.cond (.tmp 19) (.reg [⟨some 21, .bsl 21 2 1 [], none⟩, ⟨some 22, .fad 0 (.tmp 3), none⟩, ⟨none, .store 1 (.tmp 22) (.tmp 21), none⟩]) (.seq (.reg [⟨some 24, .bin .eql (.tmp 9) (.const (.int .i64 2)), none⟩, ⟨some 23, .mv (.tmp 24), none⟩]) (.cond (.tmp 23) (.reg [⟨some 25, .mv (.tmp 0), none⟩, ⟨some 26, .callf 105 [(.tmp 25), (.const (.int .i64 2))], none⟩, ⟨some 27, .bin .add (.const (.int .i64 8)) (.tmp 26), none⟩, ⟨some 28, .mksl 28 2 1 8 [.lit (.int .i64 0)] false (.tmp 27) (.tmp 27), none⟩, ⟨some 29, .fad 0 (.tmp 3), none⟩, ⟨none, .store 1 (.tmp 29) (.tmp 28), none⟩]) .skip)))))))) .skip)) (.seq (.reg [⟨some 30, .load 1 true (.tmp 3), none⟩, ⟨none, .store 1 (.tmp 2) (.tmp 30), none⟩]) .ret))))
theorem fn206 : MFn Tryz.prog 206 mc206 31 [.cell 2 1 true] :=
  ⟨Tryz.f206, Tryz.func206, by kernel_rfl, Tryz.ntmps206, by kernel_rfl⟩
noncomputable def F_spec_l1DrawSigAny (c0 : (List Int)) (c1 : Int) (c2 : Int) : Option ((List Int) × Int × Int) :=
  (F_spec_l1DrawSig_s1 c0 c1 c2).bind fun r =>
  (F_spec_l1Once 15 c0 r.2.1 r.2.2).bind fun r_1 =>
  if r_1.1 = true then
    (F_spec_l1Below 3 c0 r_1.2.1 r_1.2.2).bind fun r_2 =>
    if (r_2.1 == 0) = true then
      (F_spec_l1From (-1) 4 c0 r_2.2.1 r_2.2.2).bind fun r_3 =>
      if (r.1.length + 1) * 8 ≤ 140737488355328 then
        some ((r.1 ++ [r_3.1]), r_3.2.1, r_3.2.2)
      else none
    else
      if (r_2.1 == 1) = true then
        some ([], r_2.2.1, r_2.2.2)
      else
        if (r_2.1 == 2) = true then
          (F_spec_l1Below 2 c0 r_2.2.1 r_2.2.2).bind fun r_4 =>
          if 0 ≤ (IntKind.i64.wrap (8 + r_4.1)) ∧ 8 * (IntKind.i64.wrap (8 + r_4.1)) ≤ 281474976710656 ∧ (IntKind.i64.wrap (8 + r_4.1)) < 4611686018427387904 then
            if (List.replicate (IntKind.i64.wrap (8 + r_4.1)).toNat (0 : Int)).length = (IntKind.i64.wrap (8 + r_4.1)).toNat then
              some ((List.replicate (IntKind.i64.wrap (8 + r_4.1)).toNat (0 : Int)), r_4.2.1, r_4.2.2)
            else none
          else none
        else
          some (r.1, r_2.2.1, r_2.2.2)
  else
    some (r.1, r_1.2.1, r_1.2.2)
theorem c_spec_l1DrawSigAny {c0 : (List Int)} {c1 : Int} {c2 : Int} {rr : ((List Int) × Int × Int)} (h : F_spec_l1DrawSigAny c0 c1 c2 = some rr) : ACalls Tryz.prog 206 [.ptr 0 0] [(0, .obj 216 [.d (slD 1 (kD .u8) c0), .d (iD c1), .d (iD c2)])] 1 fun xx ss => xx = .d (.agg [slD 1 iD rr.1]) ∧ ss = [(0, .obj 216 [.d (slD 1 (kD .u8) c0), .d (iD rr.2.1), .d (iD rr.2.2)])] := by
  delta F_spec_l1DrawSigAny at h
  refine fn206.callsD (vcm_sound ?_)
  delta mc206
  refine stp ?_
  obtain ⟨r, hr, h⟩ := bind_some h
  refine cRo [(0, 0)] [(900000, 5)] (c_spec_l1DrawSig_s1 hr) (stp ?_)
  obtain ⟨r_1, hr_1, h⟩ := bind_some h
  refine cRo [(0, 0)] [] (c_spec_l1Once hr_1) (stp ?_)
  rcases ite_some h with ⟨hc, h⟩ | ⟨hc, h⟩
  · refine stpc hc ?_
    obtain ⟨r_2, hr_2, h⟩ := bind_some h
    refine cRo [(0, 0)] [] (c_spec_l1Below hr_2) (stp ?_)
    rcases ite_some h with ⟨hc, h⟩ | ⟨hc, h⟩
    · refine stpc hc ?_
      obtain ⟨r_3, hr_3, h⟩ := bind_some h
      refine cDo [(0, 0)] [] (c_spec_l1From hr_3) (stp ?_)
      obtain ⟨hp, h⟩ := need_some h
      repeat (refine need_i (by omega) ?_; refine stp ?_)
      refine drQ_of (by kernel_rfl) ?_
      refine stp ?_
      cases h
      exact Done.trans ((Done.trans (Done.fz 5 iD rfl (r.1 ++ [r_3.1])) (Done.drops [2, 3, 16] (by simp)))) (Done.told frd don)
    · refine stpc hc ?_
      rcases ite_some h with ⟨hc, h⟩ | ⟨hc, h⟩
      · refine stpc hc ?_
        cases h
        exact Done.trans ((Done.drops [2, 3, 5, 21] (by simp))) (Done.told frd don)
      · refine stpc hc ?_
        rcases ite_some h with ⟨hc, h⟩ | ⟨hc, h⟩
        · refine stpc hc ?_
          obtain ⟨r_4, hr_4, h⟩ := bind_some h
          refine cRo [(0, 0)] [] (c_spec_l1Below hr_4) (stp ?_)
          obtain ⟨hp, h⟩ := need_some h
          repeat (refine need_i (by omega) ?_; refine stp ?_)
          obtain ⟨hp, h⟩ := need_some h
          repeat (refine need_i (by omega) ?_; refine stp ?_)
          cases h
          exact Done.trans ((Done.trans (Done.frzL 28 iD (List.replicate (IntKind.i64.wrap (8 + r_4.1)).toNat (0 : Int)) (by omega) rfl) (Done.drops [2, 3, 5] (by simp)))) (Done.told frd don)
        · refine stpc hc ?_
          cases h
          exact Done.trans ((Done.trans (Done.fz 5 iD rfl r.1) (Done.drops [2, 3] (by simp)))) (Done.told frd don)
  · refine stpc hc ?_
    cases h
    exact Done.trans ((Done.trans (Done.fz 5 iD rfl r.1) (Done.drops [2, 3] (by simp)))) (Done.told frd don)

def mc101 : MCode :=
 (.seq (.reg [⟨some 2, .alloc 2 46 [.sl 0 (some true) [], .sl 0 (some true) []], none⟩]) (.seq (.reg [⟨some 4, .mv (.tmp 0), none⟩, ⟨some 5, .callf 204 [(.tmp 4)], none⟩, ⟨some 3, .alloc 3 46 [.sl 0 (some true) [], .sl 0 (some true) []], none⟩, ⟨none, .store 2 (.tmp 3) (.tmp 5), none⟩]) (.seq (.seq (.reg [⟨some 6, .mv (.tmp 0), none⟩, ⟨some 7, .callf 103 [(.tmp 6), (.const (.int .i64 15))], none⟩]) (.cond (.tmp 7) (.seq (.reg [⟨some 8, .mv (.tmp 0), none⟩, ⟨some 9, .callf 105 [(.tmp 8), (.const (.int .i64 4))], none⟩]) (.block 0 (.seq (.reg [⟨some 11, .bin .eql (.tmp 9) (.const (.int .i64 0)), none⟩, ⟨some 10, .mv (.tmp 11), none⟩]) (.cond (.tmp 10) (.draw [⟨some 12, .fad 1 (.tmp 3), none⟩, ⟨some 13, .load 1 false (.tmp 12), none⟩, ⟨some 14, .mv (.tmp 0), none⟩, ⟨some 15, .fad 0 (.tmp 3), none⟩, ⟨some 16, .load 1 true (.tmp 15), none⟩, ⟨some 17, .callf 205 [(.tmp 14), (.tmp 16)], none⟩, ⟨some 18, .mv (.tmp 0), none⟩, ⟨some 19, .fad 0 (.tmp 3), none⟩, ⟨some 20, .load 1 true (.tmp 19), none⟩, ⟨some 21, .callf 205 [(.tmp 18), (.tmp 20)], none⟩, ⟨some 22, .build [.sl 0 (some true) [], .sl 0 (some true) []] [(0, 1, (.tmp 17)), (1, 1, (.tmp 21))], none⟩, ⟨some 23, .bsl 23 146 2 [(.tmp 22)], none⟩, ⟨some 24, .app 24 146 2 48 (.tmp 13) (.tmp 23), none⟩, ⟨some 25, .fad 1 (.tmp 3), none⟩, ⟨none, .store 1 (.tmp 25) (.tmp 24), none⟩] [[], [0], [], [], [3], [2, 4], [], [], [7], [6, 8, 5], [5, 9], [10], [1, 11, 9], [0, 1, 2, 3, 4, 5, 6, 7, 8, 9, 10, 11, 12], [13, 12, 12, 0, 1, 2, 3, 4, 5, 6, 7, 8, 9, 10, 11, 12]]) (.seq (.reg [⟨some 27, .bin .eql (.tmp 9) (.const (.int .i64 1)), none⟩, ⟨some 26, .mv (.tmp 27), none⟩]) (.cond (.tmp 26) (.reg [⟨some 28, .mv (.tmp 0), none⟩, ⟨some 29, .callf 206 [(.tmp 28)], none⟩, ⟨some 30, .fad 0 (.tmp 3), none⟩, ⟨none, .store 1 (.tmp 30) (.tmp 29), none⟩]) (.seq (.reg [⟨some 32, .bin .eql (.tmp 9) (.const (.int .i64 2)), none⟩, ⟨some 31, .mv (.tmp 32), none⟩]) (.cond (.tmp 31) (.block 1 (.loop (.seq (.seq (.reg [⟨some 33, .fad 1 (.tmp 3), none⟩, ⟨some 34, .load 1 false (.tmp 33), none⟩, ⟨some 35, .len (.tmp 34), none⟩, ⟨some 36, .bin .lss (.tmp 35) (.const (.int .i64 13)), none⟩]) (.cond (.tmp 36) .skip (.exit 1))) (.block 2 (.reg [⟨some 37, .fad 1 (.tmp 3), none⟩, ⟨some 38, .load 1 false (.tmp 37), none⟩, ⟨some 39, .bsl 39 2 1 [(.const (.int .i64 2))], none⟩, ⟨some 40, .bsl 40 2 1 [(.const (.int .i64 2))], none⟩, ⟨some 41, .build [.sl 0 (some true) [], .sl 0 (some true) []] [(0, 1, (.tmp 39)), (1, 1, (.tmp 40))], none⟩, ⟨some 42, .bsl 42 146 2 [(.tmp 41)], none⟩, ⟨some 43, .app 43 146 2 48 (.tmp 38) (.tmp 42), none⟩, ⟨some 44, .fad 1 (.tmp 3), none⟩, ⟨none, .store 1 (.tmp 44) (.tmp 43), none⟩]))))) (.seq (.reg [⟨some 46, .bin .eql (.tmp 9) (.const (.int .i64 3)), none⟩, ⟨some 45, .mv (.tmp 46), none⟩]) (.cond (.tmp 45) (.reg [⟨some 47, .fad 1 (.tmp 3), none⟩, ⟨some 48, .load 1 false (.tmp 47), none⟩, ⟨some 49, .bsl 49 2 1 [(.const (.int .i64 (-1)))], none⟩, ⟨some 50, .bsl 50 2 1 [(.const (.int .i64 (-1)))], none⟩, ⟨some 51, .build [.sl 0 (some true) [], .sl 0 (some true) []] [(0, 1, (.tmp 49)), (1, 1, (.tmp 50))], none⟩, ⟨some 52, .bsl 52 146 2 [(.tmp 51)], none⟩, ⟨some 53, .app 53 146 2 48 (.tmp 48) (.tmp 52), none⟩, ⟨some 54, .fad 1 (.tmp 3), none⟩, ⟨none, .store 1 (.tmp 54) (.tmp 53), none⟩]) .skip)))))))))) .skip)) (.seq (.reg [⟨some 55, .load 2 true (.tmp 3), none⟩, ⟨none, .store 2 (.tmp 2) (.tmp 55), none⟩]) .ret))))
theorem fn101 : MFn Tryz.prog 101 mc101 56 [.cell 2 2 true] :=
  ⟨Tryz.f101, Tryz.func101, by kernel_rfl, Tryz.ntmps101, by kernel_rfl⟩
noncomputable def F_spec_l6DrawAny_l1 (r : ((List Int) × (List ((List Int) × (List Int))) × Int × Int)) (r_2 : (Int × Int × Int)) : (List ((List Int) × (List Int))) → Option ((List ((List Int) × (List Int))) ⊕ (((List Int) × (List ((List Int) × (List Int)))) × Int × Int))
  | g5 =>
    if (decide ((g5.length : Int) < 13)) = true then
      if (g5.length + 1) * 48 ≤ 140737488355328 then
        some (.inl (g5 ++ [([2], [2])]))
      else none
    else
      Option.map Sum.inr (
        some ((r.1, g5), r_2.2.1, r_2.2.2))
noncomputable def F_spec_l6DrawAny (c0 : (List Int)) (c1 : Int) (c2 : Int) : Option (((List Int) × (List ((List Int) × (List Int)))) × Int × Int) :=
  (F_spec_l6Draw_s1 c0 c1 c2).bind fun r =>
  (F_spec_l1Once 15 c0 r.2.2.1 r.2.2.2).bind fun r_1 =>
  if r_1.1 = true then
    (F_spec_l1Below 4 c0 r_1.2.1 r_1.2.2).bind fun r_2 =>
    if (r_2.1 == 0) = true then
      (F_spec_l1DrawAny r.1 c0 r_2.2.1 r_2.2.2).bind fun r_3 =>
      (F_spec_l1DrawAny r.1 c0 r_3.2.1 r_3.2.2).bind fun r_4 =>
      if (r.2.1.length + 1) * 48 ≤ 140737488355328 then
        some ((r.1, (r.2.1 ++ [(r_3.1, r_4.1)])), r_4.2.1, r_4.2.2)
      else none
    else
      if (r_2.1 == 1) = true then
        (F_spec_l1DrawSigAny c0 r_2.2.1 r_2.2.2).bind fun r_5 =>
        some ((r_5.1, r.2.1), r_5.2.1, r_5.2.2)
      else
        if (r_2.1 == 2) = true then
          loopC (F_spec_l6DrawAny_l1 r r_2) r.2.1
        else
          if (r_2.1 == 3) = true then
            if (r.2.1.length + 1) * 48 ≤ 140737488355328 then
              some ((r.1, (r.2.1 ++ [([(-1)], [(-1)])])), r_2.2.1, r_2.2.2)
            else none
          else
            some ((r.1, r.2.1), r_2.2.1, r_2.2.2)
  else
    some ((r.1, r.2.1), r_1.2.1, r_1.2.2)
theorem c_spec_l6DrawAny {c0 : (List Int)} {c1 : Int} {c2 : Int} {rr : (((List Int) × (List ((List Int) × (List Int)))) × Int × Int)} (h : F_spec_l6DrawAny c0 c1 c2 = some rr) : ACalls Tryz.prog 101 [.ptr 0 0] [(0, .obj 216 [.d (slD 1 (kD .u8) c0), .d (iD c1), .d (iD c2)])] 1 fun xx ss => xx = .d (.agg [slD 1 iD rr.1.1, slD 2 D_impl_Rule rr.1.2]) ∧ ss = [(0, .obj 216 [.d (slD 1 (kD .u8) c0), .d (iD rr.2.1), .d (iD rr.2.2)])] := by
  delta F_spec_l6DrawAny at h
  refine fn101.callsD (vcm_sound ?_)
  delta mc101
  refine stp ?_
  obtain ⟨r, hr, h⟩ := bind_some h
  refine cRo [(0, 0)] [(900000, 5)] (c_spec_l6Draw_s1 hr) (stp ?_)
  obtain ⟨r_1, hr_1, h⟩ := bind_some h
  refine cRo [(0, 0)] [] (c_spec_l1Once hr_1) (stp ?_)
  rcases ite_some h with ⟨hc, h⟩ | ⟨hc, h⟩
  · refine stpc hc ?_
    obtain ⟨r_2, hr_2, h⟩ := bind_some h
    refine cRo [(0, 0)] [] (c_spec_l1Below hr_2) (stp ?_)
    rcases ite_some h with ⟨hc, h⟩ | ⟨hc, h⟩
    · refine stpc hc ?_
      obtain ⟨r_3, hr_3, h⟩ := bind_some h
      refine cDo [(0, 0)] [] (c_spec_l1DrawAny hr_3) (stp ?_)
      obtain ⟨r_4, hr_4, h⟩ := bind_some h
      refine cDo [(0, 0)] [] (c_spec_l1DrawAny hr_4) (stp ?_)
      obtain ⟨hp, h⟩ := need_some h
      repeat (refine need_i (by omega) ?_; refine stp ?_)
      refine drQ_of (by kernel_rfl) ?_
      refine stp ?_
      cases h
      exact Done.trans ((Done.trans (Done.told (t := [(0, .obj 216 [.d (slD 1 (kD .u8) c0), .d (iD r_4.2.1), .d (iD r_4.2.2)]), (2, .obj 46 [.d (slD 1 iD r.1), .gow 2 5 ((r.2.1 ++ [(r_3.1, r_4.1)]).length)]), (3, .obj 46 [.d (slD 1 iD r.1), .gow 2 5 ((r.2.1 ++ [(r_3.1, r_4.1)]).length)]), (5, .gro 146 2 ((r.2.1 ++ [(r_3.1, r_4.1)]).length) (groL D_impl_Rule (r.2.1 ++ [(r_3.1, r_4.1)]))), (23, .tok 146 2 1)]) (AV.le_refl _) (by exact (stoC (ObLe.refl _) (stoC ⟨rfl, don⟩ (stoC ⟨rfl, don⟩ (stoC ⟨rfl, rfl, by simp, gro_snoc don⟩ (stoC (ObLe.refl _) stoN))))))) (Done.trans (Done.fz 5 D_impl_Rule rfl (r.2.1 ++ [(r_3.1, r_4.1)])) (Done.drops [2, 3, 23] (by simp))))) (Done.told frd don)
    · refine stpc hc ?_
      rcases ite_some h with ⟨hc, h⟩ | ⟨hc, h⟩
      · refine stpc hc ?_
        obtain ⟨r_5, hr_5, h⟩ := bind_some h
        refine cRo [(0, 0)] [] (c_spec_l1DrawSigAny hr_5) (stp ?_)
        cases h
        exact Done.trans ((Done.trans (Done.fz 5 D_impl_Rule rfl r.2.1) (Done.drops [2, 3] (by simp)))) (Done.told frd don)
      · refine stpc hc ?_
        rcases ite_some h with ⟨hc, h⟩ | ⟨hc, h⟩
        · refine stpc hc ?_
          refine m_loopF h [33, 34, 35, 36, 37, 38, 39, 40, 41, 42, 43, 44] (fun pp => []) (fun pp => [(0, .obj 216 [.d (slD 1 (kD .u8) c0), .d (iD r_2.2.1), .d (iD r_2.2.2)]), (2, .obj 46 [.d (.sl 0 (some true) []), .d (.sl 0 (some true) [])]), (3, .obj 46 [.d (slD 1 iD r.1), .gow 2 5 pp.length]), (5, .gro 146 2 pp.length (groL D_impl_Rule pp))]) ?_ ?_
          · try dsimp only
            exact wk
          · rintro g5 t1 h hb1
            unfold F_spec_l6DrawAny_l1 at h
            try dsimp only at h
            refine vcm_sound (stp ?_)
            rcases ite_some h with ⟨hc, h⟩ | ⟨hc, h⟩
            · refine stpc hc ?_
              obtain ⟨hp, h⟩ := need_some h
              repeat (refine need_i (by omega) ?_; refine stp ?_)
              cases h
              refine ⟨_, rfl, ?_⟩
              refine (Weak.leS (s' := [(0, .obj 216 [.d (slD 1 (kD .u8) c0), .d (iD r_2.2.1), .d (iD r_2.2.2)]), (2, .obj 46 [.d (.sl 0 (some true) []), .d (.sl 0 (some true) [])]), (3, .obj 46 [.d (slD 1 iD r.1), .gow 2 5 ((g5 ++ [([2], [2])]).length)]), (5, .gro 146 2 ((g5 ++ [([2], [2])]).length) (groL D_impl_Rule (g5 ++ [([2], [2])]))), (39, .tok 2 1 1), (40, .tok 2 1 1), (42, .tok 146 2 1)]) (EnvLe.refl _) (by exact (stoC (ObLe.refl _) (stoC (ObLe.refl _) (stoC ⟨rfl, don⟩ (stoC ⟨rfl, rfl, by simp, gro_snoc don⟩ (stoC (ObLe.refl _) (stoC (ObLe.refl _) (stoC (ObLe.refl _) stoN))))))))).trans ?_
              refine (Weak.drop 39 (by omega)).trans ?_
              refine (Weak.drop 40 (by omega)).trans ?_
              refine (Weak.drop 42 (by omega)).trans ?_
              exact wk
            · refine stpc hc ?_
              replace h := inr_some h hb1
              cases h
              exact Done.trans ((Done.trans (Done.fz 5 D_impl_Rule rfl g5) (Done.drops [2, 3] (by simp)))) (Done.told frd don)
        · refine stpc hc ?_
          rcases ite_some h with ⟨hc, h⟩ | ⟨hc, h⟩
          · refine stpc hc ?_
            obtain ⟨hp, h⟩ := need_some h
            repeat (refine need_i (by omega) ?_; refine stp ?_)
            cases h
            exact Done.trans ((Done.trans (Done.told (t := [(0, .obj 216 [.d (slD 1 (kD .u8) c0), .d (iD r_2.2.1), .d (iD r_2.2.2)]), (2, .obj 46 [.d (slD 1 iD r.1), .gow 2 5 ((r.2.1 ++ [([(-1)], [(-1)])]).length)]), (3, .obj 46 [.d (slD 1 iD r.1), .gow 2 5 ((r.2.1 ++ [([(-1)], [(-1)])]).length)]), (5, .gro 146 2 ((r.2.1 ++ [([(-1)], [(-1)])]).length) (groL D_impl_Rule (r.2.1 ++ [([(-1)], [(-1)])]))), (49, .tok 2 1 1), (50, .tok 2 1 1), (52, .tok 146 2 1)]) (AV.le_refl _) (by exact (stoC (ObLe.refl _) (stoC ⟨rfl, don⟩ (stoC ⟨rfl, don⟩ (stoC ⟨rfl, rfl, by simp, gro_snoc don⟩ (stoC (ObLe.refl _) (stoC (ObLe.refl _) (stoC (ObLe.refl _) stoN))))))))) (Done.trans (Done.fz 5 D_impl_Rule rfl (r.2.1 ++ [([(-1)], [(-1)])])) (Done.drops [2, 3, 49, 50, 52] (by simp))))) (Done.told frd don)
          · refine stpc hc ?_
            cases h
            exact Done.trans ((Done.trans (Done.fz 5 D_impl_Rule rfl r.2.1) (Done.drops [2, 3] (by simp)))) (Done.told frd don)
  · refine stpc hc ?_
    cases h
    exact Done.trans ((Done.trans (Done.fz 5 D_impl_Rule rfl r.2.1) (Done.drops [2, 3] (by simp)))) (Done.told frd don)

end Go.Proofs.YtcaljngigbfadaaGreat
namespace Go.Proofs.YtcaljngigbfadaaGreat
open Go Abx
attribute [local irreducible] vcm vgo vdr vrun vdrun MWp GhostQ BrC BrO BrG BrD BrH AmbO callR callD drQ EnvLe StoLe
set_option maxHeartbeats 4000000
attribute [local go_sem] Nat.zero_mul
def mc232 : MCode :=
 (.seq (.reg [⟨some 5, .box 5 43 (.tmp 1), none⟩, ⟨some 8, .mv (.const (.slice none 0 0)), none⟩]) (.seq (.reg [⟨some 13, .bsl 13 158 2 [], none⟩, ⟨some 9, .mv (.tmp 13), none⟩]) (.seq (.seq (.reg [⟨some 10, .mv (.const (.int .i64 0)), none⟩]) (.block 0 (.loop (.seq (.seq (.reg [⟨some 14, .mv (.tmp 10), none⟩, ⟨some 15, .fad 0 (.tmp 5), none⟩, ⟨some 16, .load 1 false (.tmp 15), none⟩, ⟨some 17, .len (.tmp 16), none⟩, ⟨some 18, .bin .lss (.tmp 14) (.tmp 17), none⟩]) (.cond (.tmp 18) .skip (.exit 0))) (.seq (.block 1 (.seq (.reg [⟨some 21, .mv (.tmp 0), none⟩, ⟨some 22, .mv (.tmp 3), none⟩, ⟨some 23, .bin .add (.tmp 22) (.const (.int .i64 1)), none⟩, ⟨some 24, .callf 105 [(.tmp 21), (.tmp 23)], none⟩, ⟨some 25, .build [.lit (.int .i64 0), .sl 0 (some true) []] [(0, 1, (.tmp 24))], none⟩, ⟨some 11, .alloc 11 158 [.lit (.int .i64 0), .sl 0 (some true) []], none⟩, ⟨none, .store 2 (.tmp 11) (.tmp 25), none⟩]) (.seq (.seq (.reg [⟨some 12, .mv (.const (.int .i64 0)), none⟩]) (.block 2 (.loop (.seq (.seq (.reg [⟨some 26, .mv (.tmp 12), none⟩, ⟨some 27, .fad 0 (.tmp 5), none⟩, ⟨some 28, .load 1 false (.tmp 27), none⟩, ⟨some 29, .mv (.tmp 10), none⟩, ⟨some 30, .ixa 1 (.tmp 28) (.tmp 29), none⟩, ⟨some 31, .load 1 false (.tmp 30), none⟩, ⟨some 32, .bin .lss (.tmp 26) (.tmp 31), none⟩]) (.cond (.tmp 32) .skip (.exit 2))) (.seq (.block 3 (.draw [⟨some 35, .fad 1 (.tmp 11), none⟩, ⟨some 36, .load 1 false (.tmp 35), none⟩, ⟨some 37, .mv (.tmp 0), none⟩, ⟨some 38, .mv (.tmp 2), none⟩, ⟨some 39, .mv (.tmp 3), none⟩, ⟨some 40, .callf 235 [(.tmp 37), (.tmp 38), (.tmp 39)], none⟩, ⟨some 41, .bsl 41 2 1 [(.tmp 40)], none⟩, ⟨some 42, .app 42 2 1 8 (.tmp 36) (.tmp 41), none⟩, ⟨some 43, .fad 1 (.tmp 11), none⟩, ⟨none, .store 1 (.tmp 43) (.tmp 42), none⟩] [[], [0], [], [], [], [2, 3, 4], [5], [1, 6, 5], [0, 1, 2, 3, 4, 5, 6, 7], [8, 7, 7, 0, 1, 2, 3, 4, 5, 6, 7]])) (.reg [⟨some 33, .mv (.tmp 12), none⟩, ⟨some 34, .bin .add (.tmp 33) (.const (.int .i64 1)), none⟩, ⟨some 12, .mv (.tmp 34), none⟩])))))) (.reg [⟨some 44, .mv (.tmp 9), none⟩, ⟨some 45, .load 2 true (.tmp 11), none⟩, ⟨some 46, .bsl 46 158 2 [(.tmp 45)], none⟩, ⟨some 47, .app 47 158 2 32 (.tmp 44) (.tmp 46), none⟩, ⟨some 9, .mv (.tmp 47), none⟩])))) (.reg [⟨some 19, .mv (.tmp 10), none⟩, ⟨some 20, .bin .add (.tmp 19) (.const (.int .i64 1)), none⟩, ⟨some 10, .mv (.tmp 20), none⟩])))))) (.seq (.reg [⟨some 48, .mv (.tmp 9), none⟩, ⟨some 8, .mv (.tmp 48), none⟩]) .ret))))
theorem fn232 : MFn Tryz.prog 232 mc232 49 [.tmp 8] :=
  ⟨Tryz.f232, Tryz.func232, by kernel_rfl, Tryz.ntmps232, by kernel_rfl⟩
noncomputable def F_spec_l15Draw_l2 (sig : (List Int)) (least : Int) (most : Int) (c0 : (List Int)) (out : (List (Int × (List Int)))) (f : Int) (r : (Int × Int × Int)) : (Int × Int × Int × (List Int)) → Option ((Int × Int × Int × (List Int)) ⊕ (((List (Int × (List Int))) × Int × Int × Int) ⊕ ((List (Int × (List Int))) × Int × Int)))
  | (k, c_2, c_3, p) =>
    if 0 ≤ f ∧ f < (sig.length : Int) then
      if (decide (k < (sig.getD f.toNat default))) = true then
        (F_spec_l1From least most c0 c_2 c_3).bind fun r_1 =>
        if (p.length + 1) * 8 ≤ 140737488355328 then
          some (.inl ((IntKind.i64.wrap (k + 1)), r_1.2.1, r_1.2.2, (p ++ [r_1.1])))
        else none
      else
        Option.map Sum.inr (
          if (out.length + 1) * 32 ≤ 140737488355328 then
            some (.inl ((out ++ [(r.1, p)]), (IntKind.i64.wrap (f + 1)), c_2, c_3))
          else none)
    else none
noncomputable def F_spec_l15Draw_l1 (sig : (List Int)) (least : Int) (most : Int) (c0 : (List Int)) : ((List (Int × (List Int))) × Int × Int × Int) → Option (((List (Int × (List Int))) × Int × Int × Int) ⊕ ((List (Int × (List Int))) × Int × Int))
  | (out, f, c, c_1) =>
    if (decide (f < (sig.length : Int))) = true then
      (F_spec_l1Below (IntKind.i64.wrap (most + 1)) c0 c c_1).bind fun r =>
      loopC (F_spec_l15Draw_l2 sig least most c0 out f r) (0, r.2.1, r.2.2, [])
    else
      Option.map Sum.inr (
        some (out, c, c_1))
noncomputable def F_spec_l15Draw (sig : (List Int)) (least : Int) (most : Int) (c0 : (List Int)) (c1 : Int) (c2 : Int) : Option ((List (Int × (List Int))) × Int × Int) :=
  loopC (F_spec_l15Draw_l1 sig least most c0) ([], 0, c1, c2)
theorem c_spec_l15Draw {sig : (List Int)} {least : Int} {most : Int} {c0 : (List Int)} {c1 : Int} {c2 : Int} {rr : ((List (Int × (List Int))) × Int × Int)} (h : F_spec_l15Draw sig least most c0 c1 c2 = some rr) : ACalls Tryz.prog 232 [.ptr 0 0, .d (.agg [slD 1 iD sig]), .d (iD least), .d (iD most)] [(0, .obj 216 [.d (slD 1 (kD .u8) c0), .d (iD c1), .d (iD c2)])] 1 fun xx ss => xx = .d (slD 2 D_impl_Poly rr.1) ∧ ss = [(0, .obj 216 [.d (slD 1 (kD .u8) c0), .d (iD rr.2.1), .d (iD rr.2.2)])] := by
  delta F_spec_l15Draw at h
  refine fn232.callsO (vcm_sound ?_)
  delta mc232
  refine stp ?_
  refine m_loopF h [9, 10, 11, 12, 14, 15, 16, 17, 18, 19, 20, 21, 22, 23, 24, 25, 26, 27, 28, 29, 30, 31, 32, 33, 34, 35, 36, 37, 38, 39, 40, 41, 42, 43, 44, 45, 46, 47] (fun pp => [(9, .own 2 13 (List.map D_impl_Poly pp.1)), (10, .d (iD pp.2.1))]) (fun pp => [(0, .obj 216 [.d (slD 1 (kD .u8) c0), .d (iD pp.2.2.1), .d (iD pp.2.2.2)]), (5, .obj 43 [.d (slD 1 iD sig)]), (13, .tok 158 2 pp.1.length)]) ?_ ?_
  · try dsimp only
    exact wk
  · rintro ⟨out, f, c, c_1⟩ t1 h hb1
    unfold F_spec_l15Draw_l1 at h
    try dsimp only at h
    refine vcm_sound (stp ?_)
    rcases ite_some h with ⟨hc, h⟩ | ⟨hc, h⟩
    · refine stpc hc ?_
      obtain ⟨r, hr, h⟩ := bind_some h
      refine cRo [(0, 0)] [] (c_spec_l1Below hr) (stp ?_)
      refine m_loopF h [12, 26, 27, 28, 29, 30, 31, 32, 33, 34, 35, 36, 37, 38, 39, 40, 41, 42, 43] (fun pp => [(12, .d (iD pp.1))]) (fun pp => [(0, .obj 216 [.d (slD 1 (kD .u8) c0), .d (iD pp.2.1), .d (iD pp.2.2.1)]), (5, .obj 43 [.d (slD 1 iD sig)]), (11, .obj 158 [.d (iD r.1), .own 1 42 (List.map iD pp.2.2.2)]), (13, .tok 158 2 out.length), (42, .tok 2 1 pp.2.2.2.length)]) ?_ ?_
      · try dsimp only
        refine (Weak.thawCell 11 1 42 2 1 rfl rfl rfl).trans ?_
        exact wk
      · rintro ⟨k, c_2, c_3, p⟩ t2 h hb2
        unfold F_spec_l15Draw_l2 at h
        try dsimp only at h
        refine vcm_sound (stp ?_)
        obtain ⟨hp, h⟩ := need_some h
        repeat (refine need_i (by omega) ?_; refine stp ?_)
        rcases ite_some h with ⟨hc, h⟩ | ⟨hc, h⟩
        · refine stpc hc ?_
          obtain ⟨r_1, hr_1, h⟩ := bind_some h
          refine cDo [(0, 0)] [] (c_spec_l1From hr_1) (stp ?_)
          obtain ⟨hp, h⟩ := need_some h
          repeat (refine need_i (by omega) ?_; refine stp ?_)
          refine drQ_of (by kernel_rfl) ?_
          refine stp ?_
          cases h
          refine ⟨_, rfl, ?_⟩
          refine (Weak.drop 41 (by omega)).trans ?_
          exact wk
        · refine stpc hc ?_
          replace h := inr_some h hb2
          obtain ⟨hp, h⟩ := need_some h
          repeat (refine need_i (by omega) ?_; refine stp ?_)
          cases h
          refine ⟨_, rfl, ?_⟩
          refine (Weak.drop 11 (by omega)).trans ?_
          refine (Weak.drop 42 (by omega)).trans ?_
          refine (Weak.drop 46 (by omega)).trans ?_
          exact wk
    · refine stpc hc ?_
      replace h := inr_some h hb1
      cases h
      exact ⟨[5, 13], by simp, don, don⟩

def mc123_spec_l25Draw : MCode :=
  (.seq (.reg [⟨(some 2), .alloc 2 46 [.sl 0 (some true) [], .sl 0 (some true) []], none⟩,
    ⟨(some 3), .mv (.const (.slice none 0 0)), none⟩])
  (.seq (.reg [⟨(some 6), .mv (.tmp 0), none⟩,
    ⟨(some 7), .callf 101 [(.tmp 6)], none⟩,
    ⟨(some 4), .alloc 4 46 [.sl 0 (some true) [], .sl 0 (some true) []], none⟩,
    ⟨none, .store 2 (.tmp 4) (.tmp 7), none⟩])
  (.seq (.reg [⟨(some 8), .mv (.tmp 0), none⟩,
    ⟨(some 9), .fad 0 (.tmp 4), none⟩,
    ⟨(some 10), .load 1 true (.tmp 9), none⟩,
    ⟨(some 11), .callf 232 [(.tmp 8), (.tmp 10), (.const (.int .i64 1)), (.const (.int .i64 3))], none⟩,
    ⟨(some 5), .mv (.tmp 11), none⟩])
  (.seq (.seq (.reg [⟨(some 12), .mv (.tmp 0), none⟩,
    ⟨(some 13), .callf 103 [(.tmp 12), (.const (.int .i64 2))], none⟩])
  (.cond (.tmp 13)
    (.seq (.reg [⟨(some 14), .bsl 14 2 1 [(.const (.int .i64 0)), (.const (.int .i64 2))], none⟩,
      ⟨(some 15), .mv (.tmp 0), none⟩,
      ⟨(some 16), .callf 105 [(.tmp 15), (.const (.int .i64 2))], none⟩,
      ⟨(some 17), .ixa 1 (.tmp 14) (.tmp 16), none⟩,
      ⟨(some 18), .load 1 false (.tmp 17), none⟩,
      ⟨(some 19), .callf 233 [(.tmp 18)], none⟩,
      ⟨none, .store 2 (.tmp 4) (.tmp 19), none⟩])
    (.seq (.reg [⟨(some 20), .bslg 20 2 1 [(.const (.int .i64 2)), (.const (.int .i64 1))], none⟩,
      ⟨(some 21), .build [.lit (.int .i64 0), .sl 0 (some true) []] [(0, 1, (.const (.int .i64 1))), (1, 1, (.tmp 20))], none⟩,
      ⟨(some 22), .bslg 22 2 1 [(.const (.int .i64 1))], none⟩,
      ⟨(some 23), .build [.lit (.int .i64 0), .sl 0 (some true) []] [(0, 1, (.const (.int .i64 1))), (1, 1, (.tmp 22))], none⟩,
      ⟨(some 24), .bslg 24 2 1 [], none⟩,
      ⟨(some 25), .build [.lit (.int .i64 0), .sl 0 (some true) []] [(0, 1, (.const (.int .i64 1))), (1, 1, (.tmp 24))], none⟩,
      ⟨(some 26), .bslo 26 158 2 [(.tmp 21), (.tmp 23), (.tmp 25)], none⟩,
      ⟨(some 5), .mv (.tmp 26), none⟩])
    (.seq (.reg [⟨(some 27), .mv (.tmp 0), none⟩,
      ⟨(some 28), .callf 103 [(.tmp 27), (.const (.int .i64 2))], none⟩,
      ⟨(some 29), .mv (.tmp 28), none⟩,
      ⟨(some 30), .fad 1 (.tmp 4), (some (some 29, true))⟩,
      ⟨(some 31), .load 1 false (.tmp 30), (some (some 29, true))⟩,
      ⟨(some 32), .len (.tmp 31), (some (some 29, true))⟩,
      ⟨(some 33), .bin .eql (.tmp 32) (.const (.int .i64 1)), (some (some 29, true))⟩,
      ⟨(some 34), .pick (.tmp 29) (.tmp 33) (.const (.bool false)), none⟩])
    (.cond (.tmp 34)
      (.reg [⟨(some 35), .mv (.tmp 5), none⟩,
        ⟨(some 36), .ixa 2 (.tmp 35) (.const (.int .i64 0)), none⟩,
        ⟨(some 37), .fad 1 (.tmp 36), none⟩,
        ⟨(some 38), .load 1 false (.tmp 37), none⟩,
        ⟨(some 39), .ixa 1 (.tmp 38) (.const (.int .i64 0)), none⟩,
        ⟨none, .store 1 (.tmp 39) (.const (.int .i64 1)), none⟩])
      .skip))))
    .skip))
  (.seq (.reg [⟨(some 40), .load 2 true (.tmp 4), none⟩,
    ⟨(some 41), .mv (.tmp 5), none⟩,
    ⟨none, .store 2 (.tmp 2) (.tmp 40), none⟩,
    ⟨(some 3), .mv (.tmp 41), none⟩])
  .ret)))))
theorem fn123_spec_l25Draw : MFn Tryz.prog 123 mc123_spec_l25Draw 42 [.cell 2 2 true, .tmp 3] :=
  ⟨Tryz.f123, Tryz.func123, by kernel_rfl, Tryz.ntmps123, by kernel_rfl⟩
noncomputable def F_spec_l25Draw (c0 : (List Int)) (c1 : Int) (c2 : Int) : Option (((List Int) × (List ((List Int) × (List Int)))) × (List (Int × (List Int))) × Int × Int) :=
  (F_spec_l6DrawAny c0 c1 c2).bind fun r =>
  (F_spec_l15Draw r.1.1 1 3 c0 r.2.1 r.2.2).bind fun r_1 =>
  (F_spec_l1Once 2 c0 r_1.2.1 r_1.2.2).bind fun r_2 =>
  if r_2.1 = true then
    (F_spec_l1Below 2 c0 r_2.2.1 r_2.2.2).bind fun r_3 =>
    if 0 ≤ r_3.1 ∧ r_3.1 < 2 then
      (F_spec_l6Known ([0, 2].getD r_3.1.toNat default)).bind fun r_4 =>
      (F_spec_l1Once 2 c0 r_3.2.1 r_3.2.2).bind fun r_5 =>
      if r_5.1 = true then
        if ((r_4.2.length : Int) == 1) = true then
          some (r_4, [(1, [1, 1]), (1, [1]), (1, [])], r_5.2.1, r_5.2.2)
        else
          some (r_4, [(1, [2, 1]), (1, [1]), (1, [])], r_5.2.1, r_5.2.2)
      else
        some (r_4, [(1, [2, 1]), (1, [1]), (1, [])], r_5.2.1, r_5.2.2)
    else none
  else
    some (r.1, r_1.1, r_2.2.1, r_2.2.2)
theorem c_spec_l25Draw {c0 : (List Int)} {c1 : Int} {c2 : Int} {rr : (((List Int) × (List ((List Int) × (List Int)))) × (List (Int × (List Int))) × Int × Int)} (h : F_spec_l25Draw c0 c1 c2 = some rr) : ACalls Tryz.prog 123 [.ptr 0 0] [(0, .obj 216 [.d (slD 1 (kD .u8) c0), .d (iD c1), .d (iD c2)])] 1 fun xx ss => xx = .tup [.d (.agg [slD 1 iD rr.1.1, slD 2 D_impl_Rule rr.1.2]), .d (slD 2 D_impl_Poly rr.2.1)] ∧ ss = [(0, .obj 216 [.d (slD 1 (kD .u8) c0), .d (iD rr.2.2.1), .d (iD rr.2.2.2)])] := by
  delta F_spec_l25Draw at h
  refine fn123_spec_l25Draw.callsD (vcm_sound ?_)
  delta mc123_spec_l25Draw
  refine stp ?_
  obtain ⟨r, hr, h⟩ := bind_some h
  refine cRo [(0, 0)] [] (c_spec_l6DrawAny hr) (stp ?_)
  obtain ⟨r_1, hr_1, h⟩ := bind_some h
  refine cRo [(0, 0)] [] (c_spec_l15Draw hr_1) (stp ?_)
  obtain ⟨r_2, hr_2, h⟩ := bind_some h
  refine cRo [(0, 0)] [] (c_spec_l1Once hr_2) (stp ?_)
  rcases ite_some h with ⟨hc, h⟩ | ⟨hc, h⟩
  · refine stpc hc ?_
    obtain ⟨r_3, hr_3, h⟩ := bind_some h
    refine cRo [(0, 0)] [] (c_spec_l1Below hr_3) (stp ?_)
    obtain ⟨hp, h⟩ := need_some h
    repeat (refine need_i (by omega) ?_; try simp (config := { maxSteps := 1000000 }) (disch := omega) only [go_sem, ← List.map_take, ← List.map_drop, mixedT, Nat.reduceAdd, Nat.reduceSub, Nat.reduceLeDiff, Nat.reduceEqDiff, Nat.reduceLT, Int.reduceToNat, reduceIte, reduceCtorEq, getD_lit (l := [iD 0, iD 2]) (f := iD) (xs := [0, 2]) rfl (n := 2) rfl])
    obtain ⟨r_4, hr_4, h⟩ := bind_some h
    refine cR (c_spec_l6Known hr_4) (stp ?_)
    repeat (refine need_i (by omega) ?_; refine stp ?_)
    obtain ⟨r_5, hr_5, h⟩ := bind_some h
    refine cRo [(0, 0)] [] (c_spec_l1Once hr_5) (stp ?_)
    rcases ite_some h with ⟨hc, h⟩ | ⟨hc, h⟩
    · refine stpc hc ?_
      rcases ite_some h with ⟨hc, h⟩ | ⟨hc, h⟩
      · refine stpc hc ?_
        repeat (refine need_i (by omega) ?_; refine stp ?_)
        repeat (refine need_i (by omega) ?_; refine stp ?_)
        repeat (refine need_i (by omega) ?_; refine stp ?_)
        cases h
        exact Done.trans ((Done.trans (Done.fz 20 iD rfl [1, 1]) (Done.trans (Done.fz 22 iD rfl [1]) (Done.trans (Done.fz 24 iD rfl []) (Done.trans (Done.frzO 26 D_impl_Poly [(1, [1, 1]), (1, [1]), (1, [])] (by omega) rfl (by decide) (by simp)) (Done.drops [2, 4, 14] (by simp))))))) (Done.told frd don)
      · refine stpc hc ?_
        cases h
        exact Done.trans ((Done.trans (Done.fz 20 iD rfl [2, 1]) (Done.trans (Done.fz 22 iD rfl [1]) (Done.trans (Done.fz 24 iD rfl []) (Done.trans (Done.frzO 26 D_impl_Poly [(1, [2, 1]), (1, [1]), (1, [])] (by omega) rfl (by decide) (by simp)) (Done.drops [2, 4, 14] (by simp))))))) (Done.told frd don)
    · refine stpc hc ?_
      cases h
      exact Done.trans ((Done.trans (Done.fz 20 iD rfl [2, 1]) (Done.trans (Done.fz 22 iD rfl [1]) (Done.trans (Done.fz 24 iD rfl []) (Done.trans (Done.frzO 26 D_impl_Poly [(1, [2, 1]), (1, [1]), (1, [])] (by omega) rfl (by decide) (by simp)) (Done.drops [2, 4, 14] (by simp))))))) (Done.told frd don)
  · refine stpc hc ?_
    cases h
    exact Done.trans ((Done.drops [2, 4] (by simp))) (Done.told frd don)

def mc300 : MCode :=
 (.seq (.reg [⟨some 3, .box 3 43 (.tmp 1), none⟩, ⟨some 4, .alloc 4 48 [.sl 0 (some true) []], none⟩]) (.seq (.reg [⟨some 8, .build [.sl 0 (some true) []] [], none⟩, ⟨some 5, .alloc 5 48 [.sl 0 (some true) []], none⟩, ⟨none, .store 1 (.tmp 5) (.tmp 8), none⟩]) (.seq (.seq (.reg [⟨some 9, .mv (.tmp 0), none⟩, ⟨some 10, .callf 105 [(.tmp 9), (.const (.int .i64 4))], none⟩, ⟨some 6, .mv (.tmp 10), none⟩]) (.block 0 (.loop (.seq (.seq (.reg [⟨some 11, .mv (.tmp 6), none⟩, ⟨some 12, .bin .gtr (.tmp 11) (.const (.int .i64 0)), none⟩]) (.cond (.tmp 12) .skip (.exit 0))) (.seq (.block 1 (.seq (.reg [⟨some 15, .bsl 15 2 1 [], none⟩, ⟨some 7, .mv (.tmp 15), none⟩]) (.seq (.seq (.reg [⟨some 16, .mv (.tmp 0), none⟩, ⟨some 17, .callf 103 [(.tmp 16), (.const (.int .i64 3))], none⟩, ⟨some 18, .un .not (.tmp 17), none⟩]) (.cond (.tmp 18) (.draw [⟨some 19, .mv (.tmp 0), none⟩, ⟨some 20, .load 1 true (.tmp 3), none⟩, ⟨some 21, .mv (.tmp 0), none⟩, ⟨some 22, .callf 105 [(.tmp 21), (.const (.int .i64 3))], none⟩, ⟨some 23, .bin .add (.const (.int .i64 1)) (.tmp 22), none⟩, ⟨some 24, .callf 298 [(.tmp 19), (.tmp 20), (.tmp 23), (.const (.int .i64 3))], none⟩, ⟨some 7, .mv (.tmp 24), none⟩] [[], [], [], [2], [3], [0, 1, 4, 3], [5, 5, 0, 1, 2, 3, 4, 5]]) .skip)) (.reg [⟨some 25, .fad 0 (.tmp 5), none⟩, ⟨some 26, .load 1 false (.tmp 25), none⟩, ⟨some 27, .mv (.tmp 7), none⟩, ⟨some 28, .bsl 28 22 1 [(.tmp 27)], none⟩, ⟨some 29, .app 29 22 1 24 (.tmp 26) (.tmp 28), none⟩, ⟨some 30, .fad 0 (.tmp 5), none⟩, ⟨none, .store 1 (.tmp 30) (.tmp 29), none⟩])))) (.reg [⟨some 13, .mv (.tmp 6), none⟩, ⟨some 14, .bin .sub (.tmp 13) (.const (.int .i64 1)), none⟩, ⟨some 6, .mv (.tmp 14), none⟩])))))) (.seq (.reg [⟨some 31, .load 1 true (.tmp 5), none⟩, ⟨none, .store 1 (.tmp 4) (.tmp 31), none⟩]) .ret))))
theorem fn300 : MFn Tryz.prog 300 mc300 32 [.cell 4 1 true] :=
  ⟨Tryz.f300, Tryz.func300, by kernel_rfl, Tryz.ntmps300, by kernel_rfl⟩
noncomputable def F_spec_l2Draw_l1 (sig : (List Int)) (c0 : (List Int)) : (Int × Int × Int × (List (List Int))) → Option ((Int × Int × Int × (List (List Int))) ⊕ ((List (List Int)) × Int × Int))
  | (n, c, c_1, s) =>
    if (decide (0 < n)) = true then
      (F_spec_l1Once 3 c0 c c_1).bind fun r_1 =>
      if r_1.1 = true then
        if (s.length + 1) * 24 ≤ 140737488355328 then
          some (.inl ((IntKind.i64.wrap (n - 1)), r_1.2.1, r_1.2.2, (s ++ [[]])))
        else none
      else
        (F_spec_l1Below 3 c0 r_1.2.1 r_1.2.2).bind fun r_2 =>
        (F_spec_l1DrawTerm_all sig (IntKind.i64.wrap (1 + r_2.1)) 3 c0 r_2.2.1 r_2.2.2).bind fun r_3 =>
        if (s.length + 1) * 24 ≤ 140737488355328 then
          some (.inl ((IntKind.i64.wrap (n - 1)), r_3.2.1, r_3.2.2, (s ++ [r_3.1])))
        else none
    else
      Option.map Sum.inr (
        some (s, c, c_1))
noncomputable def F_spec_l2Draw (sig : (List Int)) (c0 : (List Int)) (c1 : Int) (c2 : Int) : Option ((List (List Int)) × Int × Int) :=
  (F_spec_l1Below 4 c0 c1 c2).bind fun r =>
  loopC (F_spec_l2Draw_l1 sig c0) (r.1, r.2.1, r.2.2, [])
theorem c_spec_l2Draw {sig : (List Int)} {c0 : (List Int)} {c1 : Int} {c2 : Int} {rr : ((List (List Int)) × Int × Int)} (h : F_spec_l2Draw sig c0 c1 c2 = some rr) : ACalls Tryz.prog 300 [.ptr 0 0, .d (.agg [slD 1 iD sig])] [(0, .obj 216 [.d (slD 1 (kD .u8) c0), .d (iD c1), .d (iD c2)])] 1 fun xx ss => xx = .d (.agg [slD 1 (slD 1 iD) rr.1]) ∧ ss = [(0, .obj 216 [.d (slD 1 (kD .u8) c0), .d (iD rr.2.1), .d (iD rr.2.2)])] := by
  delta F_spec_l2Draw at h
  refine fn300.callsO (vcm_sound ?_)
  delta mc300
  refine stp ?_
  obtain ⟨r, hr, h⟩ := bind_some h
  refine cRo [(0, 0)] [] (c_spec_l1Below hr) (stp ?_)
  refine m_loopF h [6, 7, 11, 12, 13, 14, 15, 16, 17, 18, 19, 20, 21, 22, 23, 24, 25, 26, 27, 28, 29, 30] (fun pp => [(6, .d (iD pp.1))]) (fun pp => [(0, .obj 216 [.d (slD 1 (kD .u8) c0), .d (iD pp.2.1), .d (iD pp.2.2.1)]), (3, .obj 43 [.d (slD 1 iD sig)]), (4, .obj 48 [.d (.sl 0 (some true) [])]), (5, .obj 48 [.own 1 29 (List.map (slD 1 iD) pp.2.2.2)]), (29, .tok 22 1 pp.2.2.2.length)]) ?_ ?_
  · try dsimp only
    refine (Weak.thawCell 5 0 29 22 1 rfl rfl rfl).trans ?_
    exact wk
  · rintro ⟨n, c, c_1, s⟩ t1 h hb1
    unfold F_spec_l2Draw_l1 at h
    try dsimp only at h
    refine vcm_sound (stp ?_)
    rcases ite_some h with ⟨hc, h⟩ | ⟨hc, h⟩
    · refine stpc hc ?_
      obtain ⟨r_1, hr_1, h⟩ := bind_some h
      refine cRo [(0, 0)] [] (c_spec_l1Once hr_1) (stp ?_)
      rcases ite_some h with ⟨hc, h⟩ | ⟨hc, h⟩
      · refine stpc hc ?_
        obtain ⟨hp, h⟩ := need_some h
        repeat (refine need_i (by omega) ?_; refine stp ?_)
        cases h
        refine ⟨_, rfl, ?_⟩
        refine (Weak.drop 15 (by omega)).trans ?_
        refine (Weak.drop 28 (by omega)).trans ?_
        exact wk
      · refine stpc hc ?_
        obtain ⟨r_2, hr_2, h⟩ := bind_some h
        refine cDo [(0, 0)] [] (c_spec_l1Below hr_2) (stp ?_)
        obtain ⟨r_3, hr_3, h⟩ := bind_some h
        refine cDo [(0, 0)] [] (c_spec_l1DrawTerm_all hr_3) (stp ?_)
        refine drQ_of (by kernel_rfl) ?_
        refine stp ?_
        obtain ⟨hp, h⟩ := need_some h
        repeat (refine need_i (by omega) ?_; refine stp ?_)
        cases h
        refine ⟨_, rfl, ?_⟩
        refine (Weak.drop 15 (by omega)).trans ?_
        refine (Weak.drop 28 (by omega)).trans ?_
        exact wk
    · refine stpc hc ?_
      replace h := inr_some h hb1
      cases h
      exact ⟨[3, 4, 5, 29], by simp, don, don⟩

end Go.Proofs.YtcaljngigbfadaaGreat
