/- Functions of the program that draw inputs, and the equations that they compute; nothing is assumed. -/
import Derived.Test.YtcaljngigbfadaaGreatGe
set_option linter.unusedSimpArgs false
set_option linter.unusedVariables false
set_option linter.unusedSectionVars false
namespace Go.Proofs.YtcaljngigbfadaaGreat
open Go Abx
attribute [local irreducible] vcm vgo vdr vrun vdrun MWp GhostQ BrC BrO BrG BrD BrH AmbO callR callD drQ EnvLe StoLe
set_option maxHeartbeats 4000000
def mc325 : MCode :=
 (.seq (.reg [⟨some 2, .mv (.const (.slice none 0 0)), none⟩]) (.seq (.reg [⟨some 5, .bsl 5 2 1 [], none⟩, ⟨some 3, .mv (.tmp 5), none⟩]) (.seq (.seq (.reg [⟨some 4, .mv (.const (.int .i64 0)), none⟩]) (.block 0 (.loop (.seq (.seq (.reg [⟨some 6, .mv (.tmp 4), none⟩, ⟨some 7, .mv (.tmp 0), none⟩, ⟨some 8, .len (.tmp 7), none⟩, ⟨some 9, .bin .lss (.tmp 6) (.tmp 8), none⟩]) (.cond (.tmp 9) .skip (.exit 0))) (.seq (.block 1 (.seq (.reg [⟨some 12, .mv (.tmp 0), none⟩, ⟨some 13, .mv (.tmp 4), none⟩, ⟨some 14, .ixa 1 (.tmp 12) (.tmp 13), none⟩, ⟨some 15, .load 1 false (.tmp 14), none⟩, ⟨some 16, .bin .lss (.tmp 15) (.const (.int .i64 0)), none⟩, ⟨some 17, .mv (.tmp 16), none⟩, ⟨some 18, .mv (.tmp 3), (some (some 17, true))⟩, ⟨some 19, .mv (.tmp 0), (some (some 17, true))⟩, ⟨some 20, .mv (.tmp 4), (some (some 17, true))⟩, ⟨some 21, .ixa 1 (.tmp 19) (.tmp 20), (some (some 17, true))⟩, ⟨some 22, .load 1 false (.tmp 21), (some (some 17, true))⟩, ⟨some 23, .callf 286 [(.tmp 18), (.tmp 22)], (some (some 17, true))⟩, ⟨some 24, .un .not (.tmp 23), (some (some 17, true))⟩, ⟨some 25, .pick (.tmp 17) (.tmp 24) (.const (.bool false)), none⟩]) (.cond (.tmp 25) (.reg [⟨some 26, .mv (.tmp 3), none⟩, ⟨some 27, .mv (.tmp 0), none⟩, ⟨some 28, .mv (.tmp 4), none⟩, ⟨some 29, .ixa 1 (.tmp 27) (.tmp 28), none⟩, ⟨some 30, .load 1 false (.tmp 29), none⟩, ⟨some 31, .bsl 31 2 1 [(.tmp 30)], none⟩, ⟨some 32, .app 32 2 1 8 (.tmp 26) (.tmp 31), none⟩, ⟨some 3, .mv (.tmp 32), none⟩]) .skip))) (.reg [⟨some 10, .mv (.tmp 4), none⟩, ⟨some 11, .bin .add (.tmp 10) (.const (.int .i64 1)), none⟩, ⟨some 4, .mv (.tmp 11), none⟩])))))) (.seq (.reg [⟨some 33, .mv (.tmp 3), none⟩, ⟨some 2, .mv (.tmp 33), none⟩]) .ret))))
theorem fn325 : MFn Tryz.prog 325 mc325 34 [.tmp 2] :=
  ⟨Tryz.f325, Tryz.func325, by kernel_rfl, Tryz.ntmps325, by kernel_rfl⟩
noncomputable def F_spec_l2Order_l1 (t : (List Int)) : ((List Int) × Int) → Option (((List Int) × Int) ⊕ (List Int))
  | (out, i) =>
    if (decide (i < (t.length : Int))) = true then
      if 0 ≤ i ∧ i < (t.length : Int) then
        if (decide ((t.getD i.toNat default) < 0)) = true then
          if 0 ≤ i ∧ i < (t.length : Int) then
            (F_spec_l1Has out (t.getD i.toNat default)).bind fun r =>
            if r = true then
              some (.inl (out, (IntKind.i64.wrap (i + 1))))
            else
              if 0 ≤ i ∧ i < (t.length : Int) then
                if (out.length + 1) * 8 ≤ 140737488355328 then
                  some (.inl ((out ++ [(t.getD i.toNat default)]), (IntKind.i64.wrap (i + 1))))
                else none
              else none
          else none
        else
          some (.inl (out, (IntKind.i64.wrap (i + 1))))
      else none
    else
      Option.map Sum.inr (
        some out)
noncomputable def F_spec_l2Order (t : (List Int)) : Option (List Int) :=
  loopC (F_spec_l2Order_l1 t) ([], 0)
theorem c_spec_l2Order {t : (List Int)} {rr : (List Int)} (h : F_spec_l2Order t = some rr) : PFun Tryz.prog 325 [(slD 1 iD) t] ((slD 1 iD) rr) := by
  delta F_spec_l2Order at h
  refine fn325.pureL (vcm_sound ?_)
  delta mc325
  refine stp ?_
  refine m_loopF h [3, 4, 6, 7, 8, 9, 10, 11, 12, 13, 14, 15, 16, 17, 18, 19, 20, 21, 22, 23, 24, 25, 26, 27, 28, 29, 30, 31, 32] (fun pp => [(3, .own 1 5 (List.map iD pp.1)), (4, .d (iD pp.2))]) (fun pp => [(5, .tok 2 1 pp.1.length)]) ?_ ?_
  · try dsimp only
    exact wk
  · rintro ⟨out, i⟩ t1 h hb1
    unfold F_spec_l2Order_l1 at h
    try dsimp only at h
    refine vcm_sound (stp ?_)
    rcases ite_some h with ⟨hc, h⟩ | ⟨hc, h⟩
    · refine stpc hc ?_
      obtain ⟨hp, h⟩ := need_some h
      repeat (refine need_i (by omega) ?_; refine stp ?_)
      rcases ite_some h with ⟨hc, h⟩ | ⟨hc, h⟩
      · refine stpc hc ?_
        obtain ⟨hp, h⟩ := need_some h
        repeat (refine need_i (by omega) ?_; refine stp ?_)
        obtain ⟨r, hr, h⟩ := bind_some h
        refine cR (c_spec_l1Has hr) (stp ?_)
        rcases ite_some h with ⟨hc, h⟩ | ⟨hc, h⟩
        · refine stpc hc ?_
          cases h
          refine ⟨_, rfl, ?_⟩
          exact wk
        · refine stpc hc ?_
          obtain ⟨hp, h⟩ := need_some h
          repeat (refine need_i (by omega) ?_; refine stp ?_)
          obtain ⟨hp, h⟩ := need_some h
          repeat (refine need_i (by omega) ?_; refine stp ?_)
          cases h
          refine ⟨_, rfl, ?_⟩
          refine (Weak.drop 31 (by omega)).trans ?_
          exact wk
      · refine stpc hc ?_
        cases h
        refine ⟨_, rfl, ?_⟩
        exact wk
    · refine stpc hc ?_
      replace h := inr_some h hb1
      cases h
      exact don

def mc298_spec_l1DrawTerm_s1 : MCode :=
  (.seq (.reg [⟨(some 5), .box 5 43 (.tmp 1), none⟩,
    ⟨(some 8), .mv (.const (.slice none 0 0)), none⟩])
  (.seq (.seq (.reg [⟨(some 13), .mv (.tmp 2), none⟩,
    ⟨(some 14), .bin .leq (.tmp 13) (.const (.int .i64 1)), none⟩,
    ⟨(some 15), .mv (.tmp 14), none⟩,
    ⟨(some 16), .mv (.tmp 0), (some (some 15, false))⟩,
    ⟨(some 17), .callf 103 [(.tmp 16), (.const (.int .i64 4))], (some (some 15, false))⟩,
    ⟨(some 18), .pick (.tmp 15) (.const (.bool true)) (.tmp 17), none⟩])
  (.cond (.tmp 18)
    (.seq (.seq (.reg [⟨(some 19), .mv (.tmp 3), none⟩,
      ⟨(some 20), .bin .gtr (.tmp 19) (.const (.int .i64 0)), none⟩,
      ⟨(some 21), .mv (.tmp 20), none⟩,
      ⟨(some 22), .mv (.tmp 0), (some (some 21, true))⟩,
      ⟨(some 23), .callf 103 [(.tmp 22), (.const (.int .i64 2))], (some (some 21, true))⟩,
      ⟨(some 24), .pick (.tmp 21) (.tmp 23) (.const (.bool false)), none⟩])
    (.cond (.tmp 24)
      (.seq (.reg [⟨(some 25), .mv (.tmp 0), none⟩,
        ⟨(some 26), .mv (.tmp 3), none⟩,
        ⟨(some 27), .callf 105 [(.tmp 25), (.tmp 26)], none⟩,
        ⟨(some 28), .bin .sub (.const (.int .i64 (-1))) (.tmp 27), none⟩,
        ⟨(some 29), .bslg 29 2 1 [(.tmp 28)], none⟩,
        ⟨(some 8), .mv (.tmp 29), none⟩])
      .ret)
      .skip))
    (.seq (.seq (.reg [⟨(some 30), .fad 0 (.tmp 5), none⟩,
      ⟨(some 31), .load 1 false (.tmp 30), none⟩,
      ⟨(some 32), .len (.tmp 31), none⟩,
      ⟨(some 33), .bin .sub (.tmp 32) (.const (.int .i64 1)), none⟩,
      ⟨(some 9), .mv (.tmp 33), none⟩])
    (.block 0
      (.loop
        (.seq (.seq (.reg [⟨(some 34), .mv (.tmp 9), none⟩,
          ⟨(some 35), .bin .geq (.tmp 34) (.const (.int .i64 0)), none⟩])
        (.cond (.tmp 35)
          .skip
          (.exit 0)))
        (.seq (.block 1
          (.seq (.reg [⟨(some 38), .fad 0 (.tmp 5), none⟩,
            ⟨(some 39), .load 1 false (.tmp 38), none⟩,
            ⟨(some 40), .mv (.tmp 9), none⟩,
            ⟨(some 41), .ixa 1 (.tmp 39) (.tmp 40), none⟩,
            ⟨(some 42), .load 1 false (.tmp 41), none⟩,
            ⟨(some 43), .bin .eql (.tmp 42) (.const (.int .i64 0)), none⟩])
          (.cond (.tmp 43)
            (.seq (.reg [⟨(some 44), .mv (.tmp 9), none⟩,
              ⟨(some 45), .bslg 45 2 1 [(.tmp 44)], none⟩,
              ⟨(some 8), .mv (.tmp 45), none⟩])
            .ret)
            .skip)))
        (.reg [⟨(some 36), .mv (.tmp 9), none⟩,
          ⟨(some 37), .bin .sub (.tmp 36) (.const (.int .i64 1)), none⟩,
          ⟨(some 9), .mv (.tmp 37), none⟩]))))))
    (.seq (.reg [⟨(some 46), .bslg 46 2 1 [(.const (.int .i64 (-1)))], none⟩,
      ⟨(some 8), .mv (.tmp 46), none⟩])
    .ret)))
    .skip))
  (.seq (.reg [⟨(some 47), .mv (.tmp 0), none⟩,
    ⟨(some 48), .fad 0 (.tmp 5), none⟩,
    ⟨(some 49), .load 1 false (.tmp 48), none⟩,
    ⟨(some 50), .len (.tmp 49), none⟩,
    ⟨(some 51), .callf 105 [(.tmp 47), (.tmp 50)], none⟩,
    ⟨(some 10), .mv (.tmp 51), none⟩])
  (.seq (.reg [⟨(some 52), .mv (.tmp 10), none⟩,
    ⟨(some 53), .bslg 53 2 1 [(.tmp 52)], none⟩,
    ⟨(some 11), .mv (.tmp 53), none⟩])
  (.seq (.seq (.reg [⟨(some 54), .fad 0 (.tmp 5), none⟩,
    ⟨(some 55), .load 1 false (.tmp 54), none⟩,
    ⟨(some 56), .mv (.tmp 10), none⟩,
    ⟨(some 57), .ixa 1 (.tmp 55) (.tmp 56), none⟩,
    ⟨(some 58), .load 1 false (.tmp 57), none⟩,
    ⟨(some 12), .mv (.tmp 58), none⟩])
  (.block 2
    (.loop
      (.seq (.seq (.reg [⟨(some 59), .mv (.tmp 12), none⟩,
        ⟨(some 60), .bin .gtr (.tmp 59) (.const (.int .i64 0)), none⟩])
      (.cond (.tmp 60)
        .skip
        (.exit 2)))
      (.seq (.block 3
        (.reg [⟨(some 63), .mv (.tmp 11), none⟩,
          ⟨(some 64), .mv (.tmp 0), none⟩,
          ⟨(some 65), .load 1 true (.tmp 5), none⟩,
          ⟨(some 66), .mv (.tmp 2), none⟩,
          ⟨(some 67), .bin .sub (.tmp 66) (.const (.int .i64 1)), none⟩,
          ⟨(some 68), .mv (.tmp 3), none⟩,
          ⟨(some 69), .callf 298 [(.tmp 64), (.tmp 65), (.tmp 67), (.tmp 68)], none⟩,
          ⟨(some 70), .app 70 2 1 8 (.tmp 63) (.tmp 69), none⟩,
          ⟨(some 11), .mv (.tmp 70), none⟩]))
      (.reg [⟨(some 61), .mv (.tmp 12), none⟩,
        ⟨(some 62), .bin .sub (.tmp 61) (.const (.int .i64 1)), none⟩,
        ⟨(some 12), .mv (.tmp 62), none⟩]))))))
  (.seq (.reg [⟨(some 71), .mv (.tmp 11), none⟩,
    ⟨(some 8), .mv (.tmp 71), none⟩])
  .ret))))))
theorem fn298_spec_l1DrawTerm_s1 : MFn Tryz.prog 298 mc298_spec_l1DrawTerm_s1 72 [.tmp 8] :=
  ⟨Tryz.f298, Tryz.func298, by kernel_rfl, Tryz.ntmps298, by kernel_rfl⟩
noncomputable def F_spec_l1DrawTerm_s1_l1 (sig : (List Int)) (r : (Bool × Int × Int)) : Int → Option (Int ⊕ ((List Int) × Int × Int))
  | f =>
    if (decide (0 ≤ f)) = true then
      if 0 ≤ f ∧ f < (sig.length : Int) then
        if ((sig.getD f.toNat default) == 0) = true then
          Option.map Sum.inr (
            some ([f], r.2.1, r.2.2))
        else
          some (.inl (IntKind.i64.wrap (f - 1)))
      else none
    else
      Option.map Sum.inr (
        some ([(-1)], r.2.1, r.2.2))
noncomputable def F_spec_l1DrawTerm_s1_l2 (sig : (List Int)) (c1 : Int) (c2 : Int) : Int → Option (Int ⊕ ((List Int) × Int × Int))
  | f_1 =>
    if (decide (0 ≤ f_1)) = true then
      if 0 ≤ f_1 ∧ f_1 < (sig.length : Int) then
        if ((sig.getD f_1.toNat default) == 0) = true then
          Option.map Sum.inr (
            some ([f_1], c1, c2))
        else
          some (.inl (IntKind.i64.wrap (f_1 - 1)))
      else none
    else
      Option.map Sum.inr (
        some ([(-1)], c1, c2))
noncomputable def F_spec_l1DrawTerm_s1_l3 (sig : (List Int)) (r_3 : (Bool × Int × Int)) : Int → Option (Int ⊕ ((List Int) × Int × Int))
  | f_2 =>
    if (decide (0 ≤ f_2)) = true then
      if 0 ≤ f_2 ∧ f_2 < (sig.length : Int) then
        if ((sig.getD f_2.toNat default) == 0) = true then
          Option.map Sum.inr (
            some ([f_2], r_3.2.1, r_3.2.2))
        else
          some (.inl (IntKind.i64.wrap (f_2 - 1)))
      else none
    else
      Option.map Sum.inr (
        some ([(-1)], r_3.2.1, r_3.2.2))
noncomputable def F_spec_l1DrawTerm_s1_l4 (sig : (List Int)) (r_2 : (Bool × Int × Int)) : Int → Option (Int ⊕ ((List Int) × Int × Int))
  | f_3 =>
    if (decide (0 ≤ f_3)) = true then
      if 0 ≤ f_3 ∧ f_3 < (sig.length : Int) then
        if ((sig.getD f_3.toNat default) == 0) = true then
          Option.map Sum.inr (
            some ([f_3], r_2.2.1, r_2.2.2))
        else
          some (.inl (IntKind.i64.wrap (f_3 - 1)))
      else none
    else
      Option.map Sum.inr (
        some ([(-1)], r_2.2.1, r_2.2.2))
noncomputable def F_spec_l1DrawTerm_s1_l5 (sig : (List Int)) (depth : Int) (vars : Int) (c0 : (List Int)) : (Int × Int × Int × (List Int)) → Option ((Int × Int × Int × (List Int)) ⊕ ((List Int) × Int × Int))
  | (k, c, c_1, g53) =>
    if (decide (0 < k)) = true then
      (F_spec_l1DrawTerm_all sig (IntKind.i64.wrap (depth - 1)) vars c0 c c_1).bind fun r_6 =>
      if (g53.length + r_6.1.length) * 8 ≤ 140737488355328 then
        some (.inl ((IntKind.i64.wrap (k - 1)), r_6.2.1, r_6.2.2, (g53 ++ r_6.1)))
      else none
    else
      Option.map Sum.inr (
        some (g53, c, c_1))
noncomputable def F_spec_l1DrawTerm_s1 : Nat → (List Int) → Int → Int → (List Int) → Int → Int → Option ((List Int) × Int × Int)
  | 0, _, _, _, _, _, _ => none
  | fu + 1, sig, depth, vars, c0, c1, c2 =>
    if (decide (depth ≤ 1)) = true then
      if (decide (0 < vars)) = true then
        (F_spec_l1Once 2 c0 c1 c2).bind fun r =>
        if r.1 = true then
          (F_spec_l1Below vars c0 r.2.1 r.2.2).bind fun r_1 =>
          some ([(IntKind.i64.wrap ((-1) - r_1.1))], r_1.2.1, r_1.2.2)
        else
          loopC (F_spec_l1DrawTerm_s1_l1 sig r) (IntKind.i64.wrap ((sig.length : Int) - 1))
      else
        loopC (F_spec_l1DrawTerm_s1_l2 sig c1 c2) (IntKind.i64.wrap ((sig.length : Int) - 1))
    else
      (F_spec_l1Once 4 c0 c1 c2).bind fun r_2 =>
      if r_2.1 = true then
        if (decide (0 < vars)) = true then
          (F_spec_l1Once 2 c0 r_2.2.1 r_2.2.2).bind fun r_3 =>
          if r_3.1 = true then
            (F_spec_l1Below vars c0 r_3.2.1 r_3.2.2).bind fun r_4 =>
            some ([(IntKind.i64.wrap ((-1) - r_4.1))], r_4.2.1, r_4.2.2)
          else
            loopC (F_spec_l1DrawTerm_s1_l3 sig r_3) (IntKind.i64.wrap ((sig.length : Int) - 1))
        else
          loopC (F_spec_l1DrawTerm_s1_l4 sig r_2) (IntKind.i64.wrap ((sig.length : Int) - 1))
      else
        (F_spec_l1Below (sig.length : Int) c0 r_2.2.1 r_2.2.2).bind fun r_5 =>
        if 0 ≤ r_5.1 ∧ r_5.1 < (sig.length : Int) then
          loopC (F_spec_l1DrawTerm_s1_l5 sig depth vars c0) ((sig.getD r_5.1.toNat default), r_5.2.1, r_5.2.2, [r_5.1])
        else none
noncomputable def F_spec_l1DrawTerm_s1_all (sig : (List Int)) (depth : Int) (vars : Int) (c0 : (List Int)) (c1 : Int) (c2 : Int) : Option ((List Int) × Int × Int) := limO fun fu => F_spec_l1DrawTerm_s1 fu sig depth vars c0 c1 c2
theorem c_spec_l1DrawTerm_s1 : ∀ {fu : Nat} {sig : (List Int)} {depth : Int} {vars : Int} {c0 : (List Int)} {c1 : Int} {c2 : Int} {rr : ((List Int) × Int × Int)} (h : F_spec_l1DrawTerm_s1 fu sig depth vars c0 c1 c2 = some rr), ACalls Tryz.prog 298 [.ptr 0 0, .d (.agg [slD 1 iD sig]), .d (iD depth), .d (iD vars)] [(0, .obj 216 [.d (slD 1 (kD .u8) c0), .d (iD c1), .d (iD c2)])] 1 fun xx ss => xx = .gow 1 900000 rr.1.length ∧ ss = [(0, .obj 216 [.d (slD 1 (kD .u8) c0), .d (iD rr.2.1), .d (iD rr.2.2)]), (900000, .gro 2 1 rr.1.length (groL iD rr.1))]
  | 0, _, _, _, _, _, _, _, h => by cases h
  | fu + 1, sig, depth, vars, c0, c1, c2, rr, h => by
    have ih := @c_spec_l1DrawTerm_s1 fu
    unfold F_spec_l1DrawTerm_s1 at h
    refine fn298_spec_l1DrawTerm_s1.callsD (vcm_sound ?_)
    delta mc298_spec_l1DrawTerm_s1
    refine stp ?_
    rcases ite_some h with ⟨hc, h⟩ | ⟨hc, h⟩
    · refine stpc hc ?_
      rcases ite_some h with ⟨hc, h⟩ | ⟨hc, h⟩
      · refine stpc hc ?_
        obtain ⟨r, hr, h⟩ := bind_some h
        refine cRo [(0, 0)] [] (c_spec_l1Once hr) (stp ?_)
        rcases ite_some h with ⟨hc, h⟩ | ⟨hc, h⟩
        · refine stpc hc ?_
          obtain ⟨r_1, hr_1, h⟩ := bind_some h
          refine cRo [(0, 0)] [] (c_spec_l1Below hr_1) (stp ?_)
          cases h
          exact Done.trans ((Done.trans (Done.move 29 900000 (ob := .gro 2 1 1 (groL iD [(IntKind.i64.wrap ((-1) - r_1.1))])) (by omega) (by omega) (by omega) rfl (by first | rfl | (simp; done))) (Done.drops [5] (by simp)))) (Done.told frd don)
        · refine stpc hc ?_
          refine m_loopF h [8, 9, 34, 35, 36, 37, 38, 39, 40, 41, 42, 43, 44, 45] (fun pp => [(9, .d (iD pp))]) (fun pp => [(0, .obj 216 [.d (slD 1 (kD .u8) c0), .d (iD r.2.1), .d (iD r.2.2)]), (5, .obj 43 [.d (slD 1 iD sig)])]) ?_ ?_
          · try dsimp only
            exact wk
          · rintro f t1 h hb1
            unfold F_spec_l1DrawTerm_s1_l1 at h
            try dsimp only at h
            refine vcm_sound (stp ?_)
            rcases ite_some h with ⟨hc, h⟩ | ⟨hc, h⟩
            · refine stpc hc ?_
              obtain ⟨hp, h⟩ := need_some h
              repeat (refine need_i (by omega) ?_; refine stp ?_)
              rcases ite_some h with ⟨hc, h⟩ | ⟨hc, h⟩
              · refine stpc hc ?_
                replace h := inr_some h hb1
                cases h
                exact Done.trans ((Done.trans (Done.move 45 900000 (ob := .gro 2 1 1 (groL iD [f])) (by omega) (by omega) (by omega) rfl (by first | rfl | (simp; done))) (Done.drops [5] (by simp)))) (Done.told frd don)
              · refine stpc hc ?_
                cases h
                refine ⟨_, rfl, ?_⟩
                exact wk
            · refine stpc hc ?_
              replace h := inr_some h hb1
              cases h
              exact Done.trans ((Done.trans (Done.move 46 900000 (ob := .gro 2 1 1 (groL iD [(-1)])) (by omega) (by omega) (by omega) rfl (by first | rfl | (simp; done))) (Done.drops [5] (by simp)))) (Done.told frd don)
      · refine stpc hc ?_
        refine m_loopF h [8, 9, 34, 35, 36, 37, 38, 39, 40, 41, 42, 43, 44, 45] (fun pp => [(9, .d (iD pp))]) (fun pp => [(0, .obj 216 [.d (slD 1 (kD .u8) c0), .d (iD c1), .d (iD c2)]), (5, .obj 43 [.d (slD 1 iD sig)])]) ?_ ?_
        · try dsimp only
          exact wk
        · rintro f_1 t1 h hb1
          unfold F_spec_l1DrawTerm_s1_l2 at h
          try dsimp only at h
          refine vcm_sound (stp ?_)
          rcases ite_some h with ⟨hc, h⟩ | ⟨hc, h⟩
          · refine stpc hc ?_
            obtain ⟨hp, h⟩ := need_some h
            repeat (refine need_i (by omega) ?_; refine stp ?_)
            rcases ite_some h with ⟨hc, h⟩ | ⟨hc, h⟩
            · refine stpc hc ?_
              replace h := inr_some h hb1
              cases h
              exact Done.trans ((Done.trans (Done.move 45 900000 (ob := .gro 2 1 1 (groL iD [f_1])) (by omega) (by omega) (by omega) rfl (by first | rfl | (simp; done))) (Done.drops [5] (by simp)))) (Done.told frd don)
            · refine stpc hc ?_
              cases h
              refine ⟨_, rfl, ?_⟩
              exact wk
          · refine stpc hc ?_
            replace h := inr_some h hb1
            cases h
            exact Done.trans ((Done.trans (Done.move 46 900000 (ob := .gro 2 1 1 (groL iD [(-1)])) (by omega) (by omega) (by omega) rfl (by first | rfl | (simp; done))) (Done.drops [5] (by simp)))) (Done.told frd don)
    · refine stpc hc ?_
      obtain ⟨r_2, hr_2, h⟩ := bind_some h
      refine cRo [(0, 0)] [] (c_spec_l1Once hr_2) (stp ?_)
      rcases ite_some h with ⟨hc, h⟩ | ⟨hc, h⟩
      · refine stpc hc ?_
        rcases ite_some h with ⟨hc, h⟩ | ⟨hc, h⟩
        · refine stpc hc ?_
          obtain ⟨r_3, hr_3, h⟩ := bind_some h
          refine cRo [(0, 0)] [] (c_spec_l1Once hr_3) (stp ?_)
          rcases ite_some h with ⟨hc, h⟩ | ⟨hc, h⟩
          · refine stpc hc ?_
            obtain ⟨r_4, hr_4, h⟩ := bind_some h
            refine cRo [(0, 0)] [] (c_spec_l1Below hr_4) (stp ?_)
            cases h
            exact Done.trans ((Done.trans (Done.move 29 900000 (ob := .gro 2 1 1 (groL iD [(IntKind.i64.wrap ((-1) - r_4.1))])) (by omega) (by omega) (by omega) rfl (by first | rfl | (simp; done))) (Done.drops [5] (by simp)))) (Done.told frd don)
          · refine stpc hc ?_
            refine m_loopF h [8, 9, 34, 35, 36, 37, 38, 39, 40, 41, 42, 43, 44, 45] (fun pp => [(9, .d (iD pp))]) (fun pp => [(0, .obj 216 [.d (slD 1 (kD .u8) c0), .d (iD r_3.2.1), .d (iD r_3.2.2)]), (5, .obj 43 [.d (slD 1 iD sig)])]) ?_ ?_
            · try dsimp only
              exact wk
            · rintro f_2 t1 h hb1
              unfold F_spec_l1DrawTerm_s1_l3 at h
              try dsimp only at h
              refine vcm_sound (stp ?_)
              rcases ite_some h with ⟨hc, h⟩ | ⟨hc, h⟩
              · refine stpc hc ?_
                obtain ⟨hp, h⟩ := need_some h
                repeat (refine need_i (by omega) ?_; refine stp ?_)
                rcases ite_some h with ⟨hc, h⟩ | ⟨hc, h⟩
                · refine stpc hc ?_
                  replace h := inr_some h hb1
                  cases h
                  exact Done.trans ((Done.trans (Done.move 45 900000 (ob := .gro 2 1 1 (groL iD [f_2])) (by omega) (by omega) (by omega) rfl (by first | rfl | (simp; done))) (Done.drops [5] (by simp)))) (Done.told frd don)
                · refine stpc hc ?_
                  cases h
                  refine ⟨_, rfl, ?_⟩
                  exact wk
              · refine stpc hc ?_
                replace h := inr_some h hb1
                cases h
                exact Done.trans ((Done.trans (Done.move 46 900000 (ob := .gro 2 1 1 (groL iD [(-1)])) (by omega) (by omega) (by omega) rfl (by first | rfl | (simp; done))) (Done.drops [5] (by simp)))) (Done.told frd don)
        · refine stpc hc ?_
          refine m_loopF h [8, 9, 34, 35, 36, 37, 38, 39, 40, 41, 42, 43, 44, 45] (fun pp => [(9, .d (iD pp))]) (fun pp => [(0, .obj 216 [.d (slD 1 (kD .u8) c0), .d (iD r_2.2.1), .d (iD r_2.2.2)]), (5, .obj 43 [.d (slD 1 iD sig)])]) ?_ ?_
          · try dsimp only
            exact wk
          · rintro f_3 t1 h hb1
            unfold F_spec_l1DrawTerm_s1_l4 at h
            try dsimp only at h
            refine vcm_sound (stp ?_)
            rcases ite_some h with ⟨hc, h⟩ | ⟨hc, h⟩
            · refine stpc hc ?_
              obtain ⟨hp, h⟩ := need_some h
              repeat (refine need_i (by omega) ?_; refine stp ?_)
              rcases ite_some h with ⟨hc, h⟩ | ⟨hc, h⟩
              · refine stpc hc ?_
                replace h := inr_some h hb1
                cases h
                exact Done.trans ((Done.trans (Done.move 45 900000 (ob := .gro 2 1 1 (groL iD [f_3])) (by omega) (by omega) (by omega) rfl (by first | rfl | (simp; done))) (Done.drops [5] (by simp)))) (Done.told frd don)
              · refine stpc hc ?_
                cases h
                refine ⟨_, rfl, ?_⟩
                exact wk
            · refine stpc hc ?_
              replace h := inr_some h hb1
              cases h
              exact Done.trans ((Done.trans (Done.move 46 900000 (ob := .gro 2 1 1 (groL iD [(-1)])) (by omega) (by omega) (by omega) rfl (by first | rfl | (simp; done))) (Done.drops [5] (by simp)))) (Done.told frd don)
      · refine stpc hc ?_
        obtain ⟨r_5, hr_5, h⟩ := bind_some h
        refine cRo [(0, 0)] [] (c_spec_l1Below hr_5) (stp ?_)
        obtain ⟨hp, h⟩ := need_some h
        repeat (refine need_i (by omega) ?_; refine stp ?_)
        refine m_loopF h [11, 12, 59, 60, 61, 62, 63, 64, 65, 66, 67, 68, 69, 70] (fun pp => [(11, .gow 1 53 pp.2.2.2.length), (12, .d (iD pp.1))]) (fun pp => [(0, .obj 216 [.d (slD 1 (kD .u8) c0), .d (iD pp.2.1), .d (iD pp.2.2.1)]), (5, .obj 43 [.d (slD 1 iD sig)]), (53, .gro 2 1 pp.2.2.2.length (groL iD pp.2.2.2))]) ?_ ?_
        · try dsimp only
          exact wk
        · rintro ⟨k, c, c_1, g53⟩ t1 h hb1
          unfold F_spec_l1DrawTerm_s1_l5 at h
          try dsimp only at h
          refine vcm_sound (stp ?_)
          rcases ite_some h with ⟨hc, h⟩ | ⟨hc, h⟩
          · refine stpc hc ?_
            obtain ⟨r_6, hr_6, h⟩ := bind_some h
            refine cRo [(0, 0)] [] (c_spec_l1DrawTerm_all hr_6) (stp ?_)
            obtain ⟨hp, h⟩ := need_some h
            repeat (refine need_i (by omega) ?_; refine stp ?_)
            cases h
            refine ⟨_, rfl, ?_⟩
            exact wk
          · refine stpc hc ?_
            replace h := inr_some h hb1
            cases h
            exact Done.trans ((Done.trans (Done.move 53 900000 (ob := .gro 2 1 g53.length (groL iD g53)) (by omega) (by omega) (by omega) rfl (by first | rfl | (simp; done))) (Done.drops [5] (by simp)))) (Done.told frd don)
theorem c_spec_l1DrawTerm_s1_all {sig : (List Int)} {depth : Int} {vars : Int} {c0 : (List Int)} {c1 : Int} {c2 : Int} {rr : ((List Int) × Int × Int)} (h : F_spec_l1DrawTerm_s1_all sig depth vars c0 c1 c2 = some rr) : ACalls Tryz.prog 298 [.ptr 0 0, .d (.agg [slD 1 iD sig]), .d (iD depth), .d (iD vars)] [(0, .obj 216 [.d (slD 1 (kD .u8) c0), .d (iD c1), .d (iD c2)])] 1 fun xx ss => xx = .gow 1 900000 rr.1.length ∧ ss = [(0, .obj 216 [.d (slD 1 (kD .u8) c0), .d (iD rr.2.1), .d (iD rr.2.2)]), (900000, .gro 2 1 rr.1.length (groL iD rr.1))] := c_spec_l1DrawTerm_s1 (limO_some h).choose_spec

end Go.Proofs.YtcaljngigbfadaaGreat
namespace Go.Proofs.YtcaljngigbfadaaGreat
open Go Abx
attribute [local irreducible] vcm vgo vdr vrun vdrun MWp GhostQ BrC BrO BrG BrD BrH AmbO callR callD drQ EnvLe StoLe
set_option maxHeartbeats 4000000
def mc297 : MCode :=
 (.seq (.reg [⟨some 3, .box 3 43 (.tmp 1), none⟩, ⟨some 4, .alloc 4 146 [.sl 0 (some true) [], .sl 0 (some true) []], none⟩]) (.seq (.draw [⟨some 11, .mv (.tmp 0), none⟩, ⟨some 12, .load 1 true (.tmp 3), none⟩, ⟨some 13, .mv (.tmp 0), none⟩, ⟨some 14, .callf 105 [(.tmp 13), (.const (.int .i64 2))], none⟩, ⟨some 15, .bin .add (.const (.int .i64 2)) (.tmp 14), none⟩, ⟨some 16, .callf 298 [(.tmp 11), (.tmp 12), (.tmp 15), (.const (.int .i64 2))], none⟩, ⟨some 5, .mv (.tmp 16), none⟩] [[], [], [], [2], [3], [0, 1, 4, 3], [5, 5, 0, 1, 2, 3, 4, 5]]) (.seq (.seq (.reg [⟨some 17, .mv (.tmp 5), none⟩, ⟨some 18, .ixa 1 (.tmp 17) (.const (.int .i64 0)), none⟩, ⟨some 19, .load 1 false (.tmp 18), none⟩, ⟨some 20, .bin .lss (.tmp 19) (.const (.int .i64 0)), none⟩]) (.cond (.tmp 20) (.seq (.reg [⟨some 21, .mv (.tmp 0), none⟩, ⟨some 22, .fad 0 (.tmp 3), none⟩, ⟨some 23, .load 1 false (.tmp 22), none⟩, ⟨some 24, .len (.tmp 23), none⟩, ⟨some 25, .callf 105 [(.tmp 21), (.tmp 24)], none⟩, ⟨some 6, .mv (.tmp 25), none⟩]) (.seq (.reg [⟨some 26, .mv (.tmp 6), none⟩, ⟨some 27, .bsl 27 2 1 [(.tmp 26)], none⟩, ⟨some 5, .mv (.tmp 27), none⟩]) (.seq (.reg [⟨some 28, .fad 0 (.tmp 3), none⟩, ⟨some 29, .load 1 false (.tmp 28), none⟩, ⟨some 30, .mv (.tmp 6), none⟩, ⟨some 31, .ixa 1 (.tmp 29) (.tmp 30), none⟩, ⟨some 32, .load 1 false (.tmp 31), none⟩, ⟨some 7, .mv (.tmp 32), none⟩]) (.block 0 (.loop (.seq (.seq (.reg [⟨some 33, .mv (.tmp 7), none⟩, ⟨some 34, .bin .gtr (.tmp 33) (.const (.int .i64 0)), none⟩]) (.cond (.tmp 34) .skip (.exit 0))) (.seq (.block 1 (.reg [⟨some 37, .mv (.tmp 5), none⟩, ⟨some 38, .mv (.tmp 0), none⟩, ⟨some 39, .load 1 true (.tmp 3), none⟩, ⟨some 40, .callf 298 [(.tmp 38), (.tmp 39), (.const (.int .i64 1)), (.const (.int .i64 2))], none⟩, ⟨some 41, .app 41 2 1 8 (.tmp 37) (.tmp 40), none⟩, ⟨some 5, .mv (.tmp 41), none⟩])) (.reg [⟨some 35, .mv (.tmp 7), none⟩, ⟨some 36, .bin .sub (.tmp 35) (.const (.int .i64 1)), none⟩, ⟨some 7, .mv (.tmp 36), none⟩])))))))) .skip)) (.seq (.draw [⟨some 42, .mv (.tmp 0), none⟩, ⟨some 43, .load 1 true (.tmp 3), none⟩, ⟨some 44, .mv (.tmp 0), none⟩, ⟨some 45, .callf 105 [(.tmp 44), (.const (.int .i64 3))], none⟩, ⟨some 46, .bin .add (.const (.int .i64 1)) (.tmp 45), none⟩, ⟨some 47, .callf 298 [(.tmp 42), (.tmp 43), (.tmp 46), (.const (.int .i64 2))], none⟩, ⟨some 8, .mv (.tmp 47), none⟩] [[], [], [], [2], [3], [0, 1, 4, 3], [5, 5, 0, 1, 2, 3, 4, 5]]) (.seq (.seq (.reg [⟨some 9, .mv (.const (.int .i64 0)), none⟩]) (.block 2 (.loop (.seq (.seq (.reg [⟨some 48, .mv (.tmp 9), none⟩, ⟨some 49, .mv (.tmp 8), none⟩, ⟨some 50, .len (.tmp 49), none⟩, ⟨some 51, .bin .lss (.tmp 48) (.tmp 50), none⟩]) (.cond (.tmp 51) .skip (.exit 2))) (.seq (.block 3 (.seq (.reg [⟨some 54, .mv (.tmp 8), none⟩, ⟨some 55, .mv (.tmp 9), none⟩, ⟨some 56, .ixa 1 (.tmp 54) (.tmp 55), none⟩, ⟨some 57, .load 1 false (.tmp 56), none⟩, ⟨some 58, .bin .lss (.tmp 57) (.const (.int .i64 0)), none⟩, ⟨some 59, .mv (.tmp 58), none⟩, ⟨some 60, .mv (.tmp 5), (some (some 59, true))⟩, ⟨some 61, .mv (.tmp 8), (some (some 59, true))⟩, ⟨some 62, .mv (.tmp 9), (some (some 59, true))⟩, ⟨some 63, .ixa 1 (.tmp 61) (.tmp 62), (some (some 59, true))⟩, ⟨some 64, .load 1 false (.tmp 63), (some (some 59, true))⟩, ⟨some 65, .callf 286 [(.tmp 60), (.tmp 64)], (some (some 59, true))⟩, ⟨some 66, .un .not (.tmp 65), (some (some 59, true))⟩, ⟨some 67, .pick (.tmp 59) (.tmp 66) (.const (.bool false)), none⟩]) (.cond (.tmp 67) (.seq (.reg [⟨some 68, .mv (.tmp 5), none⟩, ⟨some 69, .callf 325 [(.tmp 68)], none⟩, ⟨some 10, .mv (.tmp 69), none⟩]) (.seq (.seq (.reg [⟨some 70, .mv (.tmp 10), none⟩, ⟨some 71, .len (.tmp 70), none⟩, ⟨some 72, .bin .eql (.tmp 71) (.const (.int .i64 0)), none⟩]) (.cond (.tmp 72) (.seq (.reg [⟨some 73, .mv (.tmp 5), none⟩, ⟨some 74, .load 1 true (.tmp 3), none⟩, ⟨some 75, .mv (.tmp 5), none⟩, ⟨some 76, .mv (.tmp 5), none⟩, ⟨some 77, .len (.tmp 76), none⟩, ⟨some 78, .bin .sub (.tmp 77) (.const (.int .i64 1)), none⟩,
 ⟨some 79, .callf 246 [(.tmp 74), (.tmp 75), (.tmp 78)], none⟩, ⟨some 80, .build [.sl 0 (some true) [], .sl 0 (some true) []] [(0, 1, (.tmp 73)), (1, 1, (.tmp 79))], none⟩, ⟨none, .store 2 (.tmp 4) (.tmp 80), none⟩]) .ret) .skip)) (.reg [⟨some 81, .mv (.tmp 8), none⟩, ⟨some 82, .mv (.tmp 9), none⟩, ⟨some 83, .mv (.tmp 10), none⟩, ⟨some 84, .ixa 1 (.tmp 83) (.const (.int .i64 0)), none⟩, ⟨some 85, .load 1 false (.tmp 84), none⟩, ⟨some 86, .ixa 1 (.tmp 81) (.tmp 82), none⟩, ⟨none, .store 1 (.tmp 86) (.tmp 85), none⟩]))) .skip))) (.reg [⟨some 52, .mv (.tmp 9), none⟩, ⟨some 53, .bin .add (.tmp 52) (.const (.int .i64 1)), none⟩, ⟨some 9, .mv (.tmp 53), none⟩])))))) (.seq (.reg [⟨some 87, .mv (.tmp 5), none⟩, ⟨some 88, .mv (.tmp 8), none⟩, ⟨some 89, .build [.sl 0 (some true) [], .sl 0 (some true) []] [(0, 1, (.tmp 87)), (1, 1, (.tmp 88))], none⟩, ⟨none, .store 2 (.tmp 4) (.tmp 89), none⟩]) .ret))))))
theorem fn297 : MFn Tryz.prog 297 mc297 90 [.cell 4 2 true] :=
  ⟨Tryz.f297, Tryz.func297, by kernel_rfl, Tryz.ntmps297, by kernel_rfl⟩
noncomputable def F_spec_l6DrawRule_l2 (sig : (List Int)) (l : (List Int)) (r_5 : ((List Int) × Int × Int)) : (Int × (List Int)) → Option ((Int × (List Int)) ⊕ (((List Int) × (List Int)) × Int × Int))
  | (i, g47) =>
    if (decide (i < (g47.length : Int))) = true then
      if 0 ≤ i ∧ i < (g47.length : Int) then
        if (decide ((g47.getD i.toNat default) < 0)) = true then
          if 0 ≤ i ∧ i < (g47.length : Int) then
            (F_spec_l1Has l (g47.getD i.toNat default)).bind fun r_6 =>
            if r_6 = true then
              some (.inl ((IntKind.i64.wrap (i + 1)), g47))
            else
              (F_spec_l2Order l).bind fun r_7 =>
              if ((r_7.length : Int) == 0) = true then
                (F_spec_l1Sub sig l (IntKind.i64.wrap ((l.length : Int) - 1))).bind fun r_8 =>
                Option.map Sum.inr (
                  some ((l, r_8), r_5.2.1, r_5.2.2))
              else
                if 0 ≤ 0 ∧ 0 < (r_7.length : Int) then
                  if 0 ≤ i ∧ i < (g47.length : Int) then
                    some (.inl ((IntKind.i64.wrap (i + 1)), (g47.set i.toNat (r_7.getD 0 default))))
                  else none
                else none
          else none
        else
          some (.inl ((IntKind.i64.wrap (i + 1)), g47))
      else none
    else
      Option.map Sum.inr (
        some ((l, g47), r_5.2.1, r_5.2.2))
noncomputable def F_spec_l6DrawRule_l1 (sig : (List Int)) (c0 : (List Int)) : ((List Int) × Int × Int × Int) → Option (((List Int) × Int × Int × Int) ⊕ (((List Int) × (List Int)) × Int × Int))
  | (l, k, c, c_1) =>
    if (decide (0 < k)) = true then
      (F_spec_l1DrawTerm_all sig 1 2 c0 c c_1).bind fun r_3 =>
      if (l.length + r_3.1.length) * 8 ≤ 140737488355328 then
        some (.inl ((l ++ r_3.1), (IntKind.i64.wrap (k - 1)), r_3.2.1, r_3.2.2))
      else none
    else
      Option.map Sum.inr (
        (F_spec_l1Below 3 c0 c c_1).bind fun r_4 =>
        (F_spec_l1DrawTerm_s1_all sig (IntKind.i64.wrap (1 + r_4.1)) 2 c0 r_4.2.1 r_4.2.2).bind fun r_5 =>
        loopC (F_spec_l6DrawRule_l2 sig l r_5) (0, r_5.1))
noncomputable def F_spec_l6DrawRule_l3 (sig : (List Int)) (r_1 : ((List Int) × Int × Int)) (r_10 : ((List Int) × Int × Int)) : (Int × (List Int)) → Option ((Int × (List Int)) ⊕ (((List Int) × (List Int)) × Int × Int))
  | (i_1, g47_1) =>
    if (decide (i_1 < (g47_1.length : Int))) = true then
      if 0 ≤ i_1 ∧ i_1 < (g47_1.length : Int) then
        if (decide ((g47_1.getD i_1.toNat default) < 0)) = true then
          if 0 ≤ i_1 ∧ i_1 < (g47_1.length : Int) then
            (F_spec_l1Has r_1.1 (g47_1.getD i_1.toNat default)).bind fun r_11 =>
            if r_11 = true then
              some (.inl ((IntKind.i64.wrap (i_1 + 1)), g47_1))
            else
              (F_spec_l2Order r_1.1).bind fun r_12 =>
              if ((r_12.length : Int) == 0) = true then
                (F_spec_l1Sub sig r_1.1 (IntKind.i64.wrap ((r_1.1.length : Int) - 1))).bind fun r_13 =>
                Option.map Sum.inr (
                  some ((r_1.1, r_13), r_10.2.1, r_10.2.2))
              else
                if 0 ≤ 0 ∧ 0 < (r_12.length : Int) then
                  if 0 ≤ i_1 ∧ i_1 < (g47_1.length : Int) then
                    some (.inl ((IntKind.i64.wrap (i_1 + 1)), (g47_1.set i_1.toNat (r_12.getD 0 default))))
                  else none
                else none
          else none
        else
          some (.inl ((IntKind.i64.wrap (i_1 + 1)), g47_1))
      else none
    else
      Option.map Sum.inr (
        some ((r_1.1, g47_1), r_10.2.1, r_10.2.2))
noncomputable def F_spec_l6DrawRule (sig : (List Int)) (c0 : (List Int)) (c1 : Int) (c2 : Int) : Option (((List Int) × (List Int)) × Int × Int) :=
  (F_spec_l1Below 2 c0 c1 c2).bind fun r =>
  (F_spec_l1DrawTerm_all sig (IntKind.i64.wrap (2 + r.1)) 2 c0 r.2.1 r.2.2).bind fun r_1 =>
  if 0 ≤ 0 ∧ 0 < (r_1.1.length : Int) then
    if (decide ((r_1.1.getD 0 default) < 0)) = true then
      (F_spec_l1Below (sig.length : Int) c0 r_1.2.1 r_1.2.2).bind fun r_2 =>
      if 0 ≤ r_2.1 ∧ r_2.1 < (sig.length : Int) then
        loopC (F_spec_l6DrawRule_l1 sig c0) ([r_2.1], (sig.getD r_2.1.toNat default), r_2.2.1, r_2.2.2)
      else none
    else
      (F_spec_l1Below 3 c0 r_1.2.1 r_1.2.2).bind fun r_9 =>
      (F_spec_l1DrawTerm_s1_all sig (IntKind.i64.wrap (1 + r_9.1)) 2 c0 r_9.2.1 r_9.2.2).bind fun r_10 =>
      loopC (F_spec_l6DrawRule_l3 sig r_1 r_10) (0, r_10.1)
  else none
theorem c_spec_l6DrawRule {sig : (List Int)} {c0 : (List Int)} {c1 : Int} {c2 : Int} {rr : (((List Int) × (List Int)) × Int × Int)} (h : F_spec_l6DrawRule sig c0 c1 c2 = some rr) : ACalls Tryz.prog 297 [.ptr 0 0, .d (.agg [slD 1 iD sig])] [(0, .obj 216 [.d (slD 1 (kD .u8) c0), .d (iD c1), .d (iD c2)])] 1 fun xx ss => xx = .d (.agg [slD 1 iD rr.1.1, slD 1 iD rr.1.2]) ∧ ss = [(0, .obj 216 [.d (slD 1 (kD .u8) c0), .d (iD rr.2.1), .d (iD rr.2.2)])] := by
  delta F_spec_l6DrawRule at h
  refine fn297.callsD (vcm_sound ?_)
  delta mc297
  refine stp ?_
  obtain ⟨r, hr, h⟩ := bind_some h
  refine cDo [(0, 0)] [] (c_spec_l1Below hr) (stp ?_)
  obtain ⟨r_1, hr_1, h⟩ := bind_some h
  refine cDo [(0, 0)] [] (c_spec_l1DrawTerm_all hr_1) (stp ?_)
  refine drQ_of (by kernel_rfl) ?_
  refine stp ?_
  obtain ⟨hp, h⟩ := need_some h
  repeat (refine need_i (by omega) ?_; refine stp ?_)
  rcases ite_some h with ⟨hc, h⟩ | ⟨hc, h⟩
  · refine stpc hc ?_
    obtain ⟨r_2, hr_2, h⟩ := bind_some h
    refine cRo [(0, 0)] [] (c_spec_l1Below hr_2) (stp ?_)
    obtain ⟨hp, h⟩ := need_some h
    repeat (refine need_i (by omega) ?_; refine stp ?_)
    refine m_loopF h [5, 7, 33, 34, 35, 36, 37, 38, 39, 40, 41] (fun pp => [(5, .own 1 27 (List.map iD pp.1)), (7, .d (iD pp.2.1))]) (fun pp => [(0, .obj 216 [.d (slD 1 (kD .u8) c0), .d (iD pp.2.2.1), .d (iD pp.2.2.2)]), (3, .obj 43 [.d (slD 1 iD sig)]), (4, .obj 146 [.d (.sl 0 (some true) []), .d (.sl 0 (some true) [])]), (27, .tok 2 1 pp.1.length)]) ?_ ?_
    · try dsimp only
      exact wk
    · rintro ⟨l, k, c, c_1⟩ t1 h hb1
      unfold F_spec_l6DrawRule_l1 at h
      try dsimp only at h
      refine vcm_sound (stp ?_)
      rcases ite_some h with ⟨hc, h⟩ | ⟨hc, h⟩
      · refine stpc hc ?_
        obtain ⟨r_3, hr_3, h⟩ := bind_some h
        refine cRo [(0, 0)] [] (c_spec_l1DrawTerm_all hr_3) (stp ?_)
        obtain ⟨hp, h⟩ := need_some h
        repeat (refine need_i (by omega) ?_; refine stp ?_)
        cases h
        refine ⟨_, rfl, ?_⟩
        exact wk
      · refine stpc hc ?_
        replace h := inr_some h hb1
        obtain ⟨r_4, hr_4, h⟩ := bind_some h
        refine cDo [(0, 0)] [] (c_spec_l1Below hr_4) (stp ?_)
        obtain ⟨r_5, hr_5, h⟩ := bind_some h
        refine cDo [(0, 0)] [(900000, 47)] (c_spec_l1DrawTerm_s1_all hr_5) (stp ?_)
        refine drQ_of (by kernel_rfl) ?_
        refine stp ?_
        refine m_loopF h [8, 9, 10, 48, 49, 50, 51, 52, 53, 54, 55, 56, 57, 58, 59, 60, 61, 62, 63, 64, 65, 66, 67, 68, 69, 70, 71, 72, 73, 74, 75, 76, 77, 78, 79, 80, 81, 82, 83, 84, 85, 86] (fun pp => [(9, .d (iD pp.1)), (8, .gow 1 47 pp.2.length)]) (fun pp => [(0, .obj 216 [.d (slD 1 (kD .u8) c0), .d (iD r_5.2.1), .d (iD r_5.2.2)]), (3, .obj 43 [.d (slD 1 iD sig)]), (4, .obj 146 [.d (.sl 0 (some true) []), .d (.sl 0 (some true) [])]), (27, .tok 2 1 l.length), (47, .gro 2 1 pp.2.length (groL iD pp.2))]) ?_ ?_
        · try dsimp only
          exact wk
        · rintro ⟨i, g47⟩ t1 h hb1
          unfold F_spec_l6DrawRule_l2 at h
          try dsimp only at h
          refine vcm_sound (stp ?_)
          rcases ite_some h with ⟨hc, h⟩ | ⟨hc, h⟩
          · refine stpc hc ?_
            obtain ⟨hp, h⟩ := need_some h
            repeat (refine need_i (by omega) ?_; refine stp ?_)
            repeat (refine need_i (by omega) ?_; refine stp ?_)
            rcases ite_some h with ⟨hc, h⟩ | ⟨hc, h⟩
            · refine stpc hc ?_
              obtain ⟨hp, h⟩ := need_some h
              repeat (refine need_i (by omega) ?_; refine stp ?_)
              repeat (refine need_i (by omega) ?_; refine stp ?_)
              obtain ⟨r_6, hr_6, h⟩ := bind_some h
              refine cR (c_spec_l1Has hr_6) (stp ?_)
              rcases ite_some h with ⟨hc, h⟩ | ⟨hc, h⟩
              · refine stpc hc ?_
                cases h
                refine ⟨_, rfl, ?_⟩
                exact wk
              · refine stpc hc ?_
                obtain ⟨r_7, hr_7, h⟩ := bind_some h
                refine cR (c_spec_l2Order hr_7) (stp ?_)
                rcases ite_some h with ⟨hc, h⟩ | ⟨hc, h⟩
                · refine stpc hc ?_
                  obtain ⟨r_8, hr_8, h⟩ := bind_some h
                  refine cR (c_spec_l1Sub hr_8) (stp ?_)
                  replace h := inr_some h hb1
                  cases h
                  exact Done.trans ((Done.drops [3, 4, 27, 47] (by simp))) (Done.told frd don)
                · refine stpc hc ?_
                  obtain ⟨hp, h⟩ := need_some h
                  repeat (refine need_i (by omega) ?_; refine stp ?_)
                  obtain ⟨hp, h⟩ := need_some h
                  repeat (refine need_i (by omega) ?_; refine stp ?_)
                  repeat (refine need_i (by omega) ?_; refine stp ?_)
                  cases h
                  refine ⟨_, rfl, ?_⟩
                  exact wk
            · refine stpc hc ?_
              cases h
              refine ⟨_, rfl, ?_⟩
              exact wk
          · refine stpc hc ?_
            replace h := inr_some h hb1
            cases h
            exact Done.trans ((Done.trans (Done.fz 47 iD rfl g47) (Done.drops [3, 4, 27] (by simp)))) (Done.told frd don)
  · refine stpc hc ?_
    obtain ⟨r_9, hr_9, h⟩ := bind_some h
    refine cDo [(0, 0)] [] (c_spec_l1Below hr_9) (stp ?_)
    obtain ⟨r_10, hr_10, h⟩ := bind_some h
    refine cDo [(0, 0)] [(900000, 47)] (c_spec_l1DrawTerm_s1_all hr_10) (stp ?_)
    refine drQ_of (by kernel_rfl) ?_
    refine stp ?_
    refine m_loopF h [8, 9, 10, 48, 49, 50, 51, 52, 53, 54, 55, 56, 57, 58, 59, 60, 61, 62, 63, 64, 65, 66, 67, 68, 69, 70, 71, 72, 73, 74, 75, 76, 77, 78, 79, 80, 81, 82, 83, 84, 85, 86] (fun pp => [(9, .d (iD pp.1)), (8, .gow 1 47 pp.2.length)]) (fun pp => [(0, .obj 216 [.d (slD 1 (kD .u8) c0), .d (iD r_10.2.1), .d (iD r_10.2.2)]), (3, .obj 43 [.d (slD 1 iD sig)]), (4, .obj 146 [.d (.sl 0 (some true) []), .d (.sl 0 (some true) [])]), (47, .gro 2 1 pp.2.length (groL iD pp.2))]) ?_ ?_
    · try dsimp only
      exact wk
    · rintro ⟨i_1, g47_1⟩ t1 h hb1
      unfold F_spec_l6DrawRule_l3 at h
      try dsimp only at h
      refine vcm_sound (stp ?_)
      rcases ite_some h with ⟨hc, h⟩ | ⟨hc, h⟩
      · refine stpc hc ?_
        obtain ⟨hp, h⟩ := need_some h
        repeat (refine need_i (by omega) ?_; refine stp ?_)
        repeat (refine need_i (by omega) ?_; refine stp ?_)
        rcases ite_some h with ⟨hc, h⟩ | ⟨hc, h⟩
        · refine stpc hc ?_
          obtain ⟨hp, h⟩ := need_some h
          repeat (refine need_i (by omega) ?_; refine stp ?_)
          repeat (refine need_i (by omega) ?_; refine stp ?_)
          obtain ⟨r_11, hr_11, h⟩ := bind_some h
          refine cR (c_spec_l1Has hr_11) (stp ?_)
          rcases ite_some h with ⟨hc, h⟩ | ⟨hc, h⟩
          · refine stpc hc ?_
            cases h
            refine ⟨_, rfl, ?_⟩
            exact wk
          · refine stpc hc ?_
            obtain ⟨r_12, hr_12, h⟩ := bind_some h
            refine cR (c_spec_l2Order hr_12) (stp ?_)
            rcases ite_some h with ⟨hc, h⟩ | ⟨hc, h⟩
            · refine stpc hc ?_
              obtain ⟨r_13, hr_13, h⟩ := bind_some h
              refine cR (c_spec_l1Sub hr_13) (stp ?_)
              replace h := inr_some h hb1
              cases h
              exact Done.trans ((Done.drops [3, 4, 47] (by simp))) (Done.told frd don)
            · refine stpc hc ?_
              obtain ⟨hp, h⟩ := need_some h
              repeat (refine need_i (by omega) ?_; refine stp ?_)
              obtain ⟨hp, h⟩ := need_some h
              repeat (refine need_i (by omega) ?_; refine stp ?_)
              repeat (refine need_i (by omega) ?_; refine stp ?_)
              cases h
              refine ⟨_, rfl, ?_⟩
              exact wk
        · refine stpc hc ?_
          cases h
          refine ⟨_, rfl, ?_⟩
          exact wk
      · refine stpc hc ?_
        replace h := inr_some h hb1
        cases h
        exact Done.trans ((Done.trans (Done.fz 47 iD rfl g47_1) (Done.drops [3, 4] (by simp)))) (Done.told frd don)

def mc235 : MCode :=
 (.seq (.reg [⟨some 6, .mv (.const (.int .i64 0)), none⟩]) (.seq (.reg [⟨some 7, .mv (.tmp 1), none⟩, ⟨some 8, .mv (.tmp 0), none⟩, ⟨some 9, .mv (.tmp 2), none⟩, ⟨some 10, .mv (.tmp 1), none⟩, ⟨some 11, .bin .sub (.tmp 9) (.tmp 10), none⟩, ⟨some 12, .bin .add (.tmp 11) (.const (.int .i64 1)), none⟩, ⟨some 13, .callf 105 [(.tmp 8), (.tmp 12)], none⟩, ⟨some 14, .bin .add (.tmp 7) (.tmp 13), none⟩, ⟨some 6, .mv (.tmp 14), none⟩]) .ret))
theorem fn235 : MFn Tryz.prog 235 mc235 15 [.tmp 6] :=
  ⟨Tryz.f235, Tryz.func235, by kernel_rfl, Tryz.ntmps235, by kernel_rfl⟩
noncomputable def F_spec_l1From (lo : Int) (hi : Int) (c0 : (List Int)) (c1 : Int) (c2 : Int) : Option (Int × Int × Int) :=
  (F_spec_l1Below (IntKind.i64.wrap ((IntKind.i64.wrap (hi - lo)) + 1)) c0 c1 c2).bind fun r =>
  some ((IntKind.i64.wrap (lo + r.1)), r.2.1, r.2.2)
theorem c_spec_l1From {lo : Int} {hi : Int} {c0 : (List Int)} {c1 : Int} {c2 : Int} {rr : (Int × Int × Int)} (h : F_spec_l1From lo hi c0 c1 c2 = some rr) : ACalls Tryz.prog 235 [.ptr 0 0, .d (iD lo), .d (iD hi)] [(0, .obj 216 [.d (slD 1 (kD .u8) c0), .d (iD c1), .d (iD c2)])] 1 fun xx ss => xx = .d (iD rr.1) ∧ ss = [(0, .obj 216 [.d (slD 1 (kD .u8) c0), .d (iD rr.2.1), .d (iD rr.2.2)])] := by
  delta F_spec_l1From at h
  refine fn235.callsO (vcm_sound ?_)
  delta mc235
  refine stp ?_
  obtain ⟨r, hr, h⟩ := bind_some h
  refine cRo [(0, 0)] [] (c_spec_l1Below hr) (stp ?_)
  cases h
  exact ⟨[], by simp, don, don⟩

end Go.Proofs.YtcaljngigbfadaaGreat
