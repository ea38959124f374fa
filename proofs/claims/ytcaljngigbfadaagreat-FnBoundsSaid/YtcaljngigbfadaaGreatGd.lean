/- Functions of the program and the equations that they compute, fourth part; nothing is assumed. -/
import Derived.Test.YtcaljngigbfadaaGreatGc
set_option linter.unusedSimpArgs false
set_option linter.unusedVariables false
set_option linter.unusedSectionVars false
namespace Go.Proofs.YtcaljngigbfadaaGreat
open Go Abx
attribute [local irreducible] vcm vgo vdr vrun vdrun MWp GhostQ BrC BrO BrG BrD BrH AmbO callR callD drQ EnvLe StoLe
set_option maxHeartbeats 4000000
def D_impl_Poly (x : (Int × (List Int))) : D := .agg [iD x.1, (slD 1 iD) x.2]
def D_impl_line_int64 (x : (Int × (List Int))) : D := .agg [iD x.1, (slD 1 iD) x.2]
instance : Cel D_impl_Poly 2 := ⟨fun _ => rfl⟩
instance : Cel D_impl_line_int64 2 := ⟨fun _ => rfl⟩
attribute [go_sem] D_impl_Poly D_impl_line_int64
def mc312 : MCode :=
 (.seq (.reg [⟨some 2, .box 2 43 (.tmp 0), none⟩, ⟨some 4, .mv (.const (.bool false)), none⟩]) (.seq (.seq (.reg [⟨some 9, .load 1 true (.tmp 2), none⟩, ⟨some 10, .callf 223 [(.tmp 9)], none⟩, ⟨some 11, .un .not (.tmp 10), none⟩, ⟨some 12, .mv (.tmp 11), none⟩, ⟨some 13, .mv (.tmp 1), (some (some 12, false))⟩, ⟨some 14, .len (.tmp 13), (some (some 12, false))⟩, ⟨some 15, .fad 0 (.tmp 2), (some (some 12, false))⟩, ⟨some 16, .load 1 false (.tmp 15), (some (some 12, false))⟩, ⟨some 17, .len (.tmp 16), (some (some 12, false))⟩, ⟨some 18, .bin .neq (.tmp 14) (.tmp 17), (some (some 12, false))⟩, ⟨some 19, .pick (.tmp 12) (.const (.bool true)) (.tmp 18), none⟩]) (.cond (.tmp 19) (.seq (.reg [⟨some 4, .mv (.const (.bool false)), none⟩]) .ret) .skip)) (.seq (.seq (.reg [⟨some 20, .mv (.tmp 1), none⟩, ⟨some 21, .len (.tmp 20), none⟩, ⟨some 22, .mv (.const (.int .i64 0)), none⟩]) (.block 0 (.loop (.seq (.reg [⟨some 23, .bin .lss (.tmp 22) (.tmp 21), none⟩]) (.seq (.cond (.tmp 23) .skip (.exit 0)) (.seq (.block 1 (.seq (.reg [⟨some 24, .mv (.tmp 22), none⟩, ⟨some 25, .ixa 2 (.tmp 20) (.tmp 22), none⟩, ⟨some 26, .load 2 true (.tmp 25), none⟩, ⟨some 6, .alloc 6 158 [.lit (.int .i64 0), .sl 0 (some true) []], none⟩, ⟨some 5, .mv (.tmp 24), none⟩, ⟨none, .store 2 (.tmp 6) (.tmp 26), none⟩]) (.seq (.seq (.draw [⟨some 27, .fad 1 (.tmp 6), none⟩, ⟨some 28, .load 1 false (.tmp 27), none⟩, ⟨some 29, .len (.tmp 28), none⟩, ⟨some 30, .fad 0 (.tmp 2), none⟩, ⟨some 31, .load 1 false (.tmp 30), none⟩, ⟨some 32, .mv (.tmp 5), none⟩, ⟨some 33, .ixa 1 (.tmp 31) (.tmp 32), none⟩, ⟨some 34, .load 1 false (.tmp 33), none⟩, ⟨some 35, .bin .neq (.tmp 29) (.tmp 34), none⟩, ⟨some 36, .mv (.tmp 35), none⟩, ⟨some 37, .fad 0 (.tmp 6), (some (some 36, false))⟩, ⟨some 38, .load 1 false (.tmp 37), (some (some 36, false))⟩, ⟨some 39, .bin .lss (.tmp 38) (.const (.int .i64 0)), (some (some 36, false))⟩, ⟨some 40, .pick (.tmp 36) (.const (.bool true)) (.tmp 39), none⟩, ⟨some 41, .mv (.tmp 40), none⟩, ⟨some 42, .fad 0 (.tmp 6), (some (some 41, false))⟩, ⟨some 43, .load 1 false (.tmp 42), (some (some 41, false))⟩, ⟨some 44, .bin .gtr (.tmp 43) (.const (.int .i64 9)), (some (some 41, false))⟩, ⟨some 45, .pick (.tmp 41) (.const (.bool true)) (.tmp 44), none⟩] [[], [0], [1], [], [3], [], [4, 5], [6], [2, 7], [8], [9], [10, 9], [11, 9], [9, 12], [13, 9], [14], [15, 14], [16, 14], [14, 17]]) (.cond (.tmp 45) (.seq (.reg [⟨some 4, .mv (.const (.bool false)), none⟩]) .ret) .skip)) (.seq (.reg [⟨some 46, .fad 1 (.tmp 6), none⟩, ⟨some 47, .load 1 false (.tmp 46), none⟩, ⟨some 48, .len (.tmp 47), none⟩, ⟨some 49, .mv (.const (.int .i64 0)), none⟩]) (.block 2 (.loop (.seq (.reg [⟨some 50, .bin .lss (.tmp 49) (.tmp 48), none⟩]) (.seq (.cond (.tmp 50) .skip (.exit 2)) (.seq (.block 3 (.seq (.reg [⟨some 51, .ixa 1 (.tmp 47) (.tmp 49), none⟩, ⟨some 52, .load 1 false (.tmp 51), none⟩, ⟨some 8, .mv (.tmp 52), none⟩]) (.seq (.reg [⟨some 53, .mv (.tmp 8), none⟩, ⟨some 54, .bin .lss (.tmp 53) (.const (.int .i64 0)), none⟩, ⟨some 55, .mv (.tmp 54), none⟩, ⟨some 56, .mv (.tmp 8), (some (some 55, false))⟩, ⟨some 57, .bin .gtr (.tmp 56) (.const (.int .i64 9)), (some (some 55, false))⟩, ⟨some 58, .pick (.tmp 55) (.const (.bool true)) (.tmp 57), none⟩]) (.cond (.tmp 58) (.seq (.reg [⟨some 4, .mv (.const (.bool false)), none⟩]) .ret) .skip)))) (.reg [⟨some 59, .bin .add (.tmp 49) (.const (.int .i64 1)), none⟩, ⟨some 49, .mv (.tmp 59), none⟩])))))))))) (.reg [⟨some 60, .bin .add (.tmp 22) (.const (.int .i64 1)), none⟩, ⟨some 22, .mv (.tmp 60), none⟩]))))))) (.seq (.reg [⟨some 4, .mv (.const (.bool true)), none⟩]) .ret))))
theorem fn312 : MFn Tryz.prog 312 mc312 61 [.tmp 4] :=
  ⟨Tryz.f312, Tryz.func312, by kernel_rfl, Tryz.ntmps312, by kernel_rfl⟩
noncomputable def F_impl_PolysOk_l2 (ps : (List (Int × (List Int)))) (v22 : Int) : Int → Option (Int ⊕ (Int ⊕ Bool))
  | v49 =>
    if (decide (v49 < (((ps.getD v22.toNat default).2).length : Int))) = true then
      if 0 ≤ v49 ∧ v49 < (((ps.getD v22.toNat default).2).length : Int) then
        if (decide ((((ps.getD v22.toNat default).2).getD v49.toNat default) < 0)) = true then
          Option.map Sum.inr (
            Option.map Sum.inr (
              some false))
        else
          if (decide (9 < (((ps.getD v22.toNat default).2).getD v49.toNat default))) = true then
            Option.map Sum.inr (
              Option.map Sum.inr (
                some false))
          else
            some (.inl (IntKind.i64.wrap (v49 + 1)))
      else none
    else
      Option.map Sum.inr (
        some (.inl (IntKind.i64.wrap (v22 + 1))))
noncomputable def F_impl_PolysOk_l1 (sig : (List Int)) (ps : (List (Int × (List Int)))) : Int → Option (Int ⊕ Bool)
  | v22 =>
    if (decide (v22 < (ps.length : Int))) = true then
      if 0 ≤ v22 ∧ v22 < (ps.length : Int) then
        if 0 ≤ v22 ∧ v22 < (sig.length : Int) then
          if ((((ps.getD v22.toNat default).2).length : Int) != (sig.getD v22.toNat default)) = true then
            Option.map Sum.inr (
              some false)
          else
            if (decide ((ps.getD v22.toNat default).1 < 0)) = true then
              Option.map Sum.inr (
                some false)
            else
              if (decide (9 < (ps.getD v22.toNat default).1)) = true then
                Option.map Sum.inr (
                  some false)
              else
                loopC (F_impl_PolysOk_l2 ps v22) 0
        else none
      else none
    else
      Option.map Sum.inr (
        some true)
noncomputable def F_impl_PolysOk (sig : (List Int)) (ps : (List (Int × (List Int)))) : Option Bool :=
  (F_impl_SigOk sig).bind fun r =>
  if r = true then
    if ((ps.length : Int) != (sig.length : Int)) = true then
      some false
    else
      loopC (F_impl_PolysOk_l1 sig ps) 0
  else
    some false
theorem c_impl_PolysOk {sig : (List Int)} {ps : (List (Int × (List Int)))} {rr : Bool} (h : F_impl_PolysOk sig ps = some rr) : PFun Tryz.prog 312 [D_impl_Sig sig, (slD 2 D_impl_Poly) ps] (bD rr) := by
  delta F_impl_PolysOk at h
  refine fn312.pureL (vcm_sound ?_)
  delta mc312
  refine stp ?_
  obtain ⟨r, hr, h⟩ := bind_some h
  refine cR (c_impl_SigOk hr) (stp ?_)
  rcases ite_some h with ⟨hc, h⟩ | ⟨hc, h⟩
  · refine stpc hc ?_
    rcases ite_some h with ⟨hc, h⟩ | ⟨hc, h⟩
    · refine stpc hc ?_
      cases h
      exact don
    · refine stpc hc ?_
      refine m_loopF h [4, 5, 6, 8, 22, 23, 24, 25, 26, 27, 28, 29, 30, 31, 32, 33, 34, 35, 36, 37, 38, 39, 40, 41, 42, 43, 44, 45, 46, 47, 48, 49, 50, 51, 52, 53, 54, 55, 56, 57, 58, 59, 60] (fun pp => [(22, .d (iD pp))]) (fun pp => [(2, .obj 43 [.d (slD 1 iD sig)])]) ?_ ?_
      · try dsimp only
        exact wk
      · rintro v22 t1 h hb1
        unfold F_impl_PolysOk_l1 at h
        try dsimp only at h
        refine vcm_sound (stp ?_)
        rcases ite_some h with ⟨hc, h⟩ | ⟨hc, h⟩
        · refine stpc hc ?_
          obtain ⟨hp, h⟩ := need_some h
          repeat (refine need_i (by omega) ?_; refine stp ?_)
          obtain ⟨hp, h⟩ := need_some h
          repeat (refine need_i (by omega) ?_; refine stp ?_)
          rcases ite_some h with ⟨hc, h⟩ | ⟨hc, h⟩
          · refine stpc hc ?_
            refine drQ_of (by kernel_rfl) ?_
            refine stp ?_
            replace h := inr_some h hb1
            cases h
            exact don
          · refine stpc hc ?_
            rcases ite_some h with ⟨hc, h⟩ | ⟨hc, h⟩
            · refine stpc hc ?_
              refine drQ_of (by kernel_rfl) ?_
              refine stp ?_
              replace h := inr_some h hb1
              cases h
              exact don
            · refine stpc hc ?_
              refine drQ_of (by kernel_rfl) ?_
              refine stp ?_
              rcases ite_some h with ⟨hc, h⟩ | ⟨hc, h⟩
              · refine stpc hc ?_
                replace h := inr_some h hb1
                cases h
                exact don
              · refine stpc hc ?_
                refine m_loopF h [4, 8, 49, 50, 51, 52, 53, 54, 55, 56, 57, 58, 59] (fun pp => [(49, .d (iD pp))]) (fun pp => [(2, .obj 43 [.d (slD 1 iD sig)]), (6, .obj 158 [.d (iD ((ps.getD v22.toNat default).1)), .d (slD 1 iD ((ps.getD v22.toNat default).2))])]) ?_ ?_
                · try dsimp only
                  exact wk
                · rintro v49 t2 h hb2
                  unfold F_impl_PolysOk_l2 at h
                  try dsimp only at h
                  refine vcm_sound (stp ?_)
                  rcases ite_some h with ⟨hc, h⟩ | ⟨hc, h⟩
                  · refine stpc hc ?_
                    obtain ⟨hp, h⟩ := need_some h
                    repeat (refine need_i (by omega) ?_; refine stp ?_)
                    rcases ite_some h with ⟨hc, h⟩ | ⟨hc, h⟩
                    · refine stpc hc ?_
                      replace h := inr_some h hb2
                      replace h := inr_some h hb1
                      cases h
                      exact don
                    · refine stpc hc ?_
                      rcases ite_some h with ⟨hc, h⟩ | ⟨hc, h⟩
                      · refine stpc hc ?_
                        replace h := inr_some h hb2
                        replace h := inr_some h hb1
                        cases h
                        exact don
                      · refine stpc hc ?_
                        cases h
                        refine ⟨_, rfl, ?_⟩
                        exact wk
                  · refine stpc hc ?_
                    replace h := inr_some h hb2
                    cases h
                    refine ⟨_, rfl, ?_⟩
                    refine (Weak.drop 6 (by omega)).trans ?_
                    exact wk
        · refine stpc hc ?_
          replace h := inr_some h hb1
          cases h
          exact don
  · refine stpc hc ?_
    cases h
    exact don

def mc314 : MCode :=
 (.seq (.reg [⟨some 1, .box 1 158 (.tmp 0), none⟩, ⟨some 2, .mv (.const (.bool false)), none⟩]) (.seq (.reg [⟨some 3, .fad 1 (.tmp 1), none⟩, ⟨some 4, .load 1 false (.tmp 3), none⟩, ⟨some 5, .callf 315 [(.tmp 4), (.const (.int .i64 0))], none⟩, ⟨some 2, .mv (.tmp 5), none⟩]) .ret))
theorem fn314 : MFn Tryz.prog 314 mc314 6 [.tmp 2] :=
  ⟨Tryz.f314, Tryz.func314, by kernel_rfl, Tryz.ntmps314, by kernel_rfl⟩
noncomputable def F_impl_StrictIn_1 (p : (Int × (List Int))) : Option Bool :=
  (F_slices_Contains_int64_int64 p.2 0).bind fun r =>
  some r
theorem c_impl_StrictIn_1 {p : (Int × (List Int))} {rr : Bool} (h : F_impl_StrictIn_1 p = some rr) : PFun Tryz.prog 314 [D_impl_Poly p] (bD rr) := by
  delta F_impl_StrictIn_1 at h
  refine fn314.pureL (vcm_sound ?_)
  delta mc314
  refine stp ?_
  obtain ⟨r, hr, h⟩ := bind_some h
  refine cR (c_slices_Contains_int64_int64 hr) (stp ?_)
  cases h
  exact don

def mc378 : MCode :=
 (.seq (.reg [⟨some 4, .mv (.const (.int .i64 0)), none⟩]) (.seq (.seq (.reg [⟨some 6, .mv (.tmp 0), none⟩, ⟨some 7, .len (.tmp 6), none⟩, ⟨some 8, .mv (.const (.int .i64 0)), none⟩]) (.block 0 (.loop (.seq (.reg [⟨some 9, .bin .lss (.tmp 8) (.tmp 7), none⟩]) (.seq (.cond (.tmp 9) .skip (.exit 0)) (.seq (.block 1 (.seq (.reg [⟨some 10, .mv (.tmp 8), none⟩, ⟨some 5, .mv (.tmp 10), none⟩]) (.seq (.reg [⟨some 11, .mv (.tmp 1), none⟩, ⟨some 12, .mv (.tmp 0), none⟩, ⟨some 13, .mv (.tmp 5), none⟩, ⟨some 14, .ixa 2 (.tmp 12) (.tmp 13), none⟩, ⟨some 15, .load 2 true (.tmp 14), none⟩, ⟨some 16, .callv (.tmp 11) [(.tmp 15)], none⟩]) (.cond (.tmp 16) (.seq (.reg [⟨some 17, .mv (.tmp 5), none⟩, ⟨some 4, .mv (.tmp 17), none⟩]) .ret) .skip)))) (.reg [⟨some 18, .bin .add (.tmp 8) (.const (.int .i64 1)), none⟩, ⟨some 8, .mv (.tmp 18), none⟩]))))))) (.seq (.reg [⟨some 4, .mv (.const (.int .i64 (-1))), none⟩]) .ret)))
theorem fn378 : MFn Tryz.prog 378 mc378 19 [.tmp 4] :=
  ⟨Tryz.f378, Tryz.func378, by kernel_rfl, Tryz.ntmps378, by kernel_rfl⟩
noncomputable def F_slices_IndexFunc_impl_Poly_impl_Poly_l1 (s : (List (Int × (List Int)))) : Int → Option (Int ⊕ Int)
  | v8 =>
    if (decide (v8 < (s.length : Int))) = true then
      if 0 ≤ v8 ∧ v8 < (s.length : Int) then
        (F_impl_StrictIn_1 ((s.getD v8.toNat default).1, (s.getD v8.toNat default).2)).bind fun r =>
        if r = true then
          Option.map Sum.inr (
            some v8)
        else
          some (.inl (IntKind.i64.wrap (v8 + 1)))
      else none
    else
      Option.map Sum.inr (
        some (-1))
noncomputable def F_slices_IndexFunc_impl_Poly_impl_Poly (s : (List (Int × (List Int)))) : Option Int :=
  loopC (F_slices_IndexFunc_impl_Poly_impl_Poly_l1 s) 0
theorem c_slices_IndexFunc_impl_Poly_impl_Poly {s : (List (Int × (List Int)))} {rr : Int} (h : F_slices_IndexFunc_impl_Poly_impl_Poly s = some rr) : ACalls Tryz.prog 378 [.d (slD 2 D_impl_Poly s), .fn 314 [] []] [] 0 fun xx ss => xx = .d (iD rr) ∧ ss = [] := by
  delta F_slices_IndexFunc_impl_Poly_impl_Poly at h
  refine fn378.callsO (vcm_sound ?_)
  delta mc378
  refine stp ?_
  refine m_loopF h [4, 5, 8, 9, 10, 11, 12, 13, 14, 15, 16, 17, 18] (fun pp => [(8, .d (iD pp))]) (fun pp => []) ?_ ?_
  · try dsimp only
    exact wk
  · rintro v8 t1 h hb1
    unfold F_slices_IndexFunc_impl_Poly_impl_Poly_l1 at h
    try dsimp only at h
    refine vcm_sound (stp ?_)
    rcases ite_some h with ⟨hc, h⟩ | ⟨hc, h⟩
    · refine stpc hc ?_
      obtain ⟨hp, h⟩ := need_some h
      repeat (refine need_i (by omega) ?_; refine stp ?_)
      refine need_i (by kernel_rfl) ?_
      obtain ⟨r, hr, h⟩ := bind_some h
      refine cR (c_impl_StrictIn_1 hr) (stp ?_)
      rcases ite_some h with ⟨hc, h⟩ | ⟨hc, h⟩
      · refine stpc hc ?_
        replace h := inr_some h hb1
        cases h
        exact ⟨[], by simp, don, don⟩
      · refine stpc hc ?_
        cases h
        refine ⟨_, rfl, ?_⟩
        exact wk
    · refine stpc hc ?_
      replace h := inr_some h hb1
      cases h
      exact ⟨[], by simp, don, don⟩

def mc313 : MCode :=
 (.seq (.reg [⟨some 4, .mv (.const (.bool false)), none⟩]) (.seq (.reg [⟨some 5, .mv (.tmp 0), none⟩, ⟨some 6, .mv (.tmp 1), none⟩, ⟨some 7, .callf 378 [(.tmp 5), (.tmp 6)], none⟩, ⟨some 8, .bin .geq (.tmp 7) (.const (.int .i64 0)), none⟩, ⟨some 4, .mv (.tmp 8), none⟩]) .ret))
theorem fn313 : MFn Tryz.prog 313 mc313 9 [.tmp 4] :=
  ⟨Tryz.f313, Tryz.func313, by kernel_rfl, Tryz.ntmps313, by kernel_rfl⟩
noncomputable def F_slices_ContainsFunc_impl_Poly_impl_Poly (s : (List (Int × (List Int)))) : Option Bool :=
  (F_slices_IndexFunc_impl_Poly_impl_Poly s).bind fun r =>
  some (decide (0 ≤ r))
theorem c_slices_ContainsFunc_impl_Poly_impl_Poly {s : (List (Int × (List Int)))} {rr : Bool} (h : F_slices_ContainsFunc_impl_Poly_impl_Poly s = some rr) : ACalls Tryz.prog 313 [.d (slD 2 D_impl_Poly s), .fn 314 [] []] [] 0 fun xx ss => xx = .d (bD rr) ∧ ss = [] := by
  delta F_slices_ContainsFunc_impl_Poly_impl_Poly at h
  refine fn313.callsO (vcm_sound ?_)
  delta mc313
  refine stp ?_
  obtain ⟨r, hr, h⟩ := bind_some h
  refine cRo [] [] (c_slices_IndexFunc_impl_Poly_impl_Poly hr) (stp ?_)
  cases h
  exact ⟨[], by simp, don, don⟩

def mc236 : MCode :=
 (.seq (.reg [⟨some 2, .box 2 43 (.tmp 0), none⟩, ⟨some 4, .mv (.const (.bool false)), none⟩]) (.seq (.reg [⟨some 5, .load 1 true (.tmp 2), none⟩, ⟨some 6, .mv (.tmp 1), none⟩, ⟨some 7, .callf 312 [(.tmp 5), (.tmp 6)], none⟩, ⟨some 8, .mv (.tmp 7), none⟩, ⟨some 9, .mv (.tmp 1), (some (some 8, true))⟩, ⟨some 10, .callf 313 [(.tmp 9), (.func 314)], (some (some 8, true))⟩, ⟨some 11, .un .not (.tmp 10), (some (some 8, true))⟩, ⟨some 12, .pick (.tmp 8) (.tmp 11) (.const (.bool false)), none⟩, ⟨some 4, .mv (.tmp 12), none⟩]) .ret))
theorem fn236 : MFn Tryz.prog 236 mc236 13 [.tmp 4] :=
  ⟨Tryz.f236, Tryz.func236, by kernel_rfl, Tryz.ntmps236, by kernel_rfl⟩
noncomputable def F_impl_StrictIn (sig : (List Int)) (ps : (List (Int × (List Int)))) : Option Bool :=
  (F_impl_PolysOk sig ps).bind fun r =>
  if r = true then
    (F_slices_ContainsFunc_impl_Poly_impl_Poly ps).bind fun r_1 =>
    some (!r_1)
  else
    some false
theorem c_impl_StrictIn {sig : (List Int)} {ps : (List (Int × (List Int)))} {rr : Bool} (h : F_impl_StrictIn sig ps = some rr) : PFun Tryz.prog 236 [D_impl_Sig sig, (slD 2 D_impl_Poly) ps] (bD rr) := by
  delta F_impl_StrictIn at h
  refine fn236.pureL (vcm_sound ?_)
  delta mc236
  refine stp ?_
  obtain ⟨r, hr, h⟩ := bind_some h
  refine cR (c_impl_PolysOk hr) (stp ?_)
  rcases ite_some h with ⟨hc, h⟩ | ⟨hc, h⟩
  · refine stpc hc ?_
    obtain ⟨r_1, hr_1, h⟩ := bind_some h
    refine cRo [] [] (c_slices_ContainsFunc_impl_Poly_impl_Poly hr_1) (stp ?_)
    cases h
    exact don
  · refine stpc hc ?_
    cases h
    exact don

def mc428 : MCode :=
 (.seq (.reg [⟨some 2, .alloc 2 158 [.lit (.int .i64 0), .sl 0 (some true) []], none⟩]) (.seq (.reg [⟨some 4, .mv (.tmp 0), none⟩, ⟨some 5, .un .neg (.tmp 4), none⟩, ⟨some 6, .mksl 6 2 1 8 [.lit (.int .i64 0)] false (.tmp 5) (.tmp 5), none⟩, ⟨some 3, .mv (.tmp 6), none⟩]) (.seq (.reg [⟨some 7, .mv (.tmp 3), none⟩, ⟨some 8, .mv (.tmp 0), none⟩, ⟨some 9, .bin .sub (.const (.int .i64 (-1))) (.tmp 8), none⟩, ⟨some 10, .ixa 1 (.tmp 7) (.tmp 9), none⟩, ⟨none, .store 1 (.tmp 10) (.const (.int .i64 1)), none⟩]) (.seq (.reg [⟨some 11, .mv (.tmp 3), none⟩, ⟨some 12, .build [.lit (.int .i64 0), .sl 0 (some true) []] [(1, 1, (.tmp 11))], none⟩, ⟨none, .store 2 (.tmp 2) (.tmp 12), none⟩]) .ret))))
theorem fn428 : MFn Tryz.prog 428 mc428 13 [.cell 2 2 true] :=
  ⟨Tryz.f428, Tryz.func428, by kernel_rfl, Tryz.ntmps428, by kernel_rfl⟩
noncomputable def F_impl_varForm (n : Int) : Option (Int × (List Int)) :=
  if 0 ≤ (IntKind.i64.wrap (0 - n)) ∧ 8 * (IntKind.i64.wrap (0 - n)) ≤ 281474976710656 ∧ (IntKind.i64.wrap (0 - n)) < 4611686018427387904 then
    if 0 ≤ (IntKind.i64.wrap ((-1) - n)) ∧ (IntKind.i64.wrap ((-1) - n)) < ((IntKind.i64.wrap (0 - n)).toNat : Int) ∧ (IntKind.i64.wrap ((-1) - n)) < ((List.replicate (IntKind.i64.wrap (0 - n)).toNat (0 : Int)).length : Int) then
      if ((List.replicate (IntKind.i64.wrap (0 - n)).toNat (0 : Int)).set (IntKind.i64.wrap ((-1) - n)).toNat 1).length = (IntKind.i64.wrap (0 - n)).toNat then
        some (0, ((List.replicate (IntKind.i64.wrap (0 - n)).toNat (0 : Int)).set (IntKind.i64.wrap ((-1) - n)).toNat 1))
      else none
    else none
  else none
theorem c_impl_varForm {n : Int} {rr : (Int × (List Int))} (h : F_impl_varForm n = some rr) : PFun Tryz.prog 428 [iD n] (D_impl_Poly rr) := by
  delta F_impl_varForm at h
  refine fn428.pureD (vcm_sound ?_)
  delta mc428
  refine stp ?_
  obtain ⟨hp, h⟩ := need_some h
  repeat (refine need_i (by omega) ?_; refine stp ?_)
  obtain ⟨hp, h⟩ := need_some h
  repeat (refine need_i (by omega) ?_; refine stp ?_)
  obtain ⟨hp, h⟩ := need_some h
  repeat (refine need_i (by omega) ?_; refine stp ?_)
  cases h
  exact ⟨_, _, (Done.frzL 6 iD ((List.replicate (IntKind.i64.wrap (0 - n)).toNat (0 : Int)).set (IntKind.i64.wrap ((-1) - n)).toNat 1) (by omega) rfl), frd⟩

def mc408 : MCode :=
 (.seq (.reg [⟨some 3, .box 3 43 (.tmp 0), none⟩, ⟨some 6, .mv (.const (.slice none 0 0)), none⟩]) (.seq (.reg [⟨some 7, .mv (.const (.slice none 0 0)), none⟩]) (.seq (.reg [⟨some 10, .mv (.tmp 2), none⟩, ⟨some 11, .bin .add (.tmp 10) (.const (.int .i64 1)), none⟩, ⟨some 8, .mv (.tmp 11), none⟩]) (.seq (.seq (.draw [⟨some 12, .load 1 true (.tmp 3), none⟩, ⟨some 13, .mv (.tmp 1), none⟩, ⟨some 14, .mv (.tmp 2), none⟩, ⟨some 15, .ixa 1 (.tmp 13) (.tmp 14), none⟩, ⟨some 16, .load 1 false (.tmp 15), none⟩, ⟨some 17, .callf 427 [(.tmp 12), (.tmp 16)], none⟩, ⟨some 9, .mv (.tmp 17), none⟩] [[], [], [], [1, 2], [3], [0, 4], [5, 5, 0, 1, 2, 3, 4, 5]]) (.block 0 (.loop (.seq (.seq (.reg [⟨some 18, .mv (.tmp 9), none⟩, ⟨some 19, .bin .gtr (.tmp 18) (.const (.int .i64 0)), none⟩]) (.cond (.tmp 19) .skip (.exit 0))) (.seq (.block 1 (.seq (.reg [⟨some 22, .mv (.tmp 7), none⟩, ⟨some 23, .mv (.tmp 8), none⟩, ⟨some 24, .bsl 24 3 1 [(.tmp 23)], none⟩, ⟨some 25, .app 25 3 1 8 (.tmp 22) (.tmp 24), none⟩, ⟨some 7, .mv (.tmp 25), none⟩]) (.reg [⟨some 26, .load 1 true (.tmp 3), none⟩, ⟨some 27, .mv (.tmp 1), none⟩, ⟨some 28, .mv (.tmp 8), none⟩, ⟨some 29, .callf 228 [(.tmp 26), (.tmp 27), (.tmp 28)], none⟩, ⟨some 8, .mv (.tmp 29), none⟩]))) (.reg [⟨some 20, .mv (.tmp 9), none⟩, ⟨some 21, .bin .sub (.tmp 20) (.const (.int .i64 1)), none⟩, ⟨some 9, .mv (.tmp 21), none⟩])))))) (.seq (.reg [⟨some 30, .mv (.tmp 7), none⟩, ⟨some 6, .mv (.tmp 30), none⟩]) .ret)))))
theorem fn408 : MFn Tryz.prog 408 mc408 31 [.tmp 6] :=
  ⟨Tryz.f408, Tryz.func408, by kernel_rfl, Tryz.ntmps408, by kernel_rfl⟩
noncomputable def F_impl_argsAt_l1 (sig : (List Int)) (t : (List Int)) : ((List Int) × Int × Int) → Option (((List Int) × Int × Int) ⊕ (List Int))
  | (out, next', n) =>
    if (decide (0 < n)) = true then
      if (out.length + 1) * 8 ≤ 140737488355328 then
        (F_impl_endAt sig t next').bind fun r_1 =>
        some (.inl ((out ++ [next']), r_1, (IntKind.i64.wrap (n - 1))))
      else none
    else
      Option.map Sum.inr (
        some out)
noncomputable def F_impl_argsAt (sig : (List Int)) (t : (List Int)) (at' : Int) : Option (List Int) :=
  if 0 ≤ at' ∧ at' < (t.length : Int) then
    (F_impl_arityAt sig (t.getD at'.toNat default)).bind fun r =>
    loopC (F_impl_argsAt_l1 sig t) ([], (IntKind.i64.wrap (at' + 1)), r)
  else none
theorem c_impl_argsAt {sig : (List Int)} {t : (List Int)} {at' : Int} {rr : (List Int)} (h : F_impl_argsAt sig t at' = some rr) : PFun Tryz.prog 408 [D_impl_Sig sig, (slD 1 iD) t, iD at'] ((slD 1 iD) rr) := by
  delta F_impl_argsAt at h
  refine fn408.pureL (vcm_sound ?_)
  delta mc408
  refine stp ?_
  obtain ⟨hp, h⟩ := need_some h
  repeat (refine need_i (by omega) ?_; refine stp ?_)
  obtain ⟨r, hr, h⟩ := bind_some h
  refine cD' (c_impl_arityAt hr) (stp ?_)
  refine drQ_of (by kernel_rfl) ?_
  refine stp ?_
  refine m_loopF h [7, 8, 9, 18, 19, 20, 21, 22, 23, 24, 25, 26, 27, 28, 29] (fun pp => [(7, .own 1 25 (List.map iD pp.1)), (8, .d (iD pp.2.1)), (9, .d (iD pp.2.2))]) (fun pp => [(3, .obj 43 [.d (slD 1 iD sig)]), (25, .tok 3 1 pp.1.length)]) ?_ ?_
  · try dsimp only
    refine (Weak.thaw 7 25 3 1 rfl rfl).trans ?_
    exact wk
  · rintro ⟨out, next', n⟩ t1 h hb1
    unfold F_impl_argsAt_l1 at h
    try dsimp only at h
    refine vcm_sound (stp ?_)
    rcases ite_some h with ⟨hc, h⟩ | ⟨hc, h⟩
    · refine stpc hc ?_
      obtain ⟨hp, h⟩ := need_some h
      repeat (refine need_i (by omega) ?_; refine stp ?_)
      obtain ⟨r_1, hr_1, h⟩ := bind_some h
      refine cR (c_impl_endAt hr_1) (stp ?_)
      cases h
      refine ⟨_, rfl, ?_⟩
      refine (Weak.drop 24 (by omega)).trans ?_
      exact wk
    · refine stpc hc ?_
      replace h := inr_some h hb1
      cases h
      exact don

def mc129 : MCode :=
 (.seq (.reg [⟨some 2, .mv (.const (.int .i64 0)), none⟩]) (.seq (.seq (.reg [⟨some 5, .mv (.tmp 0), none⟩, ⟨some 6, .len (.tmp 5), none⟩, ⟨some 7, .bin .lss (.tmp 6) (.const (.int .i64 1)), none⟩]) (.cond (.tmp 7) (.reg [⟨some 8, .dead, none⟩, ⟨none, .dead, none⟩]) .skip)) (.seq (.reg [⟨some 9, .mv (.tmp 0), none⟩, ⟨some 10, .ixa 1 (.tmp 9) (.const (.int .i64 0)), none⟩, ⟨some 11, .load 1 false (.tmp 10), none⟩, ⟨some 3, .mv (.tmp 11), none⟩]) (.seq (.seq (.reg [⟨some 4, .mv (.const (.int .i64 1)), none⟩]) (.block 0 (.loop (.seq (.seq (.reg [⟨some 12, .mv (.tmp 4), none⟩, ⟨some 13, .mv (.tmp 0), none⟩, ⟨some 14, .len (.tmp 13), none⟩, ⟨some 15, .bin .lss (.tmp 12) (.tmp 14), none⟩]) (.cond (.tmp 15) .skip (.exit 0))) (.seq (.block 1 (.reg [⟨some 18, .mv (.tmp 3), none⟩, ⟨some 19, .mv (.tmp 0), none⟩, ⟨some 20, .mv (.tmp 4), none⟩, ⟨some 21, .ixa 1 (.tmp 19) (.tmp 20), none⟩, ⟨some 22, .load 1 false (.tmp 21), none⟩, ⟨some 23, .max (.tmp 18) (.tmp 22), none⟩, ⟨some 3, .mv (.tmp 23), none⟩])) (.reg [⟨some 16, .mv (.tmp 4), none⟩, ⟨some 17, .bin .add (.tmp 16) (.const (.int .i64 1)), none⟩, ⟨some 4, .mv (.tmp 17), none⟩])))))) (.seq (.reg [⟨some 24, .mv (.tmp 3), none⟩, ⟨some 2, .mv (.tmp 24), none⟩]) .ret)))))
theorem fn129 : MFn Tryz.prog 129 mc129 25 [.tmp 2] :=
  ⟨Tryz.f129, Tryz.func129, by kernel_rfl, Tryz.ntmps129, by kernel_rfl⟩
noncomputable def F_slices_Max_int64_int64_l1 (x : (List Int)) : (Int × Int) → Option ((Int × Int) ⊕ Int)
  | (m, i) =>
    if (decide (i < (x.length : Int))) = true then
      if 0 ≤ i ∧ i < (x.length : Int) then
        some (.inl ((if (x.getD i.toNat default) > m then (x.getD i.toNat default) else m), (IntKind.i64.wrap (i + 1))))
      else none
    else
      Option.map Sum.inr (
        some m)
noncomputable def F_slices_Max_int64_int64 (x : (List Int)) : Option Int :=
  if (decide ((x.length : Int) < 1)) = true then
    none
  else
    if 0 ≤ 0 ∧ 0 < (x.length : Int) then
      loopC (F_slices_Max_int64_int64_l1 x) ((x.getD 0 default), 1)
    else none
theorem c_slices_Max_int64_int64 {x : (List Int)} {rr : Int} (h : F_slices_Max_int64_int64 x = some rr) : PFun Tryz.prog 129 [(slD 1 iD) x] (iD rr) := by
  delta F_slices_Max_int64_int64 at h
  refine fn129.pureL (vcm_sound ?_)
  delta mc129
  refine stp ?_
  rcases ite_some h with ⟨hc, h⟩ | ⟨hc, h⟩
  · cases h
  · refine stpc hc ?_
    obtain ⟨hp, h⟩ := need_some h
    repeat (refine need_i (by omega) ?_; refine stp ?_)
    refine m_loopF h [3, 4, 12, 13, 14, 15, 16, 17, 18, 19, 20, 21, 22, 23] (fun pp => [(3, .d (iD pp.1)), (4, .d (iD pp.2))]) (fun pp => []) ?_ ?_
    · try dsimp only
      exact wk
    · rintro ⟨m, i⟩ t1 h hb1
      unfold F_slices_Max_int64_int64_l1 at h
      try dsimp only at h
      refine vcm_sound (stp ?_)
      rcases ite_some h with ⟨hc, h⟩ | ⟨hc, h⟩
      · refine stpc hc ?_
        obtain ⟨hp, h⟩ := need_some h
        repeat (refine need_i (by omega) ?_; refine stp ?_)
        cases h
        refine ⟨_, rfl, ?_⟩
        exact wk
      · refine stpc hc ?_
        replace h := inr_some h hb1
        cases h
        exact don

def mc429_impl_Poly_applied : MCode :=
  (.seq (.reg [⟨(some 2), .box 2 158 (.tmp 0), none⟩,
    ⟨(some 4), .alloc 4 158 [.lit (.int .i64 0), .sl 0 (some true) []], none⟩,
    ⟨(some 5), .mv (.const (.bool false)), none⟩])
  (.seq (.reg [⟨(some 11), .fad 0 (.tmp 2), none⟩,
    ⟨(some 12), .load 1 false (.tmp 11), none⟩,
    ⟨(some 13), .build [.lit (.int .i64 0), .sl 0 (some true) []] [(0, 1, (.tmp 12))], none⟩,
    ⟨(some 6), .alloc 6 158 [.lit (.int .i64 0), .sl 0 (some true) []], none⟩,
    ⟨none, .store 2 (.tmp 6) (.tmp 13), none⟩])
  (.seq (.seq (.reg [⟨(some 14), .mv (.tmp 1), none⟩,
    ⟨(some 15), .len (.tmp 14), none⟩,
    ⟨(some 16), .mv (.const (.int .i64 0)), none⟩])
  (.block 0
    (.loop
      (.seq (.reg [⟨(some 17), .bin .lss (.tmp 16) (.tmp 15), none⟩])
      (.seq (.cond (.tmp 17)
        .skip
        (.exit 0))
      (.seq (.block 1
        (.seq (.reg [⟨(some 18), .mv (.tmp 16), none⟩,
          ⟨(some 19), .ixa 2 (.tmp 14) (.tmp 16), none⟩,
          ⟨(some 20), .load 2 true (.tmp 19), none⟩,
          ⟨(some 8), .alloc 8 158 [.lit (.int .i64 0), .sl 0 (some true) []], none⟩,
          ⟨(some 7), .mv (.tmp 18), none⟩,
          ⟨none, .store 2 (.tmp 8) (.tmp 20), none⟩])
        (.seq (.draw [⟨(some 21), .fad 0 (.tmp 6), none⟩,
          ⟨(some 22), .load 1 false (.tmp 21), none⟩,
          ⟨(some 23), .fad 1 (.tmp 2), none⟩,
          ⟨(some 24), .load 1 false (.tmp 23), none⟩,
          ⟨(some 25), .mv (.tmp 7), none⟩,
          ⟨(some 26), .ixa 1 (.tmp 24) (.tmp 25), none⟩,
          ⟨(some 27), .load 1 false (.tmp 26), none⟩,
          ⟨(some 28), .fad 0 (.tmp 8), none⟩,
          ⟨(some 29), .load 1 false (.tmp 28), none⟩,
          ⟨(some 30), .bin .mul (.tmp 27) (.tmp 29), none⟩,
          ⟨(some 31), .bin .add (.tmp 22) (.tmp 30), none⟩,
          ⟨(some 32), .fad 0 (.tmp 6), none⟩,
          ⟨none, .store 1 (.tmp 32) (.tmp 31), none⟩] [[], [0], [], [2], [], [3, 4], [5], [], [7], [6, 8], [1, 9], [0, 1, 2, 3, 4, 5, 6, 7, 8, 9, 10], [11, 10, 0, 1, 2, 3, 4, 5, 6, 7, 8, 9, 10]])
        (.seq (.block 2
          (.loop
            (.seq (.seq (.reg [⟨(some 33), .fad 1 (.tmp 6), none⟩,
              ⟨(some 34), .load 1 false (.tmp 33), none⟩,
              ⟨(some 35), .len (.tmp 34), none⟩,
              ⟨(some 36), .fad 1 (.tmp 8), none⟩,
              ⟨(some 37), .load 1 false (.tmp 36), none⟩,
              ⟨(some 38), .len (.tmp 37), none⟩,
              ⟨(some 39), .bin .lss (.tmp 35) (.tmp 38), none⟩])
            (.cond (.tmp 39)
              .skip
              (.exit 2)))
            (.block 3
              (.reg [⟨(some 40), .fad 1 (.tmp 6), none⟩,
                ⟨(some 41), .load 1 false (.tmp 40), none⟩,
                ⟨(some 42), .bsl 42 2 1 [(.const (.int .i64 0))], none⟩,
                ⟨(some 43), .appg 43 2 1 8 (.tmp 41) (.tmp 42), none⟩,
                ⟨(some 44), .fad 1 (.tmp 6), none⟩,
                ⟨none, .store 1 (.tmp 44) (.tmp 43), none⟩])))))
        (.seq (.reg [⟨(some 45), .fad 1 (.tmp 8), none⟩,
          ⟨(some 46), .load 1 false (.tmp 45), none⟩,
          ⟨(some 47), .len (.tmp 46), none⟩,
          ⟨(some 48), .mv (.const (.int .i64 0)), none⟩])
        (.block 4
          (.loop
            (.seq (.reg [⟨(some 49), .bin .lss (.tmp 48) (.tmp 47), none⟩])
            (.seq (.cond (.tmp 49)
              .skip
              (.exit 4))
            (.seq (.block 5
              (.seq (.reg [⟨(some 50), .mv (.tmp 48), none⟩,
                ⟨(some 51), .ixa 1 (.tmp 46) (.tmp 48), none⟩,
                ⟨(some 52), .load 1 false (.tmp 51), none⟩,
                ⟨(some 9), .mv (.tmp 50), none⟩,
                ⟨(some 10), .mv (.tmp 52), none⟩])
              (.draw [⟨(some 53), .fad 1 (.tmp 6), none⟩,
                ⟨(some 54), .load 1 false (.tmp 53), none⟩,
                ⟨(some 55), .mv (.tmp 9), none⟩,
                ⟨(some 56), .ixa 1 (.tmp 54) (.tmp 55), none⟩,
                ⟨(some 57), .load 1 false (.tmp 56), none⟩,
                ⟨(some 58), .fad 1 (.tmp 2), none⟩,
                ⟨(some 59), .load 1 false (.tmp 58), none⟩,
                ⟨(some 60), .mv (.tmp 7), none⟩,
                ⟨(some 61), .ixa 1 (.tmp 59) (.tmp 60), none⟩,
                ⟨(some 62), .load 1 false (.tmp 61), none⟩,
                ⟨(some 63), .mv (.tmp 10), none⟩,
                ⟨(some 64), .bin .mul (.tmp 62) (.tmp 63), none⟩,
                ⟨(some 65), .bin .add (.tmp 57) (.tmp 64), none⟩,
                ⟨(some 66), .ixa 1 (.tmp 54) (.tmp 55), none⟩,
                ⟨none, .store 1 (.tmp 66) (.tmp 65), none⟩] [[], [0], [], [1, 2], [3], [], [5], [], [6, 7], [8], [], [9, 10], [4, 11], [1, 2, 0, 1, 2, 3, 4, 5, 6, 7, 8, 9, 10, 11, 12], [13, 12, 0, 1, 2, 3, 4, 5, 6, 7, 8, 9, 10, 11, 12]])))
            (.reg [⟨(some 67), .bin .add (.tmp 48) (.const (.int .i64 1)), none⟩,
              ⟨(some 48), .mv (.tmp 67), none⟩])))))))))))
      (.reg [⟨(some 68), .bin .add (.tmp 16) (.const (.int .i64 1)), none⟩,
        ⟨(some 16), .mv (.tmp 68), none⟩])))))))
  (.seq (.seq (.ghost (.reg [⟨(some 69), .fad 0 (.tmp 6), none⟩,
    ⟨(some 70), .load 1 false (.tmp 69), none⟩,
    ⟨(some 71), .bin .gtr (.tmp 70) (.const (.int .i64 1000000000000)), none⟩,
    ⟨(some 72), .mv (.tmp 71), none⟩,
    ⟨(some 73), .fad 1 (.tmp 6), (some (some 72, false))⟩,
    ⟨(some 74), .load 1 false (.tmp 73), (some (some 72, false))⟩,
    ⟨(some 75), .len (.tmp 74), (some (some 72, false))⟩,
    ⟨(some 76), .bin .gtr (.tmp 75) (.const (.int .i64 0)), (some (some 72, false))⟩,
    ⟨(some 77), .mv (.tmp 76), (some (some 72, false))⟩,
    ⟨(some 78), .fad 1 (.tmp 6), (some (some 77, true))⟩,
    ⟨(some 79), .load 1 false (.tmp 78), (some (some 77, true))⟩,
    ⟨(some 80), .callf 129 [(.tmp 79)], (some (some 77, true))⟩,
    ⟨(some 81), .bin .gtr (.tmp 80) (.const (.int .i64 1000000000000)), (some (some 77, true))⟩,
    ⟨(some 82), .pick (.tmp 77) (.tmp 81) (.const (.bool false)), (some (some 72, false))⟩,
    ⟨(some 83), .pick (.tmp 72) (.const (.bool true)) (.tmp 82), none⟩]))
  (.cond (.tmp 83)
    (.seq (.reg [⟨(some 84), .build [.lit (.int .i64 0), .sl 0 (some true) []] [], none⟩,
      ⟨none, .store 2 (.tmp 4) (.tmp 84), none⟩,
      ⟨(some 5), .mv (.const (.bool false)), none⟩])
    .ret)
    .skip))
  (.seq (.reg [⟨(some 85), .load 2 true (.tmp 6), none⟩,
    ⟨none, .store 2 (.tmp 4) (.tmp 85), none⟩,
    ⟨(some 5), .mv (.const (.bool true)), none⟩])
  .ret)))))
theorem fn429_impl_Poly_applied : MFn Tryz.prog 429 mc429_impl_Poly_applied 86 [.cell 4 2 true, .tmp 5] :=
  ⟨Tryz.f429, Tryz.func429, by kernel_rfl, Tryz.ntmps429, by kernel_rfl⟩
noncomputable def F_impl_Poly_applied_l3 (p : (Int × (List Int))) (args : (List (Int × (List Int)))) (v16 : Int) (out : Int) : (Int × (List Int)) → Option ((Int × (List Int)) ⊕ ((Int × Int × (List Int)) ⊕ ((Int × (List Int)) × Bool)))
  | (v48, g43_2) =>
    if (decide (v48 < (((args.getD v16.toNat default).2).length : Int))) = true then
      if 0 ≤ v48 ∧ v48 < (((args.getD v16.toNat default).2).length : Int) then
        if 0 ≤ v48 ∧ v48 < (g43_2.length : Int) then
          if 0 ≤ v16 ∧ v16 < (p.2.length : Int) then
            if 0 ≤ v48 ∧ v48 < (g43_2.length : Int) then
              some (.inl ((IntKind.i64.wrap (v48 + 1)), (g43_2.set v48.toNat (IntKind.i64.wrap ((g43_2.getD v48.toNat default) + (IntKind.i64.wrap ((p.2.getD v16.toNat default) * (((args.getD v16.toNat default).2).getD v48.toNat default))))))))
            else none
          else none
        else none
      else none
    else
      Option.map Sum.inr (
        some (.inl ((IntKind.i64.wrap (v16 + 1)), (IntKind.i64.wrap (out + (IntKind.i64.wrap ((p.2.getD v16.toNat default) * (args.getD v16.toNat default).1)))), g43_2)))
noncomputable def F_impl_Poly_applied_l2 (p : (Int × (List Int))) (args : (List (Int × (List Int)))) (v16 : Int) (out : Int) : (List Int) → Option ((List Int) ⊕ ((Int × Int × (List Int)) ⊕ ((Int × (List Int)) × Bool)))
  | g43_1 =>
    if (decide ((g43_1.length : Int) < (((args.getD v16.toNat default).2).length : Int))) = true then
      if (g43_1.length + 1) * 8 ≤ 140737488355328 then
        some (.inl (g43_1 ++ [0]))
      else none
    else
      Option.map Sum.inr (
        loopC (F_impl_Poly_applied_l3 p args v16 out) (0, g43_1))
noncomputable def F_impl_Poly_applied_l1 (p : (Int × (List Int))) (args : (List (Int × (List Int)))) : (Int × Int × (List Int)) → Option ((Int × Int × (List Int)) ⊕ ((Int × (List Int)) × Bool))
  | (v16, out, g43) =>
    if (decide (v16 < (args.length : Int))) = true then
      if 0 ≤ v16 ∧ v16 < (args.length : Int) then
        if 0 ≤ v16 ∧ v16 < (p.2.length : Int) then
          loopC (F_impl_Poly_applied_l2 p args v16 out) g43
        else none
      else none
    else
      Option.map Sum.inr (
        if (decide (1000000000000 < out)) = true then
          some ((0, []), false)
        else
          if (decide (0 < (g43.length : Int))) = true then
            (F_slices_Max_int64_int64 g43).bind fun r =>
            if (decide (1000000000000 < r)) = true then
              some ((0, []), false)
            else
              some ((out, g43), true)
          else
            some ((out, g43), true))
noncomputable def F_impl_Poly_applied (p : (Int × (List Int))) (args : (List (Int × (List Int)))) : Option ((Int × (List Int)) × Bool) :=
  loopC (F_impl_Poly_applied_l1 p args) (0, p.1, [])
theorem c_impl_Poly_applied {p : (Int × (List Int))} {args : (List (Int × (List Int)))} {rr : ((Int × (List Int)) × Bool)} (h : F_impl_Poly_applied p args = some rr) : PFunN Tryz.prog 429 [D_impl_Poly p, (slD 2 D_impl_Poly) args] [D_impl_Poly rr.1, bD rr.2] := by
  delta F_impl_Poly_applied at h
  refine fn429_impl_Poly_applied.pureLN (vcm_sound ?_)
  delta mc429_impl_Poly_applied
  refine stp ?_
  refine m_loopF h [7, 8, 9, 10, 16, 17, 18, 19, 20, 21, 22, 23, 24, 25, 26, 27, 28, 29, 30, 31, 32, 33, 34, 35, 36, 37, 38, 39, 40, 41, 42, 43, 44, 45, 46, 47, 48, 49, 50, 51, 52, 53, 54, 55, 56, 57, 58, 59, 60, 61, 62, 63, 64, 65, 66, 67, 68] (fun pp => [(16, .d (iD pp.1))]) (fun pp => [(2, .obj 158 [.d (iD p.1), .d (slD 1 iD p.2)]), (4, .obj 158 [.d (iD 0), .d (.sl 0 (some true) [])]), (6, .obj 158 [.d (iD pp.2.1), .gow 1 43 pp.2.2.length]), (43, .gro 2 1 pp.2.2.length (groL iD pp.2.2))]) ?_ ?_
  · try dsimp only
    refine (Weak.thawCellG 6 1 43 2 1 rfl rfl rfl).trans ?_
    exact wk
  · rintro ⟨v16, out, g43⟩ t1 h hb1
    unfold F_impl_Poly_applied_l1 at h
    try dsimp only at h
    refine vcm_sound (stp ?_)
    rcases ite_some h with ⟨hc, h⟩ | ⟨hc, h⟩
    · refine stpc hc ?_
      obtain ⟨hp, h⟩ := need_some h
      repeat (refine need_i (by omega) ?_; refine stp ?_)
      obtain ⟨hp, h⟩ := need_some h
      repeat (refine need_i (by omega) ?_; refine stp ?_)
      refine drQ_of (by kernel_rfl) ?_
      refine stp ?_
      refine m_loopF h [33, 34, 35, 36, 37, 38, 39, 40, 41, 42, 43, 44] (fun pp => []) (fun pp => [(2, .obj 158 [.d (iD p.1), .d (slD 1 iD p.2)]), (4, .obj 158 [.d (iD 0), .d (.sl 0 (some true) [])]), (6, .obj 158 [.d (iD (IntKind.i64.wrap (out + (IntKind.i64.wrap ((p.2.getD v16.toNat default) * (args.getD v16.toNat default).1))))), .gow 1 43 pp.length]), (8, .obj 158 [.d (iD ((args.getD v16.toNat default).1)), .d (slD 1 iD ((args.getD v16.toNat default).2))]), (43, .gro 2 1 pp.length (groL iD pp))]) ?_ ?_
      · try dsimp only
        exact wk
      · rintro g43_1 t2 h hb2
        unfold F_impl_Poly_applied_l2 at h
        try dsimp only at h
        refine vcm_sound (stp ?_)
        rcases ite_some h with ⟨hc, h⟩ | ⟨hc, h⟩
        · refine stpc hc ?_
          obtain ⟨hp, h⟩ := need_some h
          repeat (refine need_i (by omega) ?_; refine stp ?_)
          cases h
          refine ⟨_, rfl, ?_⟩
          refine (Weak.drop 42 (by omega)).trans ?_
          exact wk
        · refine stpc hc ?_
          replace h := inr_some h hb2
          refine m_loopF h [9, 10, 48, 49, 50, 51, 52, 53, 54, 55, 56, 57, 58, 59, 60, 61, 62, 63, 64, 65, 66, 67] (fun pp => [(48, .d (iD pp.1))]) (fun pp => [(2, .obj 158 [.d (iD p.1), .d (slD 1 iD p.2)]), (4, .obj 158 [.d (iD 0), .d (.sl 0 (some true) [])]), (6, .obj 158 [.d (iD (IntKind.i64.wrap (out + (IntKind.i64.wrap ((p.2.getD v16.toNat default) * (args.getD v16.toNat default).1))))), .gow 1 43 pp.2.length]), (8, .obj 158 [.d (iD ((args.getD v16.toNat default).1)), .d (slD 1 iD ((args.getD v16.toNat default).2))]), (43, .gro 2 1 pp.2.length (groL iD pp.2))]) ?_ ?_
          · try dsimp only
            exact wk
          · rintro ⟨v48, g43_2⟩ t2 h hb2
            unfold F_impl_Poly_applied_l3 at h
            try dsimp only at h
            refine vcm_sound (stp ?_)
            rcases ite_some h with ⟨hc, h⟩ | ⟨hc, h⟩
            · refine stpc hc ?_
              obtain ⟨hp, h⟩ := need_some h
              repeat (refine need_i (by omega) ?_; refine stp ?_)
              obtain ⟨hp, h⟩ := need_some h
              repeat (refine need_i (by omega) ?_; refine stp ?_)
              repeat (refine need_i (by omega) ?_; refine stp ?_)
              obtain ⟨hp, h⟩ := need_some h
              repeat (refine need_i (by omega) ?_; refine stp ?_)
              obtain ⟨hp, h⟩ := need_some h
              repeat (refine need_i (by omega) ?_; refine stp ?_)
              repeat (refine need_i (by omega) ?_; refine stp ?_)
              refine drQ_of (by kernel_rfl) ?_
              refine stp ?_
              cases h
              refine ⟨_, rfl, ?_⟩
              exact wk
            · refine stpc hc ?_
              replace h := inr_some h hb2
              cases h
              refine ⟨_, rfl, ?_⟩
              refine (Weak.drop 8 (by omega)).trans ?_
              exact wk
    · refine stpc hc ?_
      replace h := inr_some h hb1
      refine GhostQ.of ((Weak.fz 43 iD rfl g43)) ?_
      refine stpf ?_
      refine stp ?_
      rcases ite_some h with ⟨hc, h⟩ | ⟨hc, h⟩
      · refine stpc hc ?_
        cases h
        exact don
      · refine stpc hc ?_
        rcases ite_some h with ⟨hc, h⟩ | ⟨hc, h⟩
        · refine stpc hc ?_
          obtain ⟨r, hr, h⟩ := bind_some h
          refine cR (c_slices_Max_int64_int64 hr) (stp ?_)
          rcases ite_some h with ⟨hc, h⟩ | ⟨hc, h⟩
          · refine stpc hc ?_
            cases h
            exact don
          · refine stpc hc ?_
            cases h
            exact don
        · refine stpc hc ?_
          cases h
          exact don

def mc381 : MCode :=
 (.seq (.reg [⟨some 5, .box 5 43 (.tmp 0), none⟩, ⟨some 10, .alloc 10 158 [.lit (.int .i64 0), .sl 0 (some true) []], none⟩, ⟨some 11, .mv (.const (.bool false)), none⟩]) (.seq (.seq (.reg [⟨some 17, .mv (.tmp 3), none⟩, ⟨some 18, .mv (.tmp 4), none⟩, ⟨some 19, .ixa 1 (.tmp 17) (.tmp 18), none⟩, ⟨some 20, .load 1 false (.tmp 19), none⟩, ⟨some 21, .bin .lss (.tmp 20) (.const (.int .i64 0)), none⟩]) (.cond (.tmp 21) (.seq (.reg [⟨some 22, .mv (.tmp 3), none⟩, ⟨some 23, .mv (.tmp 4), none⟩, ⟨some 24, .ixa 1 (.tmp 22) (.tmp 23), none⟩, ⟨some 25, .load 1 false (.tmp 24), none⟩, ⟨some 26, .callf 428 [(.tmp 25)], none⟩, ⟨none, .store 2 (.tmp 10) (.tmp 26), none⟩, ⟨some 11, .mv (.const (.bool true)), none⟩]) .ret) .skip)) (.seq (.reg [⟨some 12, .mv (.const (.slice none 0 0)), none⟩]) (.seq (.seq (.reg [⟨some 27, .load 1 true (.tmp 5), none⟩, ⟨some 28, .mv (.tmp 3), none⟩, ⟨some 29, .mv (.tmp 4), none⟩, ⟨some 30, .callf 408 [(.tmp 27), (.tmp 28), (.tmp 29)], none⟩, ⟨some 31, .len (.tmp 30), none⟩, ⟨some 32, .mv (.const (.int .i64 0)), none⟩]) (.block 0 (.loop (.seq (.reg [⟨some 33, .bin .lss (.tmp 32) (.tmp 31), none⟩]) (.seq (.cond (.tmp 33) .skip (.exit 0)) (.seq (.block 1 (.seq (.reg [⟨some 34, .ixa 1 (.tmp 30) (.tmp 32), none⟩, ⟨some 35, .load 1 false (.tmp 34), none⟩, ⟨some 14, .mv (.tmp 35), none⟩]) (.seq (.reg [⟨some 37, .load 1 true (.tmp 5), none⟩, ⟨some 38, .mv (.tmp 1), none⟩, ⟨some 39, .mv (.tmp 3), none⟩, ⟨some 40, .mv (.tmp 14), none⟩, ⟨some 41, .callf 317 [(.tmp 37), (.tmp 38), (.tmp 39), (.tmp 40)], none⟩, ⟨some 36, .mv (.tmp 41), none⟩, ⟨some 42, .ext (.tmp 36) 0, none⟩, ⟨some 43, .ext (.tmp 36) 1, none⟩, ⟨some 15, .alloc 15 158 [.lit (.int .i64 0), .sl 0 (some true) []], none⟩, ⟨none, .store 2 (.tmp 15) (.tmp 42), none⟩, ⟨some 16, .mv (.tmp 43), none⟩]) (.seq (.seq (.reg [⟨some 44, .mv (.tmp 16), none⟩, ⟨some 45, .un .not (.tmp 44), none⟩]) (.cond (.tmp 45) (.seq (.reg [⟨some 46, .build [.lit (.int .i64 0), .sl 0 (some true) []] [], none⟩, ⟨none, .store 2 (.tmp 10) (.tmp 46), none⟩, ⟨some 11, .mv (.const (.bool false)), none⟩]) .ret) .skip)) (.reg [⟨some 47, .mv (.tmp 12), none⟩, ⟨some 48, .load 2 true (.tmp 15), none⟩, ⟨some 49, .bsl 49 158 2 [(.tmp 48)], none⟩, ⟨some 50, .app 50 158 2 32 (.tmp 47) (.tmp 49), none⟩, ⟨some 12, .mv (.tmp 50), none⟩]))))) (.reg [⟨some 51, .bin .add (.tmp 32) (.const (.int .i64 1)), none⟩, ⟨some 32, .mv (.tmp 51), none⟩]))))))) (.seq (.reg [⟨some 52, .mv (.tmp 1), none⟩, ⟨some 53, .mv (.tmp 3), none⟩, ⟨some 54, .mv (.tmp 4), none⟩, ⟨some 55, .ixa 1 (.tmp 53) (.tmp 54), none⟩, ⟨some 56, .load 1 false (.tmp 55), none⟩, ⟨some 57, .mv (.tmp 2), none⟩, ⟨some 58, .bin .add (.tmp 56) (.tmp 57), none⟩, ⟨some 59, .ixa 2 (.tmp 52) (.tmp 58), none⟩, ⟨some 60, .load 2 true (.tmp 59), none⟩, ⟨some 61, .mv (.tmp 12), none⟩, ⟨some 62, .callf 429 [(.tmp 60), (.tmp 61)], none⟩, ⟨some 63, .ext (.tmp 62) 0, none⟩, ⟨some 64, .ext (.tmp 62) 1, none⟩, ⟨none, .store 2 (.tmp 10) (.tmp 63), none⟩, ⟨some 11, .mv (.tmp 64), none⟩]) .ret)))))
theorem fn381 : MFn Tryz.prog 381 mc381 65 [.cell 10 2 true, .tmp 11] :=
  ⟨Tryz.f381, Tryz.func381, by kernel_rfl, Tryz.ntmps381, by kernel_rfl⟩
noncomputable def F_impl_markedForm_l1 (rec : (List Int) → (List (Int × (List Int))) → (List Int) → Int → Option ((Int × (List Int)) × Bool)) (sig : (List Int)) (ps : (List (Int × (List Int)))) (behind : Int) (t : (List Int)) (at' : Int) (r_1 : (List Int)) : ((List (Int × (List Int))) × Int) → Option (((List (Int × (List Int))) × Int) ⊕ ((Int × (List Int)) × Bool))
  | (args, v32) =>
    if (decide (v32 < (r_1.length : Int))) = true then
      if 0 ≤ v32 ∧ v32 < (r_1.length : Int) then
        (rec sig ps t (r_1.getD v32.toNat default)).bind fun r_2 =>
        if r_2.2 = true then
          if (args.length + 1) * 32 ≤ 140737488355328 then
            some (.inl ((args ++ [r_2.1]), (IntKind.i64.wrap (v32 + 1))))
          else none
        else
          Option.map Sum.inr (
            some ((0, []), false))
      else none
    else
      Option.map Sum.inr (
        if 0 ≤ at' ∧ at' < (t.length : Int) then
          if 0 ≤ (IntKind.i64.wrap ((t.getD at'.toNat default) + behind)) ∧ (IntKind.i64.wrap ((t.getD at'.toNat default) + behind)) < (ps.length : Int) then
            (F_impl_Poly_applied ((ps.getD (IntKind.i64.wrap ((t.getD at'.toNat default) + behind)).toNat default).1, (ps.getD (IntKind.i64.wrap ((t.getD at'.toNat default) + behind)).toNat default).2) args).bind fun r_3 =>
            some r_3
          else none
        else none)
noncomputable def F_impl_markedForm (rec : (List Int) → (List (Int × (List Int))) → (List Int) → Int → Option ((Int × (List Int)) × Bool)) (sig : (List Int)) (ps : (List (Int × (List Int)))) (behind : Int) (t : (List Int)) (at' : Int) : Option ((Int × (List Int)) × Bool) :=
  if 0 ≤ at' ∧ at' < (t.length : Int) then
    if (decide ((t.getD at'.toNat default) < 0)) = true then
      if 0 ≤ at' ∧ at' < (t.length : Int) then
        (F_impl_varForm (t.getD at'.toNat default)).bind fun r =>
        some (r, true)
      else none
    else
      (F_impl_argsAt sig t at').bind fun r_1 =>
      loopC (F_impl_markedForm_l1 rec sig ps behind t at' r_1) ([], 0)
  else none
theorem c_impl_markedForm {rec : (List Int) → (List (Int × (List Int))) → (List Int) → Int → Option ((Int × (List Int)) × Bool)} (ih : ∀ {sig : (List Int)} {ps : (List (Int × (List Int)))} {t : (List Int)} {at' : Int} {rr : ((Int × (List Int)) × Bool)}, rec sig ps t at' = some rr → PFunN Tryz.prog 317 [D_impl_Sig sig, (slD 2 D_impl_Poly) ps, (slD 1 iD) t, iD at'] [D_impl_Poly rr.1, bD rr.2]) {sig : (List Int)} {ps : (List (Int × (List Int)))} {behind : Int} {t : (List Int)} {at' : Int} {rr : ((Int × (List Int)) × Bool)} (h : F_impl_markedForm rec sig ps behind t at' = some rr) : PFunN Tryz.prog 381 [D_impl_Sig sig, (slD 2 D_impl_Poly) ps, iD behind, (slD 1 iD) t, iD at'] [D_impl_Poly rr.1, bD rr.2] := by
  delta F_impl_markedForm at h
  refine fn381.pureLN (vcm_sound ?_)
  delta mc381
  refine stp ?_
  obtain ⟨hp, h⟩ := need_some h
  repeat (refine need_i (by omega) ?_; refine stp ?_)
  rcases ite_some h with ⟨hc, h⟩ | ⟨hc, h⟩
  · refine stpc hc ?_
    obtain ⟨hp, h⟩ := need_some h
    repeat (refine need_i (by omega) ?_; refine stp ?_)
    obtain ⟨r, hr, h⟩ := bind_some h
    refine cR (c_impl_varForm hr) (stp ?_)
    cases h
    exact don
  · refine stpc hc ?_
    obtain ⟨r_1, hr_1, h⟩ := bind_some h
    refine cR (c_impl_argsAt hr_1) (stp ?_)
    refine m_loopF h [11, 12, 14, 15, 16, 32, 33, 34, 35, 36, 37, 38, 39, 40, 41, 42, 43, 44, 45, 46, 47, 48, 49, 50, 51] (fun pp => [(12, .own 2 50 (List.map D_impl_Poly pp.1)), (32, .d (iD pp.2))]) (fun pp => [(5, .obj 43 [.d (slD 1 iD sig)]), (10, .obj 158 [.d (iD 0), .d (.sl 0 (some true) [])]), (50, .tok 158 2 pp.1.length)]) ?_ ?_
    · try dsimp only
      refine (Weak.thaw 12 50 158 2 rfl rfl).trans ?_
      exact wk
    · rintro ⟨args, v32⟩ t1 h hb1
      unfold F_impl_markedForm_l1 at h
      try dsimp only at h
      refine vcm_sound (stp ?_)
      rcases ite_some h with ⟨hc, h⟩ | ⟨hc, h⟩
      · refine stpc hc ?_
        obtain ⟨hp, h⟩ := need_some h
        repeat (refine need_i (by omega) ?_; refine stp ?_)
        obtain ⟨r_2, hr_2, h⟩ := bind_some h
        refine cRN (ih hr_2) (stp ?_)
        rcases ite_some h with ⟨hc, h⟩ | ⟨hc, h⟩
        · refine stpc hc ?_
          obtain ⟨hp, h⟩ := need_some h
          repeat (refine need_i (by omega) ?_; refine stp ?_)
          cases h
          refine ⟨_, rfl, ?_⟩
          refine (Weak.drop 15 (by omega)).trans ?_
          refine (Weak.drop 49 (by omega)).trans ?_
          exact wk
        · refine stpc hc ?_
          replace h := inr_some h hb1
          cases h
          exact don
      · refine stpc hc ?_
        replace h := inr_some h hb1
        obtain ⟨hp, h⟩ := need_some h
        repeat (refine need_i (by omega) ?_; refine stp ?_)
        obtain ⟨hp, h⟩ := need_some h
        repeat (refine need_i (by omega) ?_; refine stp ?_)
        obtain ⟨r_3, hr_3, h⟩ := bind_some h
        refine cRN (c_impl_Poly_applied hr_3) (stp ?_)
        cases h
        exact don

def mc317 : MCode :=
 (.seq (.reg [⟨some 4, .box 4 43 (.tmp 0), none⟩, ⟨some 8, .alloc 8 158 [.lit (.int .i64 0), .sl 0 (some true) []], none⟩, ⟨some 9, .mv (.const (.bool false)), none⟩]) (.seq (.reg [⟨some 10, .load 1 true (.tmp 4), none⟩, ⟨some 11, .mv (.tmp 1), none⟩, ⟨some 12, .mv (.tmp 2), none⟩, ⟨some 13, .mv (.tmp 3), none⟩, ⟨some 14, .callf 381 [(.tmp 10), (.tmp 11), (.const (.int .i64 0)), (.tmp 12), (.tmp 13)], none⟩, ⟨some 15, .ext (.tmp 14) 0, none⟩, ⟨some 16, .ext (.tmp 14) 1, none⟩, ⟨none, .store 2 (.tmp 8) (.tmp 15), none⟩, ⟨some 9, .mv (.tmp 16), none⟩]) .ret))
theorem fn317 : MFn Tryz.prog 317 mc317 17 [.cell 8 2 true, .tmp 9] :=
  ⟨Tryz.f317, Tryz.func317, by kernel_rfl, Tryz.ntmps317, by kernel_rfl⟩
noncomputable def F_impl_formAt : Nat → (List Int) → (List (Int × (List Int))) → (List Int) → Int → Option ((Int × (List Int)) × Bool)
  | 0, _, _, _, _ => none
  | fu + 1, sig, ps, t, at' =>
    (F_impl_markedForm (F_impl_formAt fu) sig ps 0 t at').bind fun r =>
    some r
noncomputable def F_impl_formAt_all (sig : (List Int)) (ps : (List (Int × (List Int)))) (t : (List Int)) (at' : Int) : Option ((Int × (List Int)) × Bool) := limO fun fu => F_impl_formAt fu sig ps t at'
theorem c_impl_formAt : ∀ {fu : Nat} {sig : (List Int)} {ps : (List (Int × (List Int)))} {t : (List Int)} {at' : Int} {rr : ((Int × (List Int)) × Bool)} (h : F_impl_formAt fu sig ps t at' = some rr), PFunN Tryz.prog 317 [D_impl_Sig sig, (slD 2 D_impl_Poly) ps, (slD 1 iD) t, iD at'] [D_impl_Poly rr.1, bD rr.2]
  | 0, _, _, _, _, _, h => by cases h
  | fu + 1, sig, ps, t, at', rr, h => by
    have ih := @c_impl_formAt fu
    unfold F_impl_formAt at h
    refine fn317.pureLN (vcm_sound ?_)
    delta mc317
    refine stp ?_
    obtain ⟨r, hr, h⟩ := bind_some h
    refine cRN (c_impl_markedForm ih hr) (stp ?_)
    cases h
    exact don
theorem c_impl_formAt_all {sig : (List Int)} {ps : (List (Int × (List Int)))} {t : (List Int)} {at' : Int} {rr : ((Int × (List Int)) × Bool)} (h : F_impl_formAt_all sig ps t at' = some rr) : PFunN Tryz.prog 317 [D_impl_Sig sig, (slD 2 D_impl_Poly) ps, (slD 1 iD) t, iD at'] [D_impl_Poly rr.1, bD rr.2] := c_impl_formAt (limO_some h).choose_spec

def mc318 : MCode :=
 (.seq (.reg [⟨some 2, .box 2 314 (.tmp 0), none⟩, ⟨some 4, .mv (.const (.int .i64 0)), none⟩]) (.seq (.seq (.reg [⟨some 5, .mv (.tmp 1), none⟩, ⟨some 6, .fad 1 (.tmp 2), none⟩, ⟨some 7, .load 1 false (.tmp 6), none⟩, ⟨some 8, .len (.tmp 7), none⟩, ⟨some 9, .bin .geq (.tmp 5) (.tmp 8), none⟩]) (.cond (.tmp 9) (.seq (.reg [⟨some 4, .mv (.const (.int .i64 0)), none⟩]) .ret) .skip)) (.seq (.reg [⟨some 10, .fad 1 (.tmp 2), none⟩, ⟨some 11, .load 1 false (.tmp 10), none⟩, ⟨some 12, .mv (.tmp 1), none⟩, ⟨some 13, .ixa 1 (.tmp 11) (.tmp 12), none⟩, ⟨some 14, .load 1 false (.tmp 13), none⟩, ⟨some 4, .mv (.tmp 14), none⟩]) .ret)))
theorem fn318 : MFn Tryz.prog 318 mc318 15 [.tmp 4] :=
  ⟨Tryz.f318, Tryz.func318, by kernel_rfl, Tryz.ntmps318, by kernel_rfl⟩
noncomputable def F_impl_line_int64_at (l : (Int × (List Int))) (i : Int) : Option Int :=
  if (decide ((l.2.length : Int) ≤ i)) = true then
    some 0
  else
    if 0 ≤ i ∧ i < (l.2.length : Int) then
      some (l.2.getD i.toNat default)
    else none
theorem c_impl_line_int64_at {l : (Int × (List Int))} {i : Int} {rr : Int} (h : F_impl_line_int64_at l i = some rr) : PFun Tryz.prog 318 [D_impl_line_int64 l, iD i] (iD rr) := by
  delta F_impl_line_int64_at at h
  refine fn318.pureL (vcm_sound ?_)
  delta mc318
  refine stp ?_
  rcases ite_some h with ⟨hc, h⟩ | ⟨hc, h⟩
  · refine stpc hc ?_
    cases h
    exact don
  · refine stpc hc ?_
    obtain ⟨hp, h⟩ := need_some h
    repeat (refine need_i (by omega) ?_; refine stp ?_)
    cases h
    exact don

def mc239 : MCode :=
 (.seq (.reg [⟨some 2, .box 2 158 (.tmp 0), none⟩, ⟨some 4, .mv (.const (.int .i64 0)), none⟩]) (.seq (.reg [⟨some 5, .load 2 true (.tmp 2), none⟩, ⟨some 6, .mv (.tmp 1), none⟩, ⟨some 7, .callf 318 [(.tmp 5), (.tmp 6)], none⟩, ⟨some 4, .mv (.tmp 7), none⟩]) .ret))
theorem fn239 : MFn Tryz.prog 239 mc239 8 [.tmp 4] :=
  ⟨Tryz.f239, Tryz.func239, by kernel_rfl, Tryz.ntmps239, by kernel_rfl⟩
noncomputable def F_impl_Poly_coef (p : (Int × (List Int))) (i : Int) : Option Int :=
  (F_impl_line_int64_at p i).bind fun r =>
  some r
theorem c_impl_Poly_coef {p : (Int × (List Int))} {i : Int} {rr : Int} (h : F_impl_Poly_coef p i = some rr) : PFun Tryz.prog 239 [D_impl_Poly p, iD i] (iD rr) := by
  delta F_impl_Poly_coef at h
  refine fn239.pureL (vcm_sound ?_)
  delta mc239
  refine stp ?_
  obtain ⟨r, hr, h⟩ := bind_some h
  refine cR (c_impl_line_int64_at hr) (stp ?_)
  cases h
  exact don

def mc380 : MCode :=
 (.seq (.reg [⟨some 2, .box 2 158 (.tmp 0), none⟩, ⟨some 3, .box 3 158 (.tmp 1), none⟩, ⟨some 4, .mv (.const (.bool false)), none⟩, ⟨some 5, .mv (.const (.bool false)), none⟩]) (.seq (.seq (.reg [⟨some 8, .fad 1 (.tmp 2), none⟩, ⟨some 9, .load 1 false (.tmp 8), none⟩, ⟨some 10, .len (.tmp 9), none⟩, ⟨some 11, .mv (.const (.int .i64 0)), none⟩]) (.block 0 (.loop (.seq (.reg [⟨some 12, .bin .lss (.tmp 11) (.tmp 10), none⟩]) (.seq (.cond (.tmp 12) .skip (.exit 0)) (.seq (.block 1 (.seq (.reg [⟨some 13, .mv (.tmp 11), none⟩, ⟨some 14, .ixa 1 (.tmp 9) (.tmp 11), none⟩, ⟨some 15, .load 1 false (.tmp 14), none⟩, ⟨some 6, .mv (.tmp 13), none⟩, ⟨some 7, .mv (.tmp 15), none⟩]) (.seq (.reg [⟨some 16, .mv (.tmp 7), none⟩, ⟨some 17, .load 2 true (.tmp 3), none⟩, ⟨some 18, .mv (.tmp 6), none⟩, ⟨some 19, .callf 239 [(.tmp 17), (.tmp 18)], none⟩, ⟨some 20, .bin .gtr (.tmp 16) (.tmp 19), none⟩]) (.cond (.tmp 20) (.seq (.reg [⟨some 4, .mv (.const (.bool false)), none⟩, ⟨some 5, .mv (.const (.bool false)), none⟩]) .ret) .skip)))) (.reg [⟨some 21, .bin .add (.tmp 11) (.const (.int .i64 1)), none⟩, ⟨some 11, .mv (.tmp 21), none⟩]))))))) (.seq (.draw [⟨some 22, .fad 0 (.tmp 2), none⟩, ⟨some 23, .load 1 false (.tmp 22), none⟩, ⟨some 24, .fad 0 (.tmp 3), none⟩, ⟨some 25, .load 1 false (.tmp 24), none⟩, ⟨some 26, .bin .leq (.tmp 23) (.tmp 25), none⟩, ⟨some 27, .fad 0 (.tmp 2), none⟩, ⟨some 28, .load 1 false (.tmp 27), none⟩, ⟨some 29, .fad 0 (.tmp 3), none⟩, ⟨some 30, .load 1 false (.tmp 29), none⟩, ⟨some 31, .bin .lss (.tmp 28) (.tmp 30), none⟩, ⟨some 4, .mv (.tmp 26), none⟩, ⟨some 5, .mv (.tmp 31), none⟩] [[], [0], [], [2], [1, 3], [], [5], [], [7], [6, 8], [4, 0, 1, 2, 3, 4], [9, 10, 0, 1, 2, 3, 4, 5, 6, 7, 8, 9, 10]]) .ret)))
theorem fn380 : MFn Tryz.prog 380 mc380 32 [.tmp 4, .tmp 5] :=
  ⟨Tryz.f380, Tryz.func380, by kernel_rfl, Tryz.ntmps380, by kernel_rfl⟩
noncomputable def F_impl_atMost_l1 (a : (Int × (List Int))) (b : (Int × (List Int))) : Int → Option (Int ⊕ (Bool × Bool))
  | v11 =>
    if (decide (v11 < (a.2.length : Int))) = true then
      if 0 ≤ v11 ∧ v11 < (a.2.length : Int) then
        (F_impl_Poly_coef b v11).bind fun r =>
        if (decide (r < (a.2.getD v11.toNat default))) = true then
          Option.map Sum.inr (
            some (false, false))
        else
          some (.inl (IntKind.i64.wrap (v11 + 1)))
      else none
    else
      Option.map Sum.inr (
        some ((decide (a.1 ≤ b.1)), (decide (a.1 < b.1))))
noncomputable def F_impl_atMost (a : (Int × (List Int))) (b : (Int × (List Int))) : Option (Bool × Bool) :=
  loopC (F_impl_atMost_l1 a b) 0
theorem c_impl_atMost {a : (Int × (List Int))} {b : (Int × (List Int))} {rr : (Bool × Bool)} (h : F_impl_atMost a b = some rr) : PFunN Tryz.prog 380 [D_impl_Poly a, D_impl_Poly b] [bD rr.1, bD rr.2] := by
  delta F_impl_atMost at h
  refine fn380.pureLN (vcm_sound ?_)
  delta mc380
  refine stp ?_
  refine m_loopF h [4, 5, 6, 7, 11, 12, 13, 14, 15, 16, 17, 18, 19, 20, 21] (fun pp => [(11, .d (iD pp))]) (fun pp => [(2, .obj 158 [.d (iD a.1), .d (slD 1 iD a.2)]), (3, .obj 158 [.d (iD b.1), .d (slD 1 iD b.2)])]) ?_ ?_
  · try dsimp only
    exact wk
  · rintro v11 t1 h hb1
    unfold F_impl_atMost_l1 at h
    try dsimp only at h
    refine vcm_sound (stp ?_)
    rcases ite_some h with ⟨hc, h⟩ | ⟨hc, h⟩
    · refine stpc hc ?_
      obtain ⟨hp, h⟩ := need_some h
      repeat (refine need_i (by omega) ?_; refine stp ?_)
      obtain ⟨r, hr, h⟩ := bind_some h
      refine cR (c_impl_Poly_coef hr) (stp ?_)
      rcases ite_some h with ⟨hc, h⟩ | ⟨hc, h⟩
      · refine stpc hc ?_
        replace h := inr_some h hb1
        cases h
        exact don
      · refine stpc hc ?_
        cases h
        refine ⟨_, rfl, ?_⟩
        exact wk
    · refine stpc hc ?_
      replace h := inr_some h hb1
      refine drQ_of (by kernel_rfl) ?_
      refine stp ?_
      cases h
      exact don

def mc316 : MCode :=
 (.seq (.reg [⟨some 4, .box 4 43 (.tmp 0), none⟩, ⟨some 8, .mv (.const (.bool false)), none⟩, ⟨some 9, .mv (.const (.bool false)), none⟩]) (.seq (.reg [⟨some 15, .load 1 true (.tmp 4), none⟩, ⟨some 16, .mv (.tmp 1), none⟩, ⟨some 17, .mv (.tmp 2), none⟩, ⟨some 18, .callf 317 [(.tmp 15), (.tmp 16), (.tmp 17), (.const (.int .i64 0))], none⟩, ⟨some 14, .mv (.tmp 18), none⟩, ⟨some 19, .ext (.tmp 14) 0, none⟩, ⟨some 20, .ext (.tmp 14) 1, none⟩, ⟨some 10, .alloc 10 158 [.lit (.int .i64 0), .sl 0 (some true) []], none⟩, ⟨none, .store 2 (.tmp 10) (.tmp 19), none⟩, ⟨some 11, .mv (.tmp 20), none⟩]) (.seq (.reg [⟨some 22, .load 1 true (.tmp 4), none⟩, ⟨some 23, .mv (.tmp 1), none⟩, ⟨some 24, .mv (.tmp 3), none⟩, ⟨some 25, .callf 317 [(.tmp 22), (.tmp 23), (.tmp 24), (.const (.int .i64 0))], none⟩, ⟨some 21, .mv (.tmp 25), none⟩, ⟨some 26, .ext (.tmp 21) 0, none⟩, ⟨some 27, .ext (.tmp 21) 1, none⟩, ⟨some 12, .alloc 12 158 [.lit (.int .i64 0), .sl 0 (some true) []], none⟩, ⟨none, .store 2 (.tmp 12) (.tmp 26), none⟩, ⟨some 13, .mv (.tmp 27), none⟩]) (.seq (.seq (.reg [⟨some 28, .mv (.tmp 11), none⟩, ⟨some 29, .un .not (.tmp 28), none⟩, ⟨some 30, .mv (.tmp 29), none⟩, ⟨some 31, .mv (.tmp 13), (some (some 30, false))⟩, ⟨some 32, .un .not (.tmp 31), (some (some 30, false))⟩, ⟨some 33, .pick (.tmp 30) (.const (.bool true)) (.tmp 32), none⟩]) (.cond (.tmp 33) (.seq (.reg [⟨some 8, .mv (.const (.bool false)), none⟩, ⟨some 9, .mv (.const (.bool false)), none⟩]) .ret) .skip)) (.seq (.reg [⟨some 34, .load 2 true (.tmp 10), none⟩, ⟨some 35, .load 2 true (.tmp 12), none⟩, ⟨some 36, .callf 380 [(.tmp 34), (.tmp 35)], none⟩, ⟨some 37, .ext (.tmp 36) 0, none⟩, ⟨some 38, .ext (.tmp 36) 1, none⟩, ⟨some 8, .mv (.tmp 37), none⟩, ⟨some 9, .mv (.tmp 38), none⟩]) .ret)))))
theorem fn316 : MFn Tryz.prog 316 mc316 39 [.tmp 8, .tmp 9] :=
  ⟨Tryz.f316, Tryz.func316, by kernel_rfl, Tryz.ntmps316, by kernel_rfl⟩
noncomputable def F_impl_compareForms (sig : (List Int)) (ps : (List (Int × (List Int)))) (s : (List Int)) (t : (List Int)) : Option (Bool × Bool) :=
  (F_impl_formAt_all sig ps s 0).bind fun r =>
  (F_impl_formAt_all sig ps t 0).bind fun r_1 =>
  if r.2 = true then
    if r_1.2 = true then
      (F_impl_atMost r.1 r_1.1).bind fun r_2 =>
      some r_2
    else
      some (false, false)
  else
    some (false, false)
theorem c_impl_compareForms {sig : (List Int)} {ps : (List (Int × (List Int)))} {s : (List Int)} {t : (List Int)} {rr : (Bool × Bool)} (h : F_impl_compareForms sig ps s t = some rr) : PFunN Tryz.prog 316 [D_impl_Sig sig, (slD 2 D_impl_Poly) ps, (slD 1 iD) s, (slD 1 iD) t] [bD rr.1, bD rr.2] := by
  delta F_impl_compareForms at h
  refine fn316.pureLN (vcm_sound ?_)
  delta mc316
  refine stp ?_
  obtain ⟨r, hr, h⟩ := bind_some h
  refine cRN (c_impl_formAt_all hr) (stp ?_)
  obtain ⟨r_1, hr_1, h⟩ := bind_some h
  refine cRN (c_impl_formAt_all hr_1) (stp ?_)
  rcases ite_some h with ⟨hc, h⟩ | ⟨hc, h⟩
  · refine stpc hc ?_
    rcases ite_some h with ⟨hc, h⟩ | ⟨hc, h⟩
    · refine stpc hc ?_
      obtain ⟨r_2, hr_2, h⟩ := bind_some h
      refine cRN (c_impl_atMost hr_2) (stp ?_)
      cases h
      exact don
    · refine stpc hc ?_
      cases h
      exact don
  · refine stpc hc ?_
    cases h
    exact don

def mc237 : MCode :=
 (.seq (.reg [⟨some 3, .box 3 46 (.tmp 0), none⟩, ⟨some 6, .mv (.const (.bool false)), none⟩]) (.seq (.seq (.reg [⟨some 11, .fad 1 (.tmp 3), none⟩, ⟨some 12, .load 1 false (.tmp 11), none⟩, ⟨some 13, .len (.tmp 12), none⟩, ⟨some 14, .mv (.const (.int .i64 0)), none⟩]) (.block 0 (.loop (.seq (.reg [⟨some 15, .bin .lss (.tmp 14) (.tmp 13), none⟩]) (.seq (.cond (.tmp 15) .skip (.exit 0)) (.seq (.block 1 (.seq (.reg [⟨some 16, .ixa 2 (.tmp 12) (.tmp 14), none⟩, ⟨some 17, .load 2 true (.tmp 16), none⟩, ⟨some 8, .alloc 8 146 [.sl 0 (some true) [], .sl 0 (some true) []], none⟩, ⟨none, .store 2 (.tmp 8) (.tmp 17), none⟩]) (.seq (.reg [⟨some 19, .fad 0 (.tmp 3), none⟩, ⟨some 20, .load 1 true (.tmp 19), none⟩, ⟨some 21, .mv (.tmp 1), none⟩, ⟨some 22, .fad 1 (.tmp 8), none⟩, ⟨some 23, .load 1 false (.tmp 22), none⟩, ⟨some 24, .fad 0 (.tmp 8), none⟩, ⟨some 25, .load 1 false (.tmp 24), none⟩, ⟨some 26, .callf 316 [(.tmp 20), (.tmp 21), (.tmp 23), (.tmp 25)], none⟩, ⟨some 18, .mv (.tmp 26), none⟩, ⟨some 27, .ext (.tmp 18) 0, none⟩, ⟨some 28, .ext (.tmp 18) 1, none⟩, ⟨some 9, .mv (.tmp 27), none⟩, ⟨some 10, .mv (.tmp 28), none⟩]) (.seq (.reg [⟨some 29, .mv (.tmp 9), none⟩, ⟨some 30, .un .not (.tmp 29), none⟩, ⟨some 31, .mv (.tmp 30), none⟩, ⟨some 32, .mv (.tmp 2), (some (some 31, false))⟩, ⟨some 33, .mv (.tmp 32), (some (some 31, false))⟩, ⟨some 34, .mv (.tmp 10), (some (some 33, true))⟩, ⟨some 35, .un .not (.tmp 34), (some (some 33, true))⟩, ⟨some 36, .pick (.tmp 33) (.tmp 35) (.const (.bool false)), (some (some 31, false))⟩, ⟨some 37, .pick (.tmp 31) (.const (.bool true)) (.tmp 36), none⟩]) (.cond (.tmp 37) (.seq (.reg [⟨some 6, .mv (.const (.bool false)), none⟩]) .ret) .skip))))) (.reg [⟨some 38, .bin .add (.tmp 14) (.const (.int .i64 1)), none⟩, ⟨some 14, .mv (.tmp 38), none⟩]))))))) (.seq (.reg [⟨some 6, .mv (.const (.bool true)), none⟩]) .ret)))
theorem fn237 : MFn Tryz.prog 237 mc237 39 [.tmp 6] :=
  ⟨Tryz.f237, Tryz.func237, by kernel_rfl, Tryz.ntmps237, by kernel_rfl⟩
noncomputable def F_impl_polyRules_l1 (sys : ((List Int) × (List ((List Int) × (List Int))))) (ps : (List (Int × (List Int)))) (down : Bool) : Int → Option (Int ⊕ Bool)
  | v14 =>
    if (decide (v14 < (sys.2.length : Int))) = true then
      if 0 ≤ v14 ∧ v14 < (sys.2.length : Int) then
        (F_impl_compareForms sys.1 ps ((sys.2.getD v14.toNat default).2) ((sys.2.getD v14.toNat default).1)).bind fun r =>
        if r.1 = true then
          if down = true then
            if r.2 = true then
              some (.inl (IntKind.i64.wrap (v14 + 1)))
            else
              Option.map Sum.inr (
                some false)
          else
            some (.inl (IntKind.i64.wrap (v14 + 1)))
        else
          Option.map Sum.inr (
            some false)
      else none
    else
      Option.map Sum.inr (
        some true)
noncomputable def F_impl_polyRules (sys : ((List Int) × (List ((List Int) × (List Int))))) (ps : (List (Int × (List Int)))) (down : Bool) : Option Bool :=
  loopC (F_impl_polyRules_l1 sys ps down) 0
theorem c_impl_polyRules {sys : ((List Int) × (List ((List Int) × (List Int))))} {ps : (List (Int × (List Int)))} {down : Bool} {rr : Bool} (h : F_impl_polyRules sys ps down = some rr) : PFun Tryz.prog 237 [D_impl_System sys, (slD 2 D_impl_Poly) ps, bD down] (bD rr) := by
  delta F_impl_polyRules at h
  refine fn237.pureL (vcm_sound ?_)
  delta mc237
  refine stp ?_
  refine m_loopF h [6, 8, 9, 10, 14, 15, 16, 17, 18, 19, 20, 21, 22, 23, 24, 25, 26, 27, 28, 29, 30, 31, 32, 33, 34, 35, 36, 37, 38] (fun pp => [(14, .d (iD pp))]) (fun pp => [(3, .obj 46 [.d (slD 1 iD sys.1), .d (slD 2 D_impl_Rule sys.2)])]) ?_ ?_
  · try dsimp only
    exact wk
  · rintro v14 t1 h hb1
    unfold F_impl_polyRules_l1 at h
    try dsimp only at h
    refine vcm_sound (stp ?_)
    rcases ite_some h with ⟨hc, h⟩ | ⟨hc, h⟩
    · refine stpc hc ?_
      obtain ⟨hp, h⟩ := need_some h
      repeat (refine need_i (by omega) ?_; refine stp ?_)
      obtain ⟨r, hr, h⟩ := bind_some h
      refine cRN (c_impl_compareForms hr) (stp ?_)
      rcases ite_some h with ⟨hc, h⟩ | ⟨hc, h⟩
      · refine stpc hc ?_
        rcases ite_some h with ⟨hc, h⟩ | ⟨hc, h⟩
        · refine stpc hc ?_
          rcases ite_some h with ⟨hc, h⟩ | ⟨hc, h⟩
          · refine stpc hc ?_
            cases h
            refine ⟨_, rfl, ?_⟩
            refine (Weak.drop 8 (by omega)).trans ?_
            exact wk
          · refine stpc hc ?_
            replace h := inr_some h hb1
            cases h
            exact don
        · refine stpc hc ?_
          cases h
          refine ⟨_, rfl, ?_⟩
          refine (Weak.drop 8 (by omega)).trans ?_
          exact wk
      · refine stpc hc ?_
        replace h := inr_some h hb1
        cases h
        exact don
    · refine stpc hc ?_
      replace h := inr_some h hb1
      cases h
      exact don

def mc125 : MCode :=
 (.seq (.reg [⟨some 2, .box 2 46 (.tmp 0), none⟩, ⟨some 4, .mv (.const (.bool false)), none⟩]) (.seq (.reg [⟨some 5, .load 2 true (.tmp 2), none⟩, ⟨some 6, .callf 167 [(.tmp 5)], none⟩, ⟨some 7, .mv (.tmp 6), none⟩, ⟨some 8, .fad 0 (.tmp 2), (some (some 7, true))⟩, ⟨some 9, .load 1 true (.tmp 8), (some (some 7, true))⟩, ⟨some 10, .mv (.tmp 1), (some (some 7, true))⟩, ⟨some 11, .callf 236 [(.tmp 9), (.tmp 10)], (some (some 7, true))⟩, ⟨some 12, .pick (.tmp 7) (.tmp 11) (.const (.bool false)), none⟩, ⟨some 13, .mv (.tmp 12), none⟩, ⟨some 14, .load 2 true (.tmp 2), (some (some 13, true))⟩, ⟨some 15, .mv (.tmp 1), (some (some 13, true))⟩, ⟨some 16, .callf 237 [(.tmp 14), (.tmp 15), (.const (.bool true))], (some (some 13, true))⟩, ⟨some 17, .pick (.tmp 13) (.tmp 16) (.const (.bool false)), none⟩, ⟨some 4, .mv (.tmp 17), none⟩]) .ret))
theorem fn125 : MFn Tryz.prog 125 mc125 18 [.tmp 4] :=
  ⟨Tryz.f125, Tryz.func125, by kernel_rfl, Tryz.ntmps125, by kernel_rfl⟩
noncomputable def F_impl_PolyOrients (sys : ((List Int) × (List ((List Int) × (List Int))))) (ps : (List (Int × (List Int)))) : Option Bool :=
  (F_impl_SystemOk sys).bind fun r =>
  if r = true then
    (F_impl_StrictIn sys.1 ps).bind fun r_1 =>
    if r_1 = true then
      (F_impl_polyRules sys ps true).bind fun r_2 =>
      some r_2
    else
      some false
  else
    some false
theorem c_impl_PolyOrients {sys : ((List Int) × (List ((List Int) × (List Int))))} {ps : (List (Int × (List Int)))} {rr : Bool} (h : F_impl_PolyOrients sys ps = some rr) : PFun Tryz.prog 125 [D_impl_System sys, (slD 2 D_impl_Poly) ps] (bD rr) := by
  delta F_impl_PolyOrients at h
  refine fn125.pureL (vcm_sound ?_)
  delta mc125
  refine stp ?_
  obtain ⟨r, hr, h⟩ := bind_some h
  refine cR (c_impl_SystemOk hr) (stp ?_)
  rcases ite_some h with ⟨hc, h⟩ | ⟨hc, h⟩
  · refine stpc hc ?_
    obtain ⟨r_1, hr_1, h⟩ := bind_some h
    refine cR (c_impl_StrictIn hr_1) (stp ?_)
    rcases ite_some h with ⟨hc, h⟩ | ⟨hc, h⟩
    · refine stpc hc ?_
      obtain ⟨r_2, hr_2, h⟩ := bind_some h
      refine cR (c_impl_polyRules hr_2) (stp ?_)
      cases h
      exact don
    · refine stpc hc ?_
      cases h
      exact don
  · refine stpc hc ?_
    cases h
    exact don

def mc238 : MCode :=
 (.seq (.reg [⟨some 3, .box 3 43 (.tmp 0), none⟩, ⟨some 6, .alloc 6 158 [.lit (.int .i64 0), .sl 0 (some true) []], none⟩, ⟨some 7, .mv (.const (.bool false)), none⟩]) (.seq (.seq (.reg [⟨some 8, .load 1 true (.tmp 3), none⟩, ⟨some 9, .mv (.tmp 1), none⟩, ⟨some 10, .callf 312 [(.tmp 8), (.tmp 9)], none⟩, ⟨some 11, .un .not (.tmp 10), none⟩, ⟨some 12, .mv (.tmp 11), none⟩, ⟨some 13, .load 1 true (.tmp 3), (some (some 12, false))⟩, ⟨some 14, .mv (.tmp 2), (some (some 12, false))⟩, ⟨some 15, .callf 121 [(.tmp 13), (.tmp 14)], (some (some 12, false))⟩, ⟨some 16, .un .not (.tmp 15), (some (some 12, false))⟩, ⟨some 17, .pick (.tmp 12) (.const (.bool true)) (.tmp 16), none⟩]) (.cond (.tmp 17) (.seq (.reg [⟨some 18, .build [.lit (.int .i64 0), .sl 0 (some true) []] [], none⟩, ⟨none, .store 2 (.tmp 6) (.tmp 18), none⟩, ⟨some 7, .mv (.const (.bool false)), none⟩]) .ret) .skip)) (.seq (.reg [⟨some 19, .load 1 true (.tmp 3), none⟩, ⟨some 20, .mv (.tmp 1), none⟩, ⟨some 21, .mv (.tmp 2), none⟩, ⟨some 22, .callf 317 [(.tmp 19), (.tmp 20), (.tmp 21), (.const (.int .i64 0))], none⟩, ⟨some 23, .ext (.tmp 22) 0, none⟩, ⟨some 24, .ext (.tmp 22) 1, none⟩, ⟨none, .store 2 (.tmp 6) (.tmp 23), none⟩, ⟨some 7, .mv (.tmp 24), none⟩]) .ret)))
theorem fn238 : MFn Tryz.prog 238 mc238 25 [.cell 6 2 true, .tmp 7] :=
  ⟨Tryz.f238, Tryz.func238, by kernel_rfl, Tryz.ntmps238, by kernel_rfl⟩
noncomputable def F_impl_FormOf (sig : (List Int)) (ps : (List (Int × (List Int)))) (t : (List Int)) : Option ((Int × (List Int)) × Bool) :=
  (F_impl_PolysOk sig ps).bind fun r =>
  if r = true then
    (F_impl_TermOk sig t).bind fun r_1 =>
    if r_1 = true then
      (F_impl_formAt_all sig ps t 0).bind fun r_2 =>
      some r_2
    else
      some ((0, []), false)
  else
    some ((0, []), false)
theorem c_impl_FormOf {sig : (List Int)} {ps : (List (Int × (List Int)))} {t : (List Int)} {rr : ((Int × (List Int)) × Bool)} (h : F_impl_FormOf sig ps t = some rr) : PFunN Tryz.prog 238 [D_impl_Sig sig, (slD 2 D_impl_Poly) ps, (slD 1 iD) t] [D_impl_Poly rr.1, bD rr.2] := by
  delta F_impl_FormOf at h
  refine fn238.pureLN (vcm_sound ?_)
  delta mc238
  refine stp ?_
  obtain ⟨r, hr, h⟩ := bind_some h
  refine cR (c_impl_PolysOk hr) (stp ?_)
  rcases ite_some h with ⟨hc, h⟩ | ⟨hc, h⟩
  · refine stpc hc ?_
    obtain ⟨r_1, hr_1, h⟩ := bind_some h
    refine cR (c_impl_TermOk hr_1) (stp ?_)
    rcases ite_some h with ⟨hc, h⟩ | ⟨hc, h⟩
    · refine stpc hc ?_
      obtain ⟨r_2, hr_2, h⟩ := bind_some h
      refine cRN (c_impl_formAt_all hr_2) (stp ?_)
      cases h
      exact don
    · refine stpc hc ?_
      cases h
      exact don
  · refine stpc hc ?_
    cases h
    exact don

def mc126 : MCode :=
 (.seq (.reg [⟨some 4, .box 4 43 (.tmp 0), none⟩, ⟨some 8, .mv (.const (.int .i64 0)), none⟩, ⟨some 9, .mv (.const (.bool false)), none⟩]) (.seq (.seq (.reg [⟨some 17, .mv (.tmp 3), none⟩, ⟨some 18, .len (.tmp 17), none⟩, ⟨some 19, .bin .gtr (.tmp 18) (.const (.int .i64 24)), none⟩]) (.cond (.tmp 19) (.seq (.reg [⟨some 8, .mv (.const (.int .i64 0)), none⟩, ⟨some 9, .mv (.const (.bool false)), none⟩]) .ret) .skip)) (.seq (.seq (.reg [⟨some 20, .mv (.tmp 3), none⟩, ⟨some 21, .len (.tmp 20), none⟩, ⟨some 22, .mv (.const (.int .i64 0)), none⟩]) (.block 0 (.loop (.seq (.reg [⟨some 23, .bin .lss (.tmp 22) (.tmp 21), none⟩]) (.seq (.cond (.tmp 23) .skip (.exit 0)) (.seq (.block 1 (.seq (.reg [⟨some 24, .ixa 1 (.tmp 20) (.tmp 22), none⟩, ⟨some 25, .load 1 false (.tmp 24), none⟩, ⟨some 11, .mv (.tmp 25), none⟩]) (.seq (.reg [⟨some 26, .mv (.tmp 11), none⟩, ⟨some 27, .bin .lss (.tmp 26) (.const (.int .i64 0)), none⟩, ⟨some 28, .mv (.tmp 27), none⟩, ⟨some 29, .mv (.tmp 11), (some (some 28, false))⟩, ⟨some 30, .bin .gtr (.tmp 29) (.const (.int .i64 1000)), (some (some 28, false))⟩, ⟨some 31, .pick (.tmp 28) (.const (.bool true)) (.tmp 30), none⟩]) (.cond (.tmp 31) (.seq (.reg [⟨some 8, .mv (.const (.int .i64 0)), none⟩, ⟨some 9, .mv (.const (.bool false)), none⟩]) .ret) .skip)))) (.reg [⟨some 32, .bin .add (.tmp 22) (.const (.int .i64 1)), none⟩, ⟨some 22, .mv (.tmp 32), none⟩]))))))) (.seq (.reg [⟨some 34, .load 1 true (.tmp 4), none⟩, ⟨some 35, .mv (.tmp 1), none⟩, ⟨some 36, .mv (.tmp 2), none⟩, ⟨some 37, .callf 238 [(.tmp 34), (.tmp 35), (.tmp 36)], none⟩, ⟨some 33, .mv (.tmp 37), none⟩, ⟨some 38, .ext (.tmp 33) 0, none⟩, ⟨some 39, .ext (.tmp 33) 1, none⟩, ⟨some 12, .alloc 12 158 [.lit (.int .i64 0), .sl 0 (some true) []], none⟩, ⟨none, .store 2 (.tmp 12) (.tmp 38), none⟩, ⟨some 13, .mv (.tmp 39), none⟩]) (.seq (.seq (.reg [⟨some 40, .mv (.tmp 13), none⟩, ⟨some 41, .un .not (.tmp 40), none⟩]) (.cond (.tmp 41) (.seq (.reg [⟨some 8, .mv (.const (.int .i64 0)), none⟩, ⟨some 9, .mv (.const (.bool false)), none⟩]) .ret) .skip)) (.seq (.reg [⟨some 42, .fad 0 (.tmp 12), none⟩, ⟨some 43, .load 1 false (.tmp 42), none⟩, ⟨some 14, .mv (.tmp 43), none⟩]) (.seq (.seq (.reg [⟨some 44, .mv (.tmp 3), none⟩, ⟨some 45, .len (.tmp 44), none⟩, ⟨some 46, .mv (.const (.int .i64 0)), none⟩]) (.block 2 (.loop (.seq (.reg [⟨some 47, .bin .lss (.tmp 46) (.tmp 45), none⟩]) (.seq (.cond (.tmp 47) .skip (.exit 2)) (.seq (.block 3 (.seq (.reg [⟨some 48, .mv (.tmp 46), none⟩, ⟨some 49, .ixa 1 (.tmp 44) (.tmp 46), none⟩, ⟨some 50, .load 1 false (.tmp 49), none⟩, ⟨some 15, .mv (.tmp 48), none⟩, ⟨some 16, .mv (.tmp 50), none⟩]) (.reg [⟨some 51, .mv (.tmp 14), none⟩, ⟨some 52, .load 2 true (.tmp 12), none⟩, ⟨some 53, .mv (.tmp 15), none⟩, ⟨some 54, .callf 239 [(.tmp 52), (.tmp 53)], none⟩, ⟨some 55, .mv (.tmp 16), none⟩, ⟨some 56, .bin .mul (.tmp 54) (.tmp 55), none⟩, ⟨some 57, .bin .add (.tmp 51) (.tmp 56), none⟩, ⟨some 14, .mv (.tmp 57), none⟩]))) (.reg [⟨some 58, .bin .add (.tmp 46) (.const (.int .i64 1)), none⟩, ⟨some 46, .mv (.tmp 58), none⟩]))))))) (.seq (.seq (.reg [⟨some 59, .mv (.tmp 14), none⟩, ⟨some 60, .bin .gtr (.tmp 59) (.const (.int .i64 1000000000000)), none⟩]) (.cond (.tmp 60) (.seq (.reg [⟨some 8, .mv (.const (.int .i64 0)), none⟩, ⟨some 9, .mv (.const (.bool false)), none⟩]) .ret) .skip)) (.seq (.reg [⟨some 61, .mv (.tmp 14), none⟩, ⟨some 8, .mv (.tmp 61), none⟩, ⟨some 9, .mv (.const (.bool true)), none⟩]) .ret)))))))))
theorem fn126 : MFn Tryz.prog 126 mc126 62 [.tmp 8, .tmp 9] :=
  ⟨Tryz.f126, Tryz.func126, by kernel_rfl, Tryz.ntmps126, by kernel_rfl⟩
noncomputable def F_impl_ValueAt_l2 (values : (List Int)) (r : ((Int × (List Int)) × Bool)) : (Int × Int) → Option ((Int × Int) ⊕ (Int × Bool))
  | (sum, v46) =>
    if (decide (v46 < (values.length : Int))) = true then
      if 0 ≤ v46 ∧ v46 < (values.length : Int) then
        (F_impl_Poly_coef r.1 v46).bind fun r_1 =>
        some (.inl ((IntKind.i64.wrap (sum + (IntKind.i64.wrap (r_1 * (values.getD v46.toNat default))))), (IntKind.i64.wrap (v46 + 1))))
      else none
    else
      Option.map Sum.inr (
        if (decide (1000000000000 < sum)) = true then
          some (0, false)
        else
          some (sum, true))
noncomputable def F_impl_ValueAt_l1 (sig : (List Int)) (ps : (List (Int × (List Int)))) (t : (List Int)) (values : (List Int)) : Int → Option (Int ⊕ (Int × Bool))
  | v22 =>
    if (decide (v22 < (values.length : Int))) = true then
      if 0 ≤ v22 ∧ v22 < (values.length : Int) then
        if (decide ((values.getD v22.toNat default) < 0)) = true then
          Option.map Sum.inr (
            some (0, false))
        else
          if (decide (1000 < (values.getD v22.toNat default))) = true then
            Option.map Sum.inr (
              some (0, false))
          else
            some (.inl (IntKind.i64.wrap (v22 + 1)))
      else none
    else
      Option.map Sum.inr (
        (F_impl_FormOf sig ps t).bind fun r =>
        if r.2 = true then
          loopC (F_impl_ValueAt_l2 values r) (r.1.1, 0)
        else
          some (0, false))
noncomputable def F_impl_ValueAt (sig : (List Int)) (ps : (List (Int × (List Int)))) (t : (List Int)) (values : (List Int)) : Option (Int × Bool) :=
  if (decide (24 < (values.length : Int))) = true then
    some (0, false)
  else
    loopC (F_impl_ValueAt_l1 sig ps t values) 0
theorem c_impl_ValueAt {sig : (List Int)} {ps : (List (Int × (List Int)))} {t : (List Int)} {values : (List Int)} {rr : (Int × Bool)} (h : F_impl_ValueAt sig ps t values = some rr) : PFunN Tryz.prog 126 [D_impl_Sig sig, (slD 2 D_impl_Poly) ps, (slD 1 iD) t, (slD 1 iD) values] [iD rr.1, bD rr.2] := by
  delta F_impl_ValueAt at h
  refine fn126.pureLN (vcm_sound ?_)
  delta mc126
  refine stp ?_
  rcases ite_some h with ⟨hc, h⟩ | ⟨hc, h⟩
  · refine stpc hc ?_
    cases h
    exact don
  · refine stpc hc ?_
    refine m_loopF h [8, 9, 11, 22, 23, 24, 25, 26, 27, 28, 29, 30, 31, 32] (fun pp => [(22, .d (iD pp))]) (fun pp => [(4, .obj 43 [.d (slD 1 iD sig)])]) ?_ ?_
    · try dsimp only
      exact wk
    · rintro v22 t1 h hb1
      unfold F_impl_ValueAt_l1 at h
      try dsimp only at h
      refine vcm_sound (stp ?_)
      rcases ite_some h with ⟨hc, h⟩ | ⟨hc, h⟩
      · refine stpc hc ?_
        obtain ⟨hp, h⟩ := need_some h
        repeat (refine need_i (by omega) ?_; refine stp ?_)
        rcases ite_some h with ⟨hc, h⟩ | ⟨hc, h⟩
        · refine stpc hc ?_
          replace h := inr_some h hb1
          cases h
          exact don
        · refine stpc hc ?_
          rcases ite_some h with ⟨hc, h⟩ | ⟨hc, h⟩
          · refine stpc hc ?_
            replace h := inr_some h hb1
            cases h
            exact don
          · refine stpc hc ?_
            cases h
            refine ⟨_, rfl, ?_⟩
            exact wk
      · refine stpc hc ?_
        replace h := inr_some h hb1
        obtain ⟨r, hr, h⟩ := bind_some h
        refine cRN (c_impl_FormOf hr) (stp ?_)
        rcases ite_some h with ⟨hc, h⟩ | ⟨hc, h⟩
        · refine stpc hc ?_
          refine m_loopF h [14, 15, 16, 46, 47, 48, 49, 50, 51, 52, 53, 54, 55, 56, 57, 58] (fun pp => [(14, .d (iD pp.1)), (46, .d (iD pp.2))]) (fun pp => [(4, .obj 43 [.d (slD 1 iD sig)]), (12, .obj 158 [.d (iD r.1.1), .d (slD 1 iD r.1.2)])]) ?_ ?_
          · try dsimp only
            exact wk
          · rintro ⟨sum, v46⟩ t1 h hb1
            unfold F_impl_ValueAt_l2 at h
            try dsimp only at h
            refine vcm_sound (stp ?_)
            rcases ite_some h with ⟨hc, h⟩ | ⟨hc, h⟩
            · refine stpc hc ?_
              obtain ⟨hp, h⟩ := need_some h
              repeat (refine need_i (by omega) ?_; refine stp ?_)
              obtain ⟨r_1, hr_1, h⟩ := bind_some h
              refine cR (c_impl_Poly_coef hr_1) (stp ?_)
              cases h
              refine ⟨_, rfl, ?_⟩
              exact wk
            · refine stpc hc ?_
              replace h := inr_some h hb1
              rcases ite_some h with ⟨hc, h⟩ | ⟨hc, h⟩
              · refine stpc hc ?_
                cases h
                exact don
              · refine stpc hc ?_
                cases h
                exact don
        · refine stpc hc ?_
          cases h
          exact don

def mc38 : MCode :=
 (.seq (.reg [⟨some 3, .box 3 46 (.tmp 0), none⟩, ⟨some 6, .mv (.const (.int .i64 0)), none⟩, ⟨some 7, .mv (.const (.bool false)), none⟩]) (.seq (.seq (.reg [⟨some 8, .load 2 true (.tmp 3), none⟩, ⟨some 9, .mv (.tmp 1), none⟩, ⟨some 10, .callf 125 [(.tmp 8), (.tmp 9)], none⟩, ⟨some 11, .un .not (.tmp 10), none⟩]) (.cond (.tmp 11) (.seq (.reg [⟨some 6, .mv (.const (.int .i64 0)), none⟩, ⟨some 7, .mv (.const (.bool false)), none⟩]) .ret) .skip)) (.seq (.reg [⟨some 12, .fad 0 (.tmp 3), none⟩, ⟨some 13, .load 1 true (.tmp 12), none⟩, ⟨some 14, .mv (.tmp 1), none⟩, ⟨some 15, .mv (.tmp 2), none⟩, ⟨some 16, .callf 126 [(.tmp 13), (.tmp 14), (.tmp 15), (.const (.slice none 0 0))], none⟩, ⟨some 17, .ext (.tmp 16) 0, none⟩, ⟨some 18, .ext (.tmp 16) 1, none⟩, ⟨some 6, .mv (.tmp 17), none⟩, ⟨some 7, .mv (.tmp 18), none⟩]) .ret)))
theorem fn38 : MFn Tryz.prog 38 mc38 19 [.tmp 6, .tmp 7] :=
  ⟨Tryz.f38, Tryz.func38, by kernel_rfl, Tryz.ntmps38, by kernel_rfl⟩
noncomputable def F_impl_BoundBy (sys : ((List Int) × (List ((List Int) × (List Int))))) (ps : (List (Int × (List Int)))) (t : (List Int)) : Option (Int × Bool) :=
  (F_impl_PolyOrients sys ps).bind fun r =>
  if r = true then
    (F_impl_ValueAt sys.1 ps t []).bind fun r_1 =>
    some r_1
  else
    some (0, false)
theorem c_impl_BoundBy {sys : ((List Int) × (List ((List Int) × (List Int))))} {ps : (List (Int × (List Int)))} {t : (List Int)} {rr : (Int × Bool)} (h : F_impl_BoundBy sys ps t = some rr) : PFunN Tryz.prog 38 [D_impl_System sys, (slD 2 D_impl_Poly) ps, (slD 1 iD) t] [iD rr.1, bD rr.2] := by
  delta F_impl_BoundBy at h
  refine fn38.pureLN (vcm_sound ?_)
  delta mc38
  refine stp ?_
  obtain ⟨r, hr, h⟩ := bind_some h
  refine cR (c_impl_PolyOrients hr) (stp ?_)
  rcases ite_some h with ⟨hc, h⟩ | ⟨hc, h⟩
  · refine stpc hc ?_
    obtain ⟨r_1, hr_1, h⟩ := bind_some h
    refine cRN (c_impl_ValueAt hr_1) (stp ?_)
    cases h
    exact don
  · refine stpc hc ?_
    cases h
    exact don

def mc40 : MCode :=
 (.seq (.reg [⟨some 2, .box 2 46 (.tmp 0), none⟩, ⟨some 4, .mv (.const (.int .i64 0)), none⟩, ⟨some 5, .mv (.const (.bool false)), none⟩]) (.seq (.seq (.reg [⟨some 9, .load 2 true (.tmp 2), none⟩, ⟨some 10, .mv (.tmp 1), none⟩, ⟨some 11, .callf 125 [(.tmp 9), (.tmp 10)], none⟩, ⟨some 12, .un .not (.tmp 11), none⟩]) (.cond (.tmp 12) (.seq (.reg [⟨some 4, .mv (.const (.int .i64 0)), none⟩, ⟨some 5, .mv (.const (.bool false)), none⟩]) .ret) .skip)) (.seq (.reg [⟨some 6, .mv (.const (.int .i64 0)), none⟩]) (.seq (.seq (.reg [⟨some 13, .mv (.tmp 1), none⟩, ⟨some 14, .len (.tmp 13), none⟩, ⟨some 15, .mv (.const (.int .i64 0)), none⟩]) (.block 0 (.loop (.seq (.reg [⟨some 16, .bin .lss (.tmp 15) (.tmp 14), none⟩]) (.seq (.cond (.tmp 16) .skip (.exit 0)) (.seq (.block 1 (.seq (.reg [⟨some 17, .ixa 2 (.tmp 13) (.tmp 15), none⟩, ⟨some 18, .load 2 true (.tmp 17), none⟩, ⟨some 8, .alloc 8 158 [.lit (.int .i64 0), .sl 0 (some true) []], none⟩, ⟨none, .store 2 (.tmp 8) (.tmp 18), none⟩]) (.seq (.seq (.reg [⟨some 19, .fad 1 (.tmp 8), none⟩, ⟨some 20, .load 1 false (.tmp 19), none⟩, ⟨some 21, .len (.tmp 20), none⟩, ⟨some 22, .bin .gtr (.tmp 21) (.const (.int .i64 0)), none⟩, ⟨some 23, .mv (.tmp 22), none⟩, ⟨some 24, .fad 1 (.tmp 8), (some (some 23, true))⟩, ⟨some 25, .load 1 false (.tmp 24), (some (some 23, true))⟩, ⟨some 26, .callf 129 [(.tmp 25)], (some (some 23, true))⟩, ⟨some 27, .bin .gtr (.tmp 26) (.const (.int .i64 1)), (some (some 23, true))⟩, ⟨some 28, .pick (.tmp 23) (.tmp 27) (.const (.bool false)), none⟩]) (.cond (.tmp 28) (.seq (.reg [⟨some 4, .mv (.const (.int .i64 0)), none⟩, ⟨some 5, .mv (.const (.bool false)), none⟩]) .ret) .skip)) (.reg [⟨some 29, .mv (.tmp 6), none⟩, ⟨some 30, .fad 0 (.tmp 8), none⟩, ⟨some 31, .load 1 false (.tmp 30), none⟩, ⟨some 32, .max (.tmp 29) (.tmp 31), none⟩, ⟨some 6, .mv (.tmp 32), none⟩])))) (.reg [⟨some 33, .bin .add (.tmp 15) (.const (.int .i64 1)), none⟩, ⟨some 15, .mv (.tmp 33), none⟩]))))))) (.seq (.reg [⟨some 34, .mv (.tmp 6), none⟩, ⟨some 4, .mv (.tmp 34), none⟩, ⟨some 5, .mv (.const (.bool true)), none⟩]) .ret)))))
theorem fn40 : MFn Tryz.prog 40 mc40 35 [.tmp 4, .tmp 5] :=
  ⟨Tryz.f40, Tryz.func40, by kernel_rfl, Tryz.ntmps40, by kernel_rfl⟩
noncomputable def F_impl_SlopeOf_l1 (ps : (List (Int × (List Int)))) : (Int × Int) → Option ((Int × Int) ⊕ (Int × Bool))
  | (out, v15) =>
    if (decide (v15 < (ps.length : Int))) = true then
      if 0 ≤ v15 ∧ v15 < (ps.length : Int) then
        if (decide (0 < (((ps.getD v15.toNat default).2).length : Int))) = true then
          (F_slices_Max_int64_int64 ((ps.getD v15.toNat default).2)).bind fun r_1 =>
          if (decide (1 < r_1)) = true then
            Option.map Sum.inr (
              some (0, false))
          else
            some (.inl ((if (ps.getD v15.toNat default).1 > out then (ps.getD v15.toNat default).1 else out), (IntKind.i64.wrap (v15 + 1))))
        else
          some (.inl ((if (ps.getD v15.toNat default).1 > out then (ps.getD v15.toNat default).1 else out), (IntKind.i64.wrap (v15 + 1))))
      else none
    else
      Option.map Sum.inr (
        some (out, true))
noncomputable def F_impl_SlopeOf (sys : ((List Int) × (List ((List Int) × (List Int))))) (ps : (List (Int × (List Int)))) : Option (Int × Bool) :=
  (F_impl_PolyOrients sys ps).bind fun r =>
  if r = true then
    loopC (F_impl_SlopeOf_l1 ps) (0, 0)
  else
    some (0, false)
theorem c_impl_SlopeOf {sys : ((List Int) × (List ((List Int) × (List Int))))} {ps : (List (Int × (List Int)))} {rr : (Int × Bool)} (h : F_impl_SlopeOf sys ps = some rr) : PFunN Tryz.prog 40 [D_impl_System sys, (slD 2 D_impl_Poly) ps] [iD rr.1, bD rr.2] := by
  delta F_impl_SlopeOf at h
  refine fn40.pureLN (vcm_sound ?_)
  delta mc40
  refine stp ?_
  obtain ⟨r, hr, h⟩ := bind_some h
  refine cR (c_impl_PolyOrients hr) (stp ?_)
  rcases ite_some h with ⟨hc, h⟩ | ⟨hc, h⟩
  · refine stpc hc ?_
    refine m_loopF h [4, 5, 6, 8, 15, 16, 17, 18, 19, 20, 21, 22, 23, 24, 25, 26, 27, 28, 29, 30, 31, 32, 33] (fun pp => [(6, .d (iD pp.1)), (15, .d (iD pp.2))]) (fun pp => [(2, .obj 46 [.d (slD 1 iD sys.1), .d (slD 2 D_impl_Rule sys.2)])]) ?_ ?_
    · try dsimp only
      exact wk
    · rintro ⟨out, v15⟩ t1 h hb1
      unfold F_impl_SlopeOf_l1 at h
      try dsimp only at h
      refine vcm_sound (stp ?_)
      rcases ite_some h with ⟨hc, h⟩ | ⟨hc, h⟩
      · refine stpc hc ?_
        obtain ⟨hp, h⟩ := need_some h
        repeat (refine need_i (by omega) ?_; refine stp ?_)
        rcases ite_some h with ⟨hc, h⟩ | ⟨hc, h⟩
        · refine stpc hc ?_
          obtain ⟨r_1, hr_1, h⟩ := bind_some h
          refine cR (c_slices_Max_int64_int64 hr_1) (stp ?_)
          rcases ite_some h with ⟨hc, h⟩ | ⟨hc, h⟩
          · refine stpc hc ?_
            replace h := inr_some h hb1
            cases h
            exact don
          · refine stpc hc ?_
            cases h
            refine ⟨_, rfl, ?_⟩
            refine (Weak.drop 8 (by omega)).trans ?_
            exact wk
        · refine stpc hc ?_
          cases h
          refine ⟨_, rfl, ?_⟩
          refine (Weak.drop 8 (by omega)).trans ?_
          exact wk
      · refine stpc hc ?_
        replace h := inr_some h hb1
        cases h
        exact don
  · refine stpc hc ?_
    cases h
    exact don

def mc42 : MCode :=
 (.seq (.reg [⟨some 3, .box 3 46 (.tmp 0), none⟩, ⟨some 5, .box 5 40 (.tmp 2), none⟩, ⟨some 6, .mv (.const (.bool false)), none⟩]) (.seq (.seq (.reg [⟨some 9, .load 2 true (.tmp 3), none⟩, ⟨some 10, .load 2 true (.tmp 5), none⟩, ⟨some 11, .callf 106 [(.tmp 9), (.tmp 10)], none⟩, ⟨some 12, .un .not (.tmp 11), none⟩]) (.cond (.tmp 12) (.seq (.reg [⟨some 6, .mv (.const (.bool false)), none⟩]) .ret) .skip)) (.seq (.reg [⟨some 14, .load 2 true (.tmp 3), none⟩, ⟨some 15, .mv (.tmp 1), none⟩, ⟨some 16, .fad 0 (.tmp 5), none⟩, ⟨some 17, .load 1 false (.tmp 16), none⟩, ⟨some 18, .callf 38 [(.tmp 14), (.tmp 15), (.tmp 17)], none⟩, ⟨some 13, .mv (.tmp 18), none⟩, ⟨some 19, .ext (.tmp 13) 0, none⟩, ⟨some 20, .ext (.tmp 13) 1, none⟩, ⟨some 7, .mv (.tmp 19), none⟩, ⟨some 8, .mv (.tmp 20), none⟩]) (.seq (.reg [⟨some 21, .mv (.tmp 8), none⟩, ⟨some 22, .mv (.tmp 21), none⟩, ⟨some 23, .fad 1 (.tmp 5), (some (some 22, true))⟩, ⟨some 24, .load 1 false (.tmp 23), (some (some 22, true))⟩, ⟨some 25, .len (.tmp 24), (some (some 22, true))⟩, ⟨some 26, .mv (.tmp 7), (some (some 22, true))⟩, ⟨some 27, .bin .leq (.tmp 25) (.tmp 26), (some (some 22, true))⟩, ⟨some 28, .pick (.tmp 22) (.tmp 27) (.const (.bool false)), none⟩, ⟨some 6, .mv (.tmp 28), none⟩]) .ret))))
theorem fn42 : MFn Tryz.prog 42 mc42 29 [.tmp 6] :=
  ⟨Tryz.f42, Tryz.func42, by kernel_rfl, Tryz.ntmps42, by kernel_rfl⟩
noncomputable def F_impl_BoundedWalk (sys : ((List Int) × (List ((List Int) × (List Int))))) (ps : (List (Int × (List Int)))) (w : ((List Int) × (List (Int × Int × (List Int))))) : Option Bool :=
  (F_impl_WalkOk sys w).bind fun r =>
  if r = true then
    (F_impl_BoundBy sys ps w.1).bind fun r_1 =>
    if r_1.2 = true then
      some (decide ((w.2.length : Int) ≤ r_1.1))
    else
      some false
  else
    some false
theorem c_impl_BoundedWalk {sys : ((List Int) × (List ((List Int) × (List Int))))} {ps : (List (Int × (List Int)))} {w : ((List Int) × (List (Int × Int × (List Int))))} {rr : Bool} (h : F_impl_BoundedWalk sys ps w = some rr) : PFun Tryz.prog 42 [D_impl_System sys, (slD 2 D_impl_Poly) ps, D_impl_Walk w] (bD rr) := by
  delta F_impl_BoundedWalk at h
  refine fn42.pureL (vcm_sound ?_)
  delta mc42
  refine stp ?_
  obtain ⟨r, hr, h⟩ := bind_some h
  refine cR (c_impl_WalkOk hr) (stp ?_)
  rcases ite_some h with ⟨hc, h⟩ | ⟨hc, h⟩
  · refine stpc hc ?_
    obtain ⟨r_1, hr_1, h⟩ := bind_some h
    refine cRN (c_impl_BoundBy hr_1) (stp ?_)
    rcases ite_some h with ⟨hc, h⟩ | ⟨hc, h⟩
    · refine stpc hc ?_
      cases h
      exact don
    · refine stpc hc ?_
      cases h
      exact don
  · refine stpc hc ?_
    cases h
    exact don

def mc382 : MCode :=
 (.seq (.reg [⟨some 2, .box 2 158 (.tmp 0), none⟩, ⟨some 4, .mv (.const (.bool false)), none⟩]) (.seq (.seq (.reg [⟨some 6, .fad 0 (.tmp 2), none⟩, ⟨some 7, .load 1 false (.tmp 6), none⟩, ⟨some 8, .callf 79 [(.tmp 7), (.const (.int .i64 0)), (.const (.int .i64 9))], none⟩, ⟨some 9, .un .not (.tmp 8), none⟩, ⟨some 10, .mv (.tmp 9), none⟩, ⟨some 11, .fad 1 (.tmp 2), (some (some 10, false))⟩, ⟨some 12, .load 1 false (.tmp 11), (some (some 10, false))⟩, ⟨some 13, .len (.tmp 12), (some (some 10, false))⟩, ⟨some 14, .mv (.tmp 1), (some (some 10, false))⟩, ⟨some 15, .bin .neq (.tmp 13) (.tmp 14), (some (some 10, false))⟩, ⟨some 16, .pick (.tmp 10) (.const (.bool true)) (.tmp 15), none⟩]) (.cond (.tmp 16) (.seq (.reg [⟨some 4, .mv (.const (.bool false)), none⟩]) .ret) .skip)) (.seq (.seq (.reg [⟨some 5, .mv (.const (.int .i64 0)), none⟩]) (.block 0 (.loop (.seq (.seq (.reg [⟨some 17, .mv (.tmp 5), none⟩, ⟨some 18, .fad 1 (.tmp 2), none⟩, ⟨some 19, .load 1 false (.tmp 18), none⟩, ⟨some 20, .len (.tmp 19), none⟩, ⟨some 21, .bin .lss (.tmp 17) (.tmp 20), none⟩]) (.cond (.tmp 21) .skip (.exit 0))) (.seq (.block 1 (.seq (.reg [⟨some 24, .fad 1 (.tmp 2), none⟩, ⟨some 25, .load 1 false (.tmp 24), none⟩, ⟨some 26, .mv (.tmp 5), none⟩, ⟨some 27, .ixa 1 (.tmp 25) (.tmp 26), none⟩, ⟨some 28, .load 1 false (.tmp 27), none⟩, ⟨some 29, .callf 79 [(.tmp 28), (.const (.int .i64 0)), (.const (.int .i64 9))], none⟩, ⟨some 30, .un .not (.tmp 29), none⟩]) (.cond (.tmp 30) (.seq (.reg [⟨some 4, .mv (.const (.bool false)), none⟩]) .ret) .skip))) (.reg [⟨some 22, .mv (.tmp 5), none⟩, ⟨some 23, .bin .add (.tmp 22) (.const (.int .i64 1)), none⟩, ⟨some 5, .mv (.tmp 23), none⟩])))))) (.seq (.reg [⟨some 4, .mv (.const (.bool true)), none⟩]) .ret))))
theorem fn382 : MFn Tryz.prog 382 mc382 31 [.tmp 4] :=
  ⟨Tryz.f382, Tryz.func382, by kernel_rfl, Tryz.ntmps382, by kernel_rfl⟩
noncomputable def F_spec_l15Poly_l1 (p : (Int × (List Int))) : Int → Option (Int ⊕ Bool)
  | i =>
    if (decide (i < (p.2.length : Int))) = true then
      if 0 ≤ i ∧ i < (p.2.length : Int) then
        (F_spec_l1In (p.2.getD i.toNat default) 0 9).bind fun r_1 =>
        if r_1 = true then
          some (.inl (IntKind.i64.wrap (i + 1)))
        else
          Option.map Sum.inr (
            some false)
      else none
    else
      Option.map Sum.inr (
        some true)
noncomputable def F_spec_l15Poly (p : (Int × (List Int))) (args : Int) : Option Bool :=
  (F_spec_l1In p.1 0 9).bind fun r =>
  if r = true then
    if ((p.2.length : Int) != args) = true then
      some false
    else
      loopC (F_spec_l15Poly_l1 p) 0
  else
    some false
theorem c_spec_l15Poly {p : (Int × (List Int))} {args : Int} {rr : Bool} (h : F_spec_l15Poly p args = some rr) : PFun Tryz.prog 382 [D_impl_Poly p, iD args] (bD rr) := by
  delta F_spec_l15Poly at h
  refine fn382.pureL (vcm_sound ?_)
  delta mc382
  refine stp ?_
  obtain ⟨r, hr, h⟩ := bind_some h
  refine cR (c_spec_l1In hr) (stp ?_)
  rcases ite_some h with ⟨hc, h⟩ | ⟨hc, h⟩
  · refine stpc hc ?_
    rcases ite_some h with ⟨hc, h⟩ | ⟨hc, h⟩
    · refine stpc hc ?_
      cases h
      exact don
    · refine stpc hc ?_
      refine m_loopF h [4, 5, 17, 18, 19, 20, 21, 22, 23, 24, 25, 26, 27, 28, 29, 30] (fun pp => [(5, .d (iD pp))]) (fun pp => [(2, .obj 158 [.d (iD p.1), .d (slD 1 iD p.2)])]) ?_ ?_
      · try dsimp only
        exact wk
      · rintro i t1 h hb1
        unfold F_spec_l15Poly_l1 at h
        try dsimp only at h
        refine vcm_sound (stp ?_)
        rcases ite_some h with ⟨hc, h⟩ | ⟨hc, h⟩
        · refine stpc hc ?_
          obtain ⟨hp, h⟩ := need_some h
          repeat (refine need_i (by omega) ?_; refine stp ?_)
          obtain ⟨r_1, hr_1, h⟩ := bind_some h
          refine cR (c_spec_l1In hr_1) (stp ?_)
          rcases ite_some h with ⟨hc, h⟩ | ⟨hc, h⟩
          · refine stpc hc ?_
            cases h
            refine ⟨_, rfl, ?_⟩
            exact wk
          · refine stpc hc ?_
            replace h := inr_some h hb1
            cases h
            exact don
        · refine stpc hc ?_
          replace h := inr_some h hb1
          cases h
          exact don
  · refine stpc hc ?_
    cases h
    exact don

def mc319 : MCode :=
 (.seq (.reg [⟨some 2, .box 2 43 (.tmp 0), none⟩, ⟨some 4, .mv (.const (.bool false)), none⟩]) (.seq (.seq (.reg [⟨some 6, .load 1 true (.tmp 2), none⟩, ⟨some 7, .callf 217 [(.tmp 6)], none⟩, ⟨some 8, .un .not (.tmp 7), none⟩, ⟨some 9, .mv (.tmp 8), none⟩, ⟨some 10, .mv (.tmp 1), (some (some 9, false))⟩, ⟨some 11, .len (.tmp 10), (some (some 9, false))⟩, ⟨some 12, .fad 0 (.tmp 2), (some (some 9, false))⟩, ⟨some 13, .load 1 false (.tmp 12), (some (some 9, false))⟩, ⟨some 14, .len (.tmp 13), (some (some 9, false))⟩, ⟨some 15, .bin .neq (.tmp 11) (.tmp 14), (some (some 9, false))⟩, ⟨some 16, .pick (.tmp 9) (.const (.bool true)) (.tmp 15), none⟩]) (.cond (.tmp 16) (.seq (.reg [⟨some 4, .mv (.const (.bool false)), none⟩]) .ret) .skip)) (.seq (.seq (.reg [⟨some 5, .mv (.const (.int .i64 0)), none⟩]) (.block 0 (.loop (.seq (.seq (.reg [⟨some 17, .mv (.tmp 5), none⟩, ⟨some 18, .mv (.tmp 1), none⟩, ⟨some 19, .len (.tmp 18), none⟩, ⟨some 20, .bin .lss (.tmp 17) (.tmp 19), none⟩]) (.cond (.tmp 20) .skip (.exit 0))) (.seq (.block 1 (.seq (.draw [⟨some 23, .mv (.tmp 1), none⟩, ⟨some 24, .mv (.tmp 5), none⟩, ⟨some 25, .ixa 2 (.tmp 23) (.tmp 24), none⟩, ⟨some 26, .load 2 true (.tmp 25), none⟩, ⟨some 27, .fad 0 (.tmp 2), none⟩, ⟨some 28, .load 1 false (.tmp 27), none⟩, ⟨some 29, .mv (.tmp 5), none⟩, ⟨some 30, .ixa 1 (.tmp 28) (.tmp 29), none⟩, ⟨some 31, .load 1 false (.tmp 30), none⟩, ⟨some 32, .callf 382 [(.tmp 26), (.tmp 31)], none⟩, ⟨some 33, .un .not (.tmp 32), none⟩] [[], [], [0, 1], [2], [], [4], [], [5, 6], [7], [3, 8], [9]]) (.cond (.tmp 33) (.seq (.reg [⟨some 4, .mv (.const (.bool false)), none⟩]) .ret) .skip))) (.reg [⟨some 21, .mv (.tmp 5), none⟩, ⟨some 22, .bin .add (.tmp 21) (.const (.int .i64 1)), none⟩, ⟨some 5, .mv (.tmp 22), none⟩])))))) (.seq (.reg [⟨some 4, .mv (.const (.bool true)), none⟩]) .ret))))
theorem fn319 : MFn Tryz.prog 319 mc319 34 [.tmp 4] :=
  ⟨Tryz.f319, Tryz.func319, by kernel_rfl, Tryz.ntmps319, by kernel_rfl⟩
noncomputable def F_spec_PolysOk_l1 (sig : (List Int)) (ps : (List (Int × (List Int)))) : Int → Option (Int ⊕ Bool)
  | f =>
    if (decide (f < (ps.length : Int))) = true then
      if 0 ≤ f ∧ f < (ps.length : Int) then
        if 0 ≤ f ∧ f < (sig.length : Int) then
          (F_spec_l15Poly ((ps.getD f.toNat default).1, (ps.getD f.toNat default).2) (sig.getD f.toNat default)).bind fun r_1 =>
          if r_1 = true then
            some (.inl (IntKind.i64.wrap (f + 1)))
          else
            Option.map Sum.inr (
              some false)
        else none
      else none
    else
      Option.map Sum.inr (
        some true)
noncomputable def F_spec_PolysOk (sig : (List Int)) (ps : (List (Int × (List Int)))) : Option Bool :=
  (F_spec_SigOk sig).bind fun r =>
  if r = true then
    if ((ps.length : Int) != (sig.length : Int)) = true then
      some false
    else
      loopC (F_spec_PolysOk_l1 sig ps) 0
  else
    some false
theorem c_spec_PolysOk {sig : (List Int)} {ps : (List (Int × (List Int)))} {rr : Bool} (h : F_spec_PolysOk sig ps = some rr) : PFun Tryz.prog 319 [D_impl_Sig sig, (slD 2 D_impl_Poly) ps] (bD rr) := by
  delta F_spec_PolysOk at h
  refine fn319.pureL (vcm_sound ?_)
  delta mc319
  refine stp ?_
  obtain ⟨r, hr, h⟩ := bind_some h
  refine cR (c_spec_SigOk hr) (stp ?_)
  rcases ite_some h with ⟨hc, h⟩ | ⟨hc, h⟩
  · refine stpc hc ?_
    rcases ite_some h with ⟨hc, h⟩ | ⟨hc, h⟩
    · refine stpc hc ?_
      cases h
      exact don
    · refine stpc hc ?_
      refine m_loopF h [4, 5, 17, 18, 19, 20, 21, 22, 23, 24, 25, 26, 27, 28, 29, 30, 31, 32, 33] (fun pp => [(5, .d (iD pp))]) (fun pp => [(2, .obj 43 [.d (slD 1 iD sig)])]) ?_ ?_
      · try dsimp only
        exact wk
      · rintro f t1 h hb1
        unfold F_spec_PolysOk_l1 at h
        try dsimp only at h
        refine vcm_sound (stp ?_)
        rcases ite_some h with ⟨hc, h⟩ | ⟨hc, h⟩
        · refine stpc hc ?_
          obtain ⟨hp, h⟩ := need_some h
          repeat (refine need_i (by omega) ?_; refine stp ?_)
          obtain ⟨hp, h⟩ := need_some h
          repeat (refine need_i (by omega) ?_; refine stp ?_)
          obtain ⟨r_1, hr_1, h⟩ := bind_some h
          refine cD' (c_spec_l15Poly hr_1) (stp ?_)
          refine drQ_of (by kernel_rfl) ?_
          refine stp ?_
          rcases ite_some h with ⟨hc, h⟩ | ⟨hc, h⟩
          · refine stpc hc ?_
            cases h
            refine ⟨_, rfl, ?_⟩
            exact wk
          · refine stpc hc ?_
            replace h := inr_some h hb1
            cases h
            exact don
        · refine stpc hc ?_
          replace h := inr_some h hb1
          cases h
          exact don
  · refine stpc hc ?_
    cases h
    exact don

def mc240 : MCode :=
 (.seq (.reg [⟨some 2, .box 2 43 (.tmp 0), none⟩, ⟨some 4, .mv (.const (.bool false)), none⟩]) (.seq (.seq (.reg [⟨some 7, .load 1 true (.tmp 2), none⟩, ⟨some 8, .mv (.tmp 1), none⟩, ⟨some 9, .callf 319 [(.tmp 7), (.tmp 8)], none⟩, ⟨some 10, .un .not (.tmp 9), none⟩]) (.cond (.tmp 10) (.seq (.reg [⟨some 4, .mv (.const (.bool false)), none⟩]) .ret) .skip)) (.seq (.seq (.reg [⟨some 5, .mv (.const (.int .i64 0)), none⟩]) (.block 0 (.loop (.seq (.seq (.reg [⟨some 11, .mv (.tmp 5), none⟩, ⟨some 12, .mv (.tmp 1), none⟩, ⟨some 13, .len (.tmp 12), none⟩, ⟨some 14, .bin .lss (.tmp 11) (.tmp 13), none⟩]) (.cond (.tmp 14) .skip (.exit 0))) (.seq (.block 1 (.seq (.reg [⟨some 6, .mv (.const (.int .i64 0)), none⟩]) (.block 2 (.loop (.seq (.seq (.reg [⟨some 17, .mv (.tmp 6), none⟩, ⟨some 18, .mv (.tmp 1), none⟩, ⟨some 19, .mv (.tmp 5), none⟩, ⟨some 20, .ixa 2 (.tmp 18) (.tmp 19), none⟩, ⟨some 21, .fad 1 (.tmp 20), none⟩, ⟨some 22, .load 1 false (.tmp 21), none⟩, ⟨some 23, .len (.tmp 22), none⟩, ⟨some 24, .bin .lss (.tmp 17) (.tmp 23), none⟩]) (.cond (.tmp 24) .skip (.exit 2))) (.seq (.block 3 (.seq (.reg [⟨some 27, .mv (.tmp 1), none⟩, ⟨some 28, .mv (.tmp 5), none⟩, ⟨some 29, .ixa 2 (.tmp 27) (.tmp 28), none⟩, ⟨some 30, .fad 1 (.tmp 29), none⟩, ⟨some 31, .load 1 false (.tmp 30), none⟩, ⟨some 32, .mv (.tmp 6), none⟩, ⟨some 33, .ixa 1 (.tmp 31) (.tmp 32), none⟩, ⟨some 34, .load 1 false (.tmp 33), none⟩, ⟨some 35, .bin .lss (.tmp 34) (.const (.int .i64 1)), none⟩]) (.cond (.tmp 35) (.seq (.reg [⟨some 4, .mv (.const (.bool false)), none⟩]) .ret) .skip))) (.reg [⟨some 25, .mv (.tmp 6), none⟩, ⟨some 26, .bin .add (.tmp 25) (.const (.int .i64 1)), none⟩, ⟨some 6, .mv (.tmp 26), none⟩]))))))) (.reg [⟨some 15, .mv (.tmp 5), none⟩, ⟨some 16, .bin .add (.tmp 15) (.const (.int .i64 1)), none⟩, ⟨some 5, .mv (.tmp 16), none⟩])))))) (.seq (.reg [⟨some 4, .mv (.const (.bool true)), none⟩]) .ret))))
theorem fn240 : MFn Tryz.prog 240 mc240 36 [.tmp 4] :=
  ⟨Tryz.f240, Tryz.func240, by kernel_rfl, Tryz.ntmps240, by kernel_rfl⟩
noncomputable def F_spec_StrictIn_l2 (ps : (List (Int × (List Int)))) (f : Int) : Int → Option (Int ⊕ (Int ⊕ Bool))
  | i =>
    if 0 ≤ f ∧ f < (ps.length : Int) then
      if (decide (i < (((ps.getD f.toNat default).2).length : Int))) = true then
        if 0 ≤ f ∧ f < (ps.length : Int) then
          if 0 ≤ i ∧ i < (((ps.getD f.toNat default).2).length : Int) then
            if (decide ((((ps.getD f.toNat default).2).getD i.toNat default) < 1)) = true then
              Option.map Sum.inr (
                Option.map Sum.inr (
                  some false))
            else
              some (.inl (IntKind.i64.wrap (i + 1)))
          else none
        else none
      else
        Option.map Sum.inr (
          some (.inl (IntKind.i64.wrap (f + 1))))
    else none
noncomputable def F_spec_StrictIn_l1 (ps : (List (Int × (List Int)))) : Int → Option (Int ⊕ Bool)
  | f =>
    if (decide (f < (ps.length : Int))) = true then
      loopC (F_spec_StrictIn_l2 ps f) 0
    else
      Option.map Sum.inr (
        some true)
noncomputable def F_spec_StrictIn (sig : (List Int)) (ps : (List (Int × (List Int)))) : Option Bool :=
  (F_spec_PolysOk sig ps).bind fun r =>
  if r = true then
    loopC (F_spec_StrictIn_l1 ps) 0
  else
    some false
theorem c_spec_StrictIn {sig : (List Int)} {ps : (List (Int × (List Int)))} {rr : Bool} (h : F_spec_StrictIn sig ps = some rr) : PFun Tryz.prog 240 [D_impl_Sig sig, (slD 2 D_impl_Poly) ps] (bD rr) := by
  delta F_spec_StrictIn at h
  refine fn240.pureL (vcm_sound ?_)
  delta mc240
  refine stp ?_
  obtain ⟨r, hr, h⟩ := bind_some h
  refine cR (c_spec_PolysOk hr) (stp ?_)
  rcases ite_some h with ⟨hc, h⟩ | ⟨hc, h⟩
  · refine stpc hc ?_
    refine m_loopF h [4, 5, 6, 11, 12, 13, 14, 15, 16, 17, 18, 19, 20, 21, 22, 23, 24, 25, 26, 27, 28, 29, 30, 31, 32, 33, 34, 35] (fun pp => [(5, .d (iD pp))]) (fun pp => [(2, .obj 43 [.d (slD 1 iD sig)])]) ?_ ?_
    · try dsimp only
      exact wk
    · rintro f t1 h hb1
      unfold F_spec_StrictIn_l1 at h
      try dsimp only at h
      refine vcm_sound (stp ?_)
      rcases ite_some h with ⟨hc, h⟩ | ⟨hc, h⟩
      · refine stpc hc ?_
        refine m_loopF h [4, 6, 17, 18, 19, 20, 21, 22, 23, 24, 25, 26, 27, 28, 29, 30, 31, 32, 33, 34, 35] (fun pp => [(6, .d (iD pp))]) (fun pp => [(2, .obj 43 [.d (slD 1 iD sig)])]) ?_ ?_
        · try dsimp only
          exact wk
        · rintro i t2 h hb2
          unfold F_spec_StrictIn_l2 at h
          try dsimp only at h
          refine vcm_sound (stp ?_)
          obtain ⟨hp, h⟩ := need_some h
          repeat (refine need_i (by omega) ?_; refine stp ?_)
          rcases ite_some h with ⟨hc, h⟩ | ⟨hc, h⟩
          · refine stpc hc ?_
            obtain ⟨hp, h⟩ := need_some h
            repeat (refine need_i (by omega) ?_; refine stp ?_)
            obtain ⟨hp, h⟩ := need_some h
            repeat (refine need_i (by omega) ?_; refine stp ?_)
            rcases ite_some h with ⟨hc, h⟩ | ⟨hc, h⟩
            · refine stpc hc ?_
              replace h := inr_some h hb2
              replace h := inr_some h hb1
              cases h
              exact don
            · refine stpc hc ?_
              cases h
              refine ⟨_, rfl, ?_⟩
              exact wk
          · refine stpc hc ?_
            replace h := inr_some h hb2
            cases h
            refine ⟨_, rfl, ?_⟩
            exact wk
      · refine stpc hc ?_
        replace h := inr_some h hb1
        cases h
        exact don
  · refine stpc hc ?_
    cases h
    exact don

def mc431 : MCode :=
 (.seq (.reg [⟨some 3, .box 3 43 (.tmp 0), none⟩, ⟨some 6, .mv (.const (.int .i64 0)), none⟩]) (.seq (.reg [⟨some 7, .mv (.const (.int .i64 1)), none⟩]) (.seq (.block 0 (.loop (.seq (.seq (.reg [⟨some 8, .mv (.tmp 7), none⟩, ⟨some 9, .bin .gtr (.tmp 8) (.const (.int .i64 0)), none⟩]) (.cond (.tmp 9) .skip (.exit 0))) (.block 1 (.seq (.seq (.reg [⟨some 10, .mv (.tmp 1), none⟩, ⟨some 11, .mv (.tmp 2), none⟩, ⟨some 12, .ixa 1 (.tmp 10) (.tmp 11), none⟩, ⟨some 13, .load 1 false (.tmp 12), none⟩, ⟨some 14, .bin .geq (.tmp 13) (.const (.int .i64 0)), none⟩]) (.cond (.tmp 14) (.draw [⟨some 15, .mv (.tmp 7), none⟩, ⟨some 16, .fad 0 (.tmp 3), none⟩, ⟨some 17, .load 1 false (.tmp 16), none⟩, ⟨some 18, .mv (.tmp 1), none⟩, ⟨some 19, .mv (.tmp 2), none⟩, ⟨some 20, .ixa 1 (.tmp 18) (.tmp 19), none⟩, ⟨some 21, .load 1 false (.tmp 20), none⟩, ⟨some 22, .ixa 1 (.tmp 17) (.tmp 21), none⟩, ⟨some 23, .load 1 false (.tmp 22), none⟩, ⟨some 24, .bin .add (.tmp 15) (.tmp 23), none⟩, ⟨some 7, .mv (.tmp 24), none⟩] [[], [], [1], [], [], [3, 4], [5], [2, 6], [7], [0, 8], [9, 0, 1, 2, 3, 4, 5, 6, 7, 8, 9]]) .skip)) (.seq (.reg [⟨some 25, .mv (.tmp 7), none⟩, ⟨some 26, .bin .sub (.tmp 25) (.const (.int .i64 1)), none⟩, ⟨some 7, .mv (.tmp 26), none⟩]) (.reg [⟨some 27, .mv (.tmp 2), none⟩, ⟨some 28, .bin .add (.tmp 27) (.const (.int .i64 1)), none⟩, ⟨some 2, .mv (.tmp 28), none⟩]))))))) (.seq (.reg [⟨some 29, .mv (.tmp 2), none⟩, ⟨some 6, .mv (.tmp 29), none⟩]) .ret))))
theorem fn431 : MFn Tryz.prog 431 mc431 30 [.tmp 6] :=
  ⟨Tryz.f431, Tryz.func431, by kernel_rfl, Tryz.ntmps431, by kernel_rfl⟩
noncomputable def F_spec_l13End_l1 (sig : (List Int)) (t : (List Int)) : (Int × Int) → Option ((Int × Int) ⊕ Int)
  | (at'_1, need) =>
    if (decide (0 < need)) = true then
      if 0 ≤ at'_1 ∧ at'_1 < (t.length : Int) then
        if (decide (0 ≤ (t.getD at'_1.toNat default))) = true then
          if 0 ≤ at'_1 ∧ at'_1 < (t.length : Int) then
            if 0 ≤ (t.getD at'_1.toNat default) ∧ (t.getD at'_1.toNat default) < (sig.length : Int) then
              some (.inl ((IntKind.i64.wrap (at'_1 + 1)), (IntKind.i64.wrap ((IntKind.i64.wrap (need + (sig.getD (t.getD at'_1.toNat default).toNat default))) - 1))))
            else none
          else none
        else
          some (.inl ((IntKind.i64.wrap (at'_1 + 1)), (IntKind.i64.wrap (need - 1))))
      else none
    else
      Option.map Sum.inr (
        some at'_1)
noncomputable def F_spec_l13End (sig : (List Int)) (t : (List Int)) (at' : Int) : Option Int :=
  loopC (F_spec_l13End_l1 sig t) (at', 1)
theorem c_spec_l13End {sig : (List Int)} {t : (List Int)} {at' : Int} {rr : Int} (h : F_spec_l13End sig t at' = some rr) : PFun Tryz.prog 431 [D_impl_Sig sig, (slD 1 iD) t, iD at'] (iD rr) := by
  delta F_spec_l13End at h
  refine fn431.pureL (vcm_sound ?_)
  delta mc431
  refine stp ?_
  refine m_loopF h [2, 7, 8, 9, 10, 11, 12, 13, 14, 15, 16, 17, 18, 19, 20, 21, 22, 23, 24, 25, 26, 27, 28] (fun pp => [(2, .d (iD pp.1)), (7, .d (iD pp.2))]) (fun pp => [(3, .obj 43 [.d (slD 1 iD sig)])]) ?_ ?_
  · try dsimp only
    exact wk
  · rintro ⟨at'_1, need⟩ t1 h hb1
    unfold F_spec_l13End_l1 at h
    try dsimp only at h
    refine vcm_sound (stp ?_)
    rcases ite_some h with ⟨hc, h⟩ | ⟨hc, h⟩
    · refine stpc hc ?_
      obtain ⟨hp, h⟩ := need_some h
      repeat (refine need_i (by omega) ?_; refine stp ?_)
      rcases ite_some h with ⟨hc, h⟩ | ⟨hc, h⟩
      · refine stpc hc ?_
        obtain ⟨hp, h⟩ := need_some h
        repeat (refine need_i (by omega) ?_; refine stp ?_)
        obtain ⟨hp, h⟩ := need_some h
        repeat (refine need_i (by omega) ?_; refine stp ?_)
        refine drQ_of (by kernel_rfl) ?_
        refine stp ?_
        cases h
        refine ⟨_, rfl, ?_⟩
        exact wk
      · refine stpc hc ?_
        cases h
        refine ⟨_, rfl, ?_⟩
        exact wk
    · refine stpc hc ?_
      replace h := inr_some h hb1
      cases h
      exact don

def mc384 : MCode :=
 (.seq (.reg [⟨some 2, .box 2 43 (.tmp 0), none⟩, ⟨some 4, .mv (.const (.slice none 0 0)), none⟩]) (.seq (.reg [⟨some 9, .bsl 9 22 1 [], none⟩, ⟨some 5, .mv (.tmp 9), none⟩]) (.seq (.seq (.reg [⟨some 10, .mv (.tmp 1), none⟩, ⟨some 11, .ixa 1 (.tmp 10) (.const (.int .i64 0)), none⟩, ⟨some 12, .load 1 false (.tmp 11), none⟩, ⟨some 13, .bin .lss (.tmp 12) (.const (.int .i64 0)), none⟩]) (.cond (.tmp 13) (.seq (.reg [⟨some 14, .mv (.tmp 5), none⟩, ⟨some 4, .mv (.tmp 14), none⟩]) .ret) .skip)) (.seq (.reg [⟨some 6, .mv (.const (.int .i64 1)), none⟩]) (.seq (.seq (.reg [⟨some 7, .mv (.const (.int .i64 0)), none⟩]) (.block 0 (.loop (.seq (.seq (.draw [⟨some 15, .mv (.tmp 7), none⟩, ⟨some 16, .fad 0 (.tmp 2), none⟩, ⟨some 17, .load 1 false (.tmp 16), none⟩, ⟨some 18, .mv (.tmp 1), none⟩, ⟨some 19, .ixa 1 (.tmp 18) (.const (.int .i64 0)), none⟩, ⟨some 20, .load 1 false (.tmp 19), none⟩, ⟨some 21, .ixa 1 (.tmp 17) (.tmp 20), none⟩, ⟨some 22, .load 1 false (.tmp 21), none⟩, ⟨some 23, .bin .lss (.tmp 15) (.tmp 22), none⟩] [[], [], [1], [], [3], [4], [2, 5], [6], [0, 7]]) (.cond (.tmp 23) .skip (.exit 0))) (.seq (.block 1 (.seq (.reg [⟨some 26, .load 1 true (.tmp 2), none⟩, ⟨some 27, .mv (.tmp 1), none⟩, ⟨some 28, .mv (.tmp 6), none⟩, ⟨some 29, .callf 431 [(.tmp 26), (.tmp 27), (.tmp 28)], none⟩, ⟨some 8, .mv (.tmp 29), none⟩]) (.seq (.reg [⟨some 30, .mv (.tmp 5), none⟩, ⟨some 31, .mv (.tmp 1), none⟩, ⟨some 32, .mv (.tmp 6), none⟩, ⟨some 33, .mv (.tmp 8), none⟩, ⟨some 34, .slc (.tmp 31) 1 (some (.tmp 32)) (some (.tmp 33)) none, none⟩, ⟨some 35, .bsl 35 22 1 [(.tmp 34)], none⟩, ⟨some 36, .app 36 22 1 24 (.tmp 30) (.tmp 35), none⟩, ⟨some 5, .mv (.tmp 36), none⟩]) (.reg [⟨some 37, .mv (.tmp 8), none⟩, ⟨some 6, .mv (.tmp 37), none⟩])))) (.reg [⟨some 24, .mv (.tmp 7), none⟩, ⟨some 25, .bin .add (.tmp 24) (.const (.int .i64 1)), none⟩, ⟨some 7, .mv (.tmp 25), none⟩])))))) (.seq (.reg [⟨some 38, .mv (.tmp 5), none⟩, ⟨some 4, .mv (.tmp 38), none⟩]) .ret))))))
theorem fn384 : MFn Tryz.prog 384 mc384 39 [.tmp 4] :=
  ⟨Tryz.f384, Tryz.func384, by kernel_rfl, Tryz.ntmps384, by kernel_rfl⟩
noncomputable def F_spec_l13Parts_l1 (sig : (List Int)) (t : (List Int)) : ((List (List Int)) × Int × Int) → Option (((List (List Int)) × Int × Int) ⊕ (List (List Int)))
  | (out, at', k) =>
    if 0 ≤ 0 ∧ 0 < (t.length : Int) then
      if 0 ≤ (t.getD 0 default) ∧ (t.getD 0 default) < (sig.length : Int) then
        if (decide (k < (sig.getD (t.getD 0 default).toNat default))) = true then
          (F_spec_l13End sig t at').bind fun r =>
          if 0 ≤ at' ∧ at' ≤ r ∧ r ≤ (t.length : Int) then
            if (out.length + 1) * 24 ≤ 140737488355328 then
              some (.inl ((out ++ [((t.take r.toNat).drop at'.toNat)]), r, (IntKind.i64.wrap (k + 1))))
            else none
          else none
        else
          Option.map Sum.inr (
            some out)
      else none
    else none
noncomputable def F_spec_l13Parts (sig : (List Int)) (t : (List Int)) : Option (List (List Int)) :=
  if 0 ≤ 0 ∧ 0 < (t.length : Int) then
    if (decide ((t.getD 0 default) < 0)) = true then
      some []
    else
      loopC (F_spec_l13Parts_l1 sig t) ([], 1, 0)
  else none
theorem c_spec_l13Parts {sig : (List Int)} {t : (List Int)} {rr : (List (List Int))} (h : F_spec_l13Parts sig t = some rr) : PFun Tryz.prog 384 [D_impl_Sig sig, (slD 1 iD) t] ((slD 1 (slD 1 iD)) rr) := by
  delta F_spec_l13Parts at h
  refine fn384.pureL (vcm_sound ?_)
  delta mc384
  refine stp ?_
  obtain ⟨hp, h⟩ := need_some h
  repeat (refine need_i (by omega) ?_; refine stp ?_)
  rcases ite_some h with ⟨hc, h⟩ | ⟨hc, h⟩
  · refine stpc hc ?_
    cases h
    exact don
  · refine stpc hc ?_
    refine m_loopF h [5, 6, 7, 8, 15, 16, 17, 18, 19, 20, 21, 22, 23, 24, 25, 26, 27, 28, 29, 30, 31, 32, 33, 34, 35, 36, 37] (fun pp => [(5, .own 1 9 (List.map (slD 1 iD) pp.1)), (6, .d (iD pp.2.1)), (7, .d (iD pp.2.2))]) (fun pp => [(2, .obj 43 [.d (slD 1 iD sig)]), (9, .tok 22 1 pp.1.length)]) ?_ ?_
    · try dsimp only
      exact wk
    · rintro ⟨out, at', k⟩ t1 h hb1
      unfold F_spec_l13Parts_l1 at h
      try dsimp only at h
      refine vcm_sound (stp ?_)
      obtain ⟨hp, h⟩ := need_some h
      repeat (refine need_i (by omega) ?_; refine stp ?_)
      obtain ⟨hp, h⟩ := need_some h
      repeat (refine need_i (by omega) ?_; refine stp ?_)
      refine drQ_of (by kernel_rfl) ?_
      refine stp ?_
      rcases ite_some h with ⟨hc, h⟩ | ⟨hc, h⟩
      · refine stpc hc ?_
        obtain ⟨r, hr, h⟩ := bind_some h
        refine cR (c_spec_l13End hr) (stp ?_)
        obtain ⟨hp, h⟩ := need_some h
        repeat (refine need_i (by omega) ?_; refine stp ?_)
        obtain ⟨hp, h⟩ := need_some h
        repeat (refine need_i (by omega) ?_; refine stp ?_)
        cases h
        refine ⟨_, rfl, ?_⟩
        refine (Weak.drop 35 (by omega)).trans ?_
        exact wk
      · refine stpc hc ?_
        replace h := inr_some h hb1
        cases h
        exact don

def mc430_spec_l15Add : MCode :=
  (.seq (.reg [⟨(some 3), .box 3 158 (.tmp 0), none⟩,
    ⟨(some 4), .box 4 158 (.tmp 1), none⟩,
    ⟨(some 6), .alloc 6 158 [.lit (.int .i64 0), .sl 0 (some true) []], none⟩,
    ⟨(some 7), .mv (.const (.bool false)), none⟩])
  (.seq (.draw [⟨(some 11), .fad 0 (.tmp 3), none⟩,
    ⟨(some 12), .load 1 false (.tmp 11), none⟩,
    ⟨(some 13), .mv (.tmp 2), none⟩,
    ⟨(some 14), .fad 0 (.tmp 4), none⟩,
    ⟨(some 15), .load 1 false (.tmp 14), none⟩,
    ⟨(some 16), .bin .mul (.tmp 13) (.tmp 15), none⟩,
    ⟨(some 17), .bin .add (.tmp 12) (.tmp 16), none⟩,
    ⟨(some 18), .bslg 18 2 1 [], none⟩,
    ⟨(some 19), .fad 1 (.tmp 3), none⟩,
    ⟨(some 20), .load 1 false (.tmp 19), none⟩,
    ⟨(some 21), .app 21 2 1 8 (.tmp 18) (.tmp 20), none⟩,
    ⟨(some 22), .build [.lit (.int .i64 0), .sl 0 (some true) []] [(0, 1, (.tmp 17)), (1, 1, (.tmp 21))], none⟩,
    ⟨(some 8), .alloc 8 158 [.lit (.int .i64 0), .sl 0 (some true) []], none⟩,
    ⟨none, .store 2 (.tmp 8) (.tmp 22), none⟩] [[], [0], [], [], [3], [2, 4], [1, 5], [], [], [8], [7, 9], [6, 10], [], [12, 11, 10, 0, 1, 2, 3, 4, 5, 6, 7, 8, 9, 10, 11, 12]])
  (.seq (.seq (.reg [⟨(some 9), .mv (.const (.int .i64 0)), none⟩])
  (.block 0
    (.loop
      (.seq (.seq (.reg [⟨(some 23), .mv (.tmp 9), none⟩,
        ⟨(some 24), .fad 1 (.tmp 4), none⟩,
        ⟨(some 25), .load 1 false (.tmp 24), none⟩,
        ⟨(some 26), .len (.tmp 25), none⟩,
        ⟨(some 27), .bin .lss (.tmp 23) (.tmp 26), none⟩])
      (.cond (.tmp 27)
        .skip
        (.exit 0)))
      (.seq (.block 1
        (.seq (.seq (.reg [⟨(some 30), .mv (.tmp 9), none⟩,
          ⟨(some 31), .fad 1 (.tmp 8), none⟩,
          ⟨(some 32), .load 1 false (.tmp 31), none⟩,
          ⟨(some 33), .len (.tmp 32), none⟩,
          ⟨(some 34), .bin .geq (.tmp 30) (.tmp 33), none⟩])
        (.cond (.tmp 34)
          (.reg [⟨(some 35), .fad 1 (.tmp 8), none⟩,
            ⟨(some 36), .load 1 false (.tmp 35), none⟩,
            ⟨(some 37), .bsl 37 2 1 [(.const (.int .i64 0))], none⟩,
            ⟨(some 38), .app 38 2 1 8 (.tmp 36) (.tmp 37), none⟩,
            ⟨(some 39), .fad 1 (.tmp 8), none⟩,
            ⟨none, .store 1 (.tmp 39) (.tmp 38), none⟩])
          .skip))
        (.draw [⟨(some 40), .fad 1 (.tmp 8), none⟩,
          ⟨(some 41), .load 1 false (.tmp 40), none⟩,
          ⟨(some 42), .mv (.tmp 9), none⟩,
          ⟨(some 43), .fad 1 (.tmp 8), none⟩,
          ⟨(some 44), .load 1 false (.tmp 43), none⟩,
          ⟨(some 45), .mv (.tmp 9), none⟩,
          ⟨(some 46), .ixa 1 (.tmp 44) (.tmp 45), none⟩,
          ⟨(some 47), .load 1 false (.tmp 46), none⟩,
          ⟨(some 48), .mv (.tmp 2), none⟩,
          ⟨(some 49), .fad 1 (.tmp 4), none⟩,
          ⟨(some 50), .load 1 false (.tmp 49), none⟩,
          ⟨(some 51), .mv (.tmp 9), none⟩,
          ⟨(some 52), .ixa 1 (.tmp 50) (.tmp 51), none⟩,
          ⟨(some 53), .load 1 false (.tmp 52), none⟩,
          ⟨(some 54), .bin .mul (.tmp 48) (.tmp 53), none⟩,
          ⟨(some 55), .bin .add (.tmp 47) (.tmp 54), none⟩,
          ⟨(some 56), .ixa 1 (.tmp 41) (.tmp 42), none⟩,
          ⟨none, .store 1 (.tmp 56) (.tmp 55), none⟩] [[], [0], [], [], [3], [], [4, 5], [6], [], [], [9], [], [10, 11], [12], [8, 13], [7, 14], [1, 2, 0, 1, 2, 3, 4, 5, 6, 7, 8, 9, 10, 11, 12, 13, 14, 15], [16, 15, 0, 1, 2, 3, 4, 5, 6, 7, 8, 9, 10, 11, 12, 13, 14, 15]])))
      (.reg [⟨(some 28), .mv (.tmp 9), none⟩,
        ⟨(some 29), .bin .add (.tmp 28) (.const (.int .i64 1)), none⟩,
        ⟨(some 9), .mv (.tmp 29), none⟩]))))))
  (.seq (.seq (.reg [⟨(some 10), .mv (.const (.int .i64 0)), none⟩])
  (.block 2
    (.loop
      (.seq (.seq (.reg [⟨(some 57), .mv (.tmp 10), none⟩,
        ⟨(some 58), .fad 1 (.tmp 8), none⟩,
        ⟨(some 59), .load 1 false (.tmp 58), none⟩,
        ⟨(some 60), .len (.tmp 59), none⟩,
        ⟨(some 61), .bin .lss (.tmp 57) (.tmp 60), none⟩])
      (.cond (.tmp 61)
        .skip
        (.exit 2)))
      (.seq (.block 3
        (.seq (.reg [⟨(some 64), .fad 1 (.tmp 8), none⟩,
          ⟨(some 65), .load 1 false (.tmp 64), none⟩,
          ⟨(some 66), .mv (.tmp 10), none⟩,
          ⟨(some 67), .ixa 1 (.tmp 65) (.tmp 66), none⟩,
          ⟨(some 68), .load 1 false (.tmp 67), none⟩,
          ⟨(some 69), .bin .gtr (.tmp 68) (.const (.int .i64 1000000000000)), none⟩])
        (.cond (.tmp 69)
          (.seq (.reg [⟨(some 70), .build [.lit (.int .i64 0), .sl 0 (some true) []] [], none⟩,
            ⟨none, .store 2 (.tmp 6) (.tmp 70), none⟩,
            ⟨(some 7), .mv (.const (.bool false)), none⟩])
          .ret)
          .skip)))
      (.reg [⟨(some 62), .mv (.tmp 10), none⟩,
        ⟨(some 63), .bin .add (.tmp 62) (.const (.int .i64 1)), none⟩,
        ⟨(some 10), .mv (.tmp 63), none⟩]))))))
  (.seq (.draw [⟨(some 71), .load 2 true (.tmp 8), none⟩,
    ⟨(some 72), .fad 0 (.tmp 8), none⟩,
    ⟨(some 73), .load 1 false (.tmp 72), none⟩,
    ⟨(some 74), .bin .leq (.tmp 73) (.const (.int .i64 1000000000000)), none⟩,
    ⟨none, .store 2 (.tmp 6) (.tmp 71), none⟩,
    ⟨(some 7), .mv (.tmp 74), none⟩] [[], [], [1], [2], [0, 0], [3, 4, 0, 1, 2, 3, 4]])
  .ret)))))
theorem fn430_spec_l15Add : MFn Tryz.prog 430 mc430_spec_l15Add 75 [.cell 6 2 true, .tmp 7] :=
  ⟨Tryz.f430, Tryz.func430, by kernel_rfl, Tryz.ntmps430, by kernel_rfl⟩
noncomputable def F_spec_l15Add_l2 (a : (Int × (List Int))) (b : (Int × (List Int))) (by' : Int) (g18 : (List Int)) : Int → Option (Int ⊕ ((Int × (List Int)) × Bool))
  | i_1 =>
    if (decide (i_1 < (g18.length : Int))) = true then
      if 0 ≤ i_1 ∧ i_1 < (g18.length : Int) then
        if (decide (1000000000000 < (g18.getD i_1.toNat default))) = true then
          Option.map Sum.inr (
            some ((0, []), false))
        else
          some (.inl (IntKind.i64.wrap (i_1 + 1)))
      else none
    else
      Option.map Sum.inr (
        some (((IntKind.i64.wrap (a.1 + (IntKind.i64.wrap (by' * b.1)))), g18), (decide ((IntKind.i64.wrap (a.1 + (IntKind.i64.wrap (by' * b.1)))) ≤ 1000000000000))))
noncomputable def F_spec_l15Add_l1 (a : (Int × (List Int))) (b : (Int × (List Int))) (by' : Int) : (Int × (List Int)) → Option ((Int × (List Int)) ⊕ ((Int × (List Int)) × Bool))
  | (i, g18) =>
    if (decide (i < (b.2.length : Int))) = true then
      if (decide ((g18.length : Int) ≤ i)) = true then
        if (g18.length + 1) * 8 ≤ 140737488355328 then
          if 0 ≤ i ∧ i < ((g18 ++ [0]).length : Int) then
            if 0 ≤ i ∧ i < (b.2.length : Int) then
              if 0 ≤ i ∧ i < ((g18 ++ [0]).length : Int) then
                some (.inl ((IntKind.i64.wrap (i + 1)), ((g18 ++ [0]).set i.toNat (IntKind.i64.wrap (((g18 ++ [0]).getD i.toNat default) + (IntKind.i64.wrap (by' * (b.2.getD i.toNat default))))))))
              else none
            else none
          else none
        else none
      else
        if 0 ≤ i ∧ i < (g18.length : Int) then
          if 0 ≤ i ∧ i < (b.2.length : Int) then
            if 0 ≤ i ∧ i < (g18.length : Int) then
              some (.inl ((IntKind.i64.wrap (i + 1)), (g18.set i.toNat (IntKind.i64.wrap ((g18.getD i.toNat default) + (IntKind.i64.wrap (by' * (b.2.getD i.toNat default))))))))
            else none
          else none
        else none
    else
      Option.map Sum.inr (
        loopC (F_spec_l15Add_l2 a b by' g18) 0)
noncomputable def F_spec_l15Add (a : (Int × (List Int))) (b : (Int × (List Int))) (by' : Int) : Option ((Int × (List Int)) × Bool) :=
  if (0 + a.2.length) * 8 ≤ 140737488355328 then
    loopC (F_spec_l15Add_l1 a b by') (0, a.2)
  else none
theorem c_spec_l15Add {a : (Int × (List Int))} {b : (Int × (List Int))} {by' : Int} {rr : ((Int × (List Int)) × Bool)} (h : F_spec_l15Add a b by' = some rr) : PFunN Tryz.prog 430 [D_impl_Poly a, D_impl_Poly b, iD by'] [D_impl_Poly rr.1, bD rr.2] := by
  delta F_spec_l15Add at h
  refine fn430_spec_l15Add.pureDN (vcm_sound ?_)
  delta mc430_spec_l15Add
  refine stp ?_
  obtain ⟨hp, h⟩ := need_some h
  repeat (refine need_i (by omega) ?_; refine stp ?_)
  refine drQ_of (by kernel_rfl) ?_
  refine stp ?_
  refine m_loopF h [9, 23, 24, 25, 26, 27, 28, 29, 30, 31, 32, 33, 34, 35, 36, 37, 38, 39, 40, 41, 42, 43, 44, 45, 46, 47, 48, 49, 50, 51, 52, 53, 54, 55, 56] (fun pp => [(9, .d (iD pp.1))]) (fun pp => [(3, .obj 158 [.d (iD a.1), .d (slD 1 iD a.2)]), (4, .obj 158 [.d (iD b.1), .d (slD 1 iD b.2)]), (6, .obj 158 [.d (iD 0), .d (.sl 0 (some true) [])]), (8, .obj 158 [.d (iD (IntKind.i64.wrap (a.1 + (IntKind.i64.wrap (by' * b.1))))), .gow 1 18 pp.2.length]), (18, .gro 2 1 pp.2.length (groL iD pp.2))]) ?_ ?_
  · try dsimp only
    exact wk
  · rintro ⟨i, g18⟩ t1 h hb1
    unfold F_spec_l15Add_l1 at h
    try dsimp only at h
    refine vcm_sound (stp ?_)
    rcases ite_some h with ⟨hc, h⟩ | ⟨hc, h⟩
    · refine stpc hc ?_
      rcases ite_some h with ⟨hc, h⟩ | ⟨hc, h⟩
      · refine stpc hc ?_
        obtain ⟨hp, h⟩ := need_some h
        repeat (refine need_i (by omega) ?_; refine stp ?_)
        obtain ⟨hp, h⟩ := need_some h
        try (have hq := hp; simp only [List.length_append, List.length_cons, List.length_nil, List.length_map, Nat.reduceAdd] at hq)
        repeat (refine need_i (by omega) ?_; refine stp ?_)
        repeat (refine need_i (by omega) ?_; refine stp ?_)
        obtain ⟨hp, h⟩ := need_some h
        repeat (refine need_i (by omega) ?_; refine stp ?_)
        obtain ⟨hp, h⟩ := need_some h
        try (have hq := hp; simp only [List.length_append, List.length_cons, List.length_nil, List.length_map, Nat.reduceAdd] at hq)
        repeat (refine need_i (by omega) ?_; refine stp ?_)
        repeat (refine need_i (by omega) ?_; refine stp ?_)
        refine drQ_of (by kernel_rfl) ?_
        refine stp ?_
        cases h
        refine ⟨_, rfl, ?_⟩
        refine (Weak.drop 37 (by omega)).trans ?_
        exact wk
      · refine stpc hc ?_
        obtain ⟨hp, h⟩ := need_some h
        repeat (refine need_i (by omega) ?_; refine stp ?_)
        repeat (refine need_i (by omega) ?_; refine stp ?_)
        obtain ⟨hp, h⟩ := need_some h
        repeat (refine need_i (by omega) ?_; refine stp ?_)
        obtain ⟨hp, h⟩ := need_some h
        repeat (refine need_i (by omega) ?_; refine stp ?_)
        repeat (refine need_i (by omega) ?_; refine stp ?_)
        refine drQ_of (by kernel_rfl) ?_
        refine stp ?_
        cases h
        refine ⟨_, rfl, ?_⟩
        exact wk
    · refine stpc hc ?_
      replace h := inr_some h hb1
      refine m_loopF h [7, 10, 57, 58, 59, 60, 61, 62, 63, 64, 65, 66, 67, 68, 69, 70] (fun pp => [(10, .d (iD pp))]) (fun pp => [(3, .obj 158 [.d (iD a.1), .d (slD 1 iD a.2)]), (4, .obj 158 [.d (iD b.1), .d (slD 1 iD b.2)]), (6, .obj 158 [.d (iD 0), .d (.sl 0 (some true) [])]), (8, .obj 158 [.d (iD (IntKind.i64.wrap (a.1 + (IntKind.i64.wrap (by' * b.1))))), .gow 1 18 g18.length]), (18, .gro 2 1 g18.length (groL iD g18))]) ?_ ?_
      · try dsimp only
        exact wk
      · rintro i_1 t1 h hb1
        unfold F_spec_l15Add_l2 at h
        try dsimp only at h
        refine vcm_sound (stp ?_)
        rcases ite_some h with ⟨hc, h⟩ | ⟨hc, h⟩
        · refine stpc hc ?_
          obtain ⟨hp, h⟩ := need_some h
          repeat (refine need_i (by omega) ?_; refine stp ?_)
          repeat (refine need_i (by omega) ?_; refine stp ?_)
          rcases ite_some h with ⟨hc, h⟩ | ⟨hc, h⟩
          · refine stpc hc ?_
            replace h := inr_some h hb1
            cases h
            exact ⟨_, _, Done.refl, frd⟩
          · refine stpc hc ?_
            cases h
            refine ⟨_, rfl, ?_⟩
            exact wk
        · refine stpc hc ?_
          replace h := inr_some h hb1
          refine drQ_of (by kernel_rfl) ?_
          refine stp ?_
          cases h
          exact ⟨_, _, (Done.fz 18 iD rfl g18), frd⟩

def mc383 : MCode :=
 (.seq (.reg [⟨some 4, .box 4 43 (.tmp 0), none⟩, ⟨some 6, .box 6 158 (.tmp 2), none⟩, ⟨some 8, .alloc 8 158 [.lit (.int .i64 0), .sl 0 (some true) []], none⟩, ⟨some 9, .mv (.const (.bool false)), none⟩]) (.seq (.reg [⟨some 16, .fad 0 (.tmp 6), none⟩, ⟨some 17, .load 1 false (.tmp 16), none⟩, ⟨some 18, .build [.lit (.int .i64 0), .sl 0 (some true) []] [(0, 1, (.tmp 17))], none⟩, ⟨some 10, .alloc 10 158 [.lit (.int .i64 0), .sl 0 (some true) []], none⟩, ⟨none, .store 2 (.tmp 10) (.tmp 18), none⟩]) (.seq (.seq (.reg [⟨some 11, .mv (.const (.int .i64 0)), none⟩]) (.block 0 (.loop (.seq (.seq (.reg [⟨some 19, .mv (.tmp 11), none⟩, ⟨some 20, .mv (.tmp 3), none⟩, ⟨some 21, .len (.tmp 20), none⟩, ⟨some 22, .bin .lss (.tmp 19) (.tmp 21), none⟩]) (.cond (.tmp 22) .skip (.exit 0))) (.seq (.block 1 (.seq (.draw [⟨some 26, .load 1 true (.tmp 4), none⟩, ⟨some 27, .mv (.tmp 1), none⟩, ⟨some 28, .mv (.tmp 3), none⟩, ⟨some 29, .mv (.tmp 11), none⟩, ⟨some 30, .ixa 1 (.tmp 28) (.tmp 29), none⟩, ⟨some 31, .load 1 false (.tmp 30), none⟩, ⟨some 32, .callf 321 [(.tmp 26), (.tmp 27), (.tmp 31)], none⟩, ⟨some 25, .mv (.tmp 32), none⟩, ⟨some 33, .ext (.tmp 25) 0, none⟩, ⟨some 34, .ext (.tmp 25) 1, none⟩, ⟨some 12, .alloc 12 158 [.lit (.int .i64 0), .sl 0 (some true) []], none⟩, ⟨none, .store 2 (.tmp 12) (.tmp 33), none⟩, ⟨some 13, .mv (.tmp 34), none⟩] [[], [], [], [], [2, 3], [4], [0, 1, 5], [6], [7], [7], [], [10, 8, 6, 0, 1, 2, 3, 4, 5, 6, 7, 8, 10], [9, 11, 0, 1, 2, 3, 4, 5, 6, 7, 8, 9, 10, 11]]) (.seq (.seq (.reg [⟨some 35, .mv (.tmp 13), none⟩, ⟨some 36, .un .not (.tmp 35), none⟩]) (.cond (.tmp 36) (.seq (.reg [⟨some 37, .build [.lit (.int .i64 0), .sl 0 (some true) []] [], none⟩, ⟨none, .store 2 (.tmp 8) (.tmp 37), none⟩, ⟨some 9, .mv (.const (.bool false)), none⟩]) .ret) .skip)) (.seq (.draw [⟨some 39, .load 2 true (.tmp 10), none⟩, ⟨some 40, .load 2 true (.tmp 12), none⟩, ⟨some 41, .fad 1 (.tmp 6), none⟩, ⟨some 42, .load 1 false (.tmp 41), none⟩, ⟨some 43, .mv (.tmp 11), none⟩, ⟨some 44, .ixa 1 (.tmp 42) (.tmp 43), none⟩, ⟨some 45, .load 1 false (.tmp 44), none⟩, ⟨some 46, .callf 430 [(.tmp 39), (.tmp 40), (.tmp 45)], none⟩, ⟨some 38, .mv (.tmp 46), none⟩, ⟨some 47, .ext (.tmp 38) 0, none⟩, ⟨some 48, .ext (.tmp 38) 1, none⟩, ⟨some 14, .alloc 14 158 [.lit (.int .i64 0), .sl 0 (some true) []], none⟩, ⟨none, .store 2 (.tmp 14) (.tmp 47), none⟩, ⟨some 15, .mv (.tmp 48), none⟩] [[], [], [], [2], [], [3, 4], [5], [0, 1, 6], [7], [8], [8], [], [11, 9, 7, 0, 1, 2, 3, 4, 5, 6, 7, 8, 9, 11], [10, 12, 0, 1, 2, 3, 4, 5, 6, 7, 8, 9, 10, 11, 12]]) (.seq (.seq (.reg [⟨some 49, .mv (.tmp 15), none⟩, ⟨some 50, .un .not (.tmp 49), none⟩]) (.cond (.tmp 50) (.seq (.reg [⟨some 51, .build [.lit (.int .i64 0), .sl 0 (some true) []] [], none⟩, ⟨none, .store 2 (.tmp 8) (.tmp 51), none⟩, ⟨some 9, .mv (.const (.bool false)), none⟩]) .ret) .skip)) (.reg [⟨some 52, .load 2 true (.tmp 14), none⟩, ⟨none, .store 2 (.tmp 10) (.tmp 52), none⟩])))))) (.reg [⟨some 23, .mv (.tmp 11), none⟩, ⟨some 24, .bin .add (.tmp 23) (.const (.int .i64 1)), none⟩, ⟨some 11, .mv (.tmp 24), none⟩])))))) (.seq (.reg [⟨some 53, .load 2 true (.tmp 10), none⟩, ⟨none, .store 2 (.tmp 8) (.tmp 53), none⟩, ⟨some 9, .mv (.const (.bool true)), none⟩]) .ret))))
theorem fn383 : MFn Tryz.prog 383 mc383 54 [.cell 8 2 true, .tmp 9] :=
  ⟨Tryz.f383, Tryz.func383, by kernel_rfl, Tryz.ntmps383, by kernel_rfl⟩
noncomputable def F_spec_l15Sum_l1 (rec : (List Int) → (List (Int × (List Int))) → (List Int) → Option ((Int × (List Int)) × Bool)) (sig : (List Int)) (ps : (List (Int × (List Int)))) (p : (Int × (List Int))) (parts : (List (List Int))) : (Int × Int × (List Int)) → Option ((Int × Int × (List Int)) ⊕ ((Int × (List Int)) × Bool))
  | (k, out, out_1) =>
    if (decide (k < (parts.length : Int))) = true then
      if 0 ≤ k ∧ k < (parts.length : Int) then
        (rec sig ps (parts.getD k.toNat default)).bind fun r =>
        if r.2 = true then
          if 0 ≤ k ∧ k < (p.2.length : Int) then
            (F_spec_l15Add (out, out_1) r.1 (p.2.getD k.toNat default)).bind fun r_1 =>
            if r_1.2 = true then
              some (.inl ((IntKind.i64.wrap (k + 1)), r_1.1.1, r_1.1.2))
            else
              Option.map Sum.inr (
                some ((0, []), false))
          else none
        else
          Option.map Sum.inr (
            some ((0, []), false))
      else none
    else
      Option.map Sum.inr (
        some ((out, out_1), true))
noncomputable def F_spec_l15Sum (rec : (List Int) → (List (Int × (List Int))) → (List Int) → Option ((Int × (List Int)) × Bool)) (sig : (List Int)) (ps : (List (Int × (List Int)))) (p : (Int × (List Int))) (parts : (List (List Int))) : Option ((Int × (List Int)) × Bool) :=
  loopC (F_spec_l15Sum_l1 rec sig ps p parts) (0, p.1, [])
theorem c_spec_l15Sum {rec : (List Int) → (List (Int × (List Int))) → (List Int) → Option ((Int × (List Int)) × Bool)} (ih : ∀ {sig : (List Int)} {ps : (List (Int × (List Int)))} {t : (List Int)} {rr : ((Int × (List Int)) × Bool)}, rec sig ps t = some rr → PFunN Tryz.prog 321 [D_impl_Sig sig, (slD 2 D_impl_Poly) ps, (slD 1 iD) t] [D_impl_Poly rr.1, bD rr.2]) {sig : (List Int)} {ps : (List (Int × (List Int)))} {p : (Int × (List Int))} {parts : (List (List Int))} {rr : ((Int × (List Int)) × Bool)} (h : F_spec_l15Sum rec sig ps p parts = some rr) : PFunN Tryz.prog 383 [D_impl_Sig sig, (slD 2 D_impl_Poly) ps, D_impl_Poly p, (slD 1 (slD 1 iD)) parts] [D_impl_Poly rr.1, bD rr.2] := by
  delta F_spec_l15Sum at h
  refine fn383.pureLN (vcm_sound ?_)
  delta mc383
  refine stp ?_
  refine m_loopF h [9, 11, 12, 13, 14, 15, 19, 20, 21, 22, 23, 24, 25, 26, 27, 28, 29, 30, 31, 32, 33, 34, 35, 36, 37, 38, 39, 40, 41, 42, 43, 44, 45, 46, 47, 48, 49, 50, 51, 52] (fun pp => [(11, .d (iD pp.1))]) (fun pp => [(4, .obj 43 [.d (slD 1 iD sig)]), (6, .obj 158 [.d (iD p.1), .d (slD 1 iD p.2)]), (8, .obj 158 [.d (iD 0), .d (.sl 0 (some true) [])]), (10, .obj 158 [.d (iD pp.2.1), .d (slD 1 iD pp.2.2)])]) ?_ ?_
  · try dsimp only
    exact wk
  · rintro ⟨k, out, out_1⟩ t1 h hb1
    unfold F_spec_l15Sum_l1 at h
    try dsimp only at h
    refine vcm_sound (stp ?_)
    rcases ite_some h with ⟨hc, h⟩ | ⟨hc, h⟩
    · refine stpc hc ?_
      obtain ⟨hp, h⟩ := need_some h
      repeat (refine need_i (by omega) ?_; refine stp ?_)
      obtain ⟨r, hr, h⟩ := bind_some h
      refine cDN (ih hr) (stp ?_)
      refine drQ_of (by kernel_rfl) ?_
      refine stp ?_
      rcases ite_some h with ⟨hc, h⟩ | ⟨hc, h⟩
      · refine stpc hc ?_
        obtain ⟨hp, h⟩ := need_some h
        repeat (refine need_i (by omega) ?_; refine stp ?_)
        obtain ⟨r_1, hr_1, h⟩ := bind_some h
        refine cDN (c_spec_l15Add hr_1) (stp ?_)
        refine drQ_of (by kernel_rfl) ?_
        refine stp ?_
        rcases ite_some h with ⟨hc, h⟩ | ⟨hc, h⟩
        · refine stpc hc ?_
          cases h
          refine ⟨_, rfl, ?_⟩
          refine (Weak.drop 12 (by omega)).trans ?_
          refine (Weak.drop 14 (by omega)).trans ?_
          exact wk
        · refine stpc hc ?_
          replace h := inr_some h hb1
          cases h
          exact don
      · refine stpc hc ?_
        replace h := inr_some h hb1
        cases h
        exact don
    · refine stpc hc ?_
      replace h := inr_some h hb1
      cases h
      exact don

def mc321 : MCode :=
 (.seq (.reg [⟨some 3, .box 3 43 (.tmp 0), none⟩, ⟨some 6, .alloc 6 158 [.lit (.int .i64 0), .sl 0 (some true) []], none⟩, ⟨some 7, .mv (.const (.bool false)), none⟩]) (.seq (.seq (.reg [⟨some 9, .mv (.tmp 2), none⟩, ⟨some 10, .ixa 1 (.tmp 9) (.const (.int .i64 0)), none⟩, ⟨some 11, .load 1 false (.tmp 10), none⟩, ⟨some 12, .bin .lss (.tmp 11) (.const (.int .i64 0)), none⟩]) (.cond (.tmp 12) (.seq (.reg [⟨some 13, .mv (.tmp 2), none⟩, ⟨some 14, .ixa 1 (.tmp 13) (.const (.int .i64 0)), none⟩, ⟨some 15, .load 1 false (.tmp 14), none⟩, ⟨some 16, .un .neg (.tmp 15), none⟩, ⟨some 17, .mksl 17 2 1 8 [.lit (.int .i64 0)] false (.tmp 16) (.tmp 16), none⟩, ⟨some 18, .build [.lit (.int .i64 0), .sl 0 (some true) []] [(1, 1, (.tmp 17))], none⟩, ⟨some 8, .alloc 8 158 [.lit (.int .i64 0), .sl 0 (some true) []], none⟩, ⟨none, .store 2 (.tmp 8) (.tmp 18), none⟩]) (.seq (.draw [⟨some 19, .fad 1 (.tmp 8), none⟩, ⟨some 20, .load 1 false (.tmp 19), none⟩, ⟨some 21, .mv (.tmp 2), none⟩, ⟨some 22, .ixa 1 (.tmp 21) (.const (.int .i64 0)), none⟩, ⟨some 23, .load 1 false (.tmp 22), none⟩, ⟨some 24, .bin .sub (.const (.int .i64 (-1))) (.tmp 23), none⟩, ⟨some 25, .ixa 1 (.tmp 20) (.tmp 24), none⟩, ⟨none, .store 1 (.tmp 25) (.const (.int .i64 1)), none⟩] [[], [0], [], [2], [3], [4], [1, 5, 0, 1, 2, 3, 4, 5], [6, 0, 1, 2, 3, 4, 5]]) (.seq (.reg [⟨some 26, .load 2 true (.tmp 8), none⟩, ⟨none, .store 2 (.tmp 6) (.tmp 26), none⟩, ⟨some 7, .mv (.const (.bool true)), none⟩]) .ret))) .skip)) (.seq (.draw [⟨some 27, .load 1 true (.tmp 3), none⟩, ⟨some 28, .mv (.tmp 1), none⟩, ⟨some 29, .mv (.tmp 1), none⟩, ⟨some 30, .mv (.tmp 2), none⟩, ⟨some 31, .ixa 1 (.tmp 30) (.const (.int .i64 0)), none⟩, ⟨some 32, .load 1 false (.tmp 31), none⟩, ⟨some 33, .ixa 2 (.tmp 29) (.tmp 32), none⟩, ⟨some 34, .load 2 true (.tmp 33), none⟩, ⟨some 35, .load 1 true (.tmp 3), none⟩, ⟨some 36, .mv (.tmp 2), none⟩, ⟨some 37, .callf 384 [(.tmp 35), (.tmp 36)], none⟩, ⟨some 38, .callf 383 [(.tmp 27), (.tmp 28), (.tmp 34), (.tmp 37)], none⟩, ⟨some 39, .ext (.tmp 38) 0, none⟩, ⟨some 40, .ext (.tmp 38) 1, none⟩, ⟨none, .store 2 (.tmp 6) (.tmp 39), none⟩, ⟨some 7, .mv (.tmp 40), none⟩] [[], [], [], [], [3], [4], [2, 5], [6], [], [], [8, 9], [0, 1, 7, 10, 10], [11], [11], [12, 11, 0, 1, 2, 3, 4, 5, 6, 7, 8, 9, 10, 11, 12, 13], [13, 14, 0, 1, 2, 3, 4, 5, 6, 7, 8, 9, 10, 11, 12, 13, 14]]) .ret)))
theorem fn321 : MFn Tryz.prog 321 mc321 41 [.cell 6 2 true, .tmp 7] :=
  ⟨Tryz.f321, Tryz.func321, by kernel_rfl, Tryz.ntmps321, by kernel_rfl⟩
noncomputable def F_spec_l15Form : Nat → (List Int) → (List (Int × (List Int))) → (List Int) → Option ((Int × (List Int)) × Bool)
  | 0, _, _, _ => none
  | fu + 1, sig, ps, t =>
    if 0 ≤ 0 ∧ 0 < (t.length : Int) then
      if (decide ((t.getD 0 default) < 0)) = true then
        if 0 ≤ 0 ∧ 0 < (t.length : Int) then
          if 0 ≤ (IntKind.i64.wrap (0 - (t.getD 0 default))) ∧ 8 * (IntKind.i64.wrap (0 - (t.getD 0 default))) ≤ 281474976710656 ∧ (IntKind.i64.wrap (0 - (t.getD 0 default))) < 4611686018427387904 then
            if 0 ≤ 0 ∧ 0 < (t.length : Int) then
              if 0 ≤ (IntKind.i64.wrap ((-1) - (t.getD 0 default))) ∧ (IntKind.i64.wrap ((-1) - (t.getD 0 default))) < ((IntKind.i64.wrap (0 - (t.getD 0 default))).toNat : Int) ∧ (IntKind.i64.wrap ((-1) - (t.getD 0 default))) < ((List.replicate (IntKind.i64.wrap (0 - (t.getD 0 default))).toNat (0 : Int)).length : Int) then
                if ((List.replicate (IntKind.i64.wrap (0 - (t.getD 0 default))).toNat (0 : Int)).set (IntKind.i64.wrap ((-1) - (t.getD 0 default))).toNat 1).length = (IntKind.i64.wrap (0 - (t.getD 0 default))).toNat then
                  some ((0, ((List.replicate (IntKind.i64.wrap (0 - (t.getD 0 default))).toNat (0 : Int)).set (IntKind.i64.wrap ((-1) - (t.getD 0 default))).toNat 1)), true)
                else none
              else none
            else none
          else none
        else none
      else
        if 0 ≤ 0 ∧ 0 < (t.length : Int) then
          if 0 ≤ (t.getD 0 default) ∧ (t.getD 0 default) < (ps.length : Int) then
            (F_spec_l13Parts sig t).bind fun r =>
            (F_spec_l15Sum (F_spec_l15Form fu) sig ps ((ps.getD (t.getD 0 default).toNat default).1, (ps.getD (t.getD 0 default).toNat default).2) r).bind fun r_1 =>
            some r_1
          else none
        else none
    else none
noncomputable def F_spec_l15Form_all (sig : (List Int)) (ps : (List (Int × (List Int)))) (t : (List Int)) : Option ((Int × (List Int)) × Bool) := limO fun fu => F_spec_l15Form fu sig ps t
theorem c_spec_l15Form : ∀ {fu : Nat} {sig : (List Int)} {ps : (List (Int × (List Int)))} {t : (List Int)} {rr : ((Int × (List Int)) × Bool)} (h : F_spec_l15Form fu sig ps t = some rr), PFunN Tryz.prog 321 [D_impl_Sig sig, (slD 2 D_impl_Poly) ps, (slD 1 iD) t] [D_impl_Poly rr.1, bD rr.2]
  | 0, _, _, _, _, h => by cases h
  | fu + 1, sig, ps, t, rr, h => by
    have ih := @c_spec_l15Form fu
    unfold F_spec_l15Form at h
    refine fn321.pureDN (vcm_sound ?_)
    delta mc321
    refine stp ?_
    obtain ⟨hp, h⟩ := need_some h
    repeat (refine need_i (by omega) ?_; refine stp ?_)
    rcases ite_some h with ⟨hc, h⟩ | ⟨hc, h⟩
    · refine stpc hc ?_
      obtain ⟨hp, h⟩ := need_some h
      repeat (refine need_i (by omega) ?_; refine stp ?_)
      obtain ⟨hp, h⟩ := need_some h
      repeat (refine need_i (by omega) ?_; refine stp ?_)
      obtain ⟨hp, h⟩ := need_some h
      repeat (refine need_i (by omega) ?_; refine stp ?_)
      obtain ⟨hp, h⟩ := need_some h
      repeat (refine need_i (by omega) ?_; refine stp ?_)
      refine drQ_of (by kernel_rfl) ?_
      refine stp ?_
      obtain ⟨hp, h⟩ := need_some h
      repeat (refine need_i (by omega) ?_; refine stp ?_)
      cases h
      exact ⟨_, _, (Done.frzL 17 iD ((List.replicate (IntKind.i64.wrap (0 - (t.getD 0 default))).toNat (0 : Int)).set (IntKind.i64.wrap ((-1) - (t.getD 0 default))).toNat 1) (by omega) rfl), frd⟩
    · refine stpc hc ?_
      obtain ⟨hp, h⟩ := need_some h
      repeat (refine need_i (by omega) ?_; refine stp ?_)
      obtain ⟨hp, h⟩ := need_some h
      repeat (refine need_i (by omega) ?_; refine stp ?_)
      obtain ⟨r, hr, h⟩ := bind_some h
      refine cD' (c_spec_l13Parts hr) (stp ?_)
      obtain ⟨r_1, hr_1, h⟩ := bind_some h
      refine cDN (c_spec_l15Sum ih hr_1) (stp ?_)
      refine drQ_of (by kernel_rfl) ?_
      refine stp ?_
      cases h
      exact ⟨_, _, Done.refl, frd⟩
theorem c_spec_l15Form_all {sig : (List Int)} {ps : (List (Int × (List Int)))} {t : (List Int)} {rr : ((Int × (List Int)) × Bool)} (h : F_spec_l15Form_all sig ps t = some rr) : PFunN Tryz.prog 321 [D_impl_Sig sig, (slD 2 D_impl_Poly) ps, (slD 1 iD) t] [D_impl_Poly rr.1, bD rr.2] := c_spec_l15Form (limO_some h).choose_spec

def mc242 : MCode :=
 (.seq (.reg [⟨some 3, .box 3 43 (.tmp 0), none⟩, ⟨some 6, .alloc 6 158 [.lit (.int .i64 0), .sl 0 (some true) []], none⟩, ⟨some 7, .mv (.const (.bool false)), none⟩]) (.seq (.seq (.reg [⟨some 8, .load 1 true (.tmp 3), none⟩, ⟨some 9, .mv (.tmp 1), none⟩, ⟨some 10, .callf 319 [(.tmp 8), (.tmp 9)], none⟩, ⟨some 11, .un .not (.tmp 10), none⟩, ⟨some 12, .mv (.tmp 11), none⟩, ⟨some 13, .load 1 true (.tmp 3), (some (some 12, false))⟩, ⟨some 14, .mv (.tmp 2), (some (some 12, false))⟩, ⟨some 15, .callf 116 [(.tmp 13), (.tmp 14)], (some (some 12, false))⟩, ⟨some 16, .un .not (.tmp 15), (some (some 12, false))⟩, ⟨some 17, .pick (.tmp 12) (.const (.bool true)) (.tmp 16), none⟩]) (.cond (.tmp 17) (.seq (.reg [⟨some 18, .build [.lit (.int .i64 0), .sl 0 (some true) []] [], none⟩, ⟨none, .store 2 (.tmp 6) (.tmp 18), none⟩, ⟨some 7, .mv (.const (.bool false)), none⟩]) .ret) .skip)) (.seq (.reg [⟨some 19, .load 1 true (.tmp 3), none⟩, ⟨some 20, .mv (.tmp 1), none⟩, ⟨some 21, .mv (.tmp 2), none⟩, ⟨some 22, .callf 321 [(.tmp 19), (.tmp 20), (.tmp 21)], none⟩, ⟨some 23, .ext (.tmp 22) 0, none⟩, ⟨some 24, .ext (.tmp 22) 1, none⟩, ⟨none, .store 2 (.tmp 6) (.tmp 23), none⟩, ⟨some 7, .mv (.tmp 24), none⟩]) .ret)))
theorem fn242 : MFn Tryz.prog 242 mc242 25 [.cell 6 2 true, .tmp 7] :=
  ⟨Tryz.f242, Tryz.func242, by kernel_rfl, Tryz.ntmps242, by kernel_rfl⟩
noncomputable def F_spec_FormOf (sig : (List Int)) (ps : (List (Int × (List Int)))) (t : (List Int)) : Option ((Int × (List Int)) × Bool) :=
  (F_spec_PolysOk sig ps).bind fun r =>
  if r = true then
    (F_spec_TermOk sig t).bind fun r_1 =>
    if r_1 = true then
      (F_spec_l15Form_all sig ps t).bind fun r_2 =>
      some r_2
    else
      some ((0, []), false)
  else
    some ((0, []), false)
theorem c_spec_FormOf {sig : (List Int)} {ps : (List (Int × (List Int)))} {t : (List Int)} {rr : ((Int × (List Int)) × Bool)} (h : F_spec_FormOf sig ps t = some rr) : PFunN Tryz.prog 242 [D_impl_Sig sig, (slD 2 D_impl_Poly) ps, (slD 1 iD) t] [D_impl_Poly rr.1, bD rr.2] := by
  delta F_spec_FormOf at h
  refine fn242.pureLN (vcm_sound ?_)
  delta mc242
  refine stp ?_
  obtain ⟨r, hr, h⟩ := bind_some h
  refine cR (c_spec_PolysOk hr) (stp ?_)
  rcases ite_some h with ⟨hc, h⟩ | ⟨hc, h⟩
  · refine stpc hc ?_
    obtain ⟨r_1, hr_1, h⟩ := bind_some h
    refine cR (c_spec_TermOk hr_1) (stp ?_)
    rcases ite_some h with ⟨hc, h⟩ | ⟨hc, h⟩
    · refine stpc hc ?_
      obtain ⟨r_2, hr_2, h⟩ := bind_some h
      refine cRN (c_spec_l15Form_all hr_2) (stp ?_)
      cases h
      exact don
    · refine stpc hc ?_
      cases h
      exact don
  · refine stpc hc ?_
    cases h
    exact don

def mc320 : MCode :=
 (.seq (.reg [⟨some 2, .box 2 158 (.tmp 0), none⟩, ⟨some 3, .box 3 158 (.tmp 1), none⟩, ⟨some 4, .mv (.const (.bool false)), none⟩]) (.seq (.seq (.reg [⟨some 5, .mv (.const (.int .i64 0)), none⟩]) (.block 0 (.loop (.seq (.seq (.reg [⟨some 6, .mv (.tmp 5), none⟩, ⟨some 7, .fad 1 (.tmp 2), none⟩, ⟨some 8, .load 1 false (.tmp 7), none⟩, ⟨some 9, .len (.tmp 8), none⟩, ⟨some 10, .bin .lss (.tmp 6) (.tmp 9), none⟩]) (.cond (.tmp 10) .skip (.exit 0))) (.seq (.block 1 (.seq (.draw [⟨some 13, .fad 1 (.tmp 2), none⟩, ⟨some 14, .load 1 false (.tmp 13), none⟩, ⟨some 15, .mv (.tmp 5), none⟩, ⟨some 16, .ixa 1 (.tmp 14) (.tmp 15), none⟩, ⟨some 17, .load 1 false (.tmp 16), none⟩, ⟨some 18, .bin .gtr (.tmp 17) (.const (.int .i64 0)), none⟩, ⟨some 19, .mv (.tmp 18), none⟩, ⟨some 20, .mv (.tmp 5), (some (some 19, true))⟩, ⟨some 21, .fad 1 (.tmp 3), (some (some 19, true))⟩, ⟨some 22, .load 1 false (.tmp 21), (some (some 19, true))⟩, ⟨some 23, .len (.tmp 22), (some (some 19, true))⟩, ⟨some 24, .bin .geq (.tmp 20) (.tmp 23), (some (some 19, true))⟩, ⟨some 25, .mv (.tmp 24), (some (some 19, true))⟩, ⟨some 26, .fad 1 (.tmp 2), (some (some 25, false))⟩, ⟨some 27, .load 1 false (.tmp 26), (some (some 25, false))⟩, ⟨some 28, .mv (.tmp 5), (some (some 25, false))⟩, ⟨some 29, .ixa 1 (.tmp 27) (.tmp 28), (some (some 25, false))⟩, ⟨some 30, .load 1 false (.tmp 29), (some (some 25, false))⟩, ⟨some 31, .fad 1 (.tmp 3), (some (some 25, false))⟩, ⟨some 32, .load 1 false (.tmp 31), (some (some 25, false))⟩, ⟨some 33, .mv (.tmp 5), (some (some 25, false))⟩, ⟨some 34, .ixa 1 (.tmp 32) (.tmp 33), (some (some 25, false))⟩, ⟨some 35, .load 1 false (.tmp 34), (some (some 25, false))⟩, ⟨some 36, .bin .gtr (.tmp 30) (.tmp 35), (some (some 25, false))⟩, ⟨some 37, .pick (.tmp 25) (.const (.bool true)) (.tmp 36), (some (some 19, true))⟩, ⟨some 38, .pick (.tmp 19) (.tmp 37) (.const (.bool false)), none⟩] [[], [0], [], [1, 2], [3], [4], [5], [6], [6], [8, 6], [9, 6], [7, 10, 6], [11, 6, 6], [12], [13, 12], [12], [14, 15, 12], [16, 12], [12], [18, 12], [12], [19, 20, 12], [21, 12], [17, 22, 12], [12, 23, 6], [6, 24]]) (.cond (.tmp 38) (.seq (.reg [⟨some 4, .mv (.const (.bool false)), none⟩]) .ret) .skip))) (.reg [⟨some 11, .mv (.tmp 5), none⟩, ⟨some 12, .bin .add (.tmp 11) (.const (.int .i64 1)), none⟩, ⟨some 5, .mv (.tmp 12), none⟩])))))) (.seq (.reg [⟨some 4, .mv (.const (.bool true)), none⟩]) .ret)))
theorem fn320 : MFn Tryz.prog 320 mc320 39 [.tmp 4] :=
  ⟨Tryz.f320, Tryz.func320, by kernel_rfl, Tryz.ntmps320, by kernel_rfl⟩
noncomputable def F_spec_l15Most_l1 (a : (Int × (List Int))) (b : (Int × (List Int))) : Int → Option (Int ⊕ Bool)
  | i =>
    if (decide (i < (a.2.length : Int))) = true then
      if 0 ≤ i ∧ i < (a.2.length : Int) then
        if (decide (0 < (a.2.getD i.toNat default))) = true then
          if (decide ((b.2.length : Int) ≤ i)) = true then
            Option.map Sum.inr (
              some false)
          else
            if 0 ≤ i ∧ i < (a.2.length : Int) then
              if 0 ≤ i ∧ i < (b.2.length : Int) then
                if (decide ((b.2.getD i.toNat default) < (a.2.getD i.toNat default))) = true then
                  Option.map Sum.inr (
                    some false)
                else
                  some (.inl (IntKind.i64.wrap (i + 1)))
              else none
            else none
        else
          some (.inl (IntKind.i64.wrap (i + 1)))
      else none
    else
      Option.map Sum.inr (
        some true)
noncomputable def F_spec_l15Most (a : (Int × (List Int))) (b : (Int × (List Int))) : Option Bool :=
  loopC (F_spec_l15Most_l1 a b) 0
theorem c_spec_l15Most {a : (Int × (List Int))} {b : (Int × (List Int))} {rr : Bool} (h : F_spec_l15Most a b = some rr) : PFun Tryz.prog 320 [D_impl_Poly a, D_impl_Poly b] (bD rr) := by
  delta F_spec_l15Most at h
  refine fn320.pureL (vcm_sound ?_)
  delta mc320
  refine stp ?_
  refine m_loopF h [4, 5, 6, 7, 8, 9, 10, 11, 12, 13, 14, 15, 16, 17, 18, 19, 20, 21, 22, 23, 24, 25, 26, 27, 28, 29, 30, 31, 32, 33, 34, 35, 36, 37, 38] (fun pp => [(5, .d (iD pp))]) (fun pp => [(2, .obj 158 [.d (iD a.1), .d (slD 1 iD a.2)]), (3, .obj 158 [.d (iD b.1), .d (slD 1 iD b.2)])]) ?_ ?_
  · try dsimp only
    exact wk
  · rintro i t1 h hb1
    unfold F_spec_l15Most_l1 at h
    try dsimp only at h
    refine vcm_sound (stp ?_)
    rcases ite_some h with ⟨hc, h⟩ | ⟨hc, h⟩
    · refine stpc hc ?_
      obtain ⟨hp, h⟩ := need_some h
      repeat (refine need_i (by omega) ?_; refine stp ?_)
      rcases ite_some h with ⟨hc, h⟩ | ⟨hc, h⟩
      · refine stpc hc ?_
        rcases ite_some h with ⟨hc, h⟩ | ⟨hc, h⟩
        · refine stpc hc ?_
          refine drQ_of (by kernel_rfl) ?_
          refine stp ?_
          replace h := inr_some h hb1
          cases h
          exact don
        · refine stpc hc ?_
          obtain ⟨hp, h⟩ := need_some h
          repeat (refine need_i (by omega) ?_; refine stp ?_)
          obtain ⟨hp, h⟩ := need_some h
          repeat (refine need_i (by omega) ?_; refine stp ?_)
          refine drQ_of (by kernel_rfl) ?_
          refine stp ?_
          rcases ite_some h with ⟨hc, h⟩ | ⟨hc, h⟩
          · refine stpc hc ?_
            replace h := inr_some h hb1
            cases h
            exact don
          · refine stpc hc ?_
            cases h
            refine ⟨_, rfl, ?_⟩
            exact wk
      · refine stpc hc ?_
        refine drQ_of (by kernel_rfl) ?_
        refine stp ?_
        cases h
        refine ⟨_, rfl, ?_⟩
        exact wk
    · refine stpc hc ?_
      replace h := inr_some h hb1
      cases h
      exact don

def mc241 : MCode :=
 (.seq (.reg [⟨some 4, .box 4 43 (.tmp 0), none⟩, ⟨some 8, .mv (.const (.bool false)), none⟩]) (.seq (.reg [⟨some 14, .load 1 true (.tmp 4), none⟩, ⟨some 15, .mv (.tmp 1), none⟩, ⟨some 16, .mv (.tmp 2), none⟩, ⟨some 17, .callf 242 [(.tmp 14), (.tmp 15), (.tmp 16)], none⟩, ⟨some 13, .mv (.tmp 17), none⟩, ⟨some 18, .ext (.tmp 13) 0, none⟩, ⟨some 19, .ext (.tmp 13) 1, none⟩, ⟨some 9, .alloc 9 158 [.lit (.int .i64 0), .sl 0 (some true) []], none⟩, ⟨none, .store 2 (.tmp 9) (.tmp 18), none⟩, ⟨some 10, .mv (.tmp 19), none⟩]) (.seq (.reg [⟨some 21, .load 1 true (.tmp 4), none⟩, ⟨some 22, .mv (.tmp 1), none⟩, ⟨some 23, .mv (.tmp 3), none⟩, ⟨some 24, .callf 242 [(.tmp 21), (.tmp 22), (.tmp 23)], none⟩, ⟨some 20, .mv (.tmp 24), none⟩, ⟨some 25, .ext (.tmp 20) 0, none⟩, ⟨some 26, .ext (.tmp 20) 1, none⟩, ⟨some 11, .alloc 11 158 [.lit (.int .i64 0), .sl 0 (some true) []], none⟩, ⟨none, .store 2 (.tmp 11) (.tmp 25), none⟩, ⟨some 12, .mv (.tmp 26), none⟩]) (.seq (.reg [⟨some 27, .mv (.tmp 10), none⟩, ⟨some 28, .mv (.tmp 27), none⟩, ⟨some 29, .mv (.tmp 12), (some (some 28, true))⟩, ⟨some 30, .pick (.tmp 28) (.tmp 29) (.const (.bool false)), none⟩, ⟨some 31, .mv (.tmp 30), none⟩, ⟨some 32, .fad 0 (.tmp 9), (some (some 31, true))⟩, ⟨some 33, .load 1 false (.tmp 32), (some (some 31, true))⟩, ⟨some 34, .fad 0 (.tmp 11), (some (some 31, true))⟩, ⟨some 35, .load 1 false (.tmp 34), (some (some 31, true))⟩, ⟨some 36, .bin .lss (.tmp 33) (.tmp 35), (some (some 31, true))⟩, ⟨some 37, .pick (.tmp 31) (.tmp 36) (.const (.bool false)), none⟩, ⟨some 38, .mv (.tmp 37), none⟩, ⟨some 39, .load 2 true (.tmp 9), (some (some 38, true))⟩, ⟨some 40, .load 2 true (.tmp 11), (some (some 38, true))⟩, ⟨some 41, .callf 320 [(.tmp 39), (.tmp 40)], (some (some 38, true))⟩, ⟨some 42, .pick (.tmp 38) (.tmp 41) (.const (.bool false)), none⟩, ⟨some 8, .mv (.tmp 42), none⟩]) .ret))))
theorem fn241 : MFn Tryz.prog 241 mc241 43 [.tmp 8] :=
  ⟨Tryz.f241, Tryz.func241, by kernel_rfl, Tryz.ntmps241, by kernel_rfl⟩
noncomputable def F_spec_PolyLess (sig : (List Int)) (ps : (List (Int × (List Int)))) (s : (List Int)) (t : (List Int)) : Option Bool :=
  (F_spec_FormOf sig ps s).bind fun r =>
  (F_spec_FormOf sig ps t).bind fun r_1 =>
  if r.2 = true then
    if r_1.2 = true then
      if (decide (r.1.1 < r_1.1.1)) = true then
        (F_spec_l15Most r.1 r_1.1).bind fun r_2 =>
        some r_2
      else
        some false
    else
      some false
  else
    some false
theorem c_spec_PolyLess {sig : (List Int)} {ps : (List (Int × (List Int)))} {s : (List Int)} {t : (List Int)} {rr : Bool} (h : F_spec_PolyLess sig ps s t = some rr) : PFun Tryz.prog 241 [D_impl_Sig sig, (slD 2 D_impl_Poly) ps, (slD 1 iD) s, (slD 1 iD) t] (bD rr) := by
  delta F_spec_PolyLess at h
  refine fn241.pureL (vcm_sound ?_)
  delta mc241
  refine stp ?_
  obtain ⟨r, hr, h⟩ := bind_some h
  refine cRN (c_spec_FormOf hr) (stp ?_)
  obtain ⟨r_1, hr_1, h⟩ := bind_some h
  refine cRN (c_spec_FormOf hr_1) (stp ?_)
  rcases ite_some h with ⟨hc, h⟩ | ⟨hc, h⟩
  · refine stpc hc ?_
    rcases ite_some h with ⟨hc, h⟩ | ⟨hc, h⟩
    · refine stpc hc ?_
      rcases ite_some h with ⟨hc, h⟩ | ⟨hc, h⟩
      · refine stpc hc ?_
        obtain ⟨r_2, hr_2, h⟩ := bind_some h
        refine cR (c_spec_l15Most hr_2) (stp ?_)
        cases h
        exact don
      · refine stpc hc ?_
        cases h
        exact don
    · refine stpc hc ?_
      cases h
      exact don
  · refine stpc hc ?_
    cases h
    exact don

def mc127 : MCode :=
 (.seq (.reg [⟨some 2, .box 2 46 (.tmp 0), none⟩, ⟨some 4, .mv (.const (.bool false)), none⟩]) (.seq (.seq (.reg [⟨some 6, .load 2 true (.tmp 2), none⟩, ⟨some 7, .callf 113 [(.tmp 6)], none⟩, ⟨some 8, .un .not (.tmp 7), none⟩, ⟨some 9, .mv (.tmp 8), none⟩, ⟨some 10, .fad 0 (.tmp 2), (some (some 9, false))⟩, ⟨some 11, .load 1 true (.tmp 10), (some (some 9, false))⟩, ⟨some 12, .mv (.tmp 1), (some (some 9, false))⟩, ⟨some 13, .callf 240 [(.tmp 11), (.tmp 12)], (some (some 9, false))⟩, ⟨some 14, .un .not (.tmp 13), (some (some 9, false))⟩, ⟨some 15, .pick (.tmp 9) (.const (.bool true)) (.tmp 14), none⟩]) (.cond (.tmp 15) (.seq (.reg [⟨some 4, .mv (.const (.bool false)), none⟩]) .ret) .skip)) (.seq (.seq (.reg [⟨some 5, .mv (.const (.int .i64 0)), none⟩]) (.block 0 (.loop (.seq (.seq (.reg [⟨some 16, .mv (.tmp 5), none⟩, ⟨some 17, .fad 1 (.tmp 2), none⟩, ⟨some 18, .load 1 false (.tmp 17), none⟩, ⟨some 19, .len (.tmp 18), none⟩, ⟨some 20, .bin .lss (.tmp 16) (.tmp 19), none⟩]) (.cond (.tmp 20) .skip (.exit 0))) (.seq (.block 1 (.seq (.draw [⟨some 23, .fad 0 (.tmp 2), none⟩, ⟨some 24, .load 1 true (.tmp 23), none⟩, ⟨some 25, .mv (.tmp 1), none⟩, ⟨some 26, .fad 1 (.tmp 2), none⟩, ⟨some 27, .load 1 false (.tmp 26), none⟩, ⟨some 28, .mv (.tmp 5), none⟩, ⟨some 29, .ixa 2 (.tmp 27) (.tmp 28), none⟩, ⟨some 30, .fad 1 (.tmp 29), none⟩, ⟨some 31, .load 1 false (.tmp 30), none⟩, ⟨some 32, .fad 1 (.tmp 2), none⟩, ⟨some 33, .load 1 false (.tmp 32), none⟩, ⟨some 34, .mv (.tmp 5), none⟩, ⟨some 35, .ixa 2 (.tmp 33) (.tmp 34), none⟩, ⟨some 36, .fad 0 (.tmp 35), none⟩, ⟨some 37, .load 1 false (.tmp 36), none⟩, ⟨some 38, .callf 241 [(.tmp 24), (.tmp 25), (.tmp 31), (.tmp 37)], none⟩, ⟨some 39, .un .not (.tmp 38), none⟩] [[], [0], [], [], [3], [], [4, 5], [6], [7], [], [9], [], [10, 11], [12], [13], [1, 2, 8, 14], [15]]) (.cond (.tmp 39) (.seq (.reg [⟨some 4, .mv (.const (.bool false)), none⟩]) .ret) .skip))) (.reg [⟨some 21, .mv (.tmp 5), none⟩, ⟨some 22, .bin .add (.tmp 21) (.const (.int .i64 1)), none⟩, ⟨some 5, .mv (.tmp 22), none⟩])))))) (.seq (.reg [⟨some 4, .mv (.const (.bool true)), none⟩]) .ret))))
theorem fn127 : MFn Tryz.prog 127 mc127 40 [.tmp 4] :=
  ⟨Tryz.f127, Tryz.func127, by kernel_rfl, Tryz.ntmps127, by kernel_rfl⟩
noncomputable def F_spec_PolyOrients_l1 (sys : ((List Int) × (List ((List Int) × (List Int))))) (ps : (List (Int × (List Int)))) : Int → Option (Int ⊕ Bool)
  | i =>
    if (decide (i < (sys.2.length : Int))) = true then
      if 0 ≤ i ∧ i < (sys.2.length : Int) then
        if 0 ≤ i ∧ i < (sys.2.length : Int) then
          (F_spec_PolyLess sys.1 ps ((sys.2.getD i.toNat default).2) ((sys.2.getD i.toNat default).1)).bind fun r_2 =>
          if r_2 = true then
            some (.inl (IntKind.i64.wrap (i + 1)))
          else
            Option.map Sum.inr (
              some false)
        else none
      else none
    else
      Option.map Sum.inr (
        some true)
noncomputable def F_spec_PolyOrients (sys : ((List Int) × (List ((List Int) × (List Int))))) (ps : (List (Int × (List Int)))) : Option Bool :=
  (F_spec_SystemOk sys).bind fun r =>
  if r = true then
    (F_spec_StrictIn sys.1 ps).bind fun r_1 =>
    if r_1 = true then
      loopC (F_spec_PolyOrients_l1 sys ps) 0
    else
      some false
  else
    some false
theorem c_spec_PolyOrients {sys : ((List Int) × (List ((List Int) × (List Int))))} {ps : (List (Int × (List Int)))} {rr : Bool} (h : F_spec_PolyOrients sys ps = some rr) : PFun Tryz.prog 127 [D_impl_System sys, (slD 2 D_impl_Poly) ps] (bD rr) := by
  delta F_spec_PolyOrients at h
  refine fn127.pureL (vcm_sound ?_)
  delta mc127
  refine stp ?_
  obtain ⟨r, hr, h⟩ := bind_some h
  refine cR (c_spec_SystemOk hr) (stp ?_)
  rcases ite_some h with ⟨hc, h⟩ | ⟨hc, h⟩
  · refine stpc hc ?_
    obtain ⟨r_1, hr_1, h⟩ := bind_some h
    refine cR (c_spec_StrictIn hr_1) (stp ?_)
    rcases ite_some h with ⟨hc, h⟩ | ⟨hc, h⟩
    · refine stpc hc ?_
      refine m_loopF h [4, 5, 16, 17, 18, 19, 20, 21, 22, 23, 24, 25, 26, 27, 28, 29, 30, 31, 32, 33, 34, 35, 36, 37, 38, 39] (fun pp => [(5, .d (iD pp))]) (fun pp => [(2, .obj 46 [.d (slD 1 iD sys.1), .d (slD 2 D_impl_Rule sys.2)])]) ?_ ?_
      · try dsimp only
        exact wk
      · rintro i t1 h hb1
        unfold F_spec_PolyOrients_l1 at h
        try dsimp only at h
        refine vcm_sound (stp ?_)
        rcases ite_some h with ⟨hc, h⟩ | ⟨hc, h⟩
        · refine stpc hc ?_
          obtain ⟨hp, h⟩ := need_some h
          repeat (refine need_i (by omega) ?_; refine stp ?_)
          obtain ⟨hp, h⟩ := need_some h
          repeat (refine need_i (by omega) ?_; refine stp ?_)
          obtain ⟨r_2, hr_2, h⟩ := bind_some h
          refine cD' (c_spec_PolyLess hr_2) (stp ?_)
          refine drQ_of (by kernel_rfl) ?_
          refine stp ?_
          rcases ite_some h with ⟨hc, h⟩ | ⟨hc, h⟩
          · refine stpc hc ?_
            cases h
            refine ⟨_, rfl, ?_⟩
            exact wk
          · refine stpc hc ?_
            replace h := inr_some h hb1
            cases h
            exact don
        · refine stpc hc ?_
          replace h := inr_some h hb1
          cases h
          exact don
    · refine stpc hc ?_
      cases h
      exact don
  · refine stpc hc ?_
    cases h
    exact don

def mc128 : MCode :=
 (.seq (.reg [⟨some 4, .box 4 43 (.tmp 0), none⟩, ⟨some 8, .mv (.const (.int .i64 0)), none⟩, ⟨some 9, .mv (.const (.bool false)), none⟩]) (.seq (.reg [⟨some 16, .load 1 true (.tmp 4), none⟩, ⟨some 17, .mv (.tmp 1), none⟩, ⟨some 18, .mv (.tmp 2), none⟩, ⟨some 19, .callf 242 [(.tmp 16), (.tmp 17), (.tmp 18)], none⟩, ⟨some 15, .mv (.tmp 19), none⟩, ⟨some 20, .ext (.tmp 15) 0, none⟩, ⟨some 21, .ext (.tmp 15) 1, none⟩, ⟨some 10, .alloc 10 158 [.lit (.int .i64 0), .sl 0 (some true) []], none⟩, ⟨none, .store 2 (.tmp 10) (.tmp 20), none⟩, ⟨some 11, .mv (.tmp 21), none⟩]) (.seq (.seq (.reg [⟨some 22, .mv (.tmp 11), none⟩, ⟨some 23, .un .not (.tmp 22), none⟩, ⟨some 24, .mv (.tmp 23), none⟩, ⟨some 25, .mv (.tmp 3), (some (some 24, false))⟩, ⟨some 26, .len (.tmp 25), (some (some 24, false))⟩, ⟨some 27, .bin .gtr (.tmp 26) (.const (.int .i64 24)), (some (some 24, false))⟩, ⟨some 28, .pick (.tmp 24) (.const (.bool true)) (.tmp 27), none⟩]) (.cond (.tmp 28) (.seq (.reg [⟨some 8, .mv (.const (.int .i64 0)), none⟩, ⟨some 9, .mv (.const (.bool false)), none⟩]) .ret) .skip)) (.seq (.seq (.reg [⟨some 12, .mv (.const (.int .i64 0)), none⟩]) (.block 0 (.loop (.seq (.seq (.reg [⟨some 29, .mv (.tmp 12), none⟩, ⟨some 30, .mv (.tmp 3), none⟩, ⟨some 31, .len (.tmp 30), none⟩, ⟨some 32, .bin .lss (.tmp 29) (.tmp 31), none⟩]) (.cond (.tmp 32) .skip (.exit 0))) (.seq (.block 1 (.seq (.reg [⟨some 35, .mv (.tmp 3), none⟩, ⟨some 36, .mv (.tmp 12), none⟩, ⟨some 37, .ixa 1 (.tmp 35) (.tmp 36), none⟩, ⟨some 38, .load 1 false (.tmp 37), none⟩, ⟨some 39, .callf 79 [(.tmp 38), (.const (.int .i64 0)), (.const (.int .i64 1000))], none⟩, ⟨some 40, .un .not (.tmp 39), none⟩]) (.cond (.tmp 40) (.seq (.reg [⟨some 8, .mv (.const (.int .i64 0)), none⟩, ⟨some 9, .mv (.const (.bool false)), none⟩]) .ret) .skip))) (.reg [⟨some 33, .mv (.tmp 12), none⟩, ⟨some 34, .bin .add (.tmp 33) (.const (.int .i64 1)), none⟩, ⟨some 12, .mv (.tmp 34), none⟩])))))) (.seq (.reg [⟨some 41, .fad 0 (.tmp 10), none⟩, ⟨some 42, .load 1 false (.tmp 41), none⟩, ⟨some 13, .mv (.tmp 42), none⟩]) (.seq (.seq (.reg [⟨some 14, .mv (.const (.int .i64 0)), none⟩]) (.block 2 (.loop (.seq (.seq (.reg [⟨some 43, .mv (.tmp 14), none⟩, ⟨some 44, .fad 1 (.tmp 10), none⟩, ⟨some 45, .load 1 false (.tmp 44), none⟩, ⟨some 46, .len (.tmp 45), none⟩, ⟨some 47, .bin .lss (.tmp 43) (.tmp 46), none⟩, ⟨some 48, .mv (.tmp 47), none⟩, ⟨some 49, .mv (.tmp 14), (some (some 48, true))⟩, ⟨some 50, .mv (.tmp 3), (some (some 48, true))⟩, ⟨some 51, .len (.tmp 50), (some (some 48, true))⟩, ⟨some 52, .bin .lss (.tmp 49) (.tmp 51), (some (some 48, true))⟩, ⟨some 53, .pick (.tmp 48) (.tmp 52) (.const (.bool false)), none⟩]) (.cond (.tmp 53) .skip (.exit 2))) (.seq (.block 3 (.draw [⟨some 56, .mv (.tmp 13), none⟩, ⟨some 57, .fad 1 (.tmp 10), none⟩, ⟨some 58, .load 1 false (.tmp 57), none⟩, ⟨some 59, .mv (.tmp 14), none⟩, ⟨some 60, .ixa 1 (.tmp 58) (.tmp 59), none⟩, ⟨some 61, .load 1 false (.tmp 60), none⟩, ⟨some 62, .mv (.tmp 3), none⟩, ⟨some 63, .mv (.tmp 14), none⟩, ⟨some 64, .ixa 1 (.tmp 62) (.tmp 63), none⟩, ⟨some 65, .load 1 false (.tmp 64), none⟩, ⟨some 66, .bin .mul (.tmp 61) (.tmp 65), none⟩, ⟨some 67, .bin .add (.tmp 56) (.tmp 66), none⟩, ⟨some 13, .mv (.tmp 67), none⟩] [[], [], [1], [], [2, 3], [4], [], [], [6, 7], [8], [5, 9], [0, 10], [11, 0, 1, 2, 3, 4, 5, 6, 7, 8, 9, 10, 11]])) (.reg [⟨some 54, .mv (.tmp 14), none⟩, ⟨some 55, .bin .add (.tmp 54) (.const (.int .i64 1)), none⟩, ⟨some 14, .mv (.tmp 55), none⟩])))))) (.seq (.seq (.reg [⟨some 68, .mv (.tmp 13), none⟩, ⟨some 69, .bin .gtr (.tmp 68) (.const (.int .i64 1000000000000)), none⟩]) (.cond (.tmp 69) (.seq (.reg [⟨some 8, .mv (.const (.int .i64 0)), none⟩, ⟨some 9, .mv (.const (.bool false)), none⟩]) .ret) .skip)) (.seq (.reg [⟨some 70, .mv (.tmp 13), none⟩, ⟨some 8, .mv (.tmp 70), none⟩, ⟨some 9, .mv (.const (.bool true)), none⟩]) .ret))))))))
theorem fn128 : MFn Tryz.prog 128 mc128 71 [.tmp 8, .tmp 9] :=
  ⟨Tryz.f128, Tryz.func128, by kernel_rfl, Tryz.ntmps128, by kernel_rfl⟩
noncomputable def F_spec_ValueAt_l2 (values : (List Int)) (r : ((Int × (List Int)) × Bool)) : (Int × Int) → Option ((Int × Int) ⊕ (Int × Bool))
  | (n, i_1) =>
    if (decide (i_1 < (r.1.2.length : Int))) = true then
      if (decide (i_1 < (values.length : Int))) = true then
        if 0 ≤ i_1 ∧ i_1 < (r.1.2.length : Int) then
          if 0 ≤ i_1 ∧ i_1 < (values.length : Int) then
            some (.inl ((IntKind.i64.wrap (n + (IntKind.i64.wrap ((r.1.2.getD i_1.toNat default) * (values.getD i_1.toNat default))))), (IntKind.i64.wrap (i_1 + 1))))
          else none
        else none
      else
        Option.map Sum.inr (
          if (decide (1000000000000 < n)) = true then
            some (0, false)
          else
            some (n, true))
    else
      Option.map Sum.inr (
        if (decide (1000000000000 < n)) = true then
          some (0, false)
        else
          some (n, true))
noncomputable def F_spec_ValueAt_l1 (values : (List Int)) (r : ((Int × (List Int)) × Bool)) : Int → Option (Int ⊕ (Int × Bool))
  | i =>
    if (decide (i < (values.length : Int))) = true then
      if 0 ≤ i ∧ i < (values.length : Int) then
        (F_spec_l1In (values.getD i.toNat default) 0 1000).bind fun r_1 =>
        if r_1 = true then
          some (.inl (IntKind.i64.wrap (i + 1)))
        else
          Option.map Sum.inr (
            some (0, false))
      else none
    else
      Option.map Sum.inr (
        loopC (F_spec_ValueAt_l2 values r) (r.1.1, 0))
noncomputable def F_spec_ValueAt (sig : (List Int)) (ps : (List (Int × (List Int)))) (t : (List Int)) (values : (List Int)) : Option (Int × Bool) :=
  (F_spec_FormOf sig ps t).bind fun r =>
  if r.2 = true then
    if (decide (24 < (values.length : Int))) = true then
      some (0, false)
    else
      loopC (F_spec_ValueAt_l1 values r) 0
  else
    some (0, false)
theorem c_spec_ValueAt {sig : (List Int)} {ps : (List (Int × (List Int)))} {t : (List Int)} {values : (List Int)} {rr : (Int × Bool)} (h : F_spec_ValueAt sig ps t values = some rr) : PFunN Tryz.prog 128 [D_impl_Sig sig, (slD 2 D_impl_Poly) ps, (slD 1 iD) t, (slD 1 iD) values] [iD rr.1, bD rr.2] := by
  delta F_spec_ValueAt at h
  refine fn128.pureLN (vcm_sound ?_)
  delta mc128
  refine stp ?_
  obtain ⟨r, hr, h⟩ := bind_some h
  refine cRN (c_spec_FormOf hr) (stp ?_)
  rcases ite_some h with ⟨hc, h⟩ | ⟨hc, h⟩
  · refine stpc hc ?_
    rcases ite_some h with ⟨hc, h⟩ | ⟨hc, h⟩
    · refine stpc hc ?_
      cases h
      exact don
    · refine stpc hc ?_
      refine m_loopF h [8, 9, 12, 29, 30, 31, 32, 33, 34, 35, 36, 37, 38, 39, 40] (fun pp => [(12, .d (iD pp))]) (fun pp => [(4, .obj 43 [.d (slD 1 iD sig)]), (10, .obj 158 [.d (iD r.1.1), .d (slD 1 iD r.1.2)])]) ?_ ?_
      · try dsimp only
        exact wk
      · rintro i t1 h hb1
        unfold F_spec_ValueAt_l1 at h
        try dsimp only at h
        refine vcm_sound (stp ?_)
        rcases ite_some h with ⟨hc, h⟩ | ⟨hc, h⟩
        · refine stpc hc ?_
          obtain ⟨hp, h⟩ := need_some h
          repeat (refine need_i (by omega) ?_; refine stp ?_)
          obtain ⟨r_1, hr_1, h⟩ := bind_some h
          refine cR (c_spec_l1In hr_1) (stp ?_)
          rcases ite_some h with ⟨hc, h⟩ | ⟨hc, h⟩
          · refine stpc hc ?_
            cases h
            refine ⟨_, rfl, ?_⟩
            exact wk
          · refine stpc hc ?_
            replace h := inr_some h hb1
            cases h
            exact don
        · refine stpc hc ?_
          replace h := inr_some h hb1
          refine m_loopF h [13, 14, 43, 44, 45, 46, 47, 48, 49, 50, 51, 52, 53, 54, 55, 56, 57, 58, 59, 60, 61, 62, 63, 64, 65, 66, 67] (fun pp => [(13, .d (iD pp.1)), (14, .d (iD pp.2))]) (fun pp => [(4, .obj 43 [.d (slD 1 iD sig)]), (10, .obj 158 [.d (iD r.1.1), .d (slD 1 iD r.1.2)])]) ?_ ?_
          · try dsimp only
            exact wk
          · rintro ⟨n, i_1⟩ t1 h hb1
            unfold F_spec_ValueAt_l2 at h
            try dsimp only at h
            refine vcm_sound (stp ?_)
            rcases ite_some h with ⟨hc, h⟩ | ⟨hc, h⟩
            · refine stpc hc ?_
              rcases ite_some h with ⟨hc, h⟩ | ⟨hc, h⟩
              · refine stpc hc ?_
                obtain ⟨hp, h⟩ := need_some h
                repeat (refine need_i (by omega) ?_; refine stp ?_)
                obtain ⟨hp, h⟩ := need_some h
                repeat (refine need_i (by omega) ?_; refine stp ?_)
                refine drQ_of (by kernel_rfl) ?_
                refine stp ?_
                cases h
                refine ⟨_, rfl, ?_⟩
                exact wk
              · refine stpc hc ?_
                replace h := inr_some h hb1
                rcases ite_some h with ⟨hc, h⟩ | ⟨hc, h⟩
                · refine stpc hc ?_
                  cases h
                  exact don
                · refine stpc hc ?_
                  cases h
                  exact don
            · refine stpc hc ?_
              replace h := inr_some h hb1
              rcases ite_some h with ⟨hc, h⟩ | ⟨hc, h⟩
              · refine stpc hc ?_
                cases h
                exact don
              · refine stpc hc ?_
                cases h
                exact don
  · refine stpc hc ?_
    cases h
    exact don

def mc39 : MCode :=
 (.seq (.reg [⟨some 3, .box 3 46 (.tmp 0), none⟩, ⟨some 6, .mv (.const (.int .i64 0)), none⟩, ⟨some 7, .mv (.const (.bool false)), none⟩]) (.seq (.seq (.reg [⟨some 8, .load 2 true (.tmp 3), none⟩, ⟨some 9, .mv (.tmp 1), none⟩, ⟨some 10, .callf 127 [(.tmp 8), (.tmp 9)], none⟩, ⟨some 11, .un .not (.tmp 10), none⟩]) (.cond (.tmp 11) (.seq (.reg [⟨some 6, .mv (.const (.int .i64 0)), none⟩, ⟨some 7, .mv (.const (.bool false)), none⟩]) .ret) .skip)) (.seq (.reg [⟨some 12, .fad 0 (.tmp 3), none⟩, ⟨some 13, .load 1 true (.tmp 12), none⟩, ⟨some 14, .mv (.tmp 1), none⟩, ⟨some 15, .mv (.tmp 2), none⟩, ⟨some 16, .bsl 16 2 1 [], none⟩, ⟨some 17, .callf 128 [(.tmp 13), (.tmp 14), (.tmp 15), (.tmp 16)], none⟩, ⟨some 18, .ext (.tmp 17) 0, none⟩, ⟨some 19, .ext (.tmp 17) 1, none⟩, ⟨some 6, .mv (.tmp 18), none⟩, ⟨some 7, .mv (.tmp 19), none⟩]) .ret)))
theorem fn39 : MFn Tryz.prog 39 mc39 20 [.tmp 6, .tmp 7] :=
  ⟨Tryz.f39, Tryz.func39, by kernel_rfl, Tryz.ntmps39, by kernel_rfl⟩
noncomputable def F_spec_BoundBy (sys : ((List Int) × (List ((List Int) × (List Int))))) (ps : (List (Int × (List Int)))) (t : (List Int)) : Option (Int × Bool) :=
  (F_spec_PolyOrients sys ps).bind fun r =>
  if r = true then
    (F_spec_ValueAt sys.1 ps t []).bind fun r_1 =>
    some r_1
  else
    some (0, false)
theorem c_spec_BoundBy {sys : ((List Int) × (List ((List Int) × (List Int))))} {ps : (List (Int × (List Int)))} {t : (List Int)} {rr : (Int × Bool)} (h : F_spec_BoundBy sys ps t = some rr) : PFunN Tryz.prog 39 [D_impl_System sys, (slD 2 D_impl_Poly) ps, (slD 1 iD) t] [iD rr.1, bD rr.2] := by
  delta F_spec_BoundBy at h
  refine fn39.pureLN (vcm_sound ?_)
  delta mc39
  refine stp ?_
  obtain ⟨r, hr, h⟩ := bind_some h
  refine cR (c_spec_PolyOrients hr) (stp ?_)
  rcases ite_some h with ⟨hc, h⟩ | ⟨hc, h⟩
  · refine stpc hc ?_
    obtain ⟨r_1, hr_1, h⟩ := bind_some h
    refine cRN (c_spec_ValueAt hr_1) (stp ?_)
    cases h
    exact don
  · refine stpc hc ?_
    cases h
    exact don

def mc130 : MCode :=
 (.seq (.reg [⟨some 4, .mv (.const (.int .i64 0)), none⟩]) (.seq (.seq (.reg [⟨some 5, .mv (.tmp 0), none⟩, ⟨some 6, .mv (.tmp 1), none⟩, ⟨some 7, .bin .gtr (.tmp 5) (.tmp 6), none⟩]) (.cond (.tmp 7) (.seq (.reg [⟨some 8, .mv (.tmp 0), none⟩, ⟨some 4, .mv (.tmp 8), none⟩]) .ret) .skip)) (.seq (.reg [⟨some 9, .mv (.tmp 1), none⟩, ⟨some 4, .mv (.tmp 9), none⟩]) .ret)))
theorem fn130 : MFn Tryz.prog 130 mc130 10 [.tmp 4] :=
  ⟨Tryz.f130, Tryz.func130, by kernel_rfl, Tryz.ntmps130, by kernel_rfl⟩
noncomputable def F_spec_l1Max (a : Int) (b : Int) : Option Int :=
  if (decide (b < a)) = true then
    some a
  else
    some b
theorem c_spec_l1Max {a : Int} {b : Int} {rr : Int} (h : F_spec_l1Max a b = some rr) : PFun Tryz.prog 130 [iD a, iD b] (iD rr) := by
  delta F_spec_l1Max at h
  refine fn130.pureL (vcm_sound ?_)
  delta mc130
  refine stp ?_
  rcases ite_some h with ⟨hc, h⟩ | ⟨hc, h⟩
  · refine stpc hc ?_
    cases h
    exact don
  · refine stpc hc ?_
    cases h
    exact don

def mc41 : MCode :=
 (.seq (.reg [⟨some 2, .box 2 46 (.tmp 0), none⟩, ⟨some 4, .mv (.const (.int .i64 0)), none⟩, ⟨some 5, .mv (.const (.bool false)), none⟩]) (.seq (.seq (.reg [⟨some 9, .load 2 true (.tmp 2), none⟩, ⟨some 10, .mv (.tmp 1), none⟩, ⟨some 11, .callf 127 [(.tmp 9), (.tmp 10)], none⟩, ⟨some 12, .un .not (.tmp 11), none⟩]) (.cond (.tmp 12) (.seq (.reg [⟨some 4, .mv (.const (.int .i64 0)), none⟩, ⟨some 5, .mv (.const (.bool false)), none⟩]) .ret) .skip)) (.seq (.reg [⟨some 6, .mv (.const (.int .i64 0)), none⟩]) (.seq (.seq (.reg [⟨some 7, .mv (.const (.int .i64 0)), none⟩]) (.block 0 (.loop (.seq (.seq (.reg [⟨some 13, .mv (.tmp 7), none⟩, ⟨some 14, .mv (.tmp 1), none⟩, ⟨some 15, .len (.tmp 14), none⟩, ⟨some 16, .bin .lss (.tmp 13) (.tmp 15), none⟩]) (.cond (.tmp 16) .skip (.exit 0))) (.seq (.block 1 (.seq (.seq (.reg [⟨some 8, .mv (.const (.int .i64 0)), none⟩]) (.block 2 (.loop (.seq (.seq (.reg [⟨some 19, .mv (.tmp 8), none⟩, ⟨some 20, .mv (.tmp 1), none⟩, ⟨some 21, .mv (.tmp 7), none⟩, ⟨some 22, .ixa 2 (.tmp 20) (.tmp 21), none⟩, ⟨some 23, .fad 1 (.tmp 22), none⟩, ⟨some 24, .load 1 false (.tmp 23), none⟩, ⟨some 25, .len (.tmp 24), none⟩, ⟨some 26, .bin .lss (.tmp 19) (.tmp 25), none⟩]) (.cond (.tmp 26) .skip (.exit 2))) (.seq (.block 3 (.seq (.reg [⟨some 29, .mv (.tmp 1), none⟩, ⟨some 30, .mv (.tmp 7), none⟩, ⟨some 31, .ixa 2 (.tmp 29) (.tmp 30), none⟩, ⟨some 32, .fad 1 (.tmp 31), none⟩, ⟨some 33, .load 1 false (.tmp 32), none⟩, ⟨some 34, .mv (.tmp 8), none⟩, ⟨some 35, .ixa 1 (.tmp 33) (.tmp 34), none⟩, ⟨some 36, .load 1 false (.tmp 35), none⟩, ⟨some 37, .bin .gtr (.tmp 36) (.const (.int .i64 1)), none⟩]) (.cond (.tmp 37) (.seq (.reg [⟨some 4, .mv (.const (.int .i64 0)), none⟩, ⟨some 5, .mv (.const (.bool false)), none⟩]) .ret) .skip))) (.reg [⟨some 27, .mv (.tmp 8), none⟩, ⟨some 28, .bin .add (.tmp 27) (.const (.int .i64 1)), none⟩, ⟨some 8, .mv (.tmp 28), none⟩])))))) (.reg [⟨some 38, .mv (.tmp 6), none⟩, ⟨some 39, .mv (.tmp 1), none⟩, ⟨some 40, .mv (.tmp 7), none⟩, ⟨some 41, .ixa 2 (.tmp 39) (.tmp 40), none⟩, ⟨some 42, .fad 0 (.tmp 41), none⟩, ⟨some 43, .load 1 false (.tmp 42), none⟩, ⟨some 44, .callf 130 [(.tmp 38), (.tmp 43)], none⟩, ⟨some 6, .mv (.tmp 44), none⟩]))) (.reg [⟨some 17, .mv (.tmp 7), none⟩, ⟨some 18, .bin .add (.tmp 17) (.const (.int .i64 1)), none⟩, ⟨some 7, .mv (.tmp 18), none⟩])))))) (.seq (.reg [⟨some 45, .mv (.tmp 6), none⟩, ⟨some 4, .mv (.tmp 45), none⟩, ⟨some 5, .mv (.const (.bool true)), none⟩]) .ret)))))
theorem fn41 : MFn Tryz.prog 41 mc41 46 [.tmp 4, .tmp 5] :=
  ⟨Tryz.f41, Tryz.func41, by kernel_rfl, Tryz.ntmps41, by kernel_rfl⟩
noncomputable def F_spec_SlopeOf_l2 (ps : (List (Int × (List Int)))) (most : Int) (f : Int) : Int → Option (Int ⊕ ((Int × Int) ⊕ (Int × Bool)))
  | k =>
    if 0 ≤ f ∧ f < (ps.length : Int) then
      if (decide (k < (((ps.getD f.toNat default).2).length : Int))) = true then
        if 0 ≤ f ∧ f < (ps.length : Int) then
          if 0 ≤ k ∧ k < (((ps.getD f.toNat default).2).length : Int) then
            if (decide (1 < (((ps.getD f.toNat default).2).getD k.toNat default))) = true then
              Option.map Sum.inr (
                Option.map Sum.inr (
                  some (0, false)))
            else
              some (.inl (IntKind.i64.wrap (k + 1)))
          else none
        else none
      else
        Option.map Sum.inr (
          if 0 ≤ f ∧ f < (ps.length : Int) then
            (F_spec_l1Max most ((ps.getD f.toNat default).1)).bind fun r_1 =>
            some (.inl (r_1, (IntKind.i64.wrap (f + 1))))
          else none)
    else none
noncomputable def F_spec_SlopeOf_l1 (ps : (List (Int × (List Int)))) : (Int × Int) → Option ((Int × Int) ⊕ (Int × Bool))
  | (most, f) =>
    if (decide (f < (ps.length : Int))) = true then
      loopC (F_spec_SlopeOf_l2 ps most f) 0
    else
      Option.map Sum.inr (
        some (most, true))
noncomputable def F_spec_SlopeOf (sys : ((List Int) × (List ((List Int) × (List Int))))) (ps : (List (Int × (List Int)))) : Option (Int × Bool) :=
  (F_spec_PolyOrients sys ps).bind fun r =>
  if r = true then
    loopC (F_spec_SlopeOf_l1 ps) (0, 0)
  else
    some (0, false)
theorem c_spec_SlopeOf {sys : ((List Int) × (List ((List Int) × (List Int))))} {ps : (List (Int × (List Int)))} {rr : (Int × Bool)} (h : F_spec_SlopeOf sys ps = some rr) : PFunN Tryz.prog 41 [D_impl_System sys, (slD 2 D_impl_Poly) ps] [iD rr.1, bD rr.2] := by
  delta F_spec_SlopeOf at h
  refine fn41.pureLN (vcm_sound ?_)
  delta mc41
  refine stp ?_
  obtain ⟨r, hr, h⟩ := bind_some h
  refine cR (c_spec_PolyOrients hr) (stp ?_)
  rcases ite_some h with ⟨hc, h⟩ | ⟨hc, h⟩
  · refine stpc hc ?_
    refine m_loopF h [4, 5, 6, 7, 8, 13, 14, 15, 16, 17, 18, 19, 20, 21, 22, 23, 24, 25, 26, 27, 28, 29, 30, 31, 32, 33, 34, 35, 36, 37, 38, 39, 40, 41, 42, 43, 44] (fun pp => [(6, .d (iD pp.1)), (7, .d (iD pp.2))]) (fun pp => [(2, .obj 46 [.d (slD 1 iD sys.1), .d (slD 2 D_impl_Rule sys.2)])]) ?_ ?_
    · try dsimp only
      exact wk
    · rintro ⟨most, f⟩ t1 h hb1
      unfold F_spec_SlopeOf_l1 at h
      try dsimp only at h
      refine vcm_sound (stp ?_)
      rcases ite_some h with ⟨hc, h⟩ | ⟨hc, h⟩
      · refine stpc hc ?_
        refine m_loopF h [4, 5, 8, 19, 20, 21, 22, 23, 24, 25, 26, 27, 28, 29, 30, 31, 32, 33, 34, 35, 36, 37] (fun pp => [(8, .d (iD pp))]) (fun pp => [(2, .obj 46 [.d (slD 1 iD sys.1), .d (slD 2 D_impl_Rule sys.2)])]) ?_ ?_
        · try dsimp only
          exact wk
        · rintro k t2 h hb2
          unfold F_spec_SlopeOf_l2 at h
          try dsimp only at h
          refine vcm_sound (stp ?_)
          obtain ⟨hp, h⟩ := need_some h
          repeat (refine need_i (by omega) ?_; refine stp ?_)
          rcases ite_some h with ⟨hc, h⟩ | ⟨hc, h⟩
          · refine stpc hc ?_
            obtain ⟨hp, h⟩ := need_some h
            repeat (refine need_i (by omega) ?_; refine stp ?_)
            obtain ⟨hp, h⟩ := need_some h
            repeat (refine need_i (by omega) ?_; refine stp ?_)
            rcases ite_some h with ⟨hc, h⟩ | ⟨hc, h⟩
            · refine stpc hc ?_
              replace h := inr_some h hb2
              replace h := inr_some h hb1
              cases h
              exact don
            · refine stpc hc ?_
              cases h
              refine ⟨_, rfl, ?_⟩
              exact wk
          · refine stpc hc ?_
            replace h := inr_some h hb2
            obtain ⟨hp, h⟩ := need_some h
            repeat (refine need_i (by omega) ?_; refine stp ?_)
            obtain ⟨r_1, hr_1, h⟩ := bind_some h
            refine cR (c_spec_l1Max hr_1) (stp ?_)
            cases h
            refine ⟨_, rfl, ?_⟩
            exact wk
      · refine stpc hc ?_
        replace h := inr_some h hb1
        cases h
        exact don
  · refine stpc hc ?_
    cases h
    exact don

def mc43 : MCode :=
 (.seq (.reg [⟨some 3, .box 3 46 (.tmp 0), none⟩, ⟨some 5, .box 5 40 (.tmp 2), none⟩, ⟨some 6, .mv (.const (.bool false)), none⟩]) (.seq (.seq (.reg [⟨some 9, .load 2 true (.tmp 3), none⟩, ⟨some 10, .load 2 true (.tmp 5), none⟩, ⟨some 11, .callf 44 [(.tmp 9), (.tmp 10)], none⟩, ⟨some 12, .un .not (.tmp 11), none⟩]) (.cond (.tmp 12) (.seq (.reg [⟨some 6, .mv (.const (.bool false)), none⟩]) .ret) .skip)) (.seq (.reg [⟨some 14, .load 2 true (.tmp 3), none⟩, ⟨some 15, .mv (.tmp 1), none⟩, ⟨some 16, .fad 0 (.tmp 5), none⟩, ⟨some 17, .load 1 false (.tmp 16), none⟩, ⟨some 18, .callf 39 [(.tmp 14), (.tmp 15), (.tmp 17)], none⟩, ⟨some 13, .mv (.tmp 18), none⟩, ⟨some 19, .ext (.tmp 13) 0, none⟩, ⟨some 20, .ext (.tmp 13) 1, none⟩, ⟨some 7, .mv (.tmp 19), none⟩, ⟨some 8, .mv (.tmp 20), none⟩]) (.seq (.reg [⟨some 21, .mv (.tmp 8), none⟩, ⟨some 22, .mv (.tmp 21), none⟩, ⟨some 23, .fad 1 (.tmp 5), (some (some 22, true))⟩, ⟨some 24, .load 1 false (.tmp 23), (some (some 22, true))⟩, ⟨some 25, .len (.tmp 24), (some (some 22, true))⟩, ⟨some 26, .mv (.tmp 7), (some (some 22, true))⟩, ⟨some 27, .bin .leq (.tmp 25) (.tmp 26), (some (some 22, true))⟩, ⟨some 28, .pick (.tmp 22) (.tmp 27) (.const (.bool false)), none⟩, ⟨some 6, .mv (.tmp 28), none⟩]) .ret))))
theorem fn43 : MFn Tryz.prog 43 mc43 29 [.tmp 6] :=
  ⟨Tryz.f43, Tryz.func43, by kernel_rfl, Tryz.ntmps43, by kernel_rfl⟩
noncomputable def F_spec_BoundedWalk (sys : ((List Int) × (List ((List Int) × (List Int))))) (ps : (List (Int × (List Int)))) (w : ((List Int) × (List (Int × Int × (List Int))))) : Option Bool :=
  (F_spec_WalkOk sys w).bind fun r =>
  if r = true then
    (F_spec_BoundBy sys ps w.1).bind fun r_1 =>
    if r_1.2 = true then
      some (decide ((w.2.length : Int) ≤ r_1.1))
    else
      some false
  else
    some false
theorem c_spec_BoundedWalk {sys : ((List Int) × (List ((List Int) × (List Int))))} {ps : (List (Int × (List Int)))} {w : ((List Int) × (List (Int × Int × (List Int))))} {rr : Bool} (h : F_spec_BoundedWalk sys ps w = some rr) : PFun Tryz.prog 43 [D_impl_System sys, (slD 2 D_impl_Poly) ps, D_impl_Walk w] (bD rr) := by
  delta F_spec_BoundedWalk at h
  refine fn43.pureL (vcm_sound ?_)
  delta mc43
  refine stp ?_
  obtain ⟨r, hr, h⟩ := bind_some h
  refine cR (c_spec_WalkOk hr) (stp ?_)
  rcases ite_some h with ⟨hc, h⟩ | ⟨hc, h⟩
  · refine stpc hc ?_
    obtain ⟨r_1, hr_1, h⟩ := bind_some h
    refine cRN (c_spec_BoundBy hr_1) (stp ?_)
    rcases ite_some h with ⟨hc, h⟩ | ⟨hc, h⟩
    · refine stpc hc ?_
      cases h
      exact don
    · refine stpc hc ?_
      cases h
      exact don
  · refine stpc hc ?_
    cases h
    exact don

end Go.Proofs.YtcaljngigbfadaaGreat
