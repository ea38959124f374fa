/- Functions of the program and the equations that they compute, fourth part; nothing is assumed. -/
import Derived.Test.YtcaljngigbfadaaGreatWc
set_option linter.unusedSimpArgs false
set_option linter.unusedVariables false
set_option linter.unusedSectionVars false
namespace Go.Proofs.YtcaljngigbfadaaGreat
noncomputable section
open Go Abx
attribute [local irreducible] vcm vgo vdr vrun vdrun MWp GhostQ BrC BrO BrG BrD BrH AmbO callR callD drQ EnvLe StoLe
set_option maxHeartbeats 4000000
def D_impl_Move (x : (Int × Int × Bool × Ls)) : D := .agg [iD x.1, iD x.2.1, bD x.2.2.1, (slD 1 iD) x.2.2.2]
def D_impl_Chain (x : (Ls × (List (Int × Int × Bool × Ls)))) : D := .agg [(slD 1 iD) x.1, (slD 4 D_impl_Move) x.2]
def D_impl_Eq (x : (Ls × Ls)) : D := .agg [(slD 1 iD) x.1, (slD 1 iD) x.2]
instance : Cel D_impl_Move 4 := ⟨fun _ => rfl⟩
instance : Cel D_impl_Chain 2 := ⟨fun _ => rfl⟩
instance : Cel D_impl_Eq 2 := ⟨fun _ => rfl⟩
attribute [go_sem] D_impl_Move D_impl_Chain D_impl_Eq
def mc214 : MCode :=
 (.seq (.reg [⟨some 3, .box 3 152 (.tmp 1), none⟩]) (.seq (.reg [⟨some 4, .fad 3 (.tmp 3), none⟩, ⟨some 5, .load 1 false (.tmp 4), none⟩, ⟨some 6, .callf 118 [.tmp 5], none⟩, ⟨some 7, .fad 3 (.tmp 3), none⟩, ⟨none, .store 1 (.tmp 7) (.tmp 6), none⟩]) (.draw [⟨some 8, .mv (.tmp 0), none⟩, ⟨some 9, .mv (.tmp 0), none⟩, ⟨some 10, .nilc (.tmp 9), none⟩, ⟨some 11, .fad 1 (.tmp 10), none⟩, ⟨some 12, .load 1 false (.tmp 11), none⟩, ⟨some 13, .load 4 true (.tmp 3), none⟩, ⟨some 14, .bsl 14 152 4 [.tmp 13], none⟩, ⟨some 15, .app 15 152 4 48 (.tmp 12) (.tmp 14), none⟩, ⟨some 16, .nilc (.tmp 8), none⟩, ⟨some 17, .fad 1 (.tmp 16), none⟩, ⟨none, .store 1 (.tmp 17) (.tmp 15), none⟩] [[], [], [1], [2], [3], [], [5], [4, 6], [0, 0, 1, 2, 3, 4, 5, 6, 7], [8, 0, 1, 2, 3, 4, 5, 6, 7], [9, 7, 7, 0, 1, 2, 3, 4, 5, 6, 7]])))
theorem fn214 : MFn Tryz.prog 214 mc214 18 [] :=
  ⟨Tryz.f214, Tryz.func214, by kernel_rfl, Tryz.ntmps214, by kernel_rfl⟩
def F_impl_Chain_add (m : (Int × Int × Bool × Ls)) (c0 : Ls) (c1 : (List (Int × Int × Bool × Ls))) : Option (List (Int × Int × Bool × Ls)) :=
 (F_slices_Clone_int64_int64 m.2.2.2).bind fun r =>
 if (c1.length + 1) * 48 ≤ 140737488355328 then
  some (c1 ++ [(m.1, m.2.1, m.2.2.1, r)])
 else none
theorem c_impl_Chain_add {m : (Int × Int × Bool × Ls)} {c0 : Ls} {c1 : (List (Int × Int × Bool × Ls))} {rr : (List (Int × Int × Bool × Ls))} (h : F_impl_Chain_add m c0 c1 = some rr) : ACalls Tryz.prog 214 [.ptr 0 0, .d (.agg [iD m.1, iD m.2.1, bD m.2.2.1, slD 1 iD m.2.2.2])] [(0, .obj 65 [.d (slD 1 iD c0), .own 4 1 (List.map D_impl_Move c1)]), (1, .tok 152 4 c1.length)] 2 fun xx ss => xx = .tup [] ∧ ss = [(0, .obj 65 [.d (slD 1 iD c0), .own 4 1 (List.map D_impl_Move rr)]), (1, .tok 152 4 rr.length)] := by
  delta F_impl_Chain_add at h
  refine fn214.callsO (vcm_sound ?_)
  delta mc214
  refine stp ?_
  obtain ⟨r, hr, h⟩ := bind_some h
  refine cR (c_slices_Clone_int64_int64 hr) (stp ?_)
  obtain ⟨hp, h⟩ := need_some h
  repeat (refine need_i (by omega) ?_; refine stp ?_)
  refine drQ_of (by kernel_rfl) ?_
  refine stp ?_
  cases h
  exact ⟨[3, 14], by simp, don, don⟩
def mc108 : MCode :=
 (.seq (.reg [⟨some 1, .box 1 40 (.tmp 0), none⟩, ⟨some 2, .alloc 2 65 [.sl 0 (some true) [], .sl 0 (some true) []], none⟩]) (.seq (.reg [⟨some 6, .fad 0 (.tmp 1), none⟩, ⟨some 7, .load 1 false (.tmp 6), none⟩, ⟨some 8, .callf 118 [.tmp 7], none⟩, ⟨some 9, .build [.sl 0 (some true) [], .sl 0 (some true) []] [(0, 1, .tmp 8)], none⟩, ⟨some 3, .alloc 3 65 [.sl 0 (some true) [], .sl 0 (some true) []], none⟩, ⟨none, .store 2 (.tmp 3) (.tmp 9), none⟩]) (.seq (.seq (.reg [⟨some 10, .fad 1 (.tmp 1), none⟩, ⟨some 11, .load 1 false (.tmp 10), none⟩, ⟨some 12, .len (.tmp 11), none⟩, ⟨some 13, .mv (.const (.int .i64 0)), none⟩]) (.block 0 (.loop (.seq (.reg [⟨some 14, .bin .lss (.tmp 13) (.tmp 12), none⟩]) (.seq (.cond (.tmp 14) .skip (.exit 0)) (.seq (.block 1 (.seq (.reg [⟨some 15, .ixa 3 (.tmp 11) (.tmp 13), none⟩, ⟨some 16, .load 3 true (.tmp 15), none⟩, ⟨some 5, .alloc 5 84 [.lit (.int .i64 0), .lit (.int .i64 0), .sl 0 (some true) []], none⟩, ⟨none, .store 3 (.tmp 5) (.tmp 16), none⟩]) (.reg [⟨some 17, .fad 1 (.tmp 5), none⟩, ⟨some 18, .load 1 false (.tmp 17), none⟩, ⟨some 19, .fad 0 (.tmp 5), none⟩, ⟨some 20, .load 1 false (.tmp 19), none⟩, ⟨some 21, .fad 2 (.tmp 5), none⟩, ⟨some 22, .load 1 false (.tmp 21), none⟩, ⟨some 23, .build [.lit (.int .i64 0), .lit (.int .i64 0), .lit (.bool false), .sl 0 (some true) []] [(0, 1, .tmp 18), (1, 1, .tmp 20), (3, 1, .tmp 22)], none⟩, ⟨some 24, .callf 214 [.tmp 3, .tmp 23], none⟩]))) (.reg [⟨some 25, .bin .add (.tmp 13) (.const (.int .i64 1)), none⟩, ⟨some 13, .mv (.tmp 25), none⟩]))))))) (.seq (.reg [⟨some 26, .load 2 true (.tmp 3), none⟩, ⟨none, .store 2 (.tmp 2) (.tmp 26), none⟩]) .ret))))
theorem fn108 : MFn Tryz.prog 108 mc108 27 [.cell 2 2 true] :=
  ⟨Tryz.f108, Tryz.func108, by kernel_rfl, Tryz.ntmps108, by kernel_rfl⟩
def F_impl_chainOfWalk_l1 (w : (Ls × (List (Int × Int × Ls)))) (r : Ls) : (Int × (List (Int × Int × Bool × Ls))) → Option ((Int × (List (Int × Int × Bool × Ls))) ⊕ (Ls × (List (Int × Int × Bool × Ls))))
 | (v13, out) =>
  if (decide (v13 < (w.2.length : Int))) = true then
   if 0 ≤ v13 ∧ v13 < (w.2.length : Int) then
    (F_impl_Chain_add ((w.2.getD v13.toNat default).2.1, (w.2.getD v13.toNat default).1, false, (w.2.getD v13.toNat default).2.2) r out).bind fun r_1 =>
    some (.inl ((IntKind.i64.wrap (v13 + 1)), r_1))
   else none
  else
   Option.map Sum.inr (
    some (r, out))
def F_impl_chainOfWalk (w : (Ls × (List (Int × Int × Ls)))) : Option (Ls × (List (Int × Int × Bool × Ls))) :=
 (F_slices_Clone_int64_int64 w.1).bind fun r =>
 loopC (F_impl_chainOfWalk_l1 w r) (0, [])
theorem c_impl_chainOfWalk {w : (Ls × (List (Int × Int × Ls)))} {rr : (Ls × (List (Int × Int × Bool × Ls)))} (h : F_impl_chainOfWalk w = some rr) : PFun Tryz.prog 108 [D_impl_Walk w] (D_impl_Chain rr) := by
  delta F_impl_chainOfWalk at h
  refine fn108.pureL (vcm_sound ?_)
  delta mc108
  refine stp ?_
  obtain ⟨r, hr, h⟩ := bind_some h
  refine cR (c_slices_Clone_int64_int64 hr) (stp ?_)
  refine m_loopF h [5, 13, 14, 15, 16, 17, 18, 19, 20, 21, 22, 23, 24, 25] (fun pp => [(13, .d (iD pp.1))]) (fun pp => [(1, .obj 40 [.d (slD 1 iD w.1), .d (slD 3 D_impl_Step w.2)]), (2, .obj 65 [.d (.sl 0 (some true) []), .d (.sl 0 (some true) [])]), (3, .obj 65 [.d (slD 1 iD r), .own 4 300000 (List.map D_impl_Move pp.2)]), (300000, .tok 152 4 pp.2.length)]) ?_ ?_
  · try dsimp only
    refine (Weak.thawCell 3 1 300000 152 4 rfl rfl rfl).trans ?_
    exact wk
  rintro ⟨v13, out⟩ t1 h hb1
  unfold F_impl_chainOfWalk_l1 at h
  try dsimp only at h
  refine vcm_sound (stp ?_)
  rcases ite_some h with ⟨hc, h⟩ | ⟨hc, h⟩
  · refine stpc hc ?_
    obtain ⟨hp, h⟩ := need_some h
    repeat (refine need_i (by omega) ?_; refine stp ?_)
    obtain ⟨r_1, hr_1, h⟩ := bind_some h
    refine cRo [(0, 3), (1, 300000)] [] (c_impl_Chain_add hr_1) (stp ?_)
    cases h
    refine ⟨_, rfl, ?_⟩
    refine (Weak.drop 5 (by omega)).trans ?_
    exact wk
  refine stpc hc ?_
  replace h := inr_some h hb1
  cases h
  exact don
def mc119 : MCode :=
 (.seq (.reg [⟨some 1, .box 1 65 (.tmp 0), none⟩, ⟨some 2, .mv (.const (.slice none 0 0)), none⟩]) (.seq (.seq (.reg [⟨some 4, .fad 1 (.tmp 1), none⟩, ⟨some 5, .load 1 false (.tmp 4), none⟩, ⟨some 6, .len (.tmp 5), none⟩, ⟨some 3, .mv (.tmp 6), none⟩]) (.seq (.reg [⟨some 7, .mv (.tmp 3), none⟩, ⟨some 8, .bin .gtr (.tmp 7) (.const (.int .i64 0)), none⟩]) (.cond (.tmp 8) (.seq (.reg [⟨some 9, .fad 1 (.tmp 1), none⟩, ⟨some 10, .load 1 false (.tmp 9), none⟩, ⟨some 11, .mv (.tmp 3), none⟩, ⟨some 12, .bin .sub (.tmp 11) (.const (.int .i64 1)), none⟩, ⟨some 13, .ixa 4 (.tmp 10) (.tmp 12), none⟩, ⟨some 14, .fad 3 (.tmp 13), none⟩, ⟨some 15, .load 1 false (.tmp 14), none⟩, ⟨some 2, .mv (.tmp 15), none⟩]) .ret) .skip))) (.seq (.reg [⟨some 16, .fad 0 (.tmp 1), none⟩, ⟨some 17, .load 1 false (.tmp 16), none⟩, ⟨some 2, .mv (.tmp 17), none⟩]) .ret)))
theorem fn119 : MFn Tryz.prog 119 mc119 18 [.tmp 2] :=
  ⟨Tryz.f119, Tryz.func119, by kernel_rfl, Tryz.ntmps119, by kernel_rfl⟩
def F_impl_Chain_end (c : (Ls × (List (Int × Int × Bool × Ls)))) : Option Ls :=
 if (decide (0 < (c.2.length : Int))) = true then
  if 0 ≤ (IntKind.i64.wrap ((c.2.length : Int) - 1)) ∧ (IntKind.i64.wrap ((c.2.length : Int) - 1)) < (c.2.length : Int) then
   some ((c.2.getD (IntKind.i64.wrap ((c.2.length : Int) - 1)).toNat default).2.2.2)
  else none
 else
  some c.1
theorem c_impl_Chain_end {c : (Ls × (List (Int × Int × Bool × Ls)))} {rr : Ls} (h : F_impl_Chain_end c = some rr) : PFun Tryz.prog 119 [D_impl_Chain c] ((slD 1 iD) rr) := by
  delta F_impl_Chain_end at h
  refine fn119.pureL (vcm_sound ?_)
  delta mc119
  refine stp ?_
  rcases ite_some h with ⟨hc, h⟩ | ⟨hc, h⟩
  · refine stpc hc ?_
    obtain ⟨hp, h⟩ := need_some h
    repeat (refine need_i (by omega) ?_; refine stp ?_)
    cases h
    exact don
  refine stpc hc ?_
  cases h
  exact don
def F_slices_Backward_impl_Move_impl_Move (_ : (List (Int × Int × Bool × Ls))) : Option Unit := some ()
theorem fn215 : MFn Tryz.prog 215 (bkTop 305 63) 4 [.tmp 2] :=
  ⟨Tryz.f215, Tryz.func215, by kernel_rfl, Tryz.ntmps215, by kernel_rfl⟩
theorem fn305 : MFn Tryz.prog 305 (bkMc 4) 19 [] :=
  ⟨Tryz.f305, Tryz.func305, by kernel_rfl, Tryz.ntmps305, by kernel_rfl⟩
theorem bk305 (xs : (List (Int × Int × Bool × Ls))) : Iter Tryz.prog 305 [.pv [slD 4 D_impl_Move xs]] (bkEls D_impl_Move xs) := iter_back D_impl_Move (fun _ => ⟨_, rfl⟩) fn305 (by kernel_rfl) xs
theorem c_slices_Backward_impl_Move_impl_Move {s : (List (Int × Int × Bool × Ls))} {rr : Unit} (_ : F_slices_Backward_impl_Move_impl_Move s = some rr) : ACalls Tryz.prog 215 [.d (slD 4 D_impl_Move s)] [] 0 fun xx ss => xx = .fn 305 [] [.pv [slD 4 D_impl_Move s]] ∧ ss = [] := back_calls D_impl_Move s fn215
def mc109 : MCode :=
 (.seq (.reg [⟨some 1, .box 1 65 (.tmp 0), none⟩, ⟨some 2, .alloc 2 65 [.sl 0 (some true) [], .sl 0 (some true) []], none⟩]) (.seq (.reg [⟨some 7, .load 2 true (.tmp 1), none⟩, ⟨some 8, .callf 119 [.tmp 7], none⟩, ⟨some 9, .callf 118 [.tmp 8], none⟩, ⟨some 10, .build [.sl 0 (some true) [], .sl 0 (some true) []] [(0, 1, .tmp 9)], none⟩, ⟨some 3, .alloc 3 65 [.sl 0 (some true) [], .sl 0 (some true) []], none⟩, ⟨none, .store 2 (.tmp 3) (.tmp 10), none⟩]) (.seq (.seq (.reg [⟨some 11, .fad 1 (.tmp 1), none⟩, ⟨some 12, .load 1 false (.tmp 11), none⟩, ⟨some 13, .callf 215 [.tmp 12], none⟩]) (.block 0 (.rng (.tmp 13) [14, 15] (.seq (.reg [⟨some 4, .mv (.tmp 14), none⟩]) (.reg [⟨some 5, .alloc 5 152 [.lit (.int .i64 0), .lit (.int .i64 0), .lit (.bool false), .sl 0 (some true) []], none⟩, ⟨none, .store 4 (.tmp 5) (.tmp 15), none⟩])) (.block 1 (.seq (.reg [⟨some 16, .fad 0 (.tmp 1), none⟩, ⟨some 17, .load 1 false (.tmp 16), none⟩, ⟨some 6, .mv (.tmp 17), none⟩]) (.seq (.seq (.reg [⟨some 18, .mv (.tmp 4), none⟩, ⟨some 19, .bin .gtr (.tmp 18) (.const (.int .i64 0)), none⟩]) (.cond (.tmp 19) (.reg [⟨some 20, .fad 1 (.tmp 1), none⟩, ⟨some 21, .load 1 false (.tmp 20), none⟩, ⟨some 22, .mv (.tmp 4), none⟩, ⟨some 23, .bin .sub (.tmp 22) (.const (.int .i64 1)), none⟩, ⟨some 24, .ixa 4 (.tmp 21) (.tmp 23), none⟩, ⟨some 25, .fad 3 (.tmp 24), none⟩, ⟨some 26, .load 1 false (.tmp 25), none⟩, ⟨some 6, .mv (.tmp 26), none⟩]) .skip)) (.reg [⟨some 27, .fad 0 (.tmp 5), none⟩, ⟨some 28, .load 1 false (.tmp 27), none⟩, ⟨some 29, .fad 1 (.tmp 5), none⟩, ⟨some 30, .load 1 false (.tmp 29), none⟩, ⟨some 31, .fad 2 (.tmp 5), none⟩, ⟨some 32, .load 1 false (.tmp 31), none⟩, ⟨some 33, .un .not (.tmp 32), none⟩, ⟨some 34, .mv (.tmp 6), none⟩, ⟨some 35, .build [.lit (.int .i64 0), .lit (.int .i64 0), .lit (.bool false), .sl 0 (some true) []] [(0, 1, .tmp 28), (1, 1, .tmp 30), (2, 1, .tmp 33), (3, 1, .tmp 34)], none⟩, ⟨some 36, .callf 214 [.tmp 3, .tmp 35], none⟩]))))))) (.seq (.reg [⟨some 37, .load 2 true (.tmp 3), none⟩, ⟨none, .store 2 (.tmp 2) (.tmp 37), none⟩]) .ret))))
theorem fn109 : MFn Tryz.prog 109 mc109 38 [.cell 2 2 true] :=
  ⟨Tryz.f109, Tryz.func109, by kernel_rfl, Tryz.ntmps109, by kernel_rfl⟩
def F_impl_turned_l1 (c : (Ls × (List (Int × Int × Bool × Ls)))) (r_1 : Ls) : (Nat × (List (Int × Int × Bool × Ls))) → Option ((Nat × (List (Int × Int × Bool × Ls))) ⊕ (Ls × (List (Int × Int × Bool × Ls))))
 | (jj, out) =>
  if jj < c.2.length then
   if (decide (0 < ((c.2.length : Int) - 1 - (jj : Int)))) = true then
    if 0 ≤ (IntKind.i64.wrap (((c.2.length : Int) - 1 - (jj : Int)) - 1)) ∧ (IntKind.i64.wrap (((c.2.length : Int) - 1 - (jj : Int)) - 1)) < (c.2.length : Int) then
     (F_impl_Chain_add ((c.2.getD (c.2.length - 1 - jj) default).1, (c.2.getD (c.2.length - 1 - jj) default).2.1, (!(c.2.getD (c.2.length - 1 - jj) default).2.2.1), (c.2.getD (IntKind.i64.wrap (((c.2.length : Int) - 1 - (jj : Int)) - 1)).toNat default).2.2.2) r_1 out).bind fun r_3 =>
     some (.inl (jj + 1, r_3))
    else none
   else
    (F_impl_Chain_add ((c.2.getD (c.2.length - 1 - jj) default).1, (c.2.getD (c.2.length - 1 - jj) default).2.1, (!(c.2.getD (c.2.length - 1 - jj) default).2.2.1), c.1) r_1 out).bind fun r_4 =>
    some (.inl (jj + 1, r_4))
  else
   Option.map Sum.inr (
    some (r_1, out))
def F_impl_turned (c : (Ls × (List (Int × Int × Bool × Ls)))) : Option (Ls × (List (Int × Int × Bool × Ls))) :=
 (F_impl_Chain_end c).bind fun r =>
 (F_slices_Clone_int64_int64 r).bind fun r_1 =>
 (F_slices_Backward_impl_Move_impl_Move c.2).bind fun r_2 =>
 loopC (F_impl_turned_l1 c r_1) (0, [])
theorem c_impl_turned {c : (Ls × (List (Int × Int × Bool × Ls)))} {rr : (Ls × (List (Int × Int × Bool × Ls)))} (h : F_impl_turned c = some rr) : PFun Tryz.prog 109 [D_impl_Chain c] (D_impl_Chain rr) := by
  delta F_impl_turned at h
  refine fn109.pureL (vcm_sound ?_)
  delta mc109
  refine stp ?_
  obtain ⟨r, hr, h⟩ := bind_some h
  refine cR (c_impl_Chain_end hr) (stp ?_)
  obtain ⟨r_1, hr_1, h⟩ := bind_some h
  refine cR (c_slices_Clone_int64_int64 hr_1) (stp ?_)
  obtain ⟨r_2, hr_2, h⟩ := bind_some h
  refine cRo [] [] (c_slices_Backward_impl_Move_impl_Move hr_2) (stp ?_)
  refine m_backF (enc := D_impl_Move) (e := 4) (xs := c.2) h (bk305 _) 4 (fun pp => [(1, .obj 65 [.d (slD 1 iD c.1), .d (slD 4 D_impl_Move c.2)]), (2, .obj 65 [.d (.sl 0 (some true) []), .d (.sl 0 (some true) [])]), (3, .obj 65 [.d (slD 1 iD r_1), .own 4 300000 (List.map D_impl_Move pp)]), (300000, .tok 152 4 pp.length)]) ?_ ?_ ?_
  · try dsimp only
    refine (Weak.thawCell 3 1 300000 152 4 rfl rfl rfl).trans ?_
    exact wk
  · rintro jj out t1 hj h hb1
    unfold F_impl_turned_l1 at h
    try dsimp only at h
    rw [if_pos hj] at h
    refine stp ?_
    rcases ite_some h with ⟨hc, h⟩ | ⟨hc, h⟩
    · refine stpc hc ?_
      obtain ⟨hp, h⟩ := need_some h
      repeat (refine need_i (by omega) ?_; refine stp ?_)
      obtain ⟨r_3, hr_3, h⟩ := bind_some h
      refine cRo [(0, 3), (1, 300000)] [] (c_impl_Chain_add hr_3) (stp ?_)
      cases h
      refine ⟨_, rfl, ?_⟩
      exact ⟨_, (Weak.drop 5 (by omega)).trans (wk (EnvLe.refl _))⟩
    refine stpc hc ?_
    obtain ⟨r_4, hr_4, h⟩ := bind_some h
    refine cRo [(0, 3), (1, 300000)] [] (c_impl_Chain_add hr_4) (stp ?_)
    cases h
    refine ⟨_, rfl, ?_⟩
    exact ⟨_, (Weak.drop 5 (by omega)).trans (wk (EnvLe.refl _))⟩
  rintro out t1 h hb1
  unfold F_impl_turned_l1 at h
  try dsimp only at h
  rw [if_neg (Nat.lt_irrefl _)] at h
  refine stp ?_
  replace h := inr_some h hb1
  cases h
  exact don
end
end Go.Proofs.YtcaljngigbfadaaGreat
namespace Go.Proofs.YtcaljngigbfadaaGreat
noncomputable section
open Go Abx
attribute [local irreducible] vcm vgo vdr vrun vdrun MWp GhostQ BrC BrO BrG BrD BrH AmbO callR callD drQ EnvLe StoLe
set_option maxHeartbeats 4000000
def mc107 : MCode :=
 (.seq (.reg [⟨some 2, .box 2 65 (.tmp 0), none⟩, ⟨some 3, .box 3 65 (.tmp 1), none⟩, ⟨some 4, .alloc 4 65 [.sl 0 (some true) [], .sl 0 (some true) []], none⟩, ⟨some 5, .mv (.const (.bool false)), none⟩]) (.seq (.seq (.draw [⟨some 10, .load 2 true (.tmp 2), none⟩, ⟨some 11, .callf 119 [.tmp 10], none⟩, ⟨some 12, .fad 0 (.tmp 3), none⟩, ⟨some 13, .load 1 false (.tmp 12), none⟩, ⟨some 14, .callf 199 [.tmp 11, .tmp 13], none⟩, ⟨some 15, .un .not (.tmp 14), none⟩, ⟨some 16, .mv (.tmp 15), none⟩, ⟨some 17, .fad 1 (.tmp 2), (some (some 16, false))⟩, ⟨some 18, .load 1 false (.tmp 17), (some (some 16, false))⟩, ⟨some 19, .len (.tmp 18), (some (some 16, false))⟩, ⟨some 20, .fad 1 (.tmp 3), (some (some 16, false))⟩, ⟨some 21, .load 1 false (.tmp 20), (some (some 16, false))⟩, ⟨some 22, .len (.tmp 21), (some (some 16, false))⟩, ⟨some 23, .bin .add (.tmp 19) (.tmp 22), (some (some 16, false))⟩, ⟨some 24, .bin .gtr (.tmp 23) (.const (.int .i64 60)), (some (some 16, false))⟩, ⟨some 25, .pick (.tmp 16) (.const (.bool true)) (.tmp 24), none⟩] [[], [0], [], [2], [1, 3, 1], [4], [5, 4], [6], [7, 6], [8, 6], [6], [10, 6], [11, 6], [9, 12, 6], [13, 6], [6, 14]]) (.cond (.tmp 25) (.seq (.reg [⟨some 26, .build [.sl 0 (some true) [], .sl 0 (some true) []] [], none⟩, ⟨none, .store 2 (.tmp 4) (.tmp 26), none⟩, ⟨some 5, .mv (.const (.bool false)), none⟩]) .ret) .skip)) (.seq (.reg [⟨some 27, .fad 0 (.tmp 2), none⟩, ⟨some 28, .load 1 false (.tmp 27), none⟩, ⟨some 29, .callf 118 [.tmp 28], none⟩, ⟨some 30, .build [.sl 0 (some true) [], .sl 0 (some true) []] [(0, 1, .tmp 29)], none⟩, ⟨some 6, .alloc 6 65 [.sl 0 (some true) [], .sl 0 (some true) []], none⟩, ⟨none, .store 2 (.tmp 6) (.tmp 30), none⟩]) (.seq (.reg [⟨some 31, .fad 1 (.tmp 2), none⟩, ⟨some 32, .load 1 false (.tmp 31), none⟩, ⟨some 33, .len (.tmp 32), none⟩, ⟨some 7, .mv (.tmp 33), none⟩]) (.seq (.seq (.draw [⟨some 34, .fad 1 (.tmp 2), none⟩, ⟨some 35, .load 1 false (.tmp 34), none⟩, ⟨some 36, .mv (.tmp 7), none⟩, ⟨some 37, .mv (.tmp 7), none⟩, ⟨some 38, .slc (.tmp 35) 4 none (some (.tmp 36)) (some (.tmp 37)), none⟩, ⟨some 39, .fad 1 (.tmp 3), none⟩, ⟨some 40, .load 1 false (.tmp 39), none⟩, ⟨some 41, .app 41 152 4 48 (.tmp 38) (.tmp 40), none⟩, ⟨some 42, .len (.tmp 41), none⟩, ⟨some 43, .mv (.const (.int .i64 0)), none⟩] [[], [0], [], [], [1, 2, 3], [], [5], [4, 6], [7], []]) (.block 0 (.loop (.seq (.reg [⟨some 44, .bin .lss (.tmp 43) (.tmp 42), none⟩]) (.seq (.cond (.tmp 44) .skip (.exit 0)) (.seq (.block 1 (.seq (.reg [⟨some 45, .ixa 4 (.tmp 41) (.tmp 43), none⟩, ⟨some 46, .load 4 true (.tmp 45), none⟩, ⟨some 9, .alloc 9 152 [.lit (.int .i64 0), .lit (.int .i64 0), .lit (.bool false), .sl 0 (some true) []], none⟩, ⟨none, .store 4 (.tmp 9) (.tmp 46), none⟩]) (.reg [⟨some 47, .load 4 true (.tmp 9), none⟩, ⟨some 48, .callf 214 [.tmp 6, .tmp 47], none⟩]))) (.reg [⟨some 49, .bin .add (.tmp 43) (.const (.int .i64 1)), none⟩, ⟨some 43, .mv (.tmp 49), none⟩]))))))) (.seq (.reg [⟨some 50, .load 2 true (.tmp 6), none⟩, ⟨none, .store 2 (.tmp 4) (.tmp 50), none⟩, ⟨some 5, .mv (.const (.bool true)), none⟩]) .ret))))))
theorem fn107 : MFn Tryz.prog 107 mc107 51 [.cell 4 2 true, .tmp 5] :=
  ⟨Tryz.f107, Tryz.func107, by kernel_rfl, Tryz.ntmps107, by kernel_rfl⟩
def F_impl_joinChains_l1 (a : (Ls × (List (Int × Int × Bool × Ls)))) (b : (Ls × (List (Int × Int × Bool × Ls)))) (r_2 : Ls) : (Int × (List (Int × Int × Bool × Ls))) → Option ((Int × (List (Int × Int × Bool × Ls))) ⊕ ((Ls × (List (Int × Int × Bool × Ls))) × Bool))
 | (v43, out) =>
  if (decide (v43 < ((a.2 ++ b.2).length : Int))) = true then
   if 0 ≤ v43 ∧ v43 < ((a.2 ++ b.2).length : Int) then
    (F_impl_Chain_add (((a.2 ++ b.2).getD v43.toNat default).1, ((a.2 ++ b.2).getD v43.toNat default).2.1, ((a.2 ++ b.2).getD v43.toNat default).2.2.1, ((a.2 ++ b.2).getD v43.toNat default).2.2.2) r_2 out).bind fun r_3 =>
    some (.inl ((IntKind.i64.wrap (v43 + 1)), r_3))
   else none
  else
   Option.map Sum.inr (
    some ((r_2, out), true))
def F_impl_joinChains (a : (Ls × (List (Int × Int × Bool × Ls)))) (b : (Ls × (List (Int × Int × Bool × Ls)))) : Option ((Ls × (List (Int × Int × Bool × Ls))) × Bool) :=
 (F_impl_Chain_end a).bind fun r =>
 (F_slices_Equal_int64_int64 r b.1).bind fun r_1 =>
 if r_1 = true then
  if (decide (60 < (IntKind.i64.wrap ((a.2.length : Int) + (b.2.length : Int))))) = true then
   some (([], []), false)
  else
   (F_slices_Clone_int64_int64 a.1).bind fun r_2 =>
   if 0 ≤ (a.2.length : Int) ∧ (a.2.length : Int) ≤ (a.2.length : Int) then
    if (a.2.length + b.2.length) * 48 ≤ 140737488355328 then
     loopC (F_impl_joinChains_l1 a b r_2) (0, [])
    else none
   else none
 else
  some (([], []), false)
theorem c_impl_joinChains {a : (Ls × (List (Int × Int × Bool × Ls)))} {b : (Ls × (List (Int × Int × Bool × Ls)))} {rr : ((Ls × (List (Int × Int × Bool × Ls))) × Bool)} (h : F_impl_joinChains a b = some rr) : PFunN Tryz.prog 107 [D_impl_Chain a, D_impl_Chain b] [D_impl_Chain rr.1, bD rr.2] := by
  delta F_impl_joinChains at h
  refine fn107.pureLN (vcm_sound ?_)
  delta mc107
  refine stp ?_
  obtain ⟨r, hr, h⟩ := bind_some h
  refine cD' (c_impl_Chain_end hr) (stp ?_)
  obtain ⟨r_1, hr_1, h⟩ := bind_some h
  refine cD' (c_slices_Equal_int64_int64 hr_1) (stp ?_)
  rcases ite_some h with ⟨hc, h⟩ | ⟨hc, h⟩
  · refine stpc hc ?_
    refine drQ_of (by kernel_rfl) ?_
    refine stp ?_
    rcases ite_some h with ⟨hc, h⟩ | ⟨hc, h⟩
    · refine stpc hc ?_
      cases h
      exact don
    refine stpc hc ?_
    obtain ⟨r_2, hr_2, h⟩ := bind_some h
    refine cR (c_slices_Clone_int64_int64 hr_2) (stp ?_)
    obtain ⟨hp, h⟩ := need_some h
    repeat (refine need_i (by omega) ?_; refine stp ?_)
    obtain ⟨hp, h⟩ := need_some h
    repeat (refine need_i (by omega) ?_; refine stp ?_)
    refine drQ_of (by kernel_rfl) ?_
    refine stp ?_
    refine m_loopF h [9, 43, 44, 45, 46, 47, 48, 49] (fun pp => [(43, .d (iD pp.1))]) (fun pp => [(2, .obj 65 [.d (slD 1 iD a.1), .d (slD 4 D_impl_Move a.2)]), (3, .obj 65 [.d (slD 1 iD b.1), .d (slD 4 D_impl_Move b.2)]), (4, .obj 65 [.d (.sl 0 (some true) []), .d (.sl 0 (some true) [])]), (6, .obj 65 [.d (slD 1 iD r_2), .own 4 300000 (List.map D_impl_Move pp.2)]), (300000, .tok 152 4 pp.2.length)]) ?_ ?_
    · try dsimp only
      refine (Weak.thawCell 6 1 300000 152 4 rfl rfl rfl).trans ?_
      exact wk
    rintro ⟨v43, out⟩ t1 h hb1
    unfold F_impl_joinChains_l1 at h
    try dsimp only at h
    refine vcm_sound (stp ?_)
    rcases ite_some h with ⟨hc, h⟩ | ⟨hc, h⟩
    · try simp only [List.length_append, List.length_cons, List.length_nil, List.length_map, Nat.reduceAdd] at hc
      refine stpc hc ?_
      obtain ⟨hp, h⟩ := need_some h
      try (have hq := hp; simp only [List.length_append, List.length_cons, List.length_nil, List.length_map, Nat.reduceAdd] at hq)
      repeat (refine need_i (by omega) ?_; refine stp ?_)
      obtain ⟨r_3, hr_3, h⟩ := bind_some h
      refine cRo [(0, 6), (1, 300000)] [] (c_impl_Chain_add hr_3) (stp ?_)
      cases h
      refine ⟨_, rfl, ?_⟩
      refine (Weak.drop 9 (by omega)).trans ?_
      exact wk
    try simp only [List.length_append, List.length_cons, List.length_nil, List.length_map, Nat.reduceAdd] at hc
    refine stpc hc ?_
    replace h := inr_some h hb1
    cases h
    exact don
  refine stpc hc ?_
  refine drQ_of (by kernel_rfl) ?_
  refine stp ?_
  cases h
  exact don
def mc153 : MCode :=
 (.seq (.reg [⟨some 1, .box 1 40 (.tmp 0), none⟩, ⟨some 2, .mv (.const (.slice none 0 0)), none⟩]) (.seq (.seq (.reg [⟨some 3, .fad 1 (.tmp 1), none⟩, ⟨some 4, .load 1 false (.tmp 3), none⟩, ⟨some 5, .len (.tmp 4), none⟩, ⟨some 6, .bin .eql (.tmp 5) (.const (.int .i64 0)), none⟩]) (.cond (.tmp 6) (.seq (.reg [⟨some 7, .fad 0 (.tmp 1), none⟩, ⟨some 8, .load 1 false (.tmp 7), none⟩, ⟨some 9, .callf 114 [.tmp 8], none⟩, ⟨some 2, .mv (.tmp 9), none⟩]) .ret) .skip)) (.seq (.reg [⟨some 10, .fad 1 (.tmp 1), none⟩, ⟨some 11, .load 1 false (.tmp 10), none⟩, ⟨some 12, .fad 1 (.tmp 1), none⟩, ⟨some 13, .load 1 false (.tmp 12), none⟩, ⟨some 14, .len (.tmp 13), none⟩, ⟨some 15, .bin .sub (.tmp 14) (.const (.int .i64 1)), none⟩, ⟨some 16, .ixa 3 (.tmp 11) (.tmp 15), none⟩, ⟨some 17, .fad 2 (.tmp 16), none⟩, ⟨some 18, .load 1 false (.tmp 17), none⟩, ⟨some 19, .callf 114 [.tmp 18], none⟩, ⟨some 2, .mv (.tmp 19), none⟩]) .ret)))
theorem fn153 : MFn Tryz.prog 153 mc153 20 [.tmp 2] :=
  ⟨Tryz.f153, Tryz.func153, by kernel_rfl, Tryz.ntmps153, by kernel_rfl⟩
def F_spec_l7End (w : (Ls × (List (Int × Int × Ls)))) : Option Ls :=
 if ((w.2.length : Int) == 0) = true then
  (F_spec_l1Copy w.1).bind fun r =>
  some r
 else
  if 0 ≤ (IntKind.i64.wrap ((w.2.length : Int) - 1)) ∧ (IntKind.i64.wrap ((w.2.length : Int) - 1)) < (w.2.length : Int) then
   (F_spec_l1Copy ((w.2.getD (IntKind.i64.wrap ((w.2.length : Int) - 1)).toNat default).2.2)).bind fun r_1 =>
   some r_1
  else none
theorem c_spec_l7End {w : (Ls × (List (Int × Int × Ls)))} {rr : Ls} (h : F_spec_l7End w = some rr) : PFun Tryz.prog 153 [D_impl_Walk w] ((slD 1 iD) rr) := by
  delta F_spec_l7End at h
  refine fn153.pureL (vcm_sound ?_)
  delta mc153
  refine stp ?_
  rcases ite_some h with ⟨hc, h⟩ | ⟨hc, h⟩
  · refine stpc hc ?_
    obtain ⟨r, hr, h⟩ := bind_some h
    refine cRo [] [(3, 9)] (c_spec_l1Copy hr) (stp ?_)
    cases h
    exact don
  refine stpc hc ?_
  obtain ⟨hp, h⟩ := need_some h
  repeat (refine need_i (by omega) ?_; refine stp ?_)
  obtain ⟨r_1, hr_1, h⟩ := bind_some h
  refine cRo [] [(3, 19)] (c_spec_l1Copy hr_1) (stp ?_)
  cases h
  exact don
def mc57 : MCode :=
 (.seq (.reg [⟨some 2, .box 2 46 (.tmp 0), none⟩, ⟨some 3, .box 3 40 (.tmp 1), none⟩, ⟨some 4, .mv (.const (.slice none 0 0)), none⟩]) (.seq (.seq (.reg [⟨some 5, .load 2 true (.tmp 2), none⟩, ⟨some 6, .load 2 true (.tmp 3), none⟩, ⟨some 7, .callf 44 [.tmp 5, .tmp 6], none⟩, ⟨some 8, .un .not (.tmp 7), none⟩]) (.cond (.tmp 8) (.seq (.reg [⟨some 9, .bsl 9 2 1 [], none⟩, ⟨some 4, .mv (.tmp 9), none⟩]) .ret) .skip)) (.seq (.reg [⟨some 10, .load 2 true (.tmp 3), none⟩, ⟨some 11, .callf 153 [.tmp 10], none⟩, ⟨some 4, .mv (.tmp 11), none⟩]) .ret)))
theorem fn57 : MFn Tryz.prog 57 mc57 12 [.tmp 4] :=
  ⟨Tryz.f57, Tryz.func57, by kernel_rfl, Tryz.ntmps57, by kernel_rfl⟩
def F_spec_EndTerm (sys : (Ls × (List (Ls × Ls)))) (w : (Ls × (List (Int × Int × Ls)))) : Option Ls :=
 (F_spec_WalkOk sys w).bind fun r =>
 if r = true then
  (F_spec_l7End w).bind fun r_1 =>
  some r_1
 else
  some []
theorem c_spec_EndTerm {sys : (Ls × (List (Ls × Ls)))} {w : (Ls × (List (Int × Int × Ls)))} {rr : Ls} (h : F_spec_EndTerm sys w = some rr) : PFun Tryz.prog 57 [D_impl_System sys, D_impl_Walk w] ((slD 1 iD) rr) := by
  delta F_spec_EndTerm at h
  refine fn57.pureL (vcm_sound ?_)
  delta mc57
  refine stp ?_
  obtain ⟨r, hr, h⟩ := bind_some h
  refine cR (c_spec_WalkOk hr) (stp ?_)
  rcases ite_some h with ⟨hc, h⟩ | ⟨hc, h⟩
  · refine stpc hc ?_
    obtain ⟨r_1, hr_1, h⟩ := bind_some h
    refine cR (c_spec_l7End hr_1) (stp ?_)
    cases h
    exact don
  refine stpc hc ?_
  cases h
  exact don
end
end Go.Proofs.YtcaljngigbfadaaGreat
namespace Go.Proofs.YtcaljngigbfadaaGreat
noncomputable section
open Go Abx
attribute [local irreducible] vcm vgo vdr vrun vdrun MWp GhostQ BrC BrO BrG BrD BrH AmbO callR callD drQ EnvLe StoLe
set_option maxHeartbeats 4000000
def mc154 : MCode :=
 (.seq (.reg [⟨some 1, .box 1 65 (.tmp 0), none⟩, ⟨some 2, .mv (.const (.slice none 0 0)), none⟩]) (.seq (.seq (.reg [⟨some 3, .fad 1 (.tmp 1), none⟩, ⟨some 4, .load 1 false (.tmp 3), none⟩, ⟨some 5, .len (.tmp 4), none⟩, ⟨some 6, .bin .eql (.tmp 5) (.const (.int .i64 0)), none⟩]) (.cond (.tmp 6) (.seq (.reg [⟨some 7, .fad 0 (.tmp 1), none⟩, ⟨some 8, .load 1 false (.tmp 7), none⟩, ⟨some 2, .mv (.tmp 8), none⟩]) .ret) .skip)) (.seq (.reg [⟨some 9, .fad 1 (.tmp 1), none⟩, ⟨some 10, .load 1 false (.tmp 9), none⟩, ⟨some 11, .fad 1 (.tmp 1), none⟩, ⟨some 12, .load 1 false (.tmp 11), none⟩, ⟨some 13, .len (.tmp 12), none⟩, ⟨some 14, .bin .sub (.tmp 13) (.const (.int .i64 1)), none⟩, ⟨some 15, .ixa 4 (.tmp 10) (.tmp 14), none⟩, ⟨some 16, .fad 3 (.tmp 15), none⟩, ⟨some 17, .load 1 false (.tmp 16), none⟩, ⟨some 2, .mv (.tmp 17), none⟩]) .ret)))
theorem fn154 : MFn Tryz.prog 154 mc154 18 [.tmp 2] :=
  ⟨Tryz.f154, Tryz.func154, by kernel_rfl, Tryz.ntmps154, by kernel_rfl⟩
def F_spec_l20End (c : (Ls × (List (Int × Int × Bool × Ls)))) : Option Ls :=
 if ((c.2.length : Int) == 0) = true then
  some c.1
 else
  if 0 ≤ (IntKind.i64.wrap ((c.2.length : Int) - 1)) ∧ (IntKind.i64.wrap ((c.2.length : Int) - 1)) < (c.2.length : Int) then
   some ((c.2.getD (IntKind.i64.wrap ((c.2.length : Int) - 1)).toNat default).2.2.2)
  else none
theorem c_spec_l20End {c : (Ls × (List (Int × Int × Bool × Ls)))} {rr : Ls} (h : F_spec_l20End c = some rr) : PFun Tryz.prog 154 [D_impl_Chain c] ((slD 1 iD) rr) := by
  delta F_spec_l20End at h
  refine fn154.pureL (vcm_sound ?_)
  delta mc154
  refine stp ?_
  rcases ite_some h with ⟨hc, h⟩ | ⟨hc, h⟩
  · refine stpc hc ?_
    cases h
    exact don
  refine stpc hc ?_
  obtain ⟨hp, h⟩ := need_some h
  repeat (refine need_i (by omega) ?_; refine stp ?_)
  cases h
  exact don
end
end Go.Proofs.YtcaljngigbfadaaGreat
namespace Go.Proofs.YtcaljngigbfadaaGreat
noncomputable section
open Go Abx
attribute [local irreducible] vcm vgo vdr vrun vdrun MWp GhostQ BrC BrO BrG BrD BrH AmbO callR callD drQ EnvLe StoLe
set_option maxHeartbeats 4000000
end
end Go.Proofs.YtcaljngigbfadaaGreat
namespace Go.Proofs.YtcaljngigbfadaaGreat
noncomputable section
open Go Abx
attribute [local irreducible] vcm vgo vdr vrun vdrun MWp GhostQ BrC BrO BrG BrD BrH AmbO callR callD drQ EnvLe StoLe
set_option maxHeartbeats 4000000
def mc30 : MCode :=
 (.seq (.reg [⟨some 1, .box 1 46 (.tmp 0), none⟩, ⟨some 2, .mv (.const (.slice none 0 0)), none⟩]) (.seq (.reg [⟨some 5, .bsl 5 147 2 [], none⟩, ⟨some 3, .mv (.tmp 5), none⟩]) (.seq (.seq (.reg [⟨some 6, .load 2 true (.tmp 1), none⟩, ⟨some 7, .callf 113 [.tmp 6], none⟩, ⟨some 8, .un .not (.tmp 7), none⟩]) (.cond (.tmp 8) (.seq (.reg [⟨some 9, .mv (.tmp 3), none⟩, ⟨some 2, .mv (.tmp 9), none⟩]) .ret) .skip)) (.seq (.seq (.reg [⟨some 4, .mv (.const (.int .i64 0)), none⟩]) (.block 0 (.loop (.seq (.seq (.reg [⟨some 10, .mv (.tmp 4), none⟩, ⟨some 11, .fad 1 (.tmp 1), none⟩, ⟨some 12, .load 1 false (.tmp 11), none⟩, ⟨some 13, .len (.tmp 12), none⟩, ⟨some 14, .bin .lss (.tmp 10) (.tmp 13), none⟩]) (.cond (.tmp 14) .skip (.exit 0))) (.seq (.block 1 (.draw [⟨some 17, .mv (.tmp 3), none⟩, ⟨some 18, .fad 1 (.tmp 1), none⟩, ⟨some 19, .load 1 false (.tmp 18), none⟩, ⟨some 20, .mv (.tmp 4), none⟩, ⟨some 21, .ixa 2 (.tmp 19) (.tmp 20), none⟩, ⟨some 22, .fad 0 (.tmp 21), none⟩, ⟨some 23, .load 1 false (.tmp 22), none⟩, ⟨some 24, .callf 114 [.tmp 23], none⟩, ⟨some 25, .fad 1 (.tmp 1), none⟩, ⟨some 26, .load 1 false (.tmp 25), none⟩, ⟨some 27, .mv (.tmp 4), none⟩, ⟨some 28, .ixa 2 (.tmp 26) (.tmp 27), none⟩, ⟨some 29, .fad 1 (.tmp 28), none⟩, ⟨some 30, .load 1 false (.tmp 29), none⟩, ⟨some 31, .callf 114 [.tmp 30], none⟩, ⟨some 32, .build [.sl 0 (some true) [], .sl 0 (some true) []] [(0, 1, .tmp 24), (1, 1, .tmp 31)], none⟩, ⟨some 33, .bsl 33 147 2 [.tmp 32], none⟩, ⟨some 34, .app 34 147 2 48 (.tmp 17) (.tmp 33), none⟩, ⟨some 3, .mv (.tmp 34), none⟩] [[], [], [1], [], [2, 3], [4], [5], [6], [], [8], [], [9, 10], [11], [12], [13, 7], [7, 14], [15], [0, 16, 14], [17, 17, 0, 1, 2, 3, 4, 5, 6, 7, 8, 9, 10, 11, 12, 13, 14, 15, 16, 17]])) (.reg [⟨some 15, .mv (.tmp 4), none⟩, ⟨some 16, .bin .add (.tmp 15) (.const (.int .i64 1)), none⟩, ⟨some 4, .mv (.tmp 16), none⟩])))))) (.seq (.reg [⟨some 35, .mv (.tmp 3), none⟩, ⟨some 2, .mv (.tmp 35), none⟩]) .ret)))))
theorem fn30 : MFn Tryz.prog 30 mc30 36 [.tmp 2] :=
  ⟨Tryz.f30, Tryz.func30, by kernel_rfl, Tryz.ntmps30, by kernel_rfl⟩
def F_spec_EqsOf_l1 (sys : (Ls × (List (Ls × Ls)))) : ((List (Ls × Ls)) × Int) → Option (((List (Ls × Ls)) × Int) ⊕ (List (Ls × Ls)))
 | (out, i) =>
  if (decide (i < (sys.2.length : Int))) = true then
   if 0 ≤ i ∧ i < (sys.2.length : Int) then
    (F_spec_l1Copy ((sys.2.getD i.toNat default).1)).bind fun r_1 =>
    if 0 ≤ i ∧ i < (sys.2.length : Int) then
     (F_spec_l1Copy ((sys.2.getD i.toNat default).2)).bind fun r_2 =>
     if (out.length + 1) * 48 ≤ 140737488355328 then
      some (.inl ((out ++ [(r_1, r_2)]), (IntKind.i64.wrap (i + 1))))
     else none
    else none
   else none
  else
   Option.map Sum.inr (
    some out)
def F_spec_EqsOf (sys : (Ls × (List (Ls × Ls)))) : Option (List (Ls × Ls)) :=
 (F_spec_SystemOk sys).bind fun r =>
 if r = true then
  loopC (F_spec_EqsOf_l1 sys) ([], 0)
 else
  some []
theorem c_spec_EqsOf {sys : (Ls × (List (Ls × Ls)))} {rr : (List (Ls × Ls))} (h : F_spec_EqsOf sys = some rr) : PFun Tryz.prog 30 [D_impl_System sys] ((slD 2 D_impl_Eq) rr) := by
  delta F_spec_EqsOf at h
  refine fn30.pureL (vcm_sound ?_)
  delta mc30
  refine stp ?_
  obtain ⟨r, hr, h⟩ := bind_some h
  refine cR (c_spec_SystemOk hr) (stp ?_)
  rcases ite_some h with ⟨hc, h⟩ | ⟨hc, h⟩
  · refine stpc hc ?_
    refine m_loopF h [3, 4, 10, 11, 12, 13, 14, 15, 16, 17, 18, 19, 20, 21, 22, 23, 24, 25, 26, 27, 28, 29, 30, 31, 32, 33, 34] (fun pp => [(3, .own 2 5 (List.map D_impl_Eq pp.1)), (4, .d (iD pp.2))]) (fun pp => [(1, .obj 46 [.d (slD 1 iD sys.1), .d (slD 2 D_impl_Rule sys.2)]), (5, .tok 147 2 pp.1.length)]) ?_ ?_
    · try dsimp only
      exact wk
    rintro ⟨out, i⟩ t1 h hb1
    unfold F_spec_EqsOf_l1 at h
    try dsimp only at h
    refine vcm_sound (stp ?_)
    rcases ite_some h with ⟨hc, h⟩ | ⟨hc, h⟩
    · refine stpc hc ?_
      obtain ⟨hp, h⟩ := need_some h
      repeat (refine need_i (by omega) ?_; refine stp ?_)
      obtain ⟨r_1, hr_1, h⟩ := bind_some h
      refine cDo [] [(3, 24)] (c_spec_l1Copy hr_1) (stp ?_)
      obtain ⟨hp, h⟩ := need_some h
      repeat (refine need_i (by omega) ?_; refine stp ?_)
      obtain ⟨r_2, hr_2, h⟩ := bind_some h
      refine cDo [] [(3, 31)] (c_spec_l1Copy hr_2) (stp ?_)
      obtain ⟨hp, h⟩ := need_some h
      repeat (refine need_i (by omega) ?_; refine stp ?_)
      refine drQ_of (by kernel_rfl) ?_
      refine stp ?_
      cases h
      refine ⟨_, rfl, ?_⟩
      refine (Weak.drop 24 (by omega)).trans ?_
      refine (Weak.drop 31 (by omega)).trans ?_
      refine (Weak.drop 33 (by omega)).trans ?_
      exact wk
    refine stpc hc ?_
    replace h := inr_some h hb1
    cases h
    exact don
  refine stpc hc ?_
  cases h
  exact don
end
end Go.Proofs.YtcaljngigbfadaaGreat
