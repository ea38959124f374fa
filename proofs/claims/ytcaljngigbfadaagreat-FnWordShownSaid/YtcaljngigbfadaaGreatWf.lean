/- Functions of the program and the equations that they compute, draws, first part; nothing is assumed. -/
import Derived.Test.YtcaljngigbfadaaGreatWe
set_option linter.unusedSimpArgs false
set_option linter.unusedVariables false
set_option linter.unusedSectionVars false
namespace Go.Proofs.YtcaljngigbfadaaGreat
noncomputable section
open Go Abx
attribute [local irreducible] vcm vgo vdr vrun vdrun MWp GhostQ BrC BrO BrG BrD BrH AmbO callR callD drQ EnvLe StoLe
set_option maxHeartbeats 4000000
def mc100 : MCode :=
 (.seq (.reg [⟨some 2, .mv (.const (.pointer none)), none⟩]) (.seq (.reg [⟨some 5, .mv (.tmp 0), none⟩, ⟨some 6, .len (.tmp 5), none⟩, ⟨some 7, .bin .add (.const (.int .i64 570029)) (.tmp 6), none⟩, ⟨some 3, .mv (.tmp 7), none⟩]) (.seq (.seq (.reg [⟨some 4, .mv (.const (.int .i64 0)), none⟩]) (.block 0 (.loop (.seq (.seq (.reg [⟨some 8, .mv (.tmp 4), none⟩, ⟨some 9, .mv (.tmp 0), none⟩, ⟨some 10, .len (.tmp 9), none⟩, ⟨some 11, .bin .lss (.tmp 8) (.tmp 10), none⟩]) (.cond (.tmp 11) .skip (.exit 0))) (.seq (.block 1 (.reg [⟨some 14, .mv (.tmp 3), none⟩, ⟨some 15, .bin .mul (.tmp 14) (.const (.int .i64 317)), none⟩, ⟨some 16, .mv (.tmp 0), none⟩, ⟨some 17, .mv (.tmp 4), none⟩, ⟨some 18, .ixa 1 (.tmp 16) (.tmp 17), none⟩, ⟨some 19, .load 1 false (.tmp 18), none⟩, ⟨some 20, .conv .i64 (.tmp 19), none⟩, ⟨some 21, .bin .add (.tmp 15) (.tmp 20), none⟩, ⟨some 22, .bin .add (.tmp 21) (.const (.int .i64 11)), none⟩, ⟨some 23, .bin .and (.tmp 22) (.const (.int .i64 1073741823)), none⟩, ⟨some 3, .mv (.tmp 23), none⟩])) (.reg [⟨some 12, .mv (.tmp 4), none⟩, ⟨some 13, .bin .add (.tmp 12) (.const (.int .i64 1)), none⟩, ⟨some 4, .mv (.tmp 13), none⟩])))))) (.seq (.reg [⟨some 24, .mv (.tmp 0), none⟩, ⟨some 25, .mv (.tmp 3), none⟩, ⟨some 26, .build [.sl 0 (some true) [], .lit (.int .i64 0), .lit (.int .i64 0)] [(0, 1, .tmp 24), (2, 1, .tmp 25)], none⟩, ⟨some 27, .box 27 216 (.tmp 26), none⟩, ⟨some 2, .mv (.tmp 27), none⟩]) .ret))))
theorem fn100 : MFn Tryz.prog 100 mc100 28 [.tmp 2] :=
  ⟨Tryz.f100, Tryz.func100, by kernel_rfl, Tryz.ntmps100, by kernel_rfl⟩
def F_spec_l1New_l1 (code : Ls) : (Int × Int) → Option ((Int × Int) ⊕ (Ls × Int × Int))
 | (h', i) =>
  if (decide (i < (code.length : Int))) = true then
   if 0 ≤ i ∧ i < (code.length : Int) then
    some (.inl ((andI .i64 (IntKind.i64.wrap ((IntKind.i64.wrap ((IntKind.i64.wrap (h' * 317)) + (IntKind.i64.wrap (code.getD i.toNat default)))) + 11)) 1073741823), (IntKind.i64.wrap (i + 1))))
   else none
  else
   Option.map Sum.inr (
    some (code, 0, h'))
def F_spec_l1New (code : Ls) : Option (Ls × Int × Int) :=
 loopC (F_spec_l1New_l1 code) ((IntKind.i64.wrap (570029 + (code.length : Int))), 0)
theorem c_spec_l1New {code : Ls} {rr : (Ls × Int × Int)} (h : F_spec_l1New code = some rr) : ACalls Tryz.prog 100 [.d (slD 1 (kD .u8) code)] [] 0 fun xx ss => xx = .ptr 27 0 ∧ ss = [(27, .obj 216 [.d (slD 1 (kD .u8) rr.1), .d (iD rr.2.1), .d (iD rr.2.2)])] := by
  delta F_spec_l1New at h
  refine fn100.callsO (vcm_sound ?_)
  delta mc100
  refine stp ?_
  refine m_loopF h [3, 4, 8, 9, 10, 11, 12, 13, 14, 15, 16, 17, 18, 19, 20, 21, 22, 23] (fun pp => [(3, .d (iD pp.1)), (4, .d (iD pp.2))]) (fun pp => []) ?_ ?_
  · try dsimp only
    exact wk
  rintro ⟨h', i⟩ t1 h hb1
  unfold F_spec_l1New_l1 at h
  try dsimp only at h
  refine vcm_sound (stp ?_)
  rcases ite_some h with ⟨hc, h⟩ | ⟨hc, h⟩
  · refine stpc hc ?_
    obtain ⟨hp, h⟩ := need_some h
    repeat (refine need_i (by omega) ?_; refine stp ?_)
    cases h
    refine ⟨_, rfl, ?_⟩
    exact wk
  refine stpc hc ?_
  replace h := inr_some h hb1
  cases h
  exact ⟨[], by simp, don, don⟩
def mc212 : MCode :=
 (.seq (.reg [⟨some 2, .mv (.const (.int .i64 0)), none⟩]) (.seq (.reg [⟨some 4, .mv (.tmp 0), none⟩, ⟨some 5, .mv (.tmp 0), none⟩, ⟨some 6, .nilc (.tmp 5), none⟩, ⟨some 7, .fad 2 (.tmp 6), none⟩, ⟨some 8, .load 1 false (.tmp 7), none⟩, ⟨some 9, .bin .mul (.tmp 8) (.const (.int .i64 6364136223846793005)), none⟩, ⟨some 10, .bin .add (.tmp 9) (.const (.int .i64 1442695040888963407)), none⟩, ⟨some 11, .nilc (.tmp 4), none⟩, ⟨some 12, .fad 2 (.tmp 11), none⟩, ⟨none, .store 1 (.tmp 12) (.tmp 10), none⟩]) (.seq (.draw [⟨some 13, .mv (.tmp 0), none⟩, ⟨some 14, .nilc (.tmp 13), none⟩, ⟨some 15, .fad 2 (.tmp 14), none⟩, ⟨some 16, .load 1 false (.tmp 15), none⟩, ⟨some 17, .bin .shr (.tmp 16) (.const (.int .u64 33)), none⟩, ⟨some 18, .mv (.tmp 0), none⟩, ⟨some 19, .nilc (.tmp 18), none⟩, ⟨some 20, .fad 2 (.tmp 19), none⟩, ⟨some 21, .load 1 false (.tmp 20), none⟩, ⟨some 22, .bin .shr (.tmp 21) (.const (.int .u64 45)), none⟩, ⟨some 23, .bin .xor (.tmp 17) (.tmp 22), none⟩, ⟨some 24, .bin .and (.tmp 23) (.const (.int .i64 255)), none⟩, ⟨some 3, .mv (.tmp 24), none⟩] [[], [0], [1], [2], [3], [], [5], [6], [7], [8], [4, 9], [10], [11, 0, 1, 2, 3, 4, 5, 6, 7, 8, 9, 10, 11]]) (.seq (.seq (.draw [⟨some 25, .mv (.tmp 0), none⟩, ⟨some 26, .nilc (.tmp 25), none⟩, ⟨some 27, .fad 1 (.tmp 26), none⟩, ⟨some 28, .load 1 false (.tmp 27), none⟩, ⟨some 29, .mv (.tmp 0), none⟩, ⟨some 30, .nilc (.tmp 29), none⟩, ⟨some 31, .fad 0 (.tmp 30), none⟩, ⟨some 32, .load 1 false (.tmp 31), none⟩, ⟨some 33, .len (.tmp 32), none⟩, ⟨some 34, .bin .lss (.tmp 28) (.tmp 33), none⟩] [[], [0], [1], [2], [], [4], [5], [6], [7], [3, 8]]) (.cond (.tmp 34) (.seq (.draw [⟨some 35, .mv (.tmp 3), none⟩, ⟨some 36, .mv (.tmp 0), none⟩, ⟨some 37, .nilc (.tmp 36), none⟩, ⟨some 38, .fad 0 (.tmp 37), none⟩, ⟨some 39, .load 1 false (.tmp 38), none⟩, ⟨some 40, .mv (.tmp 0), none⟩, ⟨some 41, .nilc (.tmp 40), none⟩, ⟨some 42, .fad 1 (.tmp 41), none⟩, ⟨some 43, .load 1 false (.tmp 42), none⟩, ⟨some 44, .ixa 1 (.tmp 39) (.tmp 43), none⟩, ⟨some 45, .load 1 false (.tmp 44), none⟩, ⟨some 46, .conv .i64 (.tmp 45), none⟩, ⟨some 47, .bin .add (.tmp 35) (.tmp 46), none⟩, ⟨some 48, .bin .and (.tmp 47) (.const (.int .i64 255)), none⟩, ⟨some 3, .mv (.tmp 48), none⟩] [[], [], [1], [2], [3], [], [5], [6], [7], [4, 8], [9], [10], [0, 11], [12], [13, 0, 1, 2, 3, 4, 5, 6, 7, 8, 9, 10, 11, 12, 13]]) (.reg [⟨some 49, .mv (.tmp 0), none⟩, ⟨some 50, .mv (.tmp 0), none⟩, ⟨some 51, .nilc (.tmp 50), none⟩, ⟨some 52, .fad 1 (.tmp 51), none⟩, ⟨some 53, .load 1 false (.tmp 52), none⟩, ⟨some 54, .bin .add (.tmp 53) (.const (.int .i64 1)), none⟩, ⟨some 55, .nilc (.tmp 49), none⟩, ⟨some 56, .fad 1 (.tmp 55), none⟩, ⟨none, .store 1 (.tmp 56) (.tmp 54), none⟩])) .skip)) (.seq (.reg [⟨some 57, .mv (.tmp 3), none⟩, ⟨some 2, .mv (.tmp 57), none⟩]) .ret)))))
theorem fn212 : MFn Tryz.prog 212 mc212 58 [.tmp 2] :=
  ⟨Tryz.f212, Tryz.func212, by kernel_rfl, Tryz.ntmps212, by kernel_rfl⟩
def F_spec_l1Byte (c0 : Ls) (c1 : Int) (c2 : Int) : Option (Int × Int × Int) :=
 if (decide (c1 < (c0.length : Int))) = true then
  if 0 ≤ c1 ∧ c1 < (c0.length : Int) then
   some ((andI .i64 (IntKind.i64.wrap ((andI .i64 (xorI .i64 (shrI .i64 (IntKind.i64.wrap ((IntKind.i64.wrap (c2 * 6364136223846793005)) + 1442695040888963407)) 33) (shrI .i64 (IntKind.i64.wrap ((IntKind.i64.wrap (c2 * 6364136223846793005)) + 1442695040888963407)) 45)) 255) + (IntKind.i64.wrap (c0.getD c1.toNat default)))) 255), (IntKind.i64.wrap (c1 + 1)), (IntKind.i64.wrap ((IntKind.i64.wrap (c2 * 6364136223846793005)) + 1442695040888963407)))
  else none
 else
  some ((andI .i64 (xorI .i64 (shrI .i64 (IntKind.i64.wrap ((IntKind.i64.wrap (c2 * 6364136223846793005)) + 1442695040888963407)) 33) (shrI .i64 (IntKind.i64.wrap ((IntKind.i64.wrap (c2 * 6364136223846793005)) + 1442695040888963407)) 45)) 255), c1, (IntKind.i64.wrap ((IntKind.i64.wrap (c2 * 6364136223846793005)) + 1442695040888963407)))
theorem c_spec_l1Byte {c0 : Ls} {c1 : Int} {c2 : Int} {rr : (Int × Int × Int)} (h : F_spec_l1Byte c0 c1 c2 = some rr) : ACalls Tryz.prog 212 [.ptr 0 0] [(0, .obj 216 [.d (slD 1 (kD .u8) c0), .d (iD c1), .d (iD c2)])] 1 fun xx ss => xx = .d (iD rr.1) ∧ ss = [(0, .obj 216 [.d (slD 1 (kD .u8) c0), .d (iD rr.2.1), .d (iD rr.2.2)])] := by
  delta F_spec_l1Byte at h
  refine fn212.callsO (vcm_sound ?_)
  delta mc212
  refine stp ?_
  repeat (refine need_i (by omega) ?_; refine stp ?_)
  repeat (refine need_i (by omega) ?_; refine stp ?_)
  refine drQ_of (by kernel_rfl) ?_
  refine stp ?_
  refine drQ_of (by kernel_rfl) ?_
  refine stp ?_
  rcases ite_some h with ⟨hc, h⟩ | ⟨hc, h⟩
  · refine stpc hc ?_
    obtain ⟨hp, h⟩ := need_some h
    repeat (refine need_i (by omega) ?_; refine stp ?_)
    refine drQ_of (by kernel_rfl) ?_
    refine stp ?_
    cases h
    exact ⟨[], by simp, don, don⟩
  refine stpc hc ?_
  cases h
  exact ⟨[], by simp, don, don⟩
def mc105 : MCode :=
 (.seq (.reg [⟨some 4, .mv (.const (.int .i64 0)), none⟩]) (.seq (.seq (.reg [⟨some 9, .mv (.tmp 1), none⟩, ⟨some 10, .bin .leq (.tmp 9) (.const (.int .i64 0)), none⟩]) (.cond (.tmp 10) (.seq (.reg [⟨some 4, .mv (.const (.int .i64 0)), none⟩]) .ret) .skip)) (.seq (.seq (.reg [⟨some 11, .mv (.tmp 1), none⟩, ⟨some 12, .bin .leq (.tmp 11) (.const (.int .i64 256)), none⟩]) (.cond (.tmp 12) (.seq (.reg [⟨some 13, .mv (.tmp 0), none⟩, ⟨some 14, .callf 212 [.tmp 13], none⟩, ⟨some 15, .mv (.tmp 1), none⟩, ⟨some 16, .bin .rem (.tmp 14) (.tmp 15), none⟩, ⟨some 4, .mv (.tmp 16), none⟩]) .ret) .skip)) (.seq (.reg [⟨some 17, .mv (.tmp 0), none⟩, ⟨some 18, .callf 212 [.tmp 17], none⟩, ⟨some 5, .mv (.tmp 18), none⟩]) (.seq (.reg [⟨some 19, .mv (.tmp 0), none⟩, ⟨some 20, .callf 212 [.tmp 19], none⟩, ⟨some 6, .mv (.tmp 20), none⟩]) (.seq (.reg [⟨some 21, .mv (.tmp 0), none⟩, ⟨some 22, .callf 212 [.tmp 21], none⟩, ⟨some 7, .mv (.tmp 22), none⟩]) (.seq (.reg [⟨some 23, .mv (.tmp 0), none⟩, ⟨some 24, .callf 212 [.tmp 23], none⟩, ⟨some 8, .mv (.tmp 24), none⟩]) (.seq (.reg [⟨some 25, .mv (.tmp 5), none⟩, ⟨some 26, .bin .mul (.tmp 25) (.const (.int .i64 16777216)), none⟩, ⟨some 27, .mv (.tmp 6), none⟩, ⟨some 28, .bin .mul (.tmp 27) (.const (.int .i64 65536)), none⟩, ⟨some 29, .bin .add (.tmp 26) (.tmp 28), none⟩, ⟨some 30, .mv (.tmp 7), none⟩, ⟨some 31, .bin .mul (.tmp 30) (.const (.int .i64 256)), none⟩, ⟨some 32, .bin .add (.tmp 29) (.tmp 31), none⟩, ⟨some 33, .mv (.tmp 8), none⟩, ⟨some 34, .bin .add (.tmp 32) (.tmp 33), none⟩, ⟨some 35, .mv (.tmp 1), none⟩, ⟨some 36, .bin .rem (.tmp 34) (.tmp 35), none⟩, ⟨some 4, .mv (.tmp 36), none⟩]) .ret))))))))
theorem fn105 : MFn Tryz.prog 105 mc105 37 [.tmp 4] :=
  ⟨Tryz.f105, Tryz.func105, by kernel_rfl, Tryz.ntmps105, by kernel_rfl⟩
def F_spec_l1Below (n : Int) (c0 : Ls) (c1 : Int) (c2 : Int) : Option (Int × Int × Int) :=
 if (decide (n ≤ 0)) = true then
  some (0, c1, c2)
 else
  if (decide (n ≤ 256)) = true then
   (F_spec_l1Byte c0 c1 c2).bind fun r =>
   if n ≠ 0 then
    some ((r.1.tmod n), r.2.1, r.2.2)
   else none
  else
   (F_spec_l1Byte c0 c1 c2).bind fun r_1 =>
   (F_spec_l1Byte c0 r_1.2.1 r_1.2.2).bind fun r_2 =>
   (F_spec_l1Byte c0 r_2.2.1 r_2.2.2).bind fun r_3 =>
   (F_spec_l1Byte c0 r_3.2.1 r_3.2.2).bind fun r_4 =>
   if n ≠ 0 then
    some (((IntKind.i64.wrap ((IntKind.i64.wrap ((IntKind.i64.wrap ((IntKind.i64.wrap (r_1.1 * 16777216)) + (IntKind.i64.wrap (r_2.1 * 65536)))) + (IntKind.i64.wrap (r_3.1 * 256)))) + r_4.1)).tmod n), r_4.2.1, r_4.2.2)
   else none
theorem c_spec_l1Below {n : Int} {c0 : Ls} {c1 : Int} {c2 : Int} {rr : (Int × Int × Int)} (h : F_spec_l1Below n c0 c1 c2 = some rr) : ACalls Tryz.prog 105 [.ptr 0 0, .d (iD n)] [(0, .obj 216 [.d (slD 1 (kD .u8) c0), .d (iD c1), .d (iD c2)])] 1 fun xx ss => xx = .d (iD rr.1) ∧ ss = [(0, .obj 216 [.d (slD 1 (kD .u8) c0), .d (iD rr.2.1), .d (iD rr.2.2)])] := by
  delta F_spec_l1Below at h
  refine fn105.callsO (vcm_sound ?_)
  delta mc105
  refine stp ?_
  rcases ite_some h with ⟨hc, h⟩ | ⟨hc, h⟩
  · refine stpc hc ?_
    cases h
    exact ⟨[], by simp, don, don⟩
  refine stpc hc ?_
  rcases ite_some h with ⟨hc, h⟩ | ⟨hc, h⟩
  · refine stpc hc ?_
    obtain ⟨r, hr, h⟩ := bind_some h
    refine cRo [(0, 0)] [] (c_spec_l1Byte hr) (stp ?_)
    obtain ⟨hp, h⟩ := need_some h
    repeat (refine need_i (by omega) ?_; refine stp ?_)
    cases h
    exact ⟨[], by simp, don, don⟩
  refine stpc hc ?_
  obtain ⟨r_1, hr_1, h⟩ := bind_some h
  refine cRo [(0, 0)] [] (c_spec_l1Byte hr_1) (stp ?_)
  obtain ⟨r_2, hr_2, h⟩ := bind_some h
  refine cRo [(0, 0)] [] (c_spec_l1Byte hr_2) (stp ?_)
  obtain ⟨r_3, hr_3, h⟩ := bind_some h
  refine cRo [(0, 0)] [] (c_spec_l1Byte hr_3) (stp ?_)
  obtain ⟨r_4, hr_4, h⟩ := bind_some h
  refine cRo [(0, 0)] [] (c_spec_l1Byte hr_4) (stp ?_)
  obtain ⟨hp, h⟩ := need_some h
  repeat (refine need_i (by omega) ?_; refine stp ?_)
  cases h
  exact ⟨[], by simp, don, don⟩
def mc103 : MCode :=
 (.seq (.reg [⟨some 4, .mv (.const (.bool false)), none⟩]) (.seq (.reg [⟨some 5, .mv (.tmp 0), none⟩, ⟨some 6, .mv (.tmp 1), none⟩, ⟨some 7, .callf 105 [.tmp 5, .tmp 6], none⟩, ⟨some 8, .bin .eql (.tmp 7) (.const (.int .i64 0)), none⟩, ⟨some 4, .mv (.tmp 8), none⟩]) .ret))
theorem fn103 : MFn Tryz.prog 103 mc103 9 [.tmp 4] :=
  ⟨Tryz.f103, Tryz.func103, by kernel_rfl, Tryz.ntmps103, by kernel_rfl⟩
def F_spec_l1Once (n : Int) (c0 : Ls) (c1 : Int) (c2 : Int) : Option (Bool × Int × Int) :=
 (F_spec_l1Below n c0 c1 c2).bind fun r =>
 some ((r.1 == 0), r.2.1, r.2.2)
theorem c_spec_l1Once {n : Int} {c0 : Ls} {c1 : Int} {c2 : Int} {rr : (Bool × Int × Int)} (h : F_spec_l1Once n c0 c1 c2 = some rr) : ACalls Tryz.prog 103 [.ptr 0 0, .d (iD n)] [(0, .obj 216 [.d (slD 1 (kD .u8) c0), .d (iD c1), .d (iD c2)])] 1 fun xx ss => xx = .d (bD rr.1) ∧ ss = [(0, .obj 216 [.d (slD 1 (kD .u8) c0), .d (iD rr.2.1), .d (iD rr.2.2)])] := by
  delta F_spec_l1Once at h
  refine fn103.callsO (vcm_sound ?_)
  delta mc103
  refine stp ?_
  obtain ⟨r, hr, h⟩ := bind_some h
  refine cRo [(0, 0)] [] (c_spec_l1Below hr) (stp ?_)
  cases h
  exact ⟨[], by simp, don, don⟩
end
end Go.Proofs.YtcaljngigbfadaaGreat
namespace Go.Proofs.YtcaljngigbfadaaGreat
noncomputable section
open Go Abx
attribute [local irreducible] vcm vgo vdr vrun vdrun MWp GhostQ BrC BrO BrG BrD BrH AmbO callR callD drQ EnvLe StoLe
set_option maxHeartbeats 4000000
def mc296 : MCode :=
 (.seq (.reg [⟨some 2, .alloc 2 43 [.sl 0 (some true) []], none⟩]) (.seq (.reg [⟨some 5, .bsl 5 2 1 [(.const (.int .i64 2)), (.const (.int .i64 1)), (.const (.int .i64 0))], none⟩, ⟨some 6, .build [.sl 0 (some true) []] [(0, 1, .tmp 5)], none⟩, ⟨some 3, .alloc 3 43 [.sl 0 (some true) []], none⟩, ⟨none, .store 1 (.tmp 3) (.tmp 6), none⟩]) (.seq (.seq (.reg [⟨some 7, .mv (.tmp 0), none⟩, ⟨some 8, .callf 103 [.tmp 7, (.const (.int .i64 4))], none⟩]) (.cond (.tmp 8) (.seq (.reg [⟨some 9, .bsl 9 2 1 [(.const (.int .i64 0))], none⟩, ⟨some 10, .build [.sl 0 (some true) []] [(0, 1, .tmp 9)], none⟩, ⟨none, .store 1 (.tmp 3) (.tmp 10), none⟩]) (.seq (.reg [⟨some 11, .mv (.tmp 0), none⟩, ⟨some 12, .callf 105 [.tmp 11, (.const (.int .i64 4))], none⟩, ⟨some 4, .mv (.tmp 12), none⟩]) (.block 0 (.loop (.seq (.seq (.reg [⟨some 13, .mv (.tmp 4), none⟩, ⟨some 14, .bin .gtr (.tmp 13) (.const (.int .i64 0)), none⟩]) (.cond (.tmp 14) .skip (.exit 0))) (.seq (.block 1 (.draw [⟨some 17, .fad 0 (.tmp 3), none⟩, ⟨some 18, .load 1 false (.tmp 17), none⟩, ⟨some 19, .mv (.tmp 0), none⟩, ⟨some 20, .callf 105 [.tmp 19, (.const (.int .i64 3))], none⟩, ⟨some 21, .bsl 21 2 1 [.tmp 20], none⟩, ⟨some 22, .app 22 2 1 8 (.tmp 18) (.tmp 21), none⟩, ⟨some 23, .fad 0 (.tmp 3), none⟩, ⟨none, .store 1 (.tmp 23) (.tmp 22), none⟩] [[], [0], [], [2], [3], [1, 4, 3], [0, 1, 2, 3, 4, 5], [6, 5, 5, 0, 1, 2, 3, 4, 5]])) (.reg [⟨some 15, .mv (.tmp 4), none⟩, ⟨some 16, .bin .sub (.tmp 15) (.const (.int .i64 1)), none⟩, ⟨some 4, .mv (.tmp 16), none⟩]))))))) .skip)) (.seq (.reg [⟨some 24, .load 1 true (.tmp 3), none⟩, ⟨none, .store 1 (.tmp 2) (.tmp 24), none⟩]) .ret))))
theorem fn296 : MFn Tryz.prog 296 mc296 25 [.cell 2 1 true] :=
  ⟨Tryz.f296, Tryz.func296, by kernel_rfl, Tryz.ntmps296, by kernel_rfl⟩
def F_spec_l1DrawSig_l1 (c0 : Ls) : (Int × Int × Int × Ls) → Option ((Int × Int × Int × Ls) ⊕ (Ls × Int × Int))
 | (n, c, c_1, sig) =>
  if (decide (0 < n)) = true then
   (F_spec_l1Below 3 c0 c c_1).bind fun r_2 =>
   if (sig.length + 1) * 8 ≤ 140737488355328 then
    some (.inl ((IntKind.i64.wrap (n - 1)), r_2.2.1, r_2.2.2, (sig ++ [r_2.1])))
   else none
  else
   Option.map Sum.inr (
    some (sig, c, c_1))
def F_spec_l1DrawSig (c0 : Ls) (c1 : Int) (c2 : Int) : Option (Ls × Int × Int) :=
 (F_spec_l1Once 4 c0 c1 c2).bind fun r =>
 if r.1 = true then
  (F_spec_l1Below 4 c0 r.2.1 r.2.2).bind fun r_1 =>
  loopC (F_spec_l1DrawSig_l1 c0) (r_1.1, r_1.2.1, r_1.2.2, [0])
 else
  some ([2, 1, 0], r.2.1, r.2.2)
theorem c_spec_l1DrawSig {c0 : Ls} {c1 : Int} {c2 : Int} {rr : (Ls × Int × Int)} (h : F_spec_l1DrawSig c0 c1 c2 = some rr) : ACalls Tryz.prog 296 [.ptr 0 0] [(0, .obj 216 [.d (slD 1 (kD .u8) c0), .d (iD c1), .d (iD c2)])] 1 fun xx ss => xx = .d (.agg [slD 1 iD rr.1]) ∧ ss = [(0, .obj 216 [.d (slD 1 (kD .u8) c0), .d (iD rr.2.1), .d (iD rr.2.2)])] := by
  delta F_spec_l1DrawSig at h
  refine fn296.callsO (vcm_sound ?_)
  delta mc296
  refine stp ?_
  obtain ⟨r, hr, h⟩ := bind_some h
  refine cRo [(0, 0)] [] (c_spec_l1Once hr) (stp ?_)
  rcases ite_some h with ⟨hc, h⟩ | ⟨hc, h⟩
  · refine stpc hc ?_
    obtain ⟨r_1, hr_1, h⟩ := bind_some h
    refine cRo [(0, 0)] [] (c_spec_l1Below hr_1) (stp ?_)
    refine m_loopF h [4, 13, 14, 15, 16, 17, 18, 19, 20, 21, 22, 23] (fun pp => [(4, .d (iD pp.1))]) (fun pp => [(0, .obj 216 [.d (slD 1 (kD .u8) c0), .d (iD pp.2.1), .d (iD pp.2.2.1)]), (2, .obj 43 [.d (.sl 0 (some true) [])]), (3, .obj 43 [.own 1 9 (List.map iD pp.2.2.2)]), (5, .tok 2 1 3), (9, .tok 2 1 pp.2.2.2.length)]) ?_ ?_
    · try dsimp only
      exact wk
    rintro ⟨n, c, c_1, sig⟩ t1 h hb1
    unfold F_spec_l1DrawSig_l1 at h
    try dsimp only at h
    refine vcm_sound (stp ?_)
    rcases ite_some h with ⟨hc, h⟩ | ⟨hc, h⟩
    · refine stpc hc ?_
      obtain ⟨r_2, hr_2, h⟩ := bind_some h
      refine cDo [(0, 0)] [] (c_spec_l1Below hr_2) (stp ?_)
      obtain ⟨hp, h⟩ := need_some h
      repeat (refine need_i (by omega) ?_; refine stp ?_)
      refine drQ_of (by kernel_rfl) ?_
      refine stp ?_
      cases h
      refine ⟨_, rfl, ?_⟩
      refine (Weak.drop 21 (by omega)).trans ?_
      exact wk
    refine stpc hc ?_
    replace h := inr_some h hb1
    cases h
    exact ⟨[2, 3, 5, 9], by simp, don, don⟩
  refine stpc hc ?_
  cases h
  exact ⟨[2, 3, 5], by simp, don, don⟩
end
end Go.Proofs.YtcaljngigbfadaaGreat
namespace Go.Proofs.YtcaljngigbfadaaGreat
noncomputable section
open Go Abx
attribute [local irreducible] vcm vgo vdr vrun vdrun MWp GhostQ BrC BrO BrG BrD BrH AmbO callR callD drQ EnvLe StoLe
set_option maxHeartbeats 4000000
def mc298 : MCode :=
 (.seq (.reg [⟨some 5, .box 5 43 (.tmp 1), none⟩, ⟨some 8, .mv (.const (.slice none 0 0)), none⟩]) (.seq (.seq (.reg [⟨some 13, .mv (.tmp 2), none⟩, ⟨some 14, .bin .leq (.tmp 13) (.const (.int .i64 1)), none⟩, ⟨some 15, .mv (.tmp 14), none⟩, ⟨some 16, .mv (.tmp 0), (some (some 15, false))⟩, ⟨some 17, .callf 103 [.tmp 16, (.const (.int .i64 4))], (some (some 15, false))⟩, ⟨some 18, .pick (.tmp 15) (.const (.bool true)) (.tmp 17), none⟩]) (.cond (.tmp 18) (.seq (.seq (.reg [⟨some 19, .mv (.tmp 3), none⟩, ⟨some 20, .bin .gtr (.tmp 19) (.const (.int .i64 0)), none⟩, ⟨some 21, .mv (.tmp 20), none⟩, ⟨some 22, .mv (.tmp 0), (some (some 21, true))⟩, ⟨some 23, .callf 103 [.tmp 22, (.const (.int .i64 2))], (some (some 21, true))⟩, ⟨some 24, .pick (.tmp 21) (.tmp 23) (.const (.bool false)), none⟩]) (.cond (.tmp 24) (.seq (.reg [⟨some 25, .mv (.tmp 0), none⟩, ⟨some 26, .mv (.tmp 3), none⟩, ⟨some 27, .callf 105 [.tmp 25, .tmp 26], none⟩, ⟨some 28, .bin .sub (.const (.int .i64 (-1))) (.tmp 27), none⟩, ⟨some 29, .bsl 29 2 1 [.tmp 28], none⟩, ⟨some 8, .mv (.tmp 29), none⟩]) .ret) .skip)) (.seq (.seq (.reg [⟨some 30, .fad 0 (.tmp 5), none⟩, ⟨some 31, .load 1 false (.tmp 30), none⟩, ⟨some 32, .len (.tmp 31), none⟩, ⟨some 33, .bin .sub (.tmp 32) (.const (.int .i64 1)), none⟩, ⟨some 9, .mv (.tmp 33), none⟩]) (.block 0 (.loop (.seq (.seq (.reg [⟨some 34, .mv (.tmp 9), none⟩, ⟨some 35, .bin .geq (.tmp 34) (.const (.int .i64 0)), none⟩]) (.cond (.tmp 35) .skip (.exit 0))) (.seq (.block 1 (.seq (.reg [⟨some 38, .fad 0 (.tmp 5), none⟩, ⟨some 39, .load 1 false (.tmp 38), none⟩, ⟨some 40, .mv (.tmp 9), none⟩, ⟨some 41, .ixa 1 (.tmp 39) (.tmp 40), none⟩, ⟨some 42, .load 1 false (.tmp 41), none⟩, ⟨some 43, .bin .eql (.tmp 42) (.const (.int .i64 0)), none⟩]) (.cond (.tmp 43) (.seq (.reg [⟨some 44, .mv (.tmp 9), none⟩, ⟨some 45, .bsl 45 2 1 [.tmp 44], none⟩, ⟨some 8, .mv (.tmp 45), none⟩]) .ret) .skip))) (.reg [⟨some 36, .mv (.tmp 9), none⟩, ⟨some 37, .bin .sub (.tmp 36) (.const (.int .i64 1)), none⟩, ⟨some 9, .mv (.tmp 37), none⟩])))))) (.seq (.reg [⟨some 46, .bsl 46 2 1 [(.const (.int .i64 (-1)))], none⟩, ⟨some 8, .mv (.tmp 46), none⟩]) .ret))) .skip)) (.seq (.reg [⟨some 47, .mv (.tmp 0), none⟩, ⟨some 48, .fad 0 (.tmp 5), none⟩, ⟨some 49, .load 1 false (.tmp 48), none⟩, ⟨some 50, .len (.tmp 49), none⟩, ⟨some 51, .callf 105 [.tmp 47, .tmp 50], none⟩, ⟨some 10, .mv (.tmp 51), none⟩]) (.seq (.reg [⟨some 52, .mv (.tmp 10), none⟩, ⟨some 53, .bsl 53 2 1 [.tmp 52], none⟩, ⟨some 11, .mv (.tmp 53), none⟩]) (.seq (.seq (.reg [⟨some 54, .fad 0 (.tmp 5), none⟩, ⟨some 55, .load 1 false (.tmp 54), none⟩, ⟨some 56, .mv (.tmp 10), none⟩, ⟨some 57, .ixa 1 (.tmp 55) (.tmp 56), none⟩, ⟨some 58, .load 1 false (.tmp 57), none⟩, ⟨some 12, .mv (.tmp 58), none⟩]) (.block 2 (.loop (.seq (.seq (.reg [⟨some 59, .mv (.tmp 12), none⟩, ⟨some 60, .bin .gtr (.tmp 59) (.const (.int .i64 0)), none⟩]) (.cond (.tmp 60) .skip (.exit 2))) (.seq (.block 3 (.reg [⟨some 63, .mv (.tmp 11), none⟩, ⟨some 64, .mv (.tmp 0), none⟩, ⟨some 65, .load 1 true (.tmp 5), none⟩, ⟨some 66, .mv (.tmp 2), none⟩, ⟨some 67, .bin .sub (.tmp 66) (.const (.int .i64 1)), none⟩, ⟨some 68, .mv (.tmp 3), none⟩, ⟨some 69, .callf 298 [.tmp 64, .tmp 65, .tmp 67, .tmp 68], none⟩, ⟨some 70, .app 70 2 1 8 (.tmp 63) (.tmp 69), none⟩, ⟨some 11, .mv (.tmp 70), none⟩])) (.reg [⟨some 61, .mv (.tmp 12), none⟩, ⟨some 62, .bin .sub (.tmp 61) (.const (.int .i64 1)), none⟩, ⟨some 12, .mv (.tmp 62), none⟩])))))) (.seq (.reg [⟨some 71, .mv (.tmp 11), none⟩, ⟨some 8, .mv (.tmp 71), none⟩]) .ret))))))
theorem fn298 : MFn Tryz.prog 298 mc298 72 [.tmp 8] :=
  ⟨Tryz.f298, Tryz.func298, by kernel_rfl, Tryz.ntmps298, by kernel_rfl⟩
def F_spec_l1DrawTerm_l1 (sig : Ls) (r : (Bool × Int × Int)) : Int → Option (Int ⊕ (Ls × Int × Int))
 | f =>
  if (decide (0 ≤ f)) = true then
   if 0 ≤ f ∧ f < (sig.length : Int) then
    if ((sig.getD f.toNat default) == 0) = true then
     Option.map Sum.inr (
      some ([f], r.2.1, r.2.2))
    else
     some (.inl (IntKind.i64.wrap (f - 1)))
   else none
  else
   Option.map Sum.inr (
    some ([(-1)], r.2.1, r.2.2))
def F_spec_l1DrawTerm_l2 (sig : Ls) (c1 : Int) (c2 : Int) : Int → Option (Int ⊕ (Ls × Int × Int))
 | f_1 =>
  if (decide (0 ≤ f_1)) = true then
   if 0 ≤ f_1 ∧ f_1 < (sig.length : Int) then
    if ((sig.getD f_1.toNat default) == 0) = true then
     Option.map Sum.inr (
      some ([f_1], c1, c2))
    else
     some (.inl (IntKind.i64.wrap (f_1 - 1)))
   else none
  else
   Option.map Sum.inr (
    some ([(-1)], c1, c2))
def F_spec_l1DrawTerm_l3 (sig : Ls) (r_3 : (Bool × Int × Int)) : Int → Option (Int ⊕ (Ls × Int × Int))
 | f_2 =>
  if (decide (0 ≤ f_2)) = true then
   if 0 ≤ f_2 ∧ f_2 < (sig.length : Int) then
    if ((sig.getD f_2.toNat default) == 0) = true then
     Option.map Sum.inr (
      some ([f_2], r_3.2.1, r_3.2.2))
    else
     some (.inl (IntKind.i64.wrap (f_2 - 1)))
   else none
  else
   Option.map Sum.inr (
    some ([(-1)], r_3.2.1, r_3.2.2))
def F_spec_l1DrawTerm_l4 (sig : Ls) (r_2 : (Bool × Int × Int)) : Int → Option (Int ⊕ (Ls × Int × Int))
 | f_3 =>
  if (decide (0 ≤ f_3)) = true then
   if 0 ≤ f_3 ∧ f_3 < (sig.length : Int) then
    if ((sig.getD f_3.toNat default) == 0) = true then
     Option.map Sum.inr (
      some ([f_3], r_2.2.1, r_2.2.2))
    else
     some (.inl (IntKind.i64.wrap (f_3 - 1)))
   else none
  else
   Option.map Sum.inr (
    some ([(-1)], r_2.2.1, r_2.2.2))
def F_spec_l1DrawTerm_l5 (rec : Ls → Int → Int → Ls → Int → Int → Option (Ls × Int × Int)) (sig : Ls) (depth : Int) (vars : Int) (c0 : Ls) : (Ls × Int × Int × Int) → Option ((Ls × Int × Int × Int) ⊕ (Ls × Int × Int))
 | (out, k, c, c_1) =>
  if (decide (0 < k)) = true then
   (rec sig (IntKind.i64.wrap (depth - 1)) vars c0 c c_1).bind fun r_6 =>
   if (out.length + r_6.1.length) * 8 ≤ 140737488355328 then
    some (.inl ((out ++ r_6.1), (IntKind.i64.wrap (k - 1)), r_6.2.1, r_6.2.2))
   else none
  else
   Option.map Sum.inr (
    some (out, c, c_1))
def F_spec_l1DrawTerm : Nat → Ls → Int → Int → Ls → Int → Int → Option (Ls × Int × Int)
 | 0, _, _, _, _, _, _ => none
 | fu + 1, sig, depth, vars, c0, c1, c2 =>
  if (decide (depth ≤ 1)) = true then
   if (decide (0 < vars)) = true then
    (F_spec_l1Once 2 c0 c1 c2).bind fun r =>
    if r.1 = true then
     (F_spec_l1Below vars c0 r.2.1 r.2.2).bind fun r_1 =>
     some ([(IntKind.i64.wrap ((-1) - r_1.1))], r_1.2.1, r_1.2.2)
    else
     loopC (F_spec_l1DrawTerm_l1 sig r) (IntKind.i64.wrap ((sig.length : Int) - 1))
   else
    loopC (F_spec_l1DrawTerm_l2 sig c1 c2) (IntKind.i64.wrap ((sig.length : Int) - 1))
  else
   (F_spec_l1Once 4 c0 c1 c2).bind fun r_2 =>
   if r_2.1 = true then
    if (decide (0 < vars)) = true then
     (F_spec_l1Once 2 c0 r_2.2.1 r_2.2.2).bind fun r_3 =>
     if r_3.1 = true then
      (F_spec_l1Below vars c0 r_3.2.1 r_3.2.2).bind fun r_4 =>
      some ([(IntKind.i64.wrap ((-1) - r_4.1))], r_4.2.1, r_4.2.2)
     else
      loopC (F_spec_l1DrawTerm_l3 sig r_3) (IntKind.i64.wrap ((sig.length : Int) - 1))
    else
     loopC (F_spec_l1DrawTerm_l4 sig r_2) (IntKind.i64.wrap ((sig.length : Int) - 1))
   else
    (F_spec_l1Below (sig.length : Int) c0 r_2.2.1 r_2.2.2).bind fun r_5 =>
    if 0 ≤ r_5.1 ∧ r_5.1 < (sig.length : Int) then
     loopC (F_spec_l1DrawTerm_l5 (F_spec_l1DrawTerm fu) sig depth vars c0) ([r_5.1], (sig.getD r_5.1.toNat default), r_5.2.1, r_5.2.2)
    else none
def F_spec_l1DrawTerm_all (sig : Ls) (depth : Int) (vars : Int) (c0 : Ls) (c1 : Int) (c2 : Int) : Option (Ls × Int × Int) := limO fun fu => F_spec_l1DrawTerm fu sig depth vars c0 c1 c2
theorem c_spec_l1DrawTerm : ∀ {fu : Nat} {sig : Ls} {depth : Int} {vars : Int} {c0 : Ls} {c1 : Int} {c2 : Int} {rr : (Ls × Int × Int)} (h : F_spec_l1DrawTerm fu sig depth vars c0 c1 c2 = some rr), ACalls Tryz.prog 298 [.ptr 0 0, .d (.agg [slD 1 iD sig]), .d (iD depth), .d (iD vars)] [(0, .obj 216 [.d (slD 1 (kD .u8) c0), .d (iD c1), .d (iD c2)])] 1 fun xx ss => xx = .d (slD 1 iD rr.1) ∧ ss = [(0, .obj 216 [.d (slD 1 (kD .u8) c0), .d (iD rr.2.1), .d (iD rr.2.2)])]
  | 0, _, _, _, _, _, _, _, h => by cases h
  | fu + 1, sig, depth, vars, c0, c1, c2, rr, h => by
    have ih := @c_spec_l1DrawTerm fu
    unfold F_spec_l1DrawTerm at h
    refine fn298.callsO (vcm_sound ?_)
    delta mc298
    refine stp ?_
    rcases ite_some h with ⟨hc, h⟩ | ⟨hc, h⟩
    · refine stpc hc ?_
      rcases ite_some h with ⟨hc, h⟩ | ⟨hc, h⟩
      · refine stpc hc ?_
        obtain ⟨r, hr, h⟩ := bind_some h
        refine cRo [(0, 0)] [] (c_spec_l1Once hr) (stp ?_)
        rcases ite_some h with ⟨hc, h⟩ | ⟨hc, h⟩
        · refine stpc hc ?_
          obtain ⟨r_1, hr_1, h⟩ := bind_some h
          refine cRo [(0, 0)] [] (c_spec_l1Below hr_1) (stp ?_)
          cases h
          exact ⟨[5, 29], by simp, don, don⟩
        refine stpc hc ?_
        refine m_loopF h [8, 9, 34, 35, 36, 37, 38, 39, 40, 41, 42, 43, 44, 45] (fun pp => [(9, .d (iD pp))]) (fun pp => [(0, .obj 216 [.d (slD 1 (kD .u8) c0), .d (iD r.2.1), .d (iD r.2.2)]), (5, .obj 43 [.d (slD 1 iD sig)])]) ?_ ?_
        · try dsimp only
          exact wk
        rintro f t1 h hb1
        unfold F_spec_l1DrawTerm_l1 at h
        try dsimp only at h
        refine vcm_sound (stp ?_)
        rcases ite_some h with ⟨hc, h⟩ | ⟨hc, h⟩
        · refine stpc hc ?_
          obtain ⟨hp, h⟩ := need_some h
          repeat (refine need_i (by omega) ?_; refine stp ?_)
          rcases ite_some h with ⟨hc, h⟩ | ⟨hc, h⟩
          · refine stpc hc ?_
            replace h := inr_some h hb1
            cases h
            exact ⟨[5, 45], by simp, don, don⟩
          refine stpc hc ?_
          cases h
          refine ⟨_, rfl, ?_⟩
          exact wk
        refine stpc hc ?_
        replace h := inr_some h hb1
        cases h
        exact ⟨[5, 46], by simp, don, don⟩
      refine stpc hc ?_
      refine m_loopF h [8, 9, 34, 35, 36, 37, 38, 39, 40, 41, 42, 43, 44, 45] (fun pp => [(9, .d (iD pp))]) (fun pp => [(0, .obj 216 [.d (slD 1 (kD .u8) c0), .d (iD c1), .d (iD c2)]), (5, .obj 43 [.d (slD 1 iD sig)])]) ?_ ?_
      · try dsimp only
        exact wk
      rintro f_1 t1 h hb1
      unfold F_spec_l1DrawTerm_l2 at h
      try dsimp only at h
      refine vcm_sound (stp ?_)
      rcases ite_some h with ⟨hc, h⟩ | ⟨hc, h⟩
      · refine stpc hc ?_
        obtain ⟨hp, h⟩ := need_some h
        repeat (refine need_i (by omega) ?_; refine stp ?_)
        rcases ite_some h with ⟨hc, h⟩ | ⟨hc, h⟩
        · refine stpc hc ?_
          replace h := inr_some h hb1
          cases h
          exact ⟨[5, 45], by simp, don, don⟩
        refine stpc hc ?_
        cases h
        refine ⟨_, rfl, ?_⟩
        exact wk
      refine stpc hc ?_
      replace h := inr_some h hb1
      cases h
      exact ⟨[5, 46], by simp, don, don⟩
    refine stpc hc ?_
    obtain ⟨r_2, hr_2, h⟩ := bind_some h
    refine cRo [(0, 0)] [] (c_spec_l1Once hr_2) (stp ?_)
    rcases ite_some h with ⟨hc, h⟩ | ⟨hc, h⟩
    · refine stpc hc ?_
      rcases ite_some h with ⟨hc, h⟩ | ⟨hc, h⟩
      · refine stpc hc ?_
        obtain ⟨r_3, hr_3, h⟩ := bind_some h
        refine cRo [(0, 0)] [] (c_spec_l1Once hr_3) (stp ?_)
        rcases ite_some h with ⟨hc, h⟩ | ⟨hc, h⟩
        · refine stpc hc ?_
          obtain ⟨r_4, hr_4, h⟩ := bind_some h
          refine cRo [(0, 0)] [] (c_spec_l1Below hr_4) (stp ?_)
          cases h
          exact ⟨[5, 29], by simp, don, don⟩
        refine stpc hc ?_
        refine m_loopF h [8, 9, 34, 35, 36, 37, 38, 39, 40, 41, 42, 43, 44, 45] (fun pp => [(9, .d (iD pp))]) (fun pp => [(0, .obj 216 [.d (slD 1 (kD .u8) c0), .d (iD r_3.2.1), .d (iD r_3.2.2)]), (5, .obj 43 [.d (slD 1 iD sig)])]) ?_ ?_
        · try dsimp only
          exact wk
        rintro f_2 t1 h hb1
        unfold F_spec_l1DrawTerm_l3 at h
        try dsimp only at h
        refine vcm_sound (stp ?_)
        rcases ite_some h with ⟨hc, h⟩ | ⟨hc, h⟩
        · refine stpc hc ?_
          obtain ⟨hp, h⟩ := need_some h
          repeat (refine need_i (by omega) ?_; refine stp ?_)
          rcases ite_some h with ⟨hc, h⟩ | ⟨hc, h⟩
          · refine stpc hc ?_
            replace h := inr_some h hb1
            cases h
            exact ⟨[5, 45], by simp, don, don⟩
          refine stpc hc ?_
          cases h
          refine ⟨_, rfl, ?_⟩
          exact wk
        refine stpc hc ?_
        replace h := inr_some h hb1
        cases h
        exact ⟨[5, 46], by simp, don, don⟩
      refine stpc hc ?_
      refine m_loopF h [8, 9, 34, 35, 36, 37, 38, 39, 40, 41, 42, 43, 44, 45] (fun pp => [(9, .d (iD pp))]) (fun pp => [(0, .obj 216 [.d (slD 1 (kD .u8) c0), .d (iD r_2.2.1), .d (iD r_2.2.2)]), (5, .obj 43 [.d (slD 1 iD sig)])]) ?_ ?_
      · try dsimp only
        exact wk
      rintro f_3 t1 h hb1
      unfold F_spec_l1DrawTerm_l4 at h
      try dsimp only at h
      refine vcm_sound (stp ?_)
      rcases ite_some h with ⟨hc, h⟩ | ⟨hc, h⟩
      · refine stpc hc ?_
        obtain ⟨hp, h⟩ := need_some h
        repeat (refine need_i (by omega) ?_; refine stp ?_)
        rcases ite_some h with ⟨hc, h⟩ | ⟨hc, h⟩
        · refine stpc hc ?_
          replace h := inr_some h hb1
          cases h
          exact ⟨[5, 45], by simp, don, don⟩
        refine stpc hc ?_
        cases h
        refine ⟨_, rfl, ?_⟩
        exact wk
      refine stpc hc ?_
      replace h := inr_some h hb1
      cases h
      exact ⟨[5, 46], by simp, don, don⟩
    refine stpc hc ?_
    obtain ⟨r_5, hr_5, h⟩ := bind_some h
    refine cRo [(0, 0)] [] (c_spec_l1Below hr_5) (stp ?_)
    obtain ⟨hp, h⟩ := need_some h
    repeat (refine need_i (by omega) ?_; refine stp ?_)
    refine m_loopF h [11, 12, 59, 60, 61, 62, 63, 64, 65, 66, 67, 68, 69, 70] (fun pp => [(11, .own 1 53 (List.map iD pp.1)), (12, .d (iD pp.2.1))]) (fun pp => [(0, .obj 216 [.d (slD 1 (kD .u8) c0), .d (iD pp.2.2.1), .d (iD pp.2.2.2)]), (5, .obj 43 [.d (slD 1 iD sig)]), (53, .tok 2 1 pp.1.length)]) ?_ ?_
    · try dsimp only
      exact wk
    rintro ⟨out, k, c, c_1⟩ t1 h hb1
    unfold F_spec_l1DrawTerm_l5 at h
    try dsimp only at h
    refine vcm_sound (stp ?_)
    rcases ite_some h with ⟨hc, h⟩ | ⟨hc, h⟩
    · refine stpc hc ?_
      obtain ⟨r_6, hr_6, h⟩ := bind_some h
      refine cRo [(0, 0)] [] (ih hr_6) (stp ?_)
      obtain ⟨hp, h⟩ := need_some h
      repeat (refine need_i (by omega) ?_; refine stp ?_)
      cases h
      refine ⟨_, rfl, ?_⟩
      exact wk
    refine stpc hc ?_
    replace h := inr_some h hb1
    cases h
    exact ⟨[5, 53], by simp, don, don⟩
theorem c_spec_l1DrawTerm_all {sig : Ls} {depth : Int} {vars : Int} {c0 : Ls} {c1 : Int} {c2 : Int} {rr : (Ls × Int × Int)} (h : F_spec_l1DrawTerm_all sig depth vars c0 c1 c2 = some rr) : ACalls Tryz.prog 298 [.ptr 0 0, .d (.agg [slD 1 iD sig]), .d (iD depth), .d (iD vars)] [(0, .obj 216 [.d (slD 1 (kD .u8) c0), .d (iD c1), .d (iD c2)])] 1 fun xx ss => xx = .d (slD 1 iD rr.1) ∧ ss = [(0, .obj 216 [.d (slD 1 (kD .u8) c0), .d (iD rr.2.1), .d (iD rr.2.2)])] := c_spec_l1DrawTerm (limO_some h).choose_spec
end
end Go.Proofs.YtcaljngigbfadaaGreat
namespace Go.Proofs.YtcaljngigbfadaaGreat
noncomputable section
open Go Abx
attribute [local irreducible] vcm vgo vdr vrun vdrun MWp GhostQ BrC BrO BrG BrD BrH AmbO callR callD drQ EnvLe StoLe
set_option maxHeartbeats 4000000
def mc325 : MCode :=
 (.seq (.reg [⟨some 2, .mv (.const (.slice none 0 0)), none⟩]) (.seq (.reg [⟨some 5, .bsl 5 2 1 [], none⟩, ⟨some 3, .mv (.tmp 5), none⟩]) (.seq (.seq (.reg [⟨some 4, .mv (.const (.int .i64 0)), none⟩]) (.block 0 (.loop (.seq (.seq (.reg [⟨some 6, .mv (.tmp 4), none⟩, ⟨some 7, .mv (.tmp 0), none⟩, ⟨some 8, .len (.tmp 7), none⟩, ⟨some 9, .bin .lss (.tmp 6) (.tmp 8), none⟩]) (.cond (.tmp 9) .skip (.exit 0))) (.seq (.block 1 (.seq (.reg [⟨some 12, .mv (.tmp 0), none⟩, ⟨some 13, .mv (.tmp 4), none⟩, ⟨some 14, .ixa 1 (.tmp 12) (.tmp 13), none⟩, ⟨some 15, .load 1 false (.tmp 14), none⟩, ⟨some 16, .bin .lss (.tmp 15) (.const (.int .i64 0)), none⟩, ⟨some 17, .mv (.tmp 16), none⟩, ⟨some 18, .mv (.tmp 3), (some (some 17, true))⟩, ⟨some 19, .mv (.tmp 0), (some (some 17, true))⟩, ⟨some 20, .mv (.tmp 4), (some (some 17, true))⟩, ⟨some 21, .ixa 1 (.tmp 19) (.tmp 20), (some (some 17, true))⟩, ⟨some 22, .load 1 false (.tmp 21), (some (some 17, true))⟩, ⟨some 23, .callf 286 [.tmp 18, .tmp 22], (some (some 17, true))⟩, ⟨some 24, .un .not (.tmp 23), (some (some 17, true))⟩, ⟨some 25, .pick (.tmp 17) (.tmp 24) (.const (.bool false)), none⟩]) (.cond (.tmp 25) (.reg [⟨some 26, .mv (.tmp 3), none⟩, ⟨some 27, .mv (.tmp 0), none⟩, ⟨some 28, .mv (.tmp 4), none⟩, ⟨some 29, .ixa 1 (.tmp 27) (.tmp 28), none⟩, ⟨some 30, .load 1 false (.tmp 29), none⟩, ⟨some 31, .bsl 31 2 1 [.tmp 30], none⟩, ⟨some 32, .app 32 2 1 8 (.tmp 26) (.tmp 31), none⟩, ⟨some 3, .mv (.tmp 32), none⟩]) .skip))) (.reg [⟨some 10, .mv (.tmp 4), none⟩, ⟨some 11, .bin .add (.tmp 10) (.const (.int .i64 1)), none⟩, ⟨some 4, .mv (.tmp 11), none⟩])))))) (.seq (.reg [⟨some 33, .mv (.tmp 3), none⟩, ⟨some 2, .mv (.tmp 33), none⟩]) .ret))))
theorem fn325 : MFn Tryz.prog 325 mc325 34 [.tmp 2] :=
  ⟨Tryz.f325, Tryz.func325, by kernel_rfl, Tryz.ntmps325, by kernel_rfl⟩
def F_spec_l2Order_l1 (t : Ls) : (Ls × Int) → Option ((Ls × Int) ⊕ Ls)
 | (out, i) =>
  if (decide (i < (t.length : Int))) = true then
   if 0 ≤ i ∧ i < (t.length : Int) then
    if (decide ((t.getD i.toNat default) < 0)) = true then
     if 0 ≤ i ∧ i < (t.length : Int) then
      (F_spec_l1Has out (t.getD i.toNat default)).bind fun r =>
      if r = true then
       some (.inl (out, (IntKind.i64.wrap (i + 1))))
      else
       if 0 ≤ i ∧ i < (t.length : Int) then
        if (out.length + 1) * 8 ≤ 140737488355328 then
         some (.inl ((out ++ [(t.getD i.toNat default)]), (IntKind.i64.wrap (i + 1))))
        else none
       else none
     else none
    else
     some (.inl (out, (IntKind.i64.wrap (i + 1))))
   else none
  else
   Option.map Sum.inr (
    some out)
def F_spec_l2Order (t : Ls) : Option Ls :=
 loopC (F_spec_l2Order_l1 t) ([], 0)
theorem c_spec_l2Order {t : Ls} {rr : Ls} (h : F_spec_l2Order t = some rr) : PFun Tryz.prog 325 [(slD 1 iD) t] ((slD 1 iD) rr) := by
  delta F_spec_l2Order at h
  refine fn325.pureL (vcm_sound ?_)
  delta mc325
  refine stp ?_
  refine m_loopF h [3, 4, 6, 7, 8, 9, 10, 11, 12, 13, 14, 15, 16, 17, 18, 19, 20, 21, 22, 23, 24, 25, 26, 27, 28, 29, 30, 31, 32] (fun pp => [(3, .own 1 5 (List.map iD pp.1)), (4, .d (iD pp.2))]) (fun pp => [(5, .tok 2 1 pp.1.length)]) ?_ ?_
  · try dsimp only
    exact wk
  rintro ⟨out, i⟩ t1 h hb1
  unfold F_spec_l2Order_l1 at h
  try dsimp only at h
  refine vcm_sound (stp ?_)
  rcases ite_some h with ⟨hc, h⟩ | ⟨hc, h⟩
  · refine stpc hc ?_
    obtain ⟨hp, h⟩ := need_some h
    repeat (refine need_i (by omega) ?_; refine stp ?_)
    rcases ite_some h with ⟨hc, h⟩ | ⟨hc, h⟩
    · refine stpc hc ?_
      obtain ⟨hp, h⟩ := need_some h
      repeat (refine need_i (by omega) ?_; refine stp ?_)
      obtain ⟨r, hr, h⟩ := bind_some h
      refine cR (c_spec_l1Has hr) (stp ?_)
      rcases ite_some h with ⟨hc, h⟩ | ⟨hc, h⟩
      · refine stpc hc ?_
        cases h
        refine ⟨_, rfl, ?_⟩
        exact wk
      refine stpc hc ?_
      obtain ⟨hp, h⟩ := need_some h
      repeat (refine need_i (by omega) ?_; refine stp ?_)
      obtain ⟨hp, h⟩ := need_some h
      repeat (refine need_i (by omega) ?_; refine stp ?_)
      cases h
      refine ⟨_, rfl, ?_⟩
      refine (Weak.drop 31 (by omega)).trans ?_
      exact wk
    refine stpc hc ?_
    cases h
    refine ⟨_, rfl, ?_⟩
    exact wk
  refine stpc hc ?_
  replace h := inr_some h hb1
  cases h
  exact don
def mc298_spec_l1DrawTerm_s1 : MCode :=
  (.seq (.reg [⟨(some 5), .box 5 43 (.tmp 1), none⟩,
    ⟨(some 8), .mv (.const (.slice none 0 0)), none⟩])
  (.seq (.seq (.reg [⟨(some 13), .mv (.tmp 2), none⟩,
    ⟨(some 14), .bin .leq (.tmp 13) (.const (.int .i64 1)), none⟩,
    ⟨(some 15), .mv (.tmp 14), none⟩,
    ⟨(some 16), .mv (.tmp 0), (some (some 15, false))⟩,
    ⟨(some 17), .callf 103 [(.tmp 16), (.const (.int .i64 4))], (some (some 15, false))⟩,
    ⟨(some 18), .pick (.tmp 15) (.const (.bool true)) (.tmp 17), none⟩])
  (.cond (.tmp 18)
    (.seq (.seq (.reg [⟨(some 19), .mv (.tmp 3), none⟩,
      ⟨(some 20), .bin .gtr (.tmp 19) (.const (.int .i64 0)), none⟩,
      ⟨(some 21), .mv (.tmp 20), none⟩,
      ⟨(some 22), .mv (.tmp 0), (some (some 21, true))⟩,
      ⟨(some 23), .callf 103 [(.tmp 22), (.const (.int .i64 2))], (some (some 21, true))⟩,
      ⟨(some 24), .pick (.tmp 21) (.tmp 23) (.const (.bool false)), none⟩])
    (.cond (.tmp 24)
      (.seq (.reg [⟨(some 25), .mv (.tmp 0), none⟩,
        ⟨(some 26), .mv (.tmp 3), none⟩,
        ⟨(some 27), .callf 105 [(.tmp 25), (.tmp 26)], none⟩,
        ⟨(some 28), .bin .sub (.const (.int .i64 (-1))) (.tmp 27), none⟩,
        ⟨(some 29), .bslg 29 2 1 [(.tmp 28)], none⟩,
        ⟨(some 8), .mv (.tmp 29), none⟩])
      .ret)
      .skip))
    (.seq (.seq (.reg [⟨(some 30), .fad 0 (.tmp 5), none⟩,
      ⟨(some 31), .load 1 false (.tmp 30), none⟩,
      ⟨(some 32), .len (.tmp 31), none⟩,
      ⟨(some 33), .bin .sub (.tmp 32) (.const (.int .i64 1)), none⟩,
      ⟨(some 9), .mv (.tmp 33), none⟩])
    (.block 0
      (.loop
        (.seq (.seq (.reg [⟨(some 34), .mv (.tmp 9), none⟩,
          ⟨(some 35), .bin .geq (.tmp 34) (.const (.int .i64 0)), none⟩])
        (.cond (.tmp 35)
          .skip
          (.exit 0)))
        (.seq (.block 1
          (.seq (.reg [⟨(some 38), .fad 0 (.tmp 5), none⟩,
            ⟨(some 39), .load 1 false (.tmp 38), none⟩,
            ⟨(some 40), .mv (.tmp 9), none⟩,
            ⟨(some 41), .ixa 1 (.tmp 39) (.tmp 40), none⟩,
            ⟨(some 42), .load 1 false (.tmp 41), none⟩,
            ⟨(some 43), .bin .eql (.tmp 42) (.const (.int .i64 0)), none⟩])
          (.cond (.tmp 43)
            (.seq (.reg [⟨(some 44), .mv (.tmp 9), none⟩,
              ⟨(some 45), .bslg 45 2 1 [(.tmp 44)], none⟩,
              ⟨(some 8), .mv (.tmp 45), none⟩])
            .ret)
            .skip)))
        (.reg [⟨(some 36), .mv (.tmp 9), none⟩,
          ⟨(some 37), .bin .sub (.tmp 36) (.const (.int .i64 1)), none⟩,
          ⟨(some 9), .mv (.tmp 37), none⟩]))))))
    (.seq (.reg [⟨(some 46), .bslg 46 2 1 [(.const (.int .i64 (-1)))], none⟩,
      ⟨(some 8), .mv (.tmp 46), none⟩])
    .ret)))
    .skip))
  (.seq (.reg [⟨(some 47), .mv (.tmp 0), none⟩,
    ⟨(some 48), .fad 0 (.tmp 5), none⟩,
    ⟨(some 49), .load 1 false (.tmp 48), none⟩,
    ⟨(some 50), .len (.tmp 49), none⟩,
    ⟨(some 51), .callf 105 [(.tmp 47), (.tmp 50)], none⟩,
    ⟨(some 10), .mv (.tmp 51), none⟩])
  (.seq (.reg [⟨(some 52), .mv (.tmp 10), none⟩,
    ⟨(some 53), .bslg 53 2 1 [(.tmp 52)], none⟩,
    ⟨(some 11), .mv (.tmp 53), none⟩])
  (.seq (.seq (.reg [⟨(some 54), .fad 0 (.tmp 5), none⟩,
    ⟨(some 55), .load 1 false (.tmp 54), none⟩,
    ⟨(some 56), .mv (.tmp 10), none⟩,
    ⟨(some 57), .ixa 1 (.tmp 55) (.tmp 56), none⟩,
    ⟨(some 58), .load 1 false (.tmp 57), none⟩,
    ⟨(some 12), .mv (.tmp 58), none⟩])
  (.block 2
    (.loop
      (.seq (.seq (.reg [⟨(some 59), .mv (.tmp 12), none⟩,
        ⟨(some 60), .bin .gtr (.tmp 59) (.const (.int .i64 0)), none⟩])
      (.cond (.tmp 60)
        .skip
        (.exit 2)))
      (.seq (.block 3
        (.reg [⟨(some 63), .mv (.tmp 11), none⟩,
          ⟨(some 64), .mv (.tmp 0), none⟩,
          ⟨(some 65), .load 1 true (.tmp 5), none⟩,
          ⟨(some 66), .mv (.tmp 2), none⟩,
          ⟨(some 67), .bin .sub (.tmp 66) (.const (.int .i64 1)), none⟩,
          ⟨(some 68), .mv (.tmp 3), none⟩,
          ⟨(some 69), .callf 298 [(.tmp 64), (.tmp 65), (.tmp 67), (.tmp 68)], none⟩,
          ⟨(some 70), .app 70 2 1 8 (.tmp 63) (.tmp 69), none⟩,
          ⟨(some 11), .mv (.tmp 70), none⟩]))
      (.reg [⟨(some 61), .mv (.tmp 12), none⟩,
        ⟨(some 62), .bin .sub (.tmp 61) (.const (.int .i64 1)), none⟩,
        ⟨(some 12), .mv (.tmp 62), none⟩]))))))
  (.seq (.reg [⟨(some 71), .mv (.tmp 11), none⟩,
    ⟨(some 8), .mv (.tmp 71), none⟩])
  .ret))))))
theorem fn298_spec_l1DrawTerm_s1 : MFn Tryz.prog 298 mc298_spec_l1DrawTerm_s1 72 [.tmp 8] :=
  ⟨Tryz.f298, Tryz.func298, by kernel_rfl, Tryz.ntmps298, by kernel_rfl⟩
def F_spec_l1DrawTerm_s1_l1 (sig : Ls) (r : (Bool × Int × Int)) : Int → Option (Int ⊕ (Ls × Int × Int))
 | f =>
  if (decide (0 ≤ f)) = true then
   if 0 ≤ f ∧ f < (sig.length : Int) then
    if ((sig.getD f.toNat default) == 0) = true then
     Option.map Sum.inr (
      some ([f], r.2.1, r.2.2))
    else
     some (.inl (IntKind.i64.wrap (f - 1)))
   else none
  else
   Option.map Sum.inr (
    some ([(-1)], r.2.1, r.2.2))
def F_spec_l1DrawTerm_s1_l2 (sig : Ls) (c1 : Int) (c2 : Int) : Int → Option (Int ⊕ (Ls × Int × Int))
 | f_1 =>
  if (decide (0 ≤ f_1)) = true then
   if 0 ≤ f_1 ∧ f_1 < (sig.length : Int) then
    if ((sig.getD f_1.toNat default) == 0) = true then
     Option.map Sum.inr (
      some ([f_1], c1, c2))
    else
     some (.inl (IntKind.i64.wrap (f_1 - 1)))
   else none
  else
   Option.map Sum.inr (
    some ([(-1)], c1, c2))
def F_spec_l1DrawTerm_s1_l3 (sig : Ls) (r_3 : (Bool × Int × Int)) : Int → Option (Int ⊕ (Ls × Int × Int))
 | f_2 =>
  if (decide (0 ≤ f_2)) = true then
   if 0 ≤ f_2 ∧ f_2 < (sig.length : Int) then
    if ((sig.getD f_2.toNat default) == 0) = true then
     Option.map Sum.inr (
      some ([f_2], r_3.2.1, r_3.2.2))
    else
     some (.inl (IntKind.i64.wrap (f_2 - 1)))
   else none
  else
   Option.map Sum.inr (
    some ([(-1)], r_3.2.1, r_3.2.2))
def F_spec_l1DrawTerm_s1_l4 (sig : Ls) (r_2 : (Bool × Int × Int)) : Int → Option (Int ⊕ (Ls × Int × Int))
 | f_3 =>
  if (decide (0 ≤ f_3)) = true then
   if 0 ≤ f_3 ∧ f_3 < (sig.length : Int) then
    if ((sig.getD f_3.toNat default) == 0) = true then
     Option.map Sum.inr (
      some ([f_3], r_2.2.1, r_2.2.2))
    else
     some (.inl (IntKind.i64.wrap (f_3 - 1)))
   else none
  else
   Option.map Sum.inr (
    some ([(-1)], r_2.2.1, r_2.2.2))
def F_spec_l1DrawTerm_s1_l5 (sig : Ls) (depth : Int) (vars : Int) (c0 : Ls) : (Int × Int × Int × Ls) → Option ((Int × Int × Int × Ls) ⊕ (Ls × Int × Int))
 | (k, c, c_1, g53) =>
  if (decide (0 < k)) = true then
   (F_spec_l1DrawTerm_all sig (IntKind.i64.wrap (depth - 1)) vars c0 c c_1).bind fun r_6 =>
   if (g53.length + r_6.1.length) * 8 ≤ 140737488355328 then
    some (.inl ((IntKind.i64.wrap (k - 1)), r_6.2.1, r_6.2.2, (g53 ++ r_6.1)))
   else none
  else
   Option.map Sum.inr (
    some (g53, c, c_1))
def F_spec_l1DrawTerm_s1 : Nat → Ls → Int → Int → Ls → Int → Int → Option (Ls × Int × Int)
 | 0, _, _, _, _, _, _ => none
 | fu + 1, sig, depth, vars, c0, c1, c2 =>
  if (decide (depth ≤ 1)) = true then
   if (decide (0 < vars)) = true then
    (F_spec_l1Once 2 c0 c1 c2).bind fun r =>
    if r.1 = true then
     (F_spec_l1Below vars c0 r.2.1 r.2.2).bind fun r_1 =>
     some ([(IntKind.i64.wrap ((-1) - r_1.1))], r_1.2.1, r_1.2.2)
    else
     loopC (F_spec_l1DrawTerm_s1_l1 sig r) (IntKind.i64.wrap ((sig.length : Int) - 1))
   else
    loopC (F_spec_l1DrawTerm_s1_l2 sig c1 c2) (IntKind.i64.wrap ((sig.length : Int) - 1))
  else
   (F_spec_l1Once 4 c0 c1 c2).bind fun r_2 =>
   if r_2.1 = true then
    if (decide (0 < vars)) = true then
     (F_spec_l1Once 2 c0 r_2.2.1 r_2.2.2).bind fun r_3 =>
     if r_3.1 = true then
      (F_spec_l1Below vars c0 r_3.2.1 r_3.2.2).bind fun r_4 =>
      some ([(IntKind.i64.wrap ((-1) - r_4.1))], r_4.2.1, r_4.2.2)
     else
      loopC (F_spec_l1DrawTerm_s1_l3 sig r_3) (IntKind.i64.wrap ((sig.length : Int) - 1))
    else
     loopC (F_spec_l1DrawTerm_s1_l4 sig r_2) (IntKind.i64.wrap ((sig.length : Int) - 1))
   else
    (F_spec_l1Below (sig.length : Int) c0 r_2.2.1 r_2.2.2).bind fun r_5 =>
    if 0 ≤ r_5.1 ∧ r_5.1 < (sig.length : Int) then
     loopC (F_spec_l1DrawTerm_s1_l5 sig depth vars c0) ((sig.getD r_5.1.toNat default), r_5.2.1, r_5.2.2, [r_5.1])
    else none
def F_spec_l1DrawTerm_s1_all (sig : Ls) (depth : Int) (vars : Int) (c0 : Ls) (c1 : Int) (c2 : Int) : Option (Ls × Int × Int) := limO fun fu => F_spec_l1DrawTerm_s1 fu sig depth vars c0 c1 c2
theorem c_spec_l1DrawTerm_s1 : ∀ {fu : Nat} {sig : Ls} {depth : Int} {vars : Int} {c0 : Ls} {c1 : Int} {c2 : Int} {rr : (Ls × Int × Int)} (h : F_spec_l1DrawTerm_s1 fu sig depth vars c0 c1 c2 = some rr), ACalls Tryz.prog 298 [.ptr 0 0, .d (.agg [slD 1 iD sig]), .d (iD depth), .d (iD vars)] [(0, .obj 216 [.d (slD 1 (kD .u8) c0), .d (iD c1), .d (iD c2)])] 1 fun xx ss => xx = .gow 1 900000 rr.1.length ∧ ss = [(0, .obj 216 [.d (slD 1 (kD .u8) c0), .d (iD rr.2.1), .d (iD rr.2.2)]), (900000, .gro 2 1 rr.1.length (groL iD rr.1))]
  | 0, _, _, _, _, _, _, _, h => by cases h
  | fu + 1, sig, depth, vars, c0, c1, c2, rr, h => by
    have ih := @c_spec_l1DrawTerm_s1 fu
    unfold F_spec_l1DrawTerm_s1 at h
    refine fn298_spec_l1DrawTerm_s1.callsD (vcm_sound ?_)
    delta mc298_spec_l1DrawTerm_s1
    refine stp ?_
    rcases ite_some h with ⟨hc, h⟩ | ⟨hc, h⟩
    · refine stpc hc ?_
      rcases ite_some h with ⟨hc, h⟩ | ⟨hc, h⟩
      · refine stpc hc ?_
        obtain ⟨r, hr, h⟩ := bind_some h
        refine cRo [(0, 0)] [] (c_spec_l1Once hr) (stp ?_)
        rcases ite_some h with ⟨hc, h⟩ | ⟨hc, h⟩
        · refine stpc hc ?_
          obtain ⟨r_1, hr_1, h⟩ := bind_some h
          refine cRo [(0, 0)] [] (c_spec_l1Below hr_1) (stp ?_)
          cases h
          exact Done.trans ((Done.trans (Done.move 29 900000 (ob := .gro 2 1 1 (groL iD [(IntKind.i64.wrap ((-1) - r_1.1))])) (by omega) (by omega) (by omega) rfl (by first | rfl | (simp; done))) (Done.drops [5] (by simp)))) (Done.told frd don)
        refine stpc hc ?_
        refine m_loopF h [8, 9, 34, 35, 36, 37, 38, 39, 40, 41, 42, 43, 44, 45] (fun pp => [(9, .d (iD pp))]) (fun pp => [(0, .obj 216 [.d (slD 1 (kD .u8) c0), .d (iD r.2.1), .d (iD r.2.2)]), (5, .obj 43 [.d (slD 1 iD sig)])]) ?_ ?_
        · try dsimp only
          exact wk
        rintro f t1 h hb1
        unfold F_spec_l1DrawTerm_s1_l1 at h
        try dsimp only at h
        refine vcm_sound (stp ?_)
        rcases ite_some h with ⟨hc, h⟩ | ⟨hc, h⟩
        · refine stpc hc ?_
          obtain ⟨hp, h⟩ := need_some h
          repeat (refine need_i (by omega) ?_; refine stp ?_)
          rcases ite_some h with ⟨hc, h⟩ | ⟨hc, h⟩
          · refine stpc hc ?_
            replace h := inr_some h hb1
            cases h
            exact Done.trans ((Done.trans (Done.move 45 900000 (ob := .gro 2 1 1 (groL iD [f])) (by omega) (by omega) (by omega) rfl (by first | rfl | (simp; done))) (Done.drops [5] (by simp)))) (Done.told frd don)
          refine stpc hc ?_
          cases h
          refine ⟨_, rfl, ?_⟩
          exact wk
        refine stpc hc ?_
        replace h := inr_some h hb1
        cases h
        exact Done.trans ((Done.trans (Done.move 46 900000 (ob := .gro 2 1 1 (groL iD [(-1)])) (by omega) (by omega) (by omega) rfl (by first | rfl | (simp; done))) (Done.drops [5] (by simp)))) (Done.told frd don)
      refine stpc hc ?_
      refine m_loopF h [8, 9, 34, 35, 36, 37, 38, 39, 40, 41, 42, 43, 44, 45] (fun pp => [(9, .d (iD pp))]) (fun pp => [(0, .obj 216 [.d (slD 1 (kD .u8) c0), .d (iD c1), .d (iD c2)]), (5, .obj 43 [.d (slD 1 iD sig)])]) ?_ ?_
      · try dsimp only
        exact wk
      rintro f_1 t1 h hb1
      unfold F_spec_l1DrawTerm_s1_l2 at h
      try dsimp only at h
      refine vcm_sound (stp ?_)
      rcases ite_some h with ⟨hc, h⟩ | ⟨hc, h⟩
      · refine stpc hc ?_
        obtain ⟨hp, h⟩ := need_some h
        repeat (refine need_i (by omega) ?_; refine stp ?_)
        rcases ite_some h with ⟨hc, h⟩ | ⟨hc, h⟩
        · refine stpc hc ?_
          replace h := inr_some h hb1
          cases h
          exact Done.trans ((Done.trans (Done.move 45 900000 (ob := .gro 2 1 1 (groL iD [f_1])) (by omega) (by omega) (by omega) rfl (by first | rfl | (simp; done))) (Done.drops [5] (by simp)))) (Done.told frd don)
        refine stpc hc ?_
        cases h
        refine ⟨_, rfl, ?_⟩
        exact wk
      refine stpc hc ?_
      replace h := inr_some h hb1
      cases h
      exact Done.trans ((Done.trans (Done.move 46 900000 (ob := .gro 2 1 1 (groL iD [(-1)])) (by omega) (by omega) (by omega) rfl (by first | rfl | (simp; done))) (Done.drops [5] (by simp)))) (Done.told frd don)
    refine stpc hc ?_
    obtain ⟨r_2, hr_2, h⟩ := bind_some h
    refine cRo [(0, 0)] [] (c_spec_l1Once hr_2) (stp ?_)
    rcases ite_some h with ⟨hc, h⟩ | ⟨hc, h⟩
    · refine stpc hc ?_
      rcases ite_some h with ⟨hc, h⟩ | ⟨hc, h⟩
      · refine stpc hc ?_
        obtain ⟨r_3, hr_3, h⟩ := bind_some h
        refine cRo [(0, 0)] [] (c_spec_l1Once hr_3) (stp ?_)
        rcases ite_some h with ⟨hc, h⟩ | ⟨hc, h⟩
        · refine stpc hc ?_
          obtain ⟨r_4, hr_4, h⟩ := bind_some h
          refine cRo [(0, 0)] [] (c_spec_l1Below hr_4) (stp ?_)
          cases h
          exact Done.trans ((Done.trans (Done.move 29 900000 (ob := .gro 2 1 1 (groL iD [(IntKind.i64.wrap ((-1) - r_4.1))])) (by omega) (by omega) (by omega) rfl (by first | rfl | (simp; done))) (Done.drops [5] (by simp)))) (Done.told frd don)
        refine stpc hc ?_
        refine m_loopF h [8, 9, 34, 35, 36, 37, 38, 39, 40, 41, 42, 43, 44, 45] (fun pp => [(9, .d (iD pp))]) (fun pp => [(0, .obj 216 [.d (slD 1 (kD .u8) c0), .d (iD r_3.2.1), .d (iD r_3.2.2)]), (5, .obj 43 [.d (slD 1 iD sig)])]) ?_ ?_
        · try dsimp only
          exact wk
        rintro f_2 t1 h hb1
        unfold F_spec_l1DrawTerm_s1_l3 at h
        try dsimp only at h
        refine vcm_sound (stp ?_)
        rcases ite_some h with ⟨hc, h⟩ | ⟨hc, h⟩
        · refine stpc hc ?_
          obtain ⟨hp, h⟩ := need_some h
          repeat (refine need_i (by omega) ?_; refine stp ?_)
          rcases ite_some h with ⟨hc, h⟩ | ⟨hc, h⟩
          · refine stpc hc ?_
            replace h := inr_some h hb1
            cases h
            exact Done.trans ((Done.trans (Done.move 45 900000 (ob := .gro 2 1 1 (groL iD [f_2])) (by omega) (by omega) (by omega) rfl (by first | rfl | (simp; done))) (Done.drops [5] (by simp)))) (Done.told frd don)
          refine stpc hc ?_
          cases h
          refine ⟨_, rfl, ?_⟩
          exact wk
        refine stpc hc ?_
        replace h := inr_some h hb1
        cases h
        exact Done.trans ((Done.trans (Done.move 46 900000 (ob := .gro 2 1 1 (groL iD [(-1)])) (by omega) (by omega) (by omega) rfl (by first | rfl | (simp; done))) (Done.drops [5] (by simp)))) (Done.told frd don)
      refine stpc hc ?_
      refine m_loopF h [8, 9, 34, 35, 36, 37, 38, 39, 40, 41, 42, 43, 44, 45] (fun pp => [(9, .d (iD pp))]) (fun pp => [(0, .obj 216 [.d (slD 1 (kD .u8) c0), .d (iD r_2.2.1), .d (iD r_2.2.2)]), (5, .obj 43 [.d (slD 1 iD sig)])]) ?_ ?_
      · try dsimp only
        exact wk
      rintro f_3 t1 h hb1
      unfold F_spec_l1DrawTerm_s1_l4 at h
      try dsimp only at h
      refine vcm_sound (stp ?_)
      rcases ite_some h with ⟨hc, h⟩ | ⟨hc, h⟩
      · refine stpc hc ?_
        obtain ⟨hp, h⟩ := need_some h
        repeat (refine need_i (by omega) ?_; refine stp ?_)
        rcases ite_some h with ⟨hc, h⟩ | ⟨hc, h⟩
        · refine stpc hc ?_
          replace h := inr_some h hb1
          cases h
          exact Done.trans ((Done.trans (Done.move 45 900000 (ob := .gro 2 1 1 (groL iD [f_3])) (by omega) (by omega) (by omega) rfl (by first | rfl | (simp; done))) (Done.drops [5] (by simp)))) (Done.told frd don)
        refine stpc hc ?_
        cases h
        refine ⟨_, rfl, ?_⟩
        exact wk
      refine stpc hc ?_
      replace h := inr_some h hb1
      cases h
      exact Done.trans ((Done.trans (Done.move 46 900000 (ob := .gro 2 1 1 (groL iD [(-1)])) (by omega) (by omega) (by omega) rfl (by first | rfl | (simp; done))) (Done.drops [5] (by simp)))) (Done.told frd don)
    refine stpc hc ?_
    obtain ⟨r_5, hr_5, h⟩ := bind_some h
    refine cRo [(0, 0)] [] (c_spec_l1Below hr_5) (stp ?_)
    obtain ⟨hp, h⟩ := need_some h
    repeat (refine need_i (by omega) ?_; refine stp ?_)
    refine m_loopF h [11, 12, 59, 60, 61, 62, 63, 64, 65, 66, 67, 68, 69, 70] (fun pp => [(11, .gow 1 53 pp.2.2.2.length), (12, .d (iD pp.1))]) (fun pp => [(0, .obj 216 [.d (slD 1 (kD .u8) c0), .d (iD pp.2.1), .d (iD pp.2.2.1)]), (5, .obj 43 [.d (slD 1 iD sig)]), (53, .gro 2 1 pp.2.2.2.length (groL iD pp.2.2.2))]) ?_ ?_
    · try dsimp only
      exact wk
    rintro ⟨k, c, c_1, g53⟩ t1 h hb1
    unfold F_spec_l1DrawTerm_s1_l5 at h
    try dsimp only at h
    refine vcm_sound (stp ?_)
    rcases ite_some h with ⟨hc, h⟩ | ⟨hc, h⟩
    · refine stpc hc ?_
      obtain ⟨r_6, hr_6, h⟩ := bind_some h
      refine cRo [(0, 0)] [] (c_spec_l1DrawTerm_all hr_6) (stp ?_)
      obtain ⟨hp, h⟩ := need_some h
      repeat (refine need_i (by omega) ?_; refine stp ?_)
      cases h
      refine ⟨_, rfl, ?_⟩
      exact wk
    refine stpc hc ?_
    replace h := inr_some h hb1
    cases h
    exact Done.trans ((Done.trans (Done.move 53 900000 (ob := .gro 2 1 g53.length (groL iD g53)) (by omega) (by omega) (by omega) rfl (by first | rfl | (simp; done))) (Done.drops [5] (by simp)))) (Done.told frd don)
theorem c_spec_l1DrawTerm_s1_all {sig : Ls} {depth : Int} {vars : Int} {c0 : Ls} {c1 : Int} {c2 : Int} {rr : (Ls × Int × Int)} (h : F_spec_l1DrawTerm_s1_all sig depth vars c0 c1 c2 = some rr) : ACalls Tryz.prog 298 [.ptr 0 0, .d (.agg [slD 1 iD sig]), .d (iD depth), .d (iD vars)] [(0, .obj 216 [.d (slD 1 (kD .u8) c0), .d (iD c1), .d (iD c2)])] 1 fun xx ss => xx = .gow 1 900000 rr.1.length ∧ ss = [(0, .obj 216 [.d (slD 1 (kD .u8) c0), .d (iD rr.2.1), .d (iD rr.2.2)]), (900000, .gro 2 1 rr.1.length (groL iD rr.1))] := c_spec_l1DrawTerm_s1 (limO_some h).choose_spec
end
end Go.Proofs.YtcaljngigbfadaaGreat
