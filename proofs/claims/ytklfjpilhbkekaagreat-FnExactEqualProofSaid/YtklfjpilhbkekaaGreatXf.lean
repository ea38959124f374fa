/- The law FnExactEqualProof of the program and the equation that it computes: copies, marks, what is lent; nothing is assumed. -/
import Derived.Test.YtklfjpilhbkekaaGreatXd
import Derived.Test.YtklfjpilhbkekaaGreatXe
set_option linter.unusedSimpArgs false
set_option linter.unusedVariables false
set_option linter.unusedSectionVars false
set_option linter.unnecessarySimpa false
namespace Go.Proofs.YtklfjpilhbkekaaGreat
open Go Abx
attribute [local irreducible] vcm vgo vdr vrun vdrun MWp GhostQ BrC BrO BrG BrD BrH AmbO callR callD drQ EnvLe StoLe
set_option maxHeartbeats 4000000
instance : Cl D_laws_Rule := Cl.agg _ (fun _ => rfl) (fun _ => rfl)
instance : Cl D_laws_System := Cl.agg _ (fun _ => rfl) (fun _ => rfl)
def mcT21 : MCode :=
 (.seq (.reg (sq 2 [.mv (.const (.slice none 0 0))])) (.seq (.reg (sq 5 [mv 0, ln 5, .mkslp 7 2 1 8 [.lit (.int .i64 0)] false (t0 6) (t0 6)] ++ sq 3 [mv 7])) (.seq (.seq (.reg (sq 4 [mi 0])) (.block 0 (.loop (.seq (.seq (.reg (sq 8 [mv 4, mv 0, ln 9, bn .lss 8 10])) (.cond (t0 11) .skip (.exit 0))) (.seq (.block 1 (.reg (sq 14 [mv 3, mv 4, mv 0, mv 4, ix 1 16 17, ld 18, ix 1 14 15] ++ s0 (sr 1 20 19)))) (.reg (sq 12 [mv 4, bi .add 12 1] ++ sq 4 [mv 13]))))))) (.seq (.reg (sq 21 [mv 3] ++ sq 2 [mv 21])) .ret))))
theorem fnT21 : MFn Tryz.prog 21 mcT21 22 [.tmp 2] := ⟨_, Tryz.func21, by kernel_rfl, Tryz.ntmps21, by kernel_rfl⟩
noncomputable def F_to21_l (a : List Int) : (Int × List Int) → Option ((Int × List Int) ⊕ List Int)
 | (i, out) =>
  if (decide (i < (a.length : Int))) = true then
   if 0 ≤ i ∧ i < (a.length : Int) ∧ i < (out.length : Int) then
    some (.inl ((IntKind.i64.wrap (i + 1)), out.set i.toNat (a.getD i.toNat default)))
   else none
  else
   Option.map Sum.inr (some out)
noncomputable def F_to21 (a : List Int) : Option (List Int) :=
 if 0 ≤ (a.length : Int) ∧ 8 * (a.length : Int) ≤ 281474976710656 ∧ (a.length : Int) < 4611686018427387904 then
  loopC (F_to21_l a) (0, List.replicate a.length 0)
 else none
instance c_to21 {a : List Int} : HasC (F_to21 a) fun rr => ACalls Tryz.prog 21 [.d ((slD 1 iD) a)] [] 0 fun xx ss => xx = .gow 1 900000 a.length ∧ ss = [(900000, .prv 1 a.length (tolds (List.map iD rr)))] := ⟨@fun rr h => by
  delta F_to21 at h
  refine fnT21.callsD (vcm_sound ?_)
  delta mcT21
  refine stp ?_
  refine ndI h fun hp h => ?_
  refine m_loopF h [4, 8, 9, 10, 11, 12, 13, 14, 15, 16, 17, 18, 19, 20] (fun pp => [(4, .d (iD pp.1))]) (fun pp => [(7, .prv 1 a.length (tolds (List.map iD pp.2)))]) ?_ ?_
  · try dsimp only
    refine (Weak.prvE 7 (tolds (List.map iD (List.replicate a.length 0))) rfl (told_flat _)).trans ?_
    exact wk
  rintro ⟨i, out⟩ t1 h hb1
  unfold F_to21_l at h
  try dsimp only at h
  refine vcm_sound (stp ?_)
  refine it h (fun hc h => ?_) fun hc h => ?_
  · refine ndI h fun hp h => ?_
    cases h
    refine ⟨_, rfl, ?_⟩
    refine (Weak.prvE 7 (tolds (List.map iD (out.set i.toNat (a.getD i.toNat default)))) rfl (by (try simp only [go_sem, rens_take, rens_drop, rens_tolds, AV.rens, AV.ren]); exact told_segE (i := i.toNat) (by omega) (by omega) (by omega) rfl)).trans ?_
    exact wk
  replace h := inr_some h hb1
  cases h
  exact Done.trans (Done.move 7 900000 (ob := .prv 1 a.length (tolds (List.map iD rr))) (by omega) (by omega) (by omega) rfl (by first | rfl | (simp [sat, smove, Ob.ren, rens_tolds]; done))) (Done.told frd don)⟩
def mcT53 : MCode :=
 (.seq (.reg (sq 1 [bo 1 24 0, .alloc 2 43 [.sl 0 (some true) []]])) (.seq (.reg (sq 3 [.alloc 3 43 [.sl 0 (some true) []]])) (.seq (.reg (sq 4 [fa 0 1, ld 4, cf 21 [5], fa 0 3] ++ s0 (sr 1 7 6))) (.seq (.reg (sq 8 [la 1 3] ++ s0 (sr 1 2 8))) .ret))))
theorem fnT53 : MFn Tryz.prog 53 mcT53 9 [.cell 2 1 true] := ⟨_, Tryz.func53, by kernel_rfl, Tryz.ntmps53, by kernel_rfl⟩
noncomputable def F_to53 (x : (List Int)) : Option (List Int) :=
 (F_to21 x).bind fun r0 =>
 some r0
instance c_to53 {x : (List Int)} : HasC (F_to53 x) fun rr => ACalls Tryz.prog 53 [.d (.agg [(slD 1 iD) x])] [] 0 fun xx ss => xx = .agg [.gow 1 900000 x.length] ∧ ss = [(900000, .prv 1 x.length (tolds (List.map iD rr)))] := ⟨@fun rr h => by
  delta F_to53 at h
  refine fnT53.callsD (vcm_sound ?_)
  delta mcT53
  refine stp ?_
  refine rCo [] [(900000, 6)] h fun r0 hr0 h => ?_
  refine nds ?_
  cases h
  exact Done.trans ((Done.trans (Done.move 6 900000 (ob := .prv 1 x.length (tolds (List.map iD rr))) (by omega) (by omega) (by omega) rfl (by first | rfl | (simp [sat, smove, Ob.ren, rens_tolds]; done))) (Done.drops [1, 2, 3] (by simp)))) (Done.told frd don)⟩
def mcT116 : MCode :=
 (.seq (.reg (sq 1 [bo 1 158 0, .alloc 2 147 [.sl 0 (some true) [], .sl 0 (some true) []]])) (.seq (.reg (sq 3 [.alloc 3 147 [.sl 0 (some true) [], .sl 0 (some true) []]])) (.seq (.reg (sq 4 [fa 0 1, ld 4, cf 21 [5], fa 0 3] ++ s0 (sr 1 7 6))) (.seq (.reg (sq 8 [fa 1 1, ld 8, cf 21 [9], fa 1 3] ++ s0 (sr 1 11 10))) (.seq (.reg (sq 12 [la 2 3] ++ s0 (sr 2 2 12))) .ret)))))
theorem fnT116 : MFn Tryz.prog 116 mcT116 13 [.cell 2 2 true] := ⟨_, Tryz.func116, by kernel_rfl, Tryz.ntmps116, by kernel_rfl⟩
noncomputable def F_to116 (x : ((List Int) × (List Int))) : Option ((List Int) × (List Int)) :=
 (F_to21 x.1).bind fun r0 =>
 (F_to21 x.2).bind fun r1 =>
 some (r0, r1)
instance c_to116 {x : ((List Int) × (List Int))} : HasC (F_to116 x) fun rr => ACalls Tryz.prog 116 [.d (.agg [(slD 1 iD) x.1, (slD 1 iD) x.2])] [] 0 fun xx ss => xx = .agg [.gow 1 900000 x.1.length, .gow 1 900001 x.2.length] ∧ ss = [(900000, .prv 1 x.1.length (tolds (List.map iD rr.1))), (900001, .prv 1 x.2.length (tolds (List.map iD rr.2)))] := ⟨@fun rr h => by
  delta F_to116 at h
  refine fnT116.callsD (vcm_sound ?_)
  delta mcT116
  refine stp ?_
  refine rCo [] [(900000, 6)] h fun r0 hr0 h => ?_
  refine nds ?_
  refine rCo [] [(900000, 10)] h fun r1 hr1 h => ?_
  refine nds ?_
  cases h
  exact Done.trans ((Done.trans (Done.move 6 900000 (ob := .prv 1 x.1.length (tolds (List.map iD r0))) (by omega) (by omega) (by omega) rfl (by first | rfl | (simp [sat, smove, Ob.ren, rens_tolds]; done))) (Done.trans (Done.move 10 900001 (ob := .prv 1 x.2.length (tolds (List.map iD r1))) (by omega) (by omega) (by omega) rfl (by first | rfl | (simp [sat, smove, Ob.ren, rens_tolds]; done))) (Done.drops [1, 2, 3] (by simp))))) (Done.told frd don)⟩
def mcT54 : MCode :=
 (.seq (.reg (sq 2 [.mv (.const (.slice none 0 0))])) (.seq (.reg (sq 5 [mv 0, ln 5, .mkslp 7 147 2 48 [.sl 0 (some true) [], .sl 0 (some true) []] false (t0 6) (t0 6)] ++ sq 3 [mv 7])) (.seq (.seq (.reg (sq 4 [mi 0])) (.block 0 (.loop (.seq (.seq (.reg (sq 8 [mv 4, mv 0, ln 9, bn .lss 8 10])) (.cond (t0 11) .skip (.exit 0))) (.seq (.block 1 (.reg (sq 14 [mv 3, mv 4, mv 0, mv 4, ix 2 16 17, la 2 18, cf 116 [19], ix 2 14 15] ++ s0 (sr 2 21 20)))) (.reg (sq 12 [mv 4, bi .add 12 1] ++ sq 4 [mv 13]))))))) (.seq (.reg (sq 22 [mv 3] ++ sq 2 [mv 22])) .ret))))
theorem fnT54 : MFn Tryz.prog 54 mcT54 23 [.tmp 2] := ⟨_, Tryz.func54, by kernel_rfl, Tryz.ntmps54, by kernel_rfl⟩
noncomputable def F_to54_l (a : List ((List Int) × (List Int))) : (Int × List ((List Int) × (List Int))) → Option ((Int × List ((List Int) × (List Int))) ⊕ List ((List Int) × (List Int)))
 | (i, out) =>
  if (decide (i < (a.length : Int))) = true then
   if 0 ≤ i ∧ i < (a.length : Int) ∧ i < (out.length : Int) then
    (F_to116 (a.getD i.toNat default)).bind fun r =>
    some (.inl ((IntKind.i64.wrap (i + 1)), out.set i.toNat r))
   else none
  else
   Option.map Sum.inr (some out)
noncomputable def F_to54 (a : List ((List Int) × (List Int))) : Option (List ((List Int) × (List Int))) :=
 if 0 ≤ (a.length : Int) ∧ 48 * (a.length : Int) ≤ 281474976710656 ∧ (a.length : Int) < 4611686018427387904 then
  loopC (F_to54_l a) (0, List.replicate a.length ([], []))
 else none
instance c_to54 {a : List ((List Int) × (List Int))} : HasC (F_to54 a) fun rr => ACalls Tryz.prog 54 [.d ((slD 2 D_laws_Rule) a)] [] 0 fun xx ss => xx = .gow 2 900000 a.length ∧ ss = [(900000, .prv 2 a.length (tolds (List.map D_impl_Rule rr)))] := ⟨@fun rr h => by
  delta F_to54 at h
  refine fnT54.callsD (vcm_sound ?_)
  delta mcT54
  refine stp ?_
  refine ndI h fun hp h => ?_
  refine m_loopF h [4, 8, 9, 10, 11, 12, 13, 14, 15, 16, 17, 18, 19, 20, 21] (fun pp => [(4, .d (iD pp.1))]) (fun pp => [(7, .prv 2 a.length (tolds (List.map D_impl_Rule pp.2)))]) ?_ ?_
  · try dsimp only
    refine (Weak.prvZ (id := 7) (f := D_impl_Rule) ([], []) rfl (by exact ⟨NLe.nilz, ⟨NLe.nilz, trivial⟩⟩)).trans ?_
    exact wk
  rintro ⟨i, out⟩ t1 h hb1
  unfold F_to54_l at h
  try dsimp only at h
  refine vcm_sound (stp ?_)
  refine it h (fun hc h => ?_) fun hc h => ?_
  · refine ndI h fun hp h => ?_
    refine rCo [] [(900000, 20), (900001, 200001)] h fun r hr h => ?_
    refine nds ?_
    cases h
    refine ⟨_, rfl, ?_⟩
    refine (Weak.absSeg (f' := iD) (ys := r.1) (m := (a.getD i.toNat default).1.length) (m' := (a.getD i.toNat default).1.length) 7 20 0 rfl rfl (by first | rfl | (simp [sat, sdel, sset, skill, Ob.kill, Ob.ren, rens_tolds]; done)) rfl (by decide) (by omega) (by decide)).trans ?_
    refine (Weak.absSeg (f' := iD) (ys := r.2) (m := (a.getD i.toNat default).2.length) (m' := (a.getD i.toNat default).2.length) 7 200001 1 rfl rfl (by first | rfl | (simp [sat, sdel, sset, skill, Ob.kill, Ob.ren, rens_tolds]; done)) rfl (by decide) (by omega) (by decide)).trans ?_
    refine (Weak.drop 20 (by omega)).trans ?_
    refine (Weak.drop 200001 (by omega)).trans ?_
    refine (Weak.prvE 7 (tolds (List.map D_impl_Rule (out.set i.toNat r))) rfl (by (try simp only [go_sem, rens_take, rens_drop, rens_tolds, AV.rens, AV.ren]); exact told_segE (i := i.toNat) (by omega) (by omega) (by omega) rfl)).trans ?_
    exact wk
  replace h := inr_some h hb1
  cases h
  exact Done.trans (Done.move 7 900000 (ob := .prv 2 a.length (tolds (List.map D_impl_Rule rr))) (by omega) (by omega) (by omega) rfl (by first | rfl | (simp [sat, smove, Ob.ren, rens_tolds]; done))) (Done.told frd don)⟩
def mcT10 : MCode :=
 (.seq (.reg (sq 1 [bo 1 27 0, .alloc 2 46 [.sl 0 (some true) [], .sl 0 (some true) []]])) (.seq (.reg (sq 3 [.alloc 3 46 [.sl 0 (some true) [], .sl 0 (some true) []]])) (.seq (.reg (sq 4 [fa 0 1, la 1 4, cf 53 [5], fa 0 3] ++ s0 (sr 1 7 6))) (.seq (.reg (sq 8 [fa 1 1, ld 8, cf 54 [9], fa 1 3] ++ s0 (sr 1 11 10))) (.seq (.reg (sq 12 [la 2 3] ++ s0 (sr 2 2 12))) .ret)))))
theorem fnT10 : MFn Tryz.prog 10 mcT10 13 [.cell 2 2 true] := ⟨_, Tryz.func10, by kernel_rfl, Tryz.ntmps10, by kernel_rfl⟩
noncomputable def F_to10 (x : ((List Int) × (List ((List Int) × (List Int))))) : Option ((List Int) × (List ((List Int) × (List Int)))) :=
 (F_to53 x.1).bind fun r0 =>
 (F_to54 x.2).bind fun r1 =>
 some (r0, r1)
instance c_to10 {x : ((List Int) × (List ((List Int) × (List Int))))} : HasC (F_to10 x) fun rr => ACalls Tryz.prog 10 [.d (.agg [(slD 1 iD) x.1, (slD 2 D_laws_Rule) x.2])] [] 0 fun xx ss => xx = .agg [.gow 1 900000 x.1.length, .gow 2 900001 x.2.length] ∧ ss = [(900000, .prv 1 x.1.length (tolds (List.map iD rr.1))), (900001, .prv 2 x.2.length (tolds (List.map D_impl_Rule rr.2)))] := ⟨@fun rr h => by
  delta F_to10 at h
  refine fnT10.callsD (vcm_sound ?_)
  delta mcT10
  refine stp ?_
  refine rCo [] [(900000, 6)] h fun r0 hr0 h => ?_
  refine nds ?_
  refine rCo [] [(900000, 10)] h fun r1 hr1 h => ?_
  refine nds ?_
  cases h
  exact Done.trans ((Done.trans (Done.move 6 900000 (ob := .prv 1 x.1.length (tolds (List.map iD r0))) (by omega) (by omega) (by omega) rfl (by first | rfl | (simp [sat, smove, Ob.ren, rens_tolds]; done))) (Done.trans (Done.move 10 900001 (ob := .prv 2 x.2.length (tolds (List.map D_impl_Rule r1))) (by omega) (by omega) (by omega) rfl (by first | rfl | (simp [sat, smove, Ob.ren, rens_tolds]; done))) (Done.drops [1, 2, 3] (by simp))))) (Done.told frd don)⟩
noncomputable def F_pub10 (x : ((List Int) × (List ((List Int) × (List Int))))) : Option ((List Int) × (List ((List Int) × (List Int)))) := (F_to10 x).bind fun r => if x.1.length = r.1.length ∧ x.2.length = r.2.length then some r else none
instance c_pub10 {x : ((List Int) × (List ((List Int) × (List Int))))} : HasC (F_pub10 x) fun rr => PFun Tryz.prog 10 [(.agg [(slD 1 iD) x.1, (slD 2 D_laws_Rule) x.2])] (.agg [(slD 1 iD) rr.1, (slD 2 D_impl_Rule) rr.2]) := ⟨@fun rr h => by
  obtain ⟨r, h1, h2⟩ := bind_some h
  obtain ⟨hp, h2⟩ := need_some h2
  cases h2
  exact ACalls.pub (dz := [(.agg [(slD 1 iD) x.1, (slD 2 D_laws_Rule) x.2])]) (tl := [(900000, 1, List.map iD rr.1), (900001, 2, List.map D_impl_Rule rr.2)]) ((c_to10).c h1) (by simp [toks]; try omega) (.agg (.cons (Pub.tok (f := iD) (by simp [toks, sat]; try omega) (by omega)) (.cons (Pub.tok (f := D_impl_Rule) (by simp [toks, sat]; try omega) (by omega)) .nil)))⟩
noncomputable def F_pub21 (x : (List Int)) : Option (List Int) := (F_to21 x).bind fun r => if x.length = r.length then some r else none
instance c_pub21 {x : (List Int)} : HasC (F_pub21 x) fun rr => PFun Tryz.prog 21 [((slD 1 iD) x)] ((slD 1 iD) rr) := ⟨@fun rr h => by
  obtain ⟨r, h1, h2⟩ := bind_some h
  obtain ⟨hp, h2⟩ := need_some h2
  cases h2
  exact ACalls.pub (dz := [((slD 1 iD) x)]) (tl := [(900000, 1, List.map iD rr)]) ((c_to21).c h1) (by simp [toks]; try omega) (Pub.tok (f := iD) (by simp [toks, sat]; try omega) (by omega))⟩
noncomputable def F_le22_llld (n0 : Nat) (n1 : Nat) (n2 : Nat) (n3 : Nat) (x0 : ((List Int) × (List ((List Int) × (List Int))))) (x1 : (List Int)) (x2 : (List Int)) (x3 : Int) : Option ((List (Int × (List Int) × (List (List Int)) × (List Int))) × Bool) := if n0 = x0.1.length ∧ n1 = x0.2.length ∧ n2 = x1.length ∧ n3 = x2.length then F_impl_EqualProof x0 x1 x2 x3 else none
instance c_F_le22_llld {n0 : Nat} {n1 : Nat} {n2 : Nat} {n3 : Nat} {x0 : ((List Int) × (List ((List Int) × (List Int))))} {x1 : (List Int)} {x2 : (List Int)} {x3 : Int} : HasC (F_le22_llld n0 n1 n2 n3 x0 x1 x2 x3) fun rr => ACalls Tryz.prog 22 [.agg [.gow 1 0 n0, .gow 2 1 n1], .gow 1 2 n2, .gow 1 3 n3, .d (iD x3)] [(0, .prv 1 n0 (tolds (List.map iD x0.1))), (1, .prv 2 n1 (tolds (List.map D_impl_Rule x0.2))), (2, .prv 1 n2 (tolds (List.map iD x1))), (3, .prv 1 n3 (tolds (List.map iD x2)))] 4 fun xx ss => xx = .tup [.agg [.gow 4 900000 rr.1.length], .d (bD rr.2)] ∧ ss = [(0, .prv 1 n0 (tolds (List.map iD x0.1))), (1, .prv 2 n1 (tolds (List.map D_impl_Rule x0.2))), (2, .prv 1 n2 (tolds (List.map iD x1))), (3, .prv 1 n3 (tolds (List.map iD x2))), (900000, .prv 4 rr.1.length (tolds (List.map D_impl_Node rr.1)))] := ⟨@fun rr h => by
  obtain ⟨hp, h⟩ := need_some h
  have h1 := ACalls.prv (y := .tup [.agg [.own 4 900000 (List.map D_impl_Node rr.1)], .d (bD rr.2)]) ((c_impl_EqualProof).c h) (fun p hp => by
    simp only [tksOf, tksOfs, List.nil_append, List.cons_append, List.append_nil, List.mem_cons, List.not_mem_nil, or_false] at hp
    subst hp
    exact Whole.deep (by rfl) (by simp)) rfl rfl
  refine ACalls.eq (ACalls.lentO («as» := [(.agg [(slD 1 iD) x0.1, (slD 2 D_impl_Rule) x0.2]), ((slD 1 iD) x1), ((slD 1 iD) x2), (iD x3)]) h1 rfl (args := [.agg [.gow 1 0 n0, .gow 2 1 n1], .gow 1 2 n2, .gow 1 3 n3, .d (iD x3)]) (s := [(0, .prv 1 n0 (tolds (List.map iD x0.1))), (1, .prv 2 n1 (tolds (List.map D_impl_Rule x0.2))), (2, .prv 1 n2 (tolds (List.map iD x1))), (3, .prv 1 n3 (tolds (List.map iD x2)))]) (k := 4) (.cons (.agg (.cons (Lent.tok (f := iD) rfl (by omega)) (.cons (Lent.tok (f := D_impl_Rule) rfl (by omega)) .nil))) (.cons (Lent.tok (f := iD) rfl (by omega)) (.cons (Lent.tok (f := iD) rfl (by omega)) (.cons (.le (AV.le_refl _)) .nil)))) (by simp [tksOf, tksOfs]) (fun p hp => ?_)) (by simp [cnv, cnvs]) (by simp [toks, tksOf, tksOfs])
  simp only [tksOf, tksOfs, List.nil_append, List.cons_append, List.append_nil, List.mem_cons, List.not_mem_nil, or_false] at hp
  subst hp
  exact told_cond.2⟩
noncomputable def F_le23_ld (n0 : Nat) (x0 : (List (Int × (List Int) × (List (List Int)) × (List Int)))) (x1 : (List (Int × (List Int) × (List (List Int)) × (List Int)))) : Option Bool := if n0 = x0.length then F_laws_eqProof x0 x1 else none
instance c_F_le23_ld {n0 : Nat} {x0 : (List (Int × (List Int) × (List (List Int)) × (List Int)))} {x1 : (List (Int × (List Int) × (List (List Int)) × (List Int)))} : HasC (F_le23_ld n0 x0 x1) fun rr => ACalls Tryz.prog 23 [.agg [.gow 4 0 n0], .d (.agg [(slD 4 D_impl_Node) x1])] [(0, .prv 4 n0 (tolds (List.map D_impl_Node x0)))] 1 fun xx ss => xx = .d (bD rr) ∧ ss = [(0, .prv 4 n0 (tolds (List.map D_impl_Node x0)))] := ⟨@fun rr h => by
  obtain ⟨hp, h⟩ := need_some h
  exact ACalls.lent ((c_laws_eqProof).c h) (.cons (.agg (.cons (Lent.tok (f := D_impl_Node) rfl (by omega)) .nil)) (.cons (.le (AV.le_refl _)) .nil))⟩
noncomputable def F_le14_ll (n0 : Nat) (n1 : Nat) (n2 : Nat) (n3 : Nat) (x0 : ((List Int) × (List ((List Int) × (List Int))))) (x1 : ((List Int) × (List ((List Int) × (List Int))))) : Option Bool := if n0 = x0.1.length ∧ n1 = x0.2.length ∧ n2 = x1.1.length ∧ n3 = x1.2.length then F_laws_eqSystem x0 x1 else none
instance c_F_le14_ll {n0 : Nat} {n1 : Nat} {n2 : Nat} {n3 : Nat} {x0 : ((List Int) × (List ((List Int) × (List Int))))} {x1 : ((List Int) × (List ((List Int) × (List Int))))} : HasC (F_le14_ll n0 n1 n2 n3 x0 x1) fun rr => ACalls Tryz.prog 14 [.agg [.gow 1 0 n0, .gow 2 1 n1], .agg [.gow 1 2 n2, .gow 2 3 n3]] [(0, .prv 1 n0 (tolds (List.map iD x0.1))), (1, .prv 2 n1 (tolds (List.map D_impl_Rule x0.2))), (2, .prv 1 n2 (tolds (List.map iD x1.1))), (3, .prv 2 n3 (tolds (List.map D_impl_Rule x1.2)))] 4 fun xx ss => xx = .d (bD rr) ∧ ss = [(0, .prv 1 n0 (tolds (List.map iD x0.1))), (1, .prv 2 n1 (tolds (List.map D_impl_Rule x0.2))), (2, .prv 1 n2 (tolds (List.map iD x1.1))), (3, .prv 2 n3 (tolds (List.map D_impl_Rule x1.2)))] := ⟨@fun rr h => by
  obtain ⟨hp, h⟩ := need_some h
  exact ACalls.lent ((c_laws_eqSystem).c h) (.cons (.agg (.cons (Lent.tok (f := iD) rfl (by omega)) (.cons (Lent.tok (f := D_impl_Rule) rfl (by omega)) .nil))) (.cons (.agg (.cons (Lent.tok (f := iD) rfl (by omega)) (.cons (Lent.tok (f := D_impl_Rule) rfl (by omega)) .nil))) .nil))⟩
noncomputable def F_le24_ll (n0 : Nat) (n1 : Nat) (x0 : (List Int)) (x1 : (List Int)) : Option Bool := if n0 = x0.length ∧ n1 = x1.length then F_laws_eqInt64S x0 x1 else none
instance c_F_le24_ll {n0 : Nat} {n1 : Nat} {x0 : (List Int)} {x1 : (List Int)} : HasC (F_le24_ll n0 n1 x0 x1) fun rr => ACalls Tryz.prog 24 [.gow 1 0 n0, .gow 1 1 n1] [(0, .prv 1 n0 (tolds (List.map iD x0))), (1, .prv 1 n1 (tolds (List.map iD x1)))] 2 fun xx ss => xx = .d (bD rr) ∧ ss = [(0, .prv 1 n0 (tolds (List.map iD x0))), (1, .prv 1 n1 (tolds (List.map iD x1)))] := ⟨@fun rr h => by
  obtain ⟨hp, h⟩ := need_some h
  exact ACalls.lent ((c_laws_eqInt64S).c h) (.cons (Lent.tok (f := iD) rfl (by omega)) (.cons (Lent.tok (f := iD) rfl (by omega)) .nil))⟩
def mcM25 : MCode :=
 (.seq (.reg (sq 4 [mi 0])) (.seq (.seq (.reg (sq 5 [mi 0])) (.block 0 (.loop (.seq (.seq (.reg (sq 6 [mv 5, mv 0, ln 7, bn .lss 6 8])) (.cond (t0 9) .skip (.exit 0))) (.seq (.block 1 (.seq (.reg (sq 12 [mv 0, mv 5, mv 1, ix 1 12 13] ++ s0 (sr 1 15 14))) (.reg (sq 16 [mv 1, bi .add 16 1] ++ sq 1 [mv 17])))) (.reg (sq 10 [mv 5, bi .add 10 1] ++ sq 5 [mv 11]))))))) (.seq (.reg (sq 18 [mv 1] ++ sq 4 [mv 18])) .ret)))
theorem fnM25 : MFn Tryz.prog 25 mcM25 19 [.tmp 4] := ⟨_, Tryz.func25, by kernel_rfl, Tryz.ntmps25, by kernel_rfl⟩
noncomputable def F_mk25_l (n : Nat) : (Int × Int × List Int) → Option ((Int × Int × List Int) ⊕ (List Int × Int))
 | (k, i, b) =>
  if (decide (i < (n : Int))) = true then
   if 0 ≤ i ∧ i < (n : Int) ∧ i < (b.length : Int) then
    some (.inl ((IntKind.i64.wrap (k + 1)), (IntKind.i64.wrap (i + 1)), b.set i.toNat k))
   else none
  else
   Option.map Sum.inr (some (b, k))
noncomputable def F_mk25 (n : Nat) (a : List Int) (k : Int) : Option (List Int × Int) := loopC (F_mk25_l n) (k, 0, a)
instance c_mk25 {n : Nat} {a : List Int} {k : Int} : HasC (F_mk25 n a k) fun rr => ACalls Tryz.prog 25 [.gow 1 0 n, .d (iD k)] [(0, .prv 1 n (tolds (List.map iD a)))] 1 fun xx ss => xx = .d (iD rr.2) ∧ ss = [(0, .prv 1 n (tolds (List.map iD rr.1)))] := ⟨@fun rr h => by
  delta F_mk25 at h
  refine fnM25.callsD (vcm_sound ?_)
  delta mcM25
  refine stp ?_
  refine m_loopF h [1, 5, 6, 7, 8, 9, 10, 11, 12, 13, 14, 15, 16, 17] (fun pp => [(1, .d (iD pp.1)), (5, .d (iD pp.2.1))]) (fun pp => [(0, .prv 1 n (tolds (List.map iD pp.2.2)))]) ?_ ?_
  · try dsimp only
    exact wk
  rintro ⟨k, i, b⟩ t1 h hb1
  unfold F_mk25_l at h
  try dsimp only at h
  refine vcm_sound (stp ?_)
  refine it h (fun hc h => ?_) fun hc h => ?_
  · refine ndI h fun hp h => ?_
    refine nds ?_
    cases h
    refine ⟨_, rfl, ?_⟩
    refine (Weak.prvE 0 (tolds (List.map iD (b.set i.toNat k))) rfl (told_segE (i := i.toNat) (by omega) (by omega) (by omega) rfl)).trans ?_
    exact wk
  replace h := inr_some h hb1
  cases h
  exact Done.told frd don⟩
def mcM67 : MCode :=
 (.seq (.reg (sq 2 [.boxi 64 2 43 (t0 0)] ++ sq 4 [mi 0])) (.seq (.reg (sq 5 [fa 0 2, ld 5, mv 1, cf 25 [6, 7]] ++ sq 1 [mv 8])) (.seq (.reg (sq 9 [mv 1] ++ sq 4 [mv 9])) .ret)))
theorem fnM67 : MFn Tryz.prog 67 mcM67 10 [.tmp 4] := ⟨_, Tryz.func67, by kernel_rfl, Tryz.ntmps67, by kernel_rfl⟩
noncomputable def F_mk67 (n0 : Nat) (x : (List Int)) (k : Int) : Option ((List Int) × Int) :=
 (F_mk25 n0 x k).bind fun r0 =>
 some (r0.1, r0.2)
instance c_mk67 {n0 : Nat} {x : (List Int)} {k : Int} : HasC (F_mk67 n0 x k) fun rr => ACalls Tryz.prog 67 [.agg [.gow 1 0 n0], .d (iD k)] [(0, .prv 1 n0 (tolds (List.map iD x)))] 1 fun xx ss => xx = .d (iD rr.2) ∧ ss = [(0, .prv 1 n0 (tolds (List.map iD rr.1)))] := ⟨@fun rr h => by
  delta F_mk67 at h
  refine fnM67.callsD (vcm_sound ?_)
  delta mcM67
  refine stp ?_
  refine rCo [(0, 0)] [] h fun r0 hr0 h => ?_
  refine nds ?_
  cases h
  exact Done.trans (Done.drops [64] (by simp)) (Done.told frd don)⟩
def mcM68 : MCode :=
 (.seq (.reg (sq 4 [mi 0])) (.seq (.seq (.reg (sq 5 [mi 0])) (.block 0 (.loop (.seq (.seq (.reg (sq 6 [mv 5, mv 0, ln 7, bn .lss 6 8])) (.cond (t0 9) .skip (.exit 0))) (.seq (.block 1 (.seq (.ghost (.reg (sq 12 [mv 0, mv 5, ix 2 12 13, fa 0 14, ld 15, mv 1, cf 25 [16, 17]] ++ sq 1 [mv 18]))) (.ghost (.reg (sq 19 [mv 0, mv 5, ix 2 19 20, fa 1 21, ld 22, mv 1, cf 25 [23, 24]] ++ sq 1 [mv 25]))))) (.reg (sq 10 [mv 5, bi .add 10 1] ++ sq 5 [mv 11]))))))) (.seq (.reg (sq 26 [mv 1] ++ sq 4 [mv 26])) .ret)))
theorem fnM68 : MFn Tryz.prog 68 mcM68 27 [.tmp 4] := ⟨_, Tryz.func68, by kernel_rfl, Tryz.ntmps68, by kernel_rfl⟩
noncomputable def F_mk68_l (n : Nat) : (Int × Int × List ((List Int) × (List Int))) → Option ((Int × Int × List ((List Int) × (List Int))) ⊕ (List ((List Int) × (List Int)) × Int))
 | (k, i, b) =>
  if (decide (i < (n : Int))) = true then
   if 0 ≤ i ∧ i < (n : Int) ∧ i < (b.length : Int) then
    (F_mk25 ((b.getD i.toNat default).1).length ((b.getD i.toNat default).1) k).bind fun r1 =>
    (F_mk25 ((b.getD i.toNat default).2).length ((b.getD i.toNat default).2) r1.2).bind fun r2 =>
    some (.inl (r2.2, (IntKind.i64.wrap (i + 1)), b.set i.toNat (r1.1, r2.1)))
   else none
  else
   Option.map Sum.inr (some (b, k))
noncomputable def F_mk68 (n : Nat) (a : List ((List Int) × (List Int))) (k : Int) : Option (List ((List Int) × (List Int)) × Int) := loopC (F_mk68_l n) (k, 0, a)
instance c_mk68 {n : Nat} {a : List ((List Int) × (List Int))} {k : Int} : HasC (F_mk68 n a k) fun rr => ACalls Tryz.prog 68 [.gow 2 0 n, .d (iD k)] [(0, .prv 2 n (tolds (List.map D_impl_Rule a)))] 1 fun xx ss => xx = .d (iD rr.2) ∧ ss = [(0, .prv 2 n (tolds (List.map D_impl_Rule rr.1)))] := ⟨@fun rr h => by
  delta F_mk68 at h
  refine fnM68.callsD (vcm_sound ?_)
  delta mcM68
  refine stp ?_
  refine m_loopF h [1, 5, 6, 7, 8, 9, 10, 11, 12, 13, 14, 15, 16, 17, 18, 19, 20, 21, 22, 23, 24, 25] (fun pp => [(1, .d (iD pp.1)), (5, .d (iD pp.2.1))]) (fun pp => [(0, .prv 2 n (tolds (List.map D_impl_Rule pp.2.2)))]) ?_ ?_
  · try dsimp only
    exact wk
  rintro ⟨k, i, b⟩ t1 h hb1
  unfold F_mk68_l at h
  try dsimp only at h
  refine vcm_sound (stp ?_)
  refine it h (fun hc h => ?_) fun hc h => ?_
  · refine ndI h fun hp h => ?_
    refine GhostQ.of ((Weak.prvE 0 (tolds (List.map D_impl_Rule (b.set i.toNat ((b.getD i.toNat default).1, (b.getD i.toNat default).2)))) rfl (by rw [set_self (by omega)])).trans (Weak.extC (f := D_impl_Rule) (f' := iD) (xs := b) (y := ((b.getD i.toNat default).1, (b.getD i.toNat default).2)) (ys := ((b.getD i.toNat default).1)) 0 501 i.toNat 0 rfl (by omega) (by decide) (m := i.toNat * 2) (by omega) rfl rfl (by omega))) ?_
    refine stp ?_
    refine nds ?_
    refine rCo [(0, 501)] [] h fun r1 hr1 h => ?_
    refine nds ?_
    refine GhostQ.of ((Weak.absC (f := D_impl_Rule) (f' := iD) (xs := b) (y := ((b.getD i.toNat default).1, (b.getD i.toNat default).2)) (y' := (r1.1, (b.getD i.toNat default).2)) (ys := r1.1) 0 501 i.toNat 0 rfl rfl rfl (by omega) (by decide) (by omega) (by decide) rfl (by omega) (by decide)).trans (Weak.extC (f := D_impl_Rule) (f' := iD) (xs := b) (y := (r1.1, (b.getD i.toNat default).2)) (ys := ((b.getD i.toNat default).2)) 0 502 i.toNat 1 rfl (by omega) (by decide) (m := i.toNat * 2 + 1) (by omega) rfl rfl (by omega))) ?_
    refine stp ?_
    refine nds ?_
    refine rCo [(0, 502)] [] h fun r2 hr2 h => ?_
    refine nds ?_
    cases h
    refine ⟨_, rfl, ?_⟩
    refine (Weak.absC (f := D_impl_Rule) (f' := iD) (xs := b) (y := (r1.1, (b.getD i.toNat default).2)) (y' := (r1.1, r2.1)) (ys := r2.1) 0 502 i.toNat 1 rfl rfl rfl (by omega) (by decide) (by omega) (by decide) rfl (by omega) (by decide)).trans ?_
    exact wk
  replace h := inr_some h hb1
  cases h
  exact Done.told frd don⟩
def mcM16 : MCode :=
 (.seq (.reg (sq 2 [.boxi 64 2 46 (t0 0)] ++ sq 4 [mi 0])) (.seq (.reg (sq 5 [fa 0 2, la 1 5, mv 1, cf 67 [6, 7]] ++ sq 1 [mv 8])) (.seq (.reg (sq 9 [fa 1 2, ld 9, mv 1, cf 68 [10, 11]] ++ sq 1 [mv 12])) (.seq (.reg (sq 13 [mv 1] ++ sq 4 [mv 13])) .ret))))
theorem fnM16 : MFn Tryz.prog 16 mcM16 14 [.tmp 4] := ⟨_, Tryz.func16, by kernel_rfl, Tryz.ntmps16, by kernel_rfl⟩
noncomputable def F_mk16 (n0 : Nat) (n1 : Nat) (x : ((List Int) × (List ((List Int) × (List Int))))) (k : Int) : Option (((List Int) × (List ((List Int) × (List Int)))) × Int) :=
 (F_mk67 n0 x.1 k).bind fun r0 =>
 (F_mk68 n1 x.2 r0.2).bind fun r1 =>
 some ((r0.1, r1.1), r1.2)
instance c_mk16 {n0 : Nat} {n1 : Nat} {x : ((List Int) × (List ((List Int) × (List Int))))} {k : Int} : HasC (F_mk16 n0 n1 x k) fun rr => ACalls Tryz.prog 16 [.agg [.gow 1 0 n0, .gow 2 1 n1], .d (iD k)] [(0, .prv 1 n0 (tolds (List.map iD x.1))), (1, .prv 2 n1 (tolds (List.map D_impl_Rule x.2)))] 2 fun xx ss => xx = .d (iD rr.2) ∧ ss = [(0, .prv 1 n0 (tolds (List.map iD rr.1.1))), (1, .prv 2 n1 (tolds (List.map D_impl_Rule rr.1.2)))] := ⟨@fun rr h => by
  delta F_mk16 at h
  refine fnM16.callsD (vcm_sound ?_)
  delta mcM16
  refine stp ?_
  refine rCo [(0, 0)] [] h fun r0 hr0 h => ?_
  refine nds ?_
  refine rCo [(0, 1)] [] h fun r1 hr1 h => ?_
  refine nds ?_
  cases h
  exact Done.trans (Done.drops [64] (by simp)) (Done.told frd don)⟩
def mcM132 : MCode :=
 (.seq (.reg (sq 4 [mi 0])) (.seq (.seq (.reg (sq 5 [mi 0])) (.block 0 (.loop (.seq (.seq (.reg (sq 6 [mv 5, mv 0, ln 7, bn .lss 6 8])) (.cond (t0 9) .skip (.exit 0))) (.seq (.block 1 (.ghost (.reg (sq 12 [mv 0, mv 5, ix 1 12 13, ld 14, mv 1, cf 25 [15, 16]] ++ sq 1 [mv 17])))) (.reg (sq 10 [mv 5, bi .add 10 1] ++ sq 5 [mv 11]))))))) (.seq (.reg (sq 18 [mv 1] ++ sq 4 [mv 18])) .ret)))
theorem fnM132 : MFn Tryz.prog 132 mcM132 19 [.tmp 4] := ⟨_, Tryz.func132, by kernel_rfl, Tryz.ntmps132, by kernel_rfl⟩
noncomputable def F_mk132_l (n : Nat) : (Int × Int × List (List Int)) → Option ((Int × Int × List (List Int)) ⊕ (List (List Int) × Int))
 | (k, i, b) =>
  if (decide (i < (n : Int))) = true then
   if 0 ≤ i ∧ i < (n : Int) ∧ i < (b.length : Int) then
    (F_mk25 (b.getD i.toNat default).length (b.getD i.toNat default) k).bind fun r1 =>
    some (.inl (r1.2, (IntKind.i64.wrap (i + 1)), b.set i.toNat r1.1))
   else none
  else
   Option.map Sum.inr (some (b, k))
noncomputable def F_mk132 (n : Nat) (a : List (List Int)) (k : Int) : Option (List (List Int) × Int) := loopC (F_mk132_l n) (k, 0, a)
instance c_mk132 {n : Nat} {a : List (List Int)} {k : Int} : HasC (F_mk132 n a k) fun rr => ACalls Tryz.prog 132 [.gow 1 0 n, .d (iD k)] [(0, .prv 1 n (tolds (List.map (slD 1 iD) a)))] 1 fun xx ss => xx = .d (iD rr.2) ∧ ss = [(0, .prv 1 n (tolds (List.map (slD 1 iD) rr.1)))] := ⟨@fun rr h => by
  delta F_mk132 at h
  refine fnM132.callsD (vcm_sound ?_)
  delta mcM132
  refine stp ?_
  refine m_loopF h [1, 5, 6, 7, 8, 9, 10, 11, 12, 13, 14, 15, 16, 17] (fun pp => [(1, .d (iD pp.1)), (5, .d (iD pp.2.1))]) (fun pp => [(0, .prv 1 n (tolds (List.map (slD 1 iD) pp.2.2)))]) ?_ ?_
  · try dsimp only
    exact wk
  rintro ⟨k, i, b⟩ t1 h hb1
  unfold F_mk132_l at h
  try dsimp only at h
  refine vcm_sound (stp ?_)
  refine it h (fun hc h => ?_) fun hc h => ?_
  · refine ndI h fun hp h => ?_
    refine GhostQ.of ((Weak.prvE 0 (tolds (List.map (slD 1 iD) (b.set i.toNat (b.getD i.toNat default)))) rfl (by rw [set_self (by omega)])).trans (Weak.extC (f := (slD 1 iD)) (f' := iD) (xs := b) (y := (b.getD i.toNat default)) (ys := (b.getD i.toNat default)) 0 501 i.toNat 0 rfl (by omega) (by decide) (m := i.toNat) (by omega) rfl rfl (by omega))) ?_
    refine stp ?_
    refine nds ?_
    refine rCo [(0, 501)] [] h fun r1 hr1 h => ?_
    refine nds ?_
    cases h
    refine ⟨_, rfl, ?_⟩
    refine (Weak.absC (f := (slD 1 iD)) (f' := iD) (xs := b) (y := (b.getD i.toNat default)) (y' := r1.1) (ys := r1.1) 0 501 i.toNat 0 rfl rfl rfl (by omega) (by decide) (by omega) (by decide) rfl (by omega) (by decide)).trans ?_
    exact wk
  replace h := inr_some h hb1
  cases h
  exact Done.told frd don⟩
def mcM79 : MCode :=
 (.seq (.reg (sq 4 [mi 0])) (.seq (.seq (.reg (sq 5 [mi 0])) (.block 0 (.loop (.seq (.seq (.reg (sq 6 [mv 5, mv 0, ln 7, bn .lss 6 8])) (.cond (t0 9) .skip (.exit 0))) (.seq (.block 1 (.seq (.ghost (.reg (sq 12 [mv 0, mv 5, mv 1, ix 4 12 13, fa 0 15] ++ s0 (sr 1 16 14)))) (.seq (.reg (sq 17 [mv 1, bi .add 17 1] ++ sq 1 [mv 18])) (.seq (.ghost (.reg (sq 19 [mv 0, mv 5, ix 4 19 20, fa 1 21, ld 22, mv 1, cf 25 [23, 24]] ++ sq 1 [mv 25]))) (.seq (.ghost (.reg (sq 26 [mv 0, mv 5, ix 4 26 27, fa 2 28, ld 29, mv 1, cf 132 [30, 31]] ++ sq 1 [mv 32]))) (.ghost (.reg (sq 33 [mv 0, mv 5, ix 4 33 34, fa 3 35, ld 36, mv 1, cf 25 [37, 38]] ++ sq 1 [mv 39])))))))) (.reg (sq 10 [mv 5, bi .add 10 1] ++ sq 5 [mv 11]))))))) (.seq (.reg (sq 40 [mv 1] ++ sq 4 [mv 40])) .ret)))
theorem fnM79 : MFn Tryz.prog 79 mcM79 41 [.tmp 4] := ⟨_, Tryz.func79, by kernel_rfl, Tryz.ntmps79, by kernel_rfl⟩
noncomputable def F_mk79_l (n : Nat) : (Int × Int × List (Int × (List Int) × (List (List Int)) × (List Int))) → Option ((Int × Int × List (Int × (List Int) × (List (List Int)) × (List Int))) ⊕ (List (Int × (List Int) × (List (List Int)) × (List Int)) × Int))
 | (k, i, b) =>
  if (decide (i < (n : Int))) = true then
   if 0 ≤ i ∧ i < (n : Int) ∧ i < (b.length : Int) then
    (F_mk25 ((b.getD i.toNat default).2.1).length ((b.getD i.toNat default).2.1) (IntKind.i64.wrap (k + 1))).bind fun r1 =>
    (F_mk132 ((b.getD i.toNat default).2.2.1).length ((b.getD i.toNat default).2.2.1) r1.2).bind fun r2 =>
    (F_mk25 ((b.getD i.toNat default).2.2.2).length ((b.getD i.toNat default).2.2.2) r2.2).bind fun r3 =>
    some (.inl (r3.2, (IntKind.i64.wrap (i + 1)), b.set i.toNat (k, r1.1, r2.1, r3.1)))
   else none
  else
   Option.map Sum.inr (some (b, k))
noncomputable def F_mk79 (n : Nat) (a : List (Int × (List Int) × (List (List Int)) × (List Int))) (k : Int) : Option (List (Int × (List Int) × (List (List Int)) × (List Int)) × Int) := loopC (F_mk79_l n) (k, 0, a)
instance c_mk79 {n : Nat} {a : List (Int × (List Int) × (List (List Int)) × (List Int))} {k : Int} : HasC (F_mk79 n a k) fun rr => ACalls Tryz.prog 79 [.gow 4 0 n, .d (iD k)] [(0, .prv 4 n (tolds (List.map D_impl_Node a)))] 1 fun xx ss => xx = .d (iD rr.2) ∧ ss = [(0, .prv 4 n (tolds (List.map D_impl_Node rr.1)))] := ⟨@fun rr h => by
  delta F_mk79 at h
  refine fnM79.callsD (vcm_sound ?_)
  delta mcM79
  refine stp ?_
  refine m_loopF h [1, 5, 6, 7, 8, 9, 10, 11, 12, 13, 14, 15, 16, 17, 18, 19, 20, 21, 22, 23, 24, 25, 26, 27, 28, 29, 30, 31, 32, 33, 34, 35, 36, 37, 38, 39] (fun pp => [(1, .d (iD pp.1)), (5, .d (iD pp.2.1))]) (fun pp => [(0, .prv 4 n (tolds (List.map D_impl_Node pp.2.2)))]) ?_ ?_
  · try dsimp only
    exact wk
  rintro ⟨k, i, b⟩ t1 h hb1
  unfold F_mk79_l at h
  try dsimp only at h
  refine vcm_sound (stp ?_)
  refine it h (fun hc h => ?_) fun hc h => ?_
  · refine ndI h fun hp h => ?_
    refine GhostQ.of (Weak.prvE 0 (tolds (List.map D_impl_Node (b.set i.toNat ((b.getD i.toNat default).1, (b.getD i.toNat default).2.1, (b.getD i.toNat default).2.2.1, (b.getD i.toNat default).2.2.2)))) rfl (by rw [set_self (by omega)])) (nds ?_)
    refine GhostQ.of ((Weak.prvE 0 (tolds (List.map D_impl_Node (b.set i.toNat (k, (b.getD i.toNat default).2.1, (b.getD i.toNat default).2.2.1, (b.getD i.toNat default).2.2.2)))) rfl (by exact told_seg2 (i := i.toNat) (k := 0) (by omega) (by decide) (by omega) (by omega) rfl rfl)).trans (Weak.extC (f := D_impl_Node) (f' := iD) (xs := b) (y := (k, (b.getD i.toNat default).2.1, (b.getD i.toNat default).2.2.1, (b.getD i.toNat default).2.2.2)) (ys := ((b.getD i.toNat default).2.1)) 0 501 i.toNat 1 rfl (by omega) (by decide) (m := i.toNat * 4 + 1) (by omega) rfl rfl (by omega))) ?_
    refine stp ?_
    refine nds ?_
    refine rCo [(0, 501)] [] h fun r1 hr1 h => ?_
    refine nds ?_
    refine GhostQ.of ((Weak.absC (f := D_impl_Node) (f' := iD) (xs := b) (y := (k, (b.getD i.toNat default).2.1, (b.getD i.toNat default).2.2.1, (b.getD i.toNat default).2.2.2)) (y' := (k, r1.1, (b.getD i.toNat default).2.2.1, (b.getD i.toNat default).2.2.2)) (ys := r1.1) 0 501 i.toNat 1 rfl rfl rfl (by omega) (by decide) (by omega) (by decide) rfl (by omega) (by decide)).trans (Weak.extC (f := D_impl_Node) (f' := (slD 1 iD)) (xs := b) (y := (k, r1.1, (b.getD i.toNat default).2.2.1, (b.getD i.toNat default).2.2.2)) (ys := ((b.getD i.toNat default).2.2.1)) 0 502 i.toNat 2 rfl (by omega) (by decide) (m := i.toNat * 4 + 2) (by omega) rfl rfl (by omega))) ?_
    refine stp ?_
    refine nds ?_
    refine rCo [(0, 502)] [] h fun r2 hr2 h => ?_
    refine nds ?_
    refine GhostQ.of ((Weak.absC (f := D_impl_Node) (f' := (slD 1 iD)) (xs := b) (y := (k, r1.1, (b.getD i.toNat default).2.2.1, (b.getD i.toNat default).2.2.2)) (y' := (k, r1.1, r2.1, (b.getD i.toNat default).2.2.2)) (ys := r2.1) 0 502 i.toNat 2 rfl rfl rfl (by omega) (by decide) (by omega) (by decide) rfl (by omega) (by decide)).trans (Weak.extC (f := D_impl_Node) (f' := iD) (xs := b) (y := (k, r1.1, r2.1, (b.getD i.toNat default).2.2.2)) (ys := ((b.getD i.toNat default).2.2.2)) 0 503 i.toNat 3 rfl (by omega) (by decide) (m := i.toNat * 4 + 3) (by omega) rfl rfl (by omega))) ?_
    refine stp ?_
    refine nds ?_
    refine rCo [(0, 503)] [] h fun r3 hr3 h => ?_
    refine nds ?_
    cases h
    refine ⟨_, rfl, ?_⟩
    refine (Weak.absC (f := D_impl_Node) (f' := iD) (xs := b) (y := (k, r1.1, r2.1, (b.getD i.toNat default).2.2.2)) (y' := (k, r1.1, r2.1, r3.1)) (ys := r3.1) 0 503 i.toNat 3 rfl rfl rfl (by omega) (by decide) (by omega) (by decide) rfl (by omega) (by decide)).trans ?_
    exact wk
  replace h := inr_some h hb1
  cases h
  exact Done.told frd don⟩
def mcM26 : MCode :=
 (.seq (.reg (sq 2 [.boxi 64 2 61 (t0 0)] ++ sq 4 [mi 0])) (.seq (.reg (sq 5 [fa 0 2, ld 5, mv 1, cf 79 [6, 7]] ++ sq 1 [mv 8])) (.seq (.reg (sq 9 [mv 1] ++ sq 4 [mv 9])) .ret)))
theorem fnM26 : MFn Tryz.prog 26 mcM26 10 [.tmp 4] := ⟨_, Tryz.func26, by kernel_rfl, Tryz.ntmps26, by kernel_rfl⟩
noncomputable def F_mk26 (n0 : Nat) (x : (List (Int × (List Int) × (List (List Int)) × (List Int)))) (k : Int) : Option ((List (Int × (List Int) × (List (List Int)) × (List Int))) × Int) :=
 (F_mk79 n0 x k).bind fun r0 =>
 some (r0.1, r0.2)
instance c_mk26 {n0 : Nat} {x : (List (Int × (List Int) × (List (List Int)) × (List Int)))} {k : Int} : HasC (F_mk26 n0 x k) fun rr => ACalls Tryz.prog 26 [.agg [.gow 4 0 n0], .d (iD k)] [(0, .prv 4 n0 (tolds (List.map D_impl_Node x)))] 1 fun xx ss => xx = .d (iD rr.2) ∧ ss = [(0, .prv 4 n0 (tolds (List.map D_impl_Node rr.1)))] := ⟨@fun rr h => by
  delta F_mk26 at h
  refine fnM26.callsD (vcm_sound ?_)
  delta mcM26
  refine stp ?_
  refine rCo [(0, 0)] [] h fun r0 hr0 h => ?_
  refine nds ?_
  cases h
  exact Done.trans (Done.drops [64] (by simp)) (Done.told frd don)⟩
noncomputable def F_le27_ld (n0 : Nat) (x0 : (List (Int × (List Int) × (List (List Int)) × (List Int)))) (x1 : Int) : Option Int := if n0 = x0.length then F_laws_heldProof x0 x1 else none
instance c_F_le27_ld {n0 : Nat} {x0 : (List (Int × (List Int) × (List (List Int)) × (List Int)))} {x1 : Int} : HasC (F_le27_ld n0 x0 x1) fun rr => ACalls Tryz.prog 27 [.agg [.gow 4 0 n0], .d (iD x1)] [(0, .prv 4 n0 (tolds (List.map D_impl_Node x0)))] 1 fun xx ss => xx = .d (iD rr) ∧ ss = [(0, .prv 4 n0 (tolds (List.map D_impl_Node x0)))] := ⟨@fun rr h => by
  obtain ⟨hp, h⟩ := need_some h
  exact ACalls.lent ((c_laws_heldProof).c h) (.cons (.agg (.cons (Lent.tok (f := D_impl_Node) rfl (by omega)) .nil)) (.cons (.le (AV.le_refl _)) .nil))⟩
end Go.Proofs.YtklfjpilhbkekaaGreat
namespace Go.Proofs.YtklfjpilhbkekaaGreat
open Go Abx
attribute [local irreducible] vcm vgo vdr vrun vdrun MWp GhostQ BrC BrO BrG BrD BrH AmbO callR callD drQ EnvLe StoLe
set_option maxHeartbeats 4000000
attribute [-go_sem] sat sset
def mc4 : MCode :=
 (.seq (.reg (sq 4 [bo 4 27 0] ++ sq 8 [mb false])) (.seq (.seq (.reg (sq 22 [mv 1, ln 22, bi .gtr 23 1048576])) (.cond (t0 24) (.seq (.reg (sq 8 [mb true])) .ret) .skip)) (.seq (.seq (.reg (sq 25 [mv 2, ln 25, bi .gtr 26 1048576])) (.cond (t0 27) (.seq (.reg (sq 8 [mb true])) .ret) .skip)) (.seq (.reg (sq 9 [mi 1048576])) (.seq (.reg (sq 28 [la 2 4, mv 9, cf 7 [28, 29]] ++ sq 9 [mv 30])) (.seq (.seq (.reg (sq 31 [mv 9, bi .lss 31 0])) (.cond (t0 32) (.seq (.reg (sq 8 [mb true])) .ret) .skip)) (.seq (.reg (sq 34 [la 2 4, cf 10 [34], mv 1, cf 21 [36], mv 2, cf 21 [38], mv 3, cf 20 [35, 37, 39, 40]] ++ sq 33 [mv 41] ++ sq 42 [ex 33 0, ex 33 1] ++ sq 10 [.alloc 10 61 [.sl 0 (some true) []]] ++ s0 (sr 1 10 42) ++ sq 11 [mv 43])) (.seq (.reg (sq 44 [la 2 4, cf 10 [44]] ++ sq 12 [.alloc 12 46 [.sl 0 (some true) [], .sl 0 (some true) []]] ++ s0 (sr 2 12 45))) (.seq (.reg (sq 46 [mv 1, cf 21 [46]] ++ sq 13 [mv 47])) (.seq (.reg (sq 48 [mv 2, cf 21 [48]] ++ sq 14 [mv 49])) (.seq (.reg (sq 51 [la 2 12, mv 13, mv 14, mv 3, cf 22 [51, 52, 53, 54]] ++ sq 50 [mv 55] ++ sq 56 [ex 50 0, ex 50 1] ++ sq 15 [.alloc 15 61 [.sl 0 (some true) []]] ++ s0 (sr 1 15 56) ++ sq 16 [mv 57])) (.seq (.seq (.reg (sq 58 [la 1 15, la 1 10, cf 23 [58, 59], nt 60, mv 61] ++ sg 62 false 63 [mv 16, mv 11, .binb true (t0 63) (t0 64)] ++ sq 66 [po 62 65])) (.cond (t0 66) (.seq (.reg (sq 8 [mb false])) .ret) .skip)) (.seq (.seq (.draw (sq 67 [la 2 12, la 2 4, cf 10 [68], cf 14 [67, 69], nt 70]) [[], [], [1], [0, 2, 2], [3]]) (.cond (t0 71) (.seq (.reg (sq 8 [mb false])) .ret) .skip)) (.seq (.seq (.reg (sq 72 [mv 13, mv 1, cf 21 [73], cf 24 [72, 74], nt 75])) (.cond (t0 76) (.seq (.reg (sq 8 [mb false])) .ret) .skip)) (.seq (.seq (.reg (sq 77 [mv 14, mv 2, cf 21 [78], cf 24 [77, 79], nt 80])) (.cond (t0 81) (.seq (.reg (sq 8 [mb false])) .ret) .skip)) (.seq (.reg (sq 17 [mi 1])) (.seq (.reg (sq 82 [la 2 12, mv 17, cf 16 [82, 83]] ++ sq 17 [mv 84])) (.seq (.reg (sq 85 [mv 13, mv 17, cf 25 [85, 86]] ++ sq 17 [mv 87])) (.seq (.reg (sq 88 [mv 14, mv 17, cf 25 [88, 89]] ++ sq 17 [mv 90])) (.seq (.seq (.reg (sq 91 [mv 17, bi .lss 91 0, mv 92] ++ sg 93 false 94 [la 1 15, la 1 10, cf 23 [94, 95], nt 96] ++ sq 98 [po 93 97, mv 98] ++ sg 99 false 100 [mv 16, mv 11, .binb true (t0 100) (t0 101)] ++ sq 103 [po 99 102])) (.cond (t0 103) (.seq (.reg (sq 8 [mb false])) .ret) .skip)) (.seq (.reg (sq 18 [mi 1])) (.seq (.reg (sq 104 [la 1 15, mv 18, cf 26 [104, 105]] ++ sq 18 [mv 106])) (.seq (.reg (sq 19 [mi 1])) (.seq (.reg (sq 107 [la 1 15, mv 19, cf 27 [107, 108]] ++ sq 19 [mv 109])) (.seq (.seq (.reg (sq 110 [mv 19, bi .lss 110 0])) (.cond (t0 111) (.seq (.reg (sq 8 [mb false])) .ret) .skip)) (.seq (.seq (.reg (sq 112 [mv 19, mv 18, bn .neq 112 113])) (.cond (t0 114) (.seq (.reg (sq 8 [mb false])) .ret) .skip)) (.seq (.reg (sq 116 [la 2 4, cf 10 [116], mv 1, cf 21 [118], mv 2, cf 21 [120], mv 3, cf 22 [117, 119, 121, 122]] ++ sq 115 [mv 123] ++ sq 124 [ex 115 0, ex 115 1] ++ sq 20 [.alloc 20 61 [.sl 0 (some true) []]] ++ s0 (sr 1 20 124) ++ sq 21 [mv 125])) (.seq (.seq (.reg (sq 126 [la 1 20, la 1 10, cf 23 [126, 127], nt 128, mv 129] ++ sg 130 false 131 [mv 21, mv 11, .binb true (t0 131) (t0 132)] ++ sq 134 [po 130 133])) (.cond (t0 134) (.seq (.reg (sq 8 [mb false])) .ret) .skip)) (.seq (.reg (sq 19 [mi 1])) (.seq (.reg (sq 135 [la 1 15, mv 19, cf 27 [135, 136]] ++ sq 19 [mv 137])) (.seq (.seq (.reg (sq 138 [mv 19, bi .lss 138 0])) (.cond (t0 139) (.seq (.reg (sq 8 [mb false])) .ret) .skip)) (.seq (.seq (.reg (sq 140 [mv 19, mv 18, bn .neq 140 141])) (.cond (t0 142) (.seq (.reg (sq 8 [mb false])) .ret) .skip)) (.seq (.reg (sq 8 [mb true])) .ret)))))))))))))))))))))))))))))))))
theorem fn4 : MFn Tryz.prog 4 mc4 143 [.tmp 8] := ⟨_, Tryz.func4, by kernel_rfl, Tryz.ntmps4, by kernel_rfl⟩
noncomputable def F_laws_FnExactEqualProof (aSys : ((List Int) × (List ((List Int) × (List Int))))) (aA : (List Int)) (aB : (List Int)) (aFuel : Int) : Option Bool :=
 if (decide (1048576 < (aA.length : Int))) = true then
  some true
 else
  if (decide (1048576 < (aB.length : Int))) = true then
   some true
  else
   (F_laws_szSystem aSys 1048576).bind fun r =>
   if (decide (r < 0)) = true then
    some true
   else
    (F_pub10 aSys).bind fun v =>
    (F_pub21 aA).bind fun v_1 =>
    (F_pub21 aB).bind fun v_2 =>
    (F_spec_EqualProof v v_1 v_2 aFuel).bind fun r_1 =>
    (F_to10 aSys).bind fun v_3 =>
    (F_to21 aA).bind fun v_4 =>
    (F_to21 aB).bind fun v_5 =>
    (F_le22_llld aSys.1.length aSys.2.length aA.length aB.length v_3 v_4 v_5 aFuel).bind fun g =>
    (F_le23_ld g.1.length g.1 r_1.1).bind fun q =>
    if q = true then
     if (g.2 != r_1.2) = true then
      some false
     else
      (F_to10 aSys).bind fun v_6 =>
      (F_le14_ll aSys.1.length aSys.2.length aSys.1.length aSys.2.length v_3 v_6).bind fun q_1 =>
      if q_1 = true then
       (F_to21 aA).bind fun v_7 =>
       (F_le24_ll aA.length aA.length v_4 v_7).bind fun q_2 =>
       if q_2 = true then
        (F_to21 aB).bind fun v_8 =>
        (F_le24_ll aB.length aB.length v_5 v_8).bind fun q_3 =>
        if q_3 = true then
         (F_mk16 aSys.1.length aSys.2.length v_3 1).bind fun m =>
         (F_mk25 aA.length v_4 m.2).bind fun m_1 =>
         (F_mk25 aB.length v_5 m_1.2).bind fun m_2 =>
         if (decide (m_2.2 < 0)) = true then
          some false
         else
          (F_le23_ld g.1.length g.1 r_1.1).bind fun q_4 =>
          if q_4 = true then
           if (g.2 != r_1.2) = true then
            some false
           else
            (F_mk26 g.1.length g.1 1).bind fun m_3 =>
            (F_le27_ld g.1.length m_3.1 1).bind fun q_5 =>
            if (decide (q_5 < 0)) = true then
             some false
            else
             if (q_5 != m_3.2) = true then
              some false
             else
              (F_to10 aSys).bind fun v_9 =>
              (F_to21 aA).bind fun v_10 =>
              (F_to21 aB).bind fun v_11 =>
              (F_le22_llld aSys.1.length aSys.2.length aA.length aB.length v_9 v_10 v_11 aFuel).bind fun g_1 =>
              (F_le23_ld g_1.1.length g_1.1 r_1.1).bind fun q_6 =>
              if q_6 = true then
               if (g_1.2 != r_1.2) = true then
                some false
               else
                (F_le27_ld g.1.length m_3.1 1).bind fun q_7 =>
                if (decide (q_7 < 0)) = true then
                 some false
                else
                 if (q_7 != m_3.2) = true then
                  some false
                 else
                  some true
              else
               some false
          else
           some false
        else
         some false
       else
        some false
      else
       some false
    else
     some false
instance c_laws_FnExactEqualProof {aSys : ((List Int) × (List ((List Int) × (List Int))))} {aA : (List Int)} {aB : (List Int)} {aFuel : Int} : HasC (F_laws_FnExactEqualProof aSys aA aB aFuel) fun rr => PFun Tryz.prog 4 [D_laws_System aSys, (slD 1 iD) aA, (slD 1 iD) aB, iD aFuel] (bD rr) := ⟨@fun rr h => by
  delta F_laws_FnExactEqualProof at h
  refine fn4.pureL (vcm_sound ?_)
  delta mc4
  refine stp ?_
  refine iF h fun hc h => ?_
  refine iF h fun hc h => ?_
  refine rC h fun r hr h => ?_
  refine iF h fun hc h => ?_
  refine rC h fun v hv h => ?_
  refine rC h fun v_1 hv_1 h => ?_
  refine rC h fun v_2 hv_2 h => ?_
  refine rCN h fun r_1 hr_1 h => ?_
  refine rCo [] [(900000, 45), (900001, 200000)] h fun v_3 hv_3 h => ?_
  refine rCo [] [(900000, 47)] h fun v_4 hv_4 h => ?_
  refine rCo [] [(900000, 49)] h fun v_5 hv_5 h => ?_
  refine rCo [(0, 45), (1, 200000), (2, 47), (3, 49)] [(900000, 55)] h fun g hg h => ?_
  refine rCo [(0, 55)] [] h fun q hq h => ?_
  refine iT h fun hc h => ?_
  refine iF h fun hc h => ?_
  refine dCo [] [(900000, 69), (900001, 200001)] h fun v_6 hv_6 h => ?_
  refine dCo [(0, 45), (1, 200000), (2, 69), (3, 200001)] [] h fun q_1 hq_1 h => ?_
  refine drQ_of (by kernel_rfl) (stp ?_)
  refine iT h fun hc h => ?_
  refine rCo [] [(900000, 74)] h fun v_7 hv_7 h => ?_
  refine rCo [(0, 47), (1, 74)] [] h fun q_2 hq_2 h => ?_
  refine iT h fun hc h => ?_
  refine rCo [] [(900000, 79)] h fun v_8 hv_8 h => ?_
  refine rCo [(0, 49), (1, 79)] [] h fun q_3 hq_3 h => ?_
  refine iT h fun hc h => ?_
  refine rCo [(0, 45), (1, 200000)] [] h fun m hm h => ?_
  refine rCo [(0, 47)] [] h fun m_1 hm_1 h => ?_
  refine rCo [(0, 49)] [] h fun m_2 hm_2 h => ?_
  refine iF h fun hc h => ?_
  refine rCo [(0, 55)] [] h fun q_4 hq_4 h => ?_
  refine iT h fun hc h => ?_
  refine iF h fun hc h => ?_
  refine rCo [(0, 55)] [] h fun m_3 hm_3 h => ?_
  refine rCo [(0, 55)] [] h fun q_5 hq_5 h => ?_
  refine iF h fun hc h => ?_
  refine iF h fun hc h => ?_
  refine rCo [] [(900000, 117), (900001, 200002)] h fun v_9 hv_9 h => ?_
  refine rCo [] [(900000, 119)] h fun v_10 hv_10 h => ?_
  refine rCo [] [(900000, 121)] h fun v_11 hv_11 h => ?_
  refine rCo [(0, 117), (1, 200002), (2, 119), (3, 121)] [(900000, 123)] h fun g_1 hg_1 h => ?_
  refine rCo [(0, 123)] [] h fun q_6 hq_6 h => ?_
  refine iT h fun hc h => ?_
  refine iF h fun hc h => ?_
  refine rCo [(0, 55)] [] h fun q_7 hq_7 h => ?_
  exact aut⟩
end Go.Proofs.YtklfjpilhbkekaaGreat
