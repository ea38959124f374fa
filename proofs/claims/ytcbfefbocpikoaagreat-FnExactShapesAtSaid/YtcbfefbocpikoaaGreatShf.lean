/- Functions of the program and the equations that they compute; Plain theory of terms and what the equations of the functions come to; The law lifted to the statement; What the tool asks of the program for the law, by computation; nothing is assumed. -/
import Derived.Test.YtcbfefbocpikoaaGreatShe
import Derived.Carry
import Derived.Test.YtcbfefbocpikoaaGreatRows
import Derived.ProofKit
import Derived.JoinedOf
import Derived.KernelRfl
set_option linter.unusedSimpArgs false
set_option linter.unusedVariables false
set_option linter.unusedSectionVars false
set_option linter.unnecessarySimpa false
namespace Go.Proofs.YtcbfefbocpikoaaGreat
open Go Abx
attribute [local irreducible] vcm vgo vdr vrun vdrun MWp GhostQ BrC BrO BrG BrD BrH AmbO callR callD drQ EnvLe StoLe
set_option maxHeartbeats 4000000
instance : Cl D_laws_Rule := Cl.agg _ (fun _ => rfl) (fun _ => rfl)
instance : Cl D_laws_System := Cl.agg _ (fun _ => rfl) (fun _ => rfl)
def mcT8 : MCode :=
 (.seq (.reg (sq 2 [.mv (.const (.slice none 0 0))])) (.seq (.reg (sq 5 [mv 0, ln 5, .mkslp 7 2 1 8 [.lit (.int .i64 0)] false (t0 6) (t0 6)] ++ sq 3 [mv 7])) (.seq (.seq (.reg (sq 4 [mi 0])) (.block 0 (.loop (.seq (.seq (.reg (sq 8 [mv 4, mv 0, ln 9, bn .lss 8 10])) (.cond (t0 11) .skip (.exit 0))) (.seq (.block 1 (.reg (sq 14 [mv 3, mv 4, mv 0, mv 4, ix 1 16 17, ld 18, ix 1 14 15] ++ s0 (sr 1 20 19)))) (.reg (sq 12 [mv 4, bi .add 12 1] ++ sq 4 [mv 13]))))))) (.seq (.reg (sq 21 [mv 3] ++ sq 2 [mv 21])) .ret))))
theorem fnT8 : MFn Tryz.prog 8 mcT8 22 [.tmp 2] := ⟨_, Tryz.func8, by kernel_rfl, Tryz.ntmps8, by kernel_rfl⟩
noncomputable def F_to_Int64S_l (a : List Int) : (Int × List Int) → Option ((Int × List Int) ⊕ List Int)
 | (i, out) =>
  if (decide (i < (a.length : Int))) = true then
   if 0 ≤ i ∧ i < (a.length : Int) ∧ i < (out.length : Int) then
    some (.inl ((IntKind.i64.wrap (i + 1)), out.set i.toNat (a.getD i.toNat default)))
   else none
  else
   Option.map Sum.inr (some out)
noncomputable def F_to_Int64S (a : List Int) : Option (List Int) :=
 if 0 ≤ (a.length : Int) ∧ 8 * (a.length : Int) ≤ 281474976710656 ∧ (a.length : Int) < 4611686018427387904 then
  loopC (F_to_Int64S_l a) (0, List.replicate a.length 0)
 else none
instance c_to_Int64S {a : List Int} : HasC (F_to_Int64S a) fun rr => ACalls Tryz.prog 8 [.d ((slD 1 iD) a)] [] 0 fun xx ss => xx = .gow 1 900000 a.length ∧ ss = [(900000, .prv 1 a.length (tolds (List.map iD rr)))] := ⟨@fun rr h => by
  delta F_to_Int64S at h
  refine fnT8.callsD (vcm_sound ?_)
  delta mcT8
  refine stp ?_
  refine ndI h fun hp h => ?_
  refine m_loopF h [4, 8, 9, 10, 11, 12, 13, 14, 15, 16, 17, 18, 19, 20] (fun pp => [(4, .d (iD pp.1))]) (fun pp => [(7, .prv 1 a.length (tolds (List.map iD pp.2)))]) ?_ ?_
  · try dsimp only
    refine (Weak.prvE 7 (tolds (List.map iD (List.replicate a.length 0))) rfl (told_flat _)).trans ?_
    exact wk
  rintro ⟨i, out⟩ t1 h hb1
  unfold F_to_Int64S_l at h
  try dsimp only at h
  refine vcm_sound (stp ?_)
  refine it h (fun hc h => ?_) fun hc h => ?_
  · refine ndI h fun hp h => ?_
    cases h
    refine ⟨_, rfl, ?_⟩
    refine (Weak.prvE 7 (tolds (List.map iD (out.set i.toNat (a.getD i.toNat default)))) rfl (by (try simp only [go_sem, rens_take, rens_drop, rens_tolds, AV.rens, AV.ren]); exact told_segE (i := i.toNat) (by omega) (by omega) (by omega) rfl)).trans ?_
    exact wk
  replace h := inr_some h hb1
  cases h
  exact Done.trans (Done.move 7 900000 (ob := .prv 1 a.length (tolds (List.map iD rr))) (by omega) (by omega) (by omega) rfl (by first | rfl | (simp [sat, smove, Ob.ren, rens_tolds]; done))) (Done.told frd don)⟩
def mcT24 : MCode :=
 (.seq (.reg (sq 1 [bo 1 24 0, .alloc 2 30 [.sl 0 (some true) []]])) (.seq (.reg (sq 3 [.alloc 3 30 [.sl 0 (some true) []]])) (.seq (.reg (sq 4 [fa 0 1, ld 4, cf 8 [5], fa 0 3] ++ s0 (sr 1 7 6))) (.seq (.reg (sq 8 [la 1 3] ++ s0 (sr 1 2 8))) .ret))))
theorem fnT24 : MFn Tryz.prog 24 mcT24 9 [.cell 2 1 true] := ⟨_, Tryz.func24, by kernel_rfl, Tryz.ntmps24, by kernel_rfl⟩
noncomputable def F_to_Sig (x : (List Int)) : Option (List Int) :=
 (F_to_Int64S x).bind fun r0 =>
 some r0
instance c_to_Sig {x : (List Int)} : HasC (F_to_Sig x) fun rr => ACalls Tryz.prog 24 [.d (.agg [(slD 1 iD) x])] [] 0 fun xx ss => xx = .agg [.gow 1 900000 x.length] ∧ ss = [(900000, .prv 1 x.length (tolds (List.map iD rr)))] := ⟨@fun rr h => by
  delta F_to_Sig at h
  refine fnT24.callsD (vcm_sound ?_)
  delta mcT24
  refine stp ?_
  refine rCo [] [(900000, 6)] h fun r0 hr0 h => ?_
  refine nds ?_
  cases h
  exact Done.trans ((Done.trans (Done.move 6 900000 (ob := .prv 1 x.length (tolds (List.map iD rr))) (by omega) (by omega) (by omega) rfl (by first | rfl | (simp [sat, smove, Ob.ren, rens_tolds]; done))) (Done.drops [1, 2, 3] (by simp)))) (Done.told frd don)⟩
def mcT53 : MCode :=
 (.seq (.reg (sq 1 [bo 1 66 0, .alloc 2 70 [.sl 0 (some true) [], .sl 0 (some true) []]])) (.seq (.reg (sq 3 [.alloc 3 70 [.sl 0 (some true) [], .sl 0 (some true) []]])) (.seq (.reg (sq 4 [fa 0 1, ld 4, cf 8 [5], fa 0 3] ++ s0 (sr 1 7 6))) (.seq (.reg (sq 8 [fa 1 1, ld 8, cf 8 [9], fa 1 3] ++ s0 (sr 1 11 10))) (.seq (.reg (sq 12 [la 2 3] ++ s0 (sr 2 2 12))) .ret)))))
theorem fnT53 : MFn Tryz.prog 53 mcT53 13 [.cell 2 2 true] := ⟨_, Tryz.func53, by kernel_rfl, Tryz.ntmps53, by kernel_rfl⟩
noncomputable def F_to_Rule (x : ((List Int) × (List Int))) : Option ((List Int) × (List Int)) :=
 (F_to_Int64S x.1).bind fun r0 =>
 (F_to_Int64S x.2).bind fun r1 =>
 some (r0, r1)
instance c_to_Rule {x : ((List Int) × (List Int))} : HasC (F_to_Rule x) fun rr => ACalls Tryz.prog 53 [.d (.agg [(slD 1 iD) x.1, (slD 1 iD) x.2])] [] 0 fun xx ss => xx = .agg [.gow 1 900000 x.1.length, .gow 1 900001 x.2.length] ∧ ss = [(900000, .prv 1 x.1.length (tolds (List.map iD rr.1))), (900001, .prv 1 x.2.length (tolds (List.map iD rr.2)))] := ⟨@fun rr h => by
  delta F_to_Rule at h
  refine fnT53.callsD (vcm_sound ?_)
  delta mcT53
  refine stp ?_
  refine rCo [] [(900000, 6)] h fun r0 hr0 h => ?_
  refine nds ?_
  refine rCo [] [(900000, 10)] h fun r1 hr1 h => ?_
  refine nds ?_
  cases h
  exact Done.trans ((Done.trans (Done.move 6 900000 (ob := .prv 1 x.1.length (tolds (List.map iD r0))) (by omega) (by omega) (by omega) rfl (by first | rfl | (simp [sat, smove, Ob.ren, rens_tolds]; done))) (Done.trans (Done.move 10 900001 (ob := .prv 1 x.2.length (tolds (List.map iD r1))) (by omega) (by omega) (by omega) rfl (by first | rfl | (simp [sat, smove, Ob.ren, rens_tolds]; done))) (Done.drops [1, 2, 3] (by simp))))) (Done.told frd don)⟩
def mcT25 : MCode :=
 (.seq (.reg (sq 2 [.mv (.const (.slice none 0 0))])) (.seq (.reg (sq 5 [mv 0, ln 5, .mkslp 7 70 2 48 [.sl 0 (some true) [], .sl 0 (some true) []] false (t0 6) (t0 6)] ++ sq 3 [mv 7])) (.seq (.seq (.reg (sq 4 [mi 0])) (.block 0 (.loop (.seq (.seq (.reg (sq 8 [mv 4, mv 0, ln 9, bn .lss 8 10])) (.cond (t0 11) .skip (.exit 0))) (.seq (.block 1 (.reg (sq 14 [mv 3, mv 4, mv 0, mv 4, ix 2 16 17, la 2 18, cf 53 [19], ix 2 14 15] ++ s0 (sr 2 21 20)))) (.reg (sq 12 [mv 4, bi .add 12 1] ++ sq 4 [mv 13]))))))) (.seq (.reg (sq 22 [mv 3] ++ sq 2 [mv 22])) .ret))))
theorem fnT25 : MFn Tryz.prog 25 mcT25 23 [.tmp 2] := ⟨_, Tryz.func25, by kernel_rfl, Tryz.ntmps25, by kernel_rfl⟩
noncomputable def F_to_RuleS_l (a : List ((List Int) × (List Int))) : (Int × List ((List Int) × (List Int))) → Option ((Int × List ((List Int) × (List Int))) ⊕ List ((List Int) × (List Int)))
 | (i, out) =>
  if (decide (i < (a.length : Int))) = true then
   if 0 ≤ i ∧ i < (a.length : Int) ∧ i < (out.length : Int) then
    (F_to_Rule (a.getD i.toNat default)).bind fun r =>
    some (.inl ((IntKind.i64.wrap (i + 1)), out.set i.toNat r))
   else none
  else
   Option.map Sum.inr (some out)
noncomputable def F_to_RuleS (a : List ((List Int) × (List Int))) : Option (List ((List Int) × (List Int))) :=
 if 0 ≤ (a.length : Int) ∧ 48 * (a.length : Int) ≤ 281474976710656 ∧ (a.length : Int) < 4611686018427387904 then
  loopC (F_to_RuleS_l a) (0, List.replicate a.length ([], []))
 else none
instance c_to_RuleS {a : List ((List Int) × (List Int))} : HasC (F_to_RuleS a) fun rr => ACalls Tryz.prog 25 [.d ((slD 2 D_laws_Rule) a)] [] 0 fun xx ss => xx = .gow 2 900000 a.length ∧ ss = [(900000, .prv 2 a.length (tolds (List.map D_impl_Rule rr)))] := ⟨@fun rr h => by
  delta F_to_RuleS at h
  refine fnT25.callsD (vcm_sound ?_)
  delta mcT25
  refine stp ?_
  refine ndI h fun hp h => ?_
  refine m_loopF h [4, 8, 9, 10, 11, 12, 13, 14, 15, 16, 17, 18, 19, 20, 21] (fun pp => [(4, .d (iD pp.1))]) (fun pp => [(7, .prv 2 a.length (tolds (List.map D_impl_Rule pp.2)))]) ?_ ?_
  · try dsimp only
    refine (Weak.prvZ (id := 7) (f := D_impl_Rule) ([], []) rfl (by exact ⟨NLe.nilz, ⟨NLe.nilz, trivial⟩⟩)).trans ?_
    exact wk
  rintro ⟨i, out⟩ t1 h hb1
  unfold F_to_RuleS_l at h
  try dsimp only at h
  refine vcm_sound (stp ?_)
  refine it h (fun hc h => ?_) fun hc h => ?_
  · refine ndI h fun hp h => ?_
    refine rCo [] [(900000, 20), (900001, 200001)] h fun r hr h => ?_
    refine nds ?_
    cases h
    refine ⟨_, rfl, ?_⟩
    refine (Weak.absSeg (f' := iD) (ys := r.1) (m := (a.getD i.toNat default).1.length) (m' := (a.getD i.toNat default).1.length) 7 20 0 rfl rfl (by first | rfl | (simp [sat, sdel, sset, skill, Ob.kill, Ob.ren, rens_tolds]; done)) rfl (by decide) (by omega) (by decide)).trans ?_
    refine (Weak.absSeg (f' := iD) (ys := r.2) (m := (a.getD i.toNat default).2.length) (m' := (a.getD i.toNat default).2.length) 7 200001 1 rfl rfl (by first | rfl | (simp [sat, sdel, sset, skill, Ob.kill, Ob.ren, rens_tolds]; done)) rfl (by decide) (by omega) (by decide)).trans ?_
    refine (Weak.drop 20 (by omega)).trans ?_
    refine (Weak.drop 200001 (by omega)).trans ?_
    refine (Weak.prvE 7 (tolds (List.map D_impl_Rule (out.set i.toNat r))) rfl (by (try simp only [go_sem, rens_take, rens_drop, rens_tolds, AV.rens, AV.ren]); exact told_segE (i := i.toNat) (by omega) (by omega) (by omega) rfl)).trans ?_
    exact wk
  replace h := inr_some h hb1
  cases h
  exact Done.trans (Done.move 7 900000 (ob := .prv 2 a.length (tolds (List.map D_impl_Rule rr))) (by omega) (by omega) (by omega) rfl (by first | rfl | (simp [sat, smove, Ob.ren, rens_tolds]; done))) (Done.told frd don)⟩
def mcT7 : MCode :=
 (.seq (.reg (sq 1 [bo 1 27 0, .alloc 2 33 [.sl 0 (some true) [], .sl 0 (some true) []]])) (.seq (.reg (sq 3 [.alloc 3 33 [.sl 0 (some true) [], .sl 0 (some true) []]])) (.seq (.reg (sq 4 [fa 0 1, la 1 4, cf 24 [5], fa 0 3] ++ s0 (sr 1 7 6))) (.seq (.reg (sq 8 [fa 1 1, ld 8, cf 25 [9], fa 1 3] ++ s0 (sr 1 11 10))) (.seq (.reg (sq 12 [la 2 3] ++ s0 (sr 2 2 12))) .ret)))))
theorem fnT7 : MFn Tryz.prog 7 mcT7 13 [.cell 2 2 true] := ⟨_, Tryz.func7, by kernel_rfl, Tryz.ntmps7, by kernel_rfl⟩
noncomputable def F_to_System (x : ((List Int) × (List ((List Int) × (List Int))))) : Option ((List Int) × (List ((List Int) × (List Int)))) :=
 (F_to_Sig x.1).bind fun r0 =>
 (F_to_RuleS x.2).bind fun r1 =>
 some (r0, r1)
instance c_to_System {x : ((List Int) × (List ((List Int) × (List Int))))} : HasC (F_to_System x) fun rr => ACalls Tryz.prog 7 [.d (.agg [(slD 1 iD) x.1, (slD 2 D_laws_Rule) x.2])] [] 0 fun xx ss => xx = .agg [.gow 1 900000 x.1.length, .gow 2 900001 x.2.length] ∧ ss = [(900000, .prv 1 x.1.length (tolds (List.map iD rr.1))), (900001, .prv 2 x.2.length (tolds (List.map D_impl_Rule rr.2)))] := ⟨@fun rr h => by
  delta F_to_System at h
  refine fnT7.callsD (vcm_sound ?_)
  delta mcT7
  refine stp ?_
  refine rCo [] [(900000, 6)] h fun r0 hr0 h => ?_
  refine nds ?_
  refine rCo [] [(900000, 10)] h fun r1 hr1 h => ?_
  refine nds ?_
  cases h
  exact Done.trans ((Done.trans (Done.move 6 900000 (ob := .prv 1 x.1.length (tolds (List.map iD r0))) (by omega) (by omega) (by omega) rfl (by first | rfl | (simp [sat, smove, Ob.ren, rens_tolds]; done))) (Done.trans (Done.move 10 900001 (ob := .prv 2 x.2.length (tolds (List.map D_impl_Rule r1))) (by omega) (by omega) (by omega) rfl (by first | rfl | (simp [sat, smove, Ob.ren, rens_tolds]; done))) (Done.drops [1, 2, 3] (by simp))))) (Done.told frd don)⟩
noncomputable def F_pub_System (x : ((List Int) × (List ((List Int) × (List Int))))) : Option ((List Int) × (List ((List Int) × (List Int)))) := (F_to_System x).bind fun r => if x.1.length = r.1.length ∧ x.2.length = r.2.length then some r else none
instance c_pub_System {x : ((List Int) × (List ((List Int) × (List Int))))} : HasC (F_pub_System x) fun rr => PFun Tryz.prog 7 [(.agg [(slD 1 iD) x.1, (slD 2 D_laws_Rule) x.2])] (.agg [(slD 1 iD) rr.1, (slD 2 D_impl_Rule) rr.2]) := ⟨@fun rr h => by
  obtain ⟨r, h1, h2⟩ := bind_some h
  obtain ⟨hp, h2⟩ := need_some h2
  cases h2
  exact ACalls.pub (dz := [(.agg [(slD 1 iD) x.1, (slD 2 D_laws_Rule) x.2])]) (tl := [(900000, 1, List.map iD rr.1), (900001, 2, List.map D_impl_Rule rr.2)]) ((c_to_System).c h1) (by simp [toks]; try omega) (.agg (.cons (Pub.tok (f := iD) (by simp [toks, sat]; try omega) (by omega)) (.cons (Pub.tok (f := D_impl_Rule) (by simp [toks, sat]; try omega) (by omega)) .nil)))⟩
noncomputable def F_pub_Int64S (x : (List Int)) : Option (List Int) := (F_to_Int64S x).bind fun r => if x.length = r.length then some r else none
instance c_pub_Int64S {x : (List Int)} : HasC (F_pub_Int64S x) fun rr => PFun Tryz.prog 8 [((slD 1 iD) x)] ((slD 1 iD) rr) := ⟨@fun rr h => by
  obtain ⟨r, h1, h2⟩ := bind_some h
  obtain ⟨hp, h2⟩ := need_some h2
  cases h2
  exact ACalls.pub (dz := [((slD 1 iD) x)]) (tl := [(900000, 1, List.map iD rr)]) ((c_to_Int64S).c h1) (by simp [toks]; try omega) (Pub.tok (f := iD) (by simp [toks, sat]; try omega) (by omega))⟩
noncomputable def F_le_ShapesAt_ll (n0 : Nat) (n1 : Nat) (n2 : Nat) (x0 : ((List Int) × (List ((List Int) × (List Int))))) (x1 : (List Int)) : Option (List Int) := if n0 = x0.1.length ∧ n1 = x0.2.length ∧ n2 = x1.length then F_impl_ShapesAt_s1 x0 x1 else none
instance c_F_le_ShapesAt_ll {n0 : Nat} {n1 : Nat} {n2 : Nat} {x0 : ((List Int) × (List ((List Int) × (List Int))))} {x1 : (List Int)} : HasC (F_le_ShapesAt_ll n0 n1 n2 x0 x1) fun rr => ACalls Tryz.prog 9 [.agg [.gow 1 0 n0, .gow 2 1 n1], .gow 1 2 n2] [(0, .prv 1 n0 (tolds (List.map iD x0.1))), (1, .prv 2 n1 (tolds (List.map D_impl_Rule x0.2))), (2, .prv 1 n2 (tolds (List.map iD x1)))] 3 fun xx ss => xx = .gow 1 900000 rr.length ∧ ss = [(0, .prv 1 n0 (tolds (List.map iD x0.1))), (1, .prv 2 n1 (tolds (List.map D_impl_Rule x0.2))), (2, .prv 1 n2 (tolds (List.map iD x1))), (900000, .prv 1 rr.length (tolds (List.map iD rr)))] := ⟨@fun rr h => by
  obtain ⟨hp, h⟩ := need_some h
  have h1 := ACalls.prv (y := .own 1 900000 (List.map iD rr)) ((c_impl_ShapesAt_s1).c h) (fun p hp => by
    simp only [tksOf, tksOfs, List.nil_append, List.cons_append, List.append_nil, List.mem_cons, List.not_mem_nil, or_false] at hp
    subst hp
    exact Whole.flat (by rfl) (by simp)) rfl rfl
  refine ACalls.eq (ACalls.lentO (dz := [(.agg [(slD 1 iD) x0.1, (slD 2 D_impl_Rule) x0.2]), ((slD 1 iD) x1)]) h1 rfl (args := [.agg [.gow 1 0 n0, .gow 2 1 n1], .gow 1 2 n2]) (s := [(0, .prv 1 n0 (tolds (List.map iD x0.1))), (1, .prv 2 n1 (tolds (List.map D_impl_Rule x0.2))), (2, .prv 1 n2 (tolds (List.map iD x1)))]) (k := 3) (.cons (.agg (.cons (Lent.tok (f := iD) rfl (by omega)) (.cons (Lent.tok (f := D_impl_Rule) rfl (by omega)) .nil))) (.cons (Lent.tok (f := iD) rfl (by omega)) .nil)) (by simp [tksOf, tksOfs]) (fun p hp => ?_)) (by simp [cnv, cnvs]) (by simp [toks, tksOf, tksOfs])
  simp only [tksOf, tksOfs, List.nil_append, List.cons_append, List.append_nil, List.mem_cons, List.not_mem_nil, or_false] at hp
  subst hp
  exact told_cond.2⟩
noncomputable def F_le_eqInt64S_ld (n0 : Nat) (x0 : (List Int)) (x1 : (List Int)) : Option Bool := if n0 = x0.length then F_laws_eqInt64S x0 x1 else none
instance c_F_le_eqInt64S_ld {n0 : Nat} {x0 : (List Int)} {x1 : (List Int)} : HasC (F_le_eqInt64S_ld n0 x0 x1) fun rr => ACalls Tryz.prog 10 [.gow 1 0 n0, .d ((slD 1 iD) x1)] [(0, .prv 1 n0 (tolds (List.map iD x0)))] 1 fun xx ss => xx = .d (bD rr) ∧ ss = [(0, .prv 1 n0 (tolds (List.map iD x0)))] := ⟨@fun rr h => by
  obtain ⟨hp, h⟩ := need_some h
  exact ACalls.lent ((c_laws_eqInt64S).c h) (.cons (Lent.tok (f := iD) rfl (by omega)) (.cons (.le (AV.le_refl _)) .nil))⟩
noncomputable def F_le_eqSystem_ll (n0 : Nat) (n1 : Nat) (n2 : Nat) (n3 : Nat) (x0 : ((List Int) × (List ((List Int) × (List Int))))) (x1 : ((List Int) × (List ((List Int) × (List Int))))) : Option Bool := if n0 = x0.1.length ∧ n1 = x0.2.length ∧ n2 = x1.1.length ∧ n3 = x1.2.length then F_laws_eqSystem x0 x1 else none
instance c_F_le_eqSystem_ll {n0 : Nat} {n1 : Nat} {n2 : Nat} {n3 : Nat} {x0 : ((List Int) × (List ((List Int) × (List Int))))} {x1 : ((List Int) × (List ((List Int) × (List Int))))} : HasC (F_le_eqSystem_ll n0 n1 n2 n3 x0 x1) fun rr => ACalls Tryz.prog 11 [.agg [.gow 1 0 n0, .gow 2 1 n1], .agg [.gow 1 2 n2, .gow 2 3 n3]] [(0, .prv 1 n0 (tolds (List.map iD x0.1))), (1, .prv 2 n1 (tolds (List.map D_impl_Rule x0.2))), (2, .prv 1 n2 (tolds (List.map iD x1.1))), (3, .prv 2 n3 (tolds (List.map D_impl_Rule x1.2)))] 4 fun xx ss => xx = .d (bD rr) ∧ ss = [(0, .prv 1 n0 (tolds (List.map iD x0.1))), (1, .prv 2 n1 (tolds (List.map D_impl_Rule x0.2))), (2, .prv 1 n2 (tolds (List.map iD x1.1))), (3, .prv 2 n3 (tolds (List.map D_impl_Rule x1.2)))] := ⟨@fun rr h => by
  obtain ⟨hp, h⟩ := need_some h
  exact ACalls.lent ((c_laws_eqSystem).c h) (.cons (.agg (.cons (Lent.tok (f := iD) rfl (by omega)) (.cons (Lent.tok (f := D_impl_Rule) rfl (by omega)) .nil))) (.cons (.agg (.cons (Lent.tok (f := iD) rfl (by omega)) (.cons (Lent.tok (f := D_impl_Rule) rfl (by omega)) .nil))) .nil))⟩
noncomputable def F_le_eqInt64S_ll (n0 : Nat) (n1 : Nat) (x0 : (List Int)) (x1 : (List Int)) : Option Bool := if n0 = x0.length ∧ n1 = x1.length then F_laws_eqInt64S x0 x1 else none
instance c_F_le_eqInt64S_ll {n0 : Nat} {n1 : Nat} {x0 : (List Int)} {x1 : (List Int)} : HasC (F_le_eqInt64S_ll n0 n1 x0 x1) fun rr => ACalls Tryz.prog 10 [.gow 1 0 n0, .gow 1 1 n1] [(0, .prv 1 n0 (tolds (List.map iD x0))), (1, .prv 1 n1 (tolds (List.map iD x1)))] 2 fun xx ss => xx = .d (bD rr) ∧ ss = [(0, .prv 1 n0 (tolds (List.map iD x0))), (1, .prv 1 n1 (tolds (List.map iD x1)))] := ⟨@fun rr h => by
  obtain ⟨hp, h⟩ := need_some h
  exact ACalls.lent ((c_laws_eqInt64S).c h) (.cons (Lent.tok (f := iD) rfl (by omega)) (.cons (Lent.tok (f := iD) rfl (by omega)) .nil))⟩
def mcM13 : MCode :=
 (.seq (.reg (sq 4 [mi 0])) (.seq (.seq (.reg (sq 5 [mi 0])) (.block 0 (.loop (.seq (.seq (.reg (sq 6 [mv 5, mv 0, ln 7, bn .lss 6 8])) (.cond (t0 9) .skip (.exit 0))) (.seq (.block 1 (.seq (.reg (sq 12 [mv 0, mv 5, mv 1, ix 1 12 13] ++ s0 (sr 1 15 14))) (.reg (sq 16 [mv 1, bi .add 16 1] ++ sq 1 [mv 17])))) (.reg (sq 10 [mv 5, bi .add 10 1] ++ sq 5 [mv 11]))))))) (.seq (.reg (sq 18 [mv 1] ++ sq 4 [mv 18])) .ret)))
theorem fnM13 : MFn Tryz.prog 13 mcM13 19 [.tmp 4] := ⟨_, Tryz.func13, by kernel_rfl, Tryz.ntmps13, by kernel_rfl⟩
noncomputable def F_mk_Int64S_l (n : Nat) : (Int × Int × List Int) → Option ((Int × Int × List Int) ⊕ (List Int × Int))
 | (k, i, b) =>
  if (decide (i < (n : Int))) = true then
   if 0 ≤ i ∧ i < (n : Int) ∧ i < (b.length : Int) then
    some (.inl ((IntKind.i64.wrap (k + 1)), (IntKind.i64.wrap (i + 1)), b.set i.toNat k))
   else none
  else
   Option.map Sum.inr (some (b, k))
noncomputable def F_mk_Int64S (n : Nat) (a : List Int) (k : Int) : Option (List Int × Int) := loopC (F_mk_Int64S_l n) (k, 0, a)
instance c_mk_Int64S {n : Nat} {a : List Int} {k : Int} : HasC (F_mk_Int64S n a k) fun rr => ACalls Tryz.prog 13 [.gow 1 0 n, .d (iD k)] [(0, .prv 1 n (tolds (List.map iD a)))] 1 fun xx ss => xx = .d (iD rr.2) ∧ ss = [(0, .prv 1 n (tolds (List.map iD rr.1)))] := ⟨@fun rr h => by
  delta F_mk_Int64S at h
  refine fnM13.callsD (vcm_sound ?_)
  delta mcM13
  refine stp ?_
  refine m_loopF h [1, 5, 6, 7, 8, 9, 10, 11, 12, 13, 14, 15, 16, 17] (fun pp => [(1, .d (iD pp.1)), (5, .d (iD pp.2.1))]) (fun pp => [(0, .prv 1 n (tolds (List.map iD pp.2.2)))]) ?_ ?_
  · try dsimp only
    exact wk
  rintro ⟨k, i, b⟩ t1 h hb1
  unfold F_mk_Int64S_l at h
  try dsimp only at h
  refine vcm_sound (stp ?_)
  refine it h (fun hc h => ?_) fun hc h => ?_
  · refine ndI h fun hp h => ?_
    refine nds ?_
    cases h
    refine ⟨_, rfl, ?_⟩
    refine (Weak.prvE 0 (tolds (List.map iD (b.set i.toNat k))) rfl (told_segE (i := i.toNat) (by omega) (by omega) (by omega) rfl)).trans ?_
    exact wk
  replace h := inr_some h hb1
  cases h
  exact Done.told frd don⟩
def mcM32 : MCode :=
 (.seq (.reg (sq 2 [.boxi 64 2 30 (t0 0)] ++ sq 4 [mi 0])) (.seq (.reg (sq 5 [fa 0 2, ld 5, mv 1, cf 13 [6, 7]] ++ sq 1 [mv 8])) (.seq (.reg (sq 9 [mv 1] ++ sq 4 [mv 9])) .ret)))
theorem fnM32 : MFn Tryz.prog 32 mcM32 10 [.tmp 4] := ⟨_, Tryz.func32, by kernel_rfl, Tryz.ntmps32, by kernel_rfl⟩
noncomputable def F_mk_Sig (n0 : Nat) (x : (List Int)) (k : Int) : Option ((List Int) × Int) :=
 (F_mk_Int64S n0 x k).bind fun r0 =>
 some (r0.1, r0.2)
instance c_mk_Sig {n0 : Nat} {x : (List Int)} {k : Int} : HasC (F_mk_Sig n0 x k) fun rr => ACalls Tryz.prog 32 [.agg [.gow 1 0 n0], .d (iD k)] [(0, .prv 1 n0 (tolds (List.map iD x)))] 1 fun xx ss => xx = .d (iD rr.2) ∧ ss = [(0, .prv 1 n0 (tolds (List.map iD rr.1)))] := ⟨@fun rr h => by
  delta F_mk_Sig at h
  refine fnM32.callsD (vcm_sound ?_)
  delta mcM32
  refine stp ?_
  refine rCo [(0, 0)] [] h fun r0 hr0 h => ?_
  refine nds ?_
  cases h
  exact Done.trans (Done.drops [64] (by simp)) (Done.told frd don)⟩
def mcM33 : MCode :=
 (.seq (.reg (sq 4 [mi 0])) (.seq (.seq (.reg (sq 5 [mi 0])) (.block 0 (.loop (.seq (.seq (.reg (sq 6 [mv 5, mv 0, ln 7, bn .lss 6 8])) (.cond (t0 9) .skip (.exit 0))) (.seq (.block 1 (.seq (.ghost (.reg (sq 12 [mv 0, mv 5, ix 2 12 13, fa 0 14, ld 15, mv 1, cf 13 [16, 17]] ++ sq 1 [mv 18]))) (.ghost (.reg (sq 19 [mv 0, mv 5, ix 2 19 20, fa 1 21, ld 22, mv 1, cf 13 [23, 24]] ++ sq 1 [mv 25]))))) (.reg (sq 10 [mv 5, bi .add 10 1] ++ sq 5 [mv 11]))))))) (.seq (.reg (sq 26 [mv 1] ++ sq 4 [mv 26])) .ret)))
theorem fnM33 : MFn Tryz.prog 33 mcM33 27 [.tmp 4] := ⟨_, Tryz.func33, by kernel_rfl, Tryz.ntmps33, by kernel_rfl⟩
noncomputable def F_mk_RuleS_l (n : Nat) : (Int × Int × List ((List Int) × (List Int))) → Option ((Int × Int × List ((List Int) × (List Int))) ⊕ (List ((List Int) × (List Int)) × Int))
 | (k, i, b) =>
  if (decide (i < (n : Int))) = true then
   if 0 ≤ i ∧ i < (n : Int) ∧ i < (b.length : Int) then
    (F_mk_Int64S ((b.getD i.toNat default).1).length ((b.getD i.toNat default).1) k).bind fun r1 =>
    (F_mk_Int64S ((b.getD i.toNat default).2).length ((b.getD i.toNat default).2) r1.2).bind fun r2 =>
    some (.inl (r2.2, (IntKind.i64.wrap (i + 1)), b.set i.toNat (r1.1, r2.1)))
   else none
  else
   Option.map Sum.inr (some (b, k))
noncomputable def F_mk_RuleS (n : Nat) (a : List ((List Int) × (List Int))) (k : Int) : Option (List ((List Int) × (List Int)) × Int) := loopC (F_mk_RuleS_l n) (k, 0, a)
instance c_mk_RuleS {n : Nat} {a : List ((List Int) × (List Int))} {k : Int} : HasC (F_mk_RuleS n a k) fun rr => ACalls Tryz.prog 33 [.gow 2 0 n, .d (iD k)] [(0, .prv 2 n (tolds (List.map D_impl_Rule a)))] 1 fun xx ss => xx = .d (iD rr.2) ∧ ss = [(0, .prv 2 n (tolds (List.map D_impl_Rule rr.1)))] := ⟨@fun rr h => by
  delta F_mk_RuleS at h
  refine fnM33.callsD (vcm_sound ?_)
  delta mcM33
  refine stp ?_
  refine m_loopF h [1, 5, 6, 7, 8, 9, 10, 11, 12, 13, 14, 15, 16, 17, 18, 19, 20, 21, 22, 23, 24, 25] (fun pp => [(1, .d (iD pp.1)), (5, .d (iD pp.2.1))]) (fun pp => [(0, .prv 2 n (tolds (List.map D_impl_Rule pp.2.2)))]) ?_ ?_
  · try dsimp only
    exact wk
  rintro ⟨k, i, b⟩ t1 h hb1
  unfold F_mk_RuleS_l at h
  try dsimp only at h
  refine vcm_sound (stp ?_)
  refine it h (fun hc h => ?_) fun hc h => ?_
  · refine ndI h fun hp h => ?_
    refine GhostQ.of ((Weak.prvE 0 (tolds (List.map D_impl_Rule (b.set i.toNat ((b.getD i.toNat default).1, (b.getD i.toNat default).2)))) rfl (by rw [set_self (by omega)])).trans (Weak.extC (f := D_impl_Rule) (f' := iD) (xs := b) (y := ((b.getD i.toNat default).1, (b.getD i.toNat default).2)) (ys := ((b.getD i.toNat default).1)) 0 501 i.toNat 0 rfl (by omega) (by decide) (m := i.toNat * 2) (by omega) rfl rfl (by omega))) ?_
    refine stp ?_
    refine nds ?_
    refine rCo [(0, 501)] [] h fun r1 hr1 h => ?_
    refine nds ?_
    refine GhostQ.of ((Weak.absC (f := D_impl_Rule) (f' := iD) (xs := b) (y := ((b.getD i.toNat default).1, (b.getD i.toNat default).2)) (y' := (r1.1, (b.getD i.toNat default).2)) (ys := r1.1) 0 501 i.toNat 0 rfl rfl rfl (by omega) (by decide) (by omega) (by decide) rfl (by omega) (by decide)).trans (Weak.extC (f := D_impl_Rule) (f' := iD) (xs := b) (y := (r1.1, (b.getD i.toNat default).2)) (ys := ((b.getD i.toNat default).2)) 0 502 i.toNat 1 rfl (by omega) (by decide) (m := i.toNat * 2 + 1) (by omega) rfl rfl (by omega))) ?_
    refine stp ?_
    refine nds ?_
    refine rCo [(0, 502)] [] h fun r2 hr2 h => ?_
    refine nds ?_
    cases h
    refine ⟨_, rfl, ?_⟩
    refine (Weak.absC (f := D_impl_Rule) (f' := iD) (xs := b) (y := (r1.1, (b.getD i.toNat default).2)) (y' := (r1.1, r2.1)) (ys := r2.1) 0 502 i.toNat 1 rfl rfl rfl (by omega) (by decide) (by omega) (by decide) rfl (by omega) (by decide)).trans ?_
    exact wk
  replace h := inr_some h hb1
  cases h
  exact Done.told frd don⟩
def mcM12 : MCode :=
 (.seq (.reg (sq 2 [.boxi 64 2 33 (t0 0)] ++ sq 4 [mi 0])) (.seq (.reg (sq 5 [fa 0 2, la 1 5, mv 1, cf 32 [6, 7]] ++ sq 1 [mv 8])) (.seq (.reg (sq 9 [fa 1 2, ld 9, mv 1, cf 33 [10, 11]] ++ sq 1 [mv 12])) (.seq (.reg (sq 13 [mv 1] ++ sq 4 [mv 13])) .ret))))
theorem fnM12 : MFn Tryz.prog 12 mcM12 14 [.tmp 4] := ⟨_, Tryz.func12, by kernel_rfl, Tryz.ntmps12, by kernel_rfl⟩
noncomputable def F_mk_System (n0 : Nat) (n1 : Nat) (x : ((List Int) × (List ((List Int) × (List Int))))) (k : Int) : Option (((List Int) × (List ((List Int) × (List Int)))) × Int) :=
 (F_mk_Sig n0 x.1 k).bind fun r0 =>
 (F_mk_RuleS n1 x.2 r0.2).bind fun r1 =>
 some ((r0.1, r1.1), r1.2)
instance c_mk_System {n0 : Nat} {n1 : Nat} {x : ((List Int) × (List ((List Int) × (List Int))))} {k : Int} : HasC (F_mk_System n0 n1 x k) fun rr => ACalls Tryz.prog 12 [.agg [.gow 1 0 n0, .gow 2 1 n1], .d (iD k)] [(0, .prv 1 n0 (tolds (List.map iD x.1))), (1, .prv 2 n1 (tolds (List.map D_impl_Rule x.2)))] 2 fun xx ss => xx = .d (iD rr.2) ∧ ss = [(0, .prv 1 n0 (tolds (List.map iD rr.1.1))), (1, .prv 2 n1 (tolds (List.map D_impl_Rule rr.1.2)))] := ⟨@fun rr h => by
  delta F_mk_System at h
  refine fnM12.callsD (vcm_sound ?_)
  delta mcM12
  refine stp ?_
  refine rCo [(0, 0)] [] h fun r0 hr0 h => ?_
  refine nds ?_
  refine rCo [(0, 1)] [] h fun r1 hr1 h => ?_
  refine nds ?_
  cases h
  exact Done.trans (Done.drops [64] (by simp)) (Done.told frd don)⟩
noncomputable def F_le_heldInt64S_ld (n0 : Nat) (x0 : (List Int)) (x1 : Int) : Option Int := if n0 = x0.length then F_laws_heldInt64S x0 x1 else none
instance c_F_le_heldInt64S_ld {n0 : Nat} {x0 : (List Int)} {x1 : Int} : HasC (F_le_heldInt64S_ld n0 x0 x1) fun rr => ACalls Tryz.prog 14 [.gow 1 0 n0, .d (iD x1)] [(0, .prv 1 n0 (tolds (List.map iD x0)))] 1 fun xx ss => xx = .d (iD rr) ∧ ss = [(0, .prv 1 n0 (tolds (List.map iD x0)))] := ⟨@fun rr h => by
  obtain ⟨hp, h⟩ := need_some h
  exact ACalls.lent ((c_laws_heldInt64S).c h) (.cons (Lent.tok (f := iD) rfl (by omega)) (.cons (.le (AV.le_refl _)) .nil))⟩
end Go.Proofs.YtcbfefbocpikoaaGreat
namespace Go.Proofs.YtcbfefbocpikoaaGreat
open Go Abx
attribute [local irreducible] vcm vgo vdr vrun vdrun MWp GhostQ BrC BrO BrG BrD BrH AmbO callR callD drQ EnvLe StoLe
set_option maxHeartbeats 4000000
attribute [-go_sem] sat sset
def mc3 : MCode :=
 (.seq (.reg (sq 2 [bo 2 27 0] ++ sq 4 [mb false])) (.seq (.seq (.reg (sq 14 [mv 1, ln 14, bi .gtr 15 1048576])) (.cond (t0 16) (.seq (.reg (sq 4 [mb true])) .ret) .skip)) (.seq (.reg (sq 5 [mi 1048576])) (.seq (.reg (sq 17 [la 2 2, mv 5, cf 5 [17, 18]] ++ sq 5 [mv 19])) (.seq (.seq (.reg (sq 20 [mv 5, bi .lss 20 0])) (.cond (t0 21) (.seq (.reg (sq 4 [mb true])) .ret) .skip)) (.seq (.reg (sq 22 [la 2 2, cf 7 [22], mv 1, cf 8 [24], cf 6 [23, 25]] ++ sq 6 [mv 26])) (.seq (.reg (sq 27 [la 2 2, cf 7 [27]] ++ sq 7 [.alloc 7 33 [.sl 0 (some true) [], .sl 0 (some true) []]] ++ s0 (sr 2 7 28))) (.seq (.reg (sq 29 [mv 1, cf 8 [29]] ++ sq 8 [mv 30])) (.seq (.reg (sq 31 [la 2 7, mv 8, cf 9 [31, 32]] ++ sq 9 [mv 33])) (.seq (.seq (.reg (sq 34 [mv 9, mv 6, cf 10 [34, 35], nt 36])) (.cond (t0 37) (.seq (.reg (sq 4 [mb false])) .ret) .skip)) (.seq (.seq (.draw (sq 38 [la 2 7, la 2 2, cf 7 [39], cf 11 [38, 40], nt 41]) [[], [], [1], [0, 2, 2], [3]]) (.cond (t0 42) (.seq (.reg (sq 4 [mb false])) .ret) .skip)) (.seq (.seq (.reg (sq 43 [mv 8, mv 1, cf 8 [44], cf 10 [43, 45], nt 46])) (.cond (t0 47) (.seq (.reg (sq 4 [mb false])) .ret) .skip)) (.seq (.reg (sq 10 [mi 1])) (.seq (.reg (sq 48 [la 2 7, mv 10, cf 12 [48, 49]] ++ sq 10 [mv 50])) (.seq (.reg (sq 51 [mv 8, mv 10, cf 13 [51, 52]] ++ sq 10 [mv 53])) (.seq (.seq (.reg (sq 54 [mv 10, bi .lss 54 0, mv 55] ++ sg 56 false 57 [mv 9, mv 6, cf 10 [57, 58], nt 59] ++ sq 61 [po 56 60])) (.cond (t0 61) (.seq (.reg (sq 4 [mb false])) .ret) .skip)) (.seq (.reg (sq 11 [mi 1])) (.seq (.reg (sq 62 [mv 9, mv 11, cf 13 [62, 63]] ++ sq 11 [mv 64])) (.seq (.reg (sq 12 [mi 1])) (.seq (.reg (sq 65 [mv 9, mv 12, cf 14 [65, 66]] ++ sq 12 [mv 67])) (.seq (.seq (.reg (sq 68 [mv 12, bi .lss 68 0])) (.cond (t0 69) (.seq (.reg (sq 4 [mb false])) .ret) .skip)) (.seq (.seq (.reg (sq 70 [mv 12, mv 11, bn .neq 70 71])) (.cond (t0 72) (.seq (.reg (sq 4 [mb false])) .ret) .skip)) (.seq (.reg (sq 73 [la 2 2, cf 7 [73], mv 1, cf 8 [75], cf 9 [74, 76]] ++ sq 13 [mv 77])) (.seq (.seq (.reg (sq 78 [mv 13, mv 6, cf 10 [78, 79], nt 80])) (.cond (t0 81) (.seq (.reg (sq 4 [mb false])) .ret) .skip)) (.seq (.reg (sq 12 [mi 1])) (.seq (.reg (sq 82 [mv 9, mv 12, cf 14 [82, 83]] ++ sq 12 [mv 84])) (.seq (.seq (.reg (sq 85 [mv 12, bi .lss 85 0])) (.cond (t0 86) (.seq (.reg (sq 4 [mb false])) .ret) .skip)) (.seq (.seq (.reg (sq 87 [mv 12, mv 11, bn .neq 87 88])) (.cond (t0 89) (.seq (.reg (sq 4 [mb false])) .ret) .skip)) (.seq (.reg (sq 4 [mb true])) .ret)))))))))))))))))))))))))))))
theorem fn3 : MFn Tryz.prog 3 mc3 90 [.tmp 4] := ⟨_, Tryz.func3, by kernel_rfl, Tryz.ntmps3, by kernel_rfl⟩
noncomputable def F_laws_FnExactShapesAt (aSys : ((List Int) × (List ((List Int) × (List Int))))) (aT : (List Int)) : Option Bool :=
 if (decide (1048576 < (aT.length : Int))) = true then
  some true
 else
  (F_laws_szSystem aSys 1048576).bind fun r =>
  if (decide (r < 0)) = true then
   some true
  else
   (F_pub_System aSys).bind fun v =>
   (F_pub_Int64S aT).bind fun v_1 =>
   (F_spec_ShapesAt v v_1).bind fun r_1 =>
   (F_to_System aSys).bind fun v_2 =>
   (F_to_Int64S aT).bind fun v_3 =>
   (F_le_ShapesAt_ll aSys.1.length aSys.2.length aT.length v_2 v_3).bind fun g =>
   (F_le_eqInt64S_ld g.length g r_1).bind fun q =>
   if q = true then
    (F_to_System aSys).bind fun v_4 =>
    (F_le_eqSystem_ll aSys.1.length aSys.2.length aSys.1.length aSys.2.length v_2 v_4).bind fun q_1 =>
    if q_1 = true then
     (F_to_Int64S aT).bind fun v_5 =>
     (F_le_eqInt64S_ll aT.length aT.length v_3 v_5).bind fun q_2 =>
     if q_2 = true then
      (F_mk_System aSys.1.length aSys.2.length v_2 1).bind fun m =>
      (F_mk_Int64S aT.length v_3 m.2).bind fun m_1 =>
      if (decide (m_1.2 < 0)) = true then
       some false
      else
       (F_le_eqInt64S_ld g.length g r_1).bind fun q_3 =>
       if q_3 = true then
        (F_mk_Int64S g.length g 1).bind fun m_2 =>
        (F_le_heldInt64S_ld g.length m_2.1 1).bind fun q_4 =>
        if (decide (q_4 < 0)) = true then
         some false
        else
         if (q_4 != m_2.2) = true then
          some false
         else
          (F_to_System aSys).bind fun v_6 =>
          (F_to_Int64S aT).bind fun v_7 =>
          (F_le_ShapesAt_ll aSys.1.length aSys.2.length aT.length v_6 v_7).bind fun g_1 =>
          (F_le_eqInt64S_ld g_1.length g_1 r_1).bind fun q_5 =>
          if q_5 = true then
           (F_le_heldInt64S_ld g.length m_2.1 1).bind fun q_6 =>
           if (decide (q_6 < 0)) = true then
            some false
           else
            if (q_6 != m_2.2) = true then
             some false
            else
             some true
          else
           some false
       else
        some false
     else
      some false
    else
     some false
   else
    some false
instance c_laws_FnExactShapesAt {aSys : ((List Int) × (List ((List Int) × (List Int))))} {aT : (List Int)} : HasC (F_laws_FnExactShapesAt aSys aT) fun rr => PFun Tryz.prog 3 [D_laws_System aSys, (slD 1 iD) aT] (bD rr) := ⟨@fun rr h => by
  delta F_laws_FnExactShapesAt at h
  refine fn3.pureL (vcm_sound ?_)
  delta mc3
  refine stp ?_
  refine iF h fun hc h => ?_
  refine rC h fun r hr h => ?_
  refine iF h fun hc h => ?_
  refine rC h fun v hv h => ?_
  refine rC h fun v_1 hv_1 h => ?_
  refine rC h fun r_1 hr_1 h => ?_
  refine rCo [] [(900000, 28), (900001, 200000)] h fun v_2 hv_2 h => ?_
  refine rCo [] [(900000, 30)] h fun v_3 hv_3 h => ?_
  refine rCo [(0, 28), (1, 200000), (2, 30)] [(900000, 33)] h fun g hg h => ?_
  refine rCo [(0, 33)] [] h fun q hq h => ?_
  refine iT h fun hc h => ?_
  refine dCo [] [(900000, 40), (900001, 200001)] h fun v_4 hv_4 h => ?_
  refine dCo [(0, 28), (1, 200000), (2, 40), (3, 200001)] [] h fun q_1 hq_1 h => ?_
  refine drQ_of (by kernel_rfl) (stp ?_)
  refine iT h fun hc h => ?_
  refine rCo [] [(900000, 45)] h fun v_5 hv_5 h => ?_
  refine rCo [(0, 30), (1, 45)] [] h fun q_2 hq_2 h => ?_
  refine iT h fun hc h => ?_
  refine rCo [(0, 28), (1, 200000)] [] h fun m hm h => ?_
  refine rCo [(0, 30)] [] h fun m_1 hm_1 h => ?_
  refine iF h fun hc h => ?_
  refine rCo [(0, 33)] [] h fun q_3 hq_3 h => ?_
  refine iT h fun hc h => ?_
  refine rCo [(0, 33)] [] h fun m_2 hm_2 h => ?_
  refine rCo [(0, 33)] [] h fun q_4 hq_4 h => ?_
  refine iF h fun hc h => ?_
  refine iF h fun hc h => ?_
  refine rCo [] [(900000, 74), (900001, 200002)] h fun v_6 hv_6 h => ?_
  refine rCo [] [(900000, 76)] h fun v_7 hv_7 h => ?_
  refine rCo [(0, 74), (1, 200002), (2, 76)] [(900000, 77)] h fun g_1 hg_1 h => ?_
  refine rCo [(0, 77)] [] h fun q_5 hq_5 h => ?_
  refine iT h fun hc h => ?_
  refine rCo [(0, 33)] [] h fun q_6 hq_6 h => ?_
  exact aut⟩
end Go.Proofs.YtcbfefbocpikoaaGreat
namespace Go.Proofs.YtcbfefbocpikoaaGreat
open Go Abx Tm
abbrev Mx : Nat := 1048576
abbrev Big {α : Type} (xs : List α) : Prop := xs.length < 9223372036854775808
theorem szI {a : List Int} (ha : Big a) {left : Int} (h0 : 0 ≤ left) (hM : left ≤ Mx) : ∃ r, F_laws_szInt64S a left = some r ∧ -1 ≤ r ∧ r ≤ left ∧ (0 ≤ r → a.length ≤ Mx) := by
  unfold F_laws_szInt64S
  have ha' : a.length < 9223372036854775808 := ha
  have hM' : left ≤ 1048576 := hM
  rw [w64 (n := left - (a.length : Int)) (by omega) (by omega)]
  by_cases h : left - (a.length : Int) < 0
  · exact ⟨-1, by simp [h], by omega, by omega, by omega⟩
  · exact ⟨left - a.length, by simp [h], by omega, by omega, fun _ => by show a.length ≤ 1048576; omega⟩
theorem loop_sz {α : Type} [Inhabited α] {a : List α} {Q : α → Prop} {f : Int × Int → Option ((Int × Int) ⊕ Int)}
    (h : ∀ (i : Nat) (left : Int) (x : α), i < a.length → x ∈ a → a.getD i default = x → 0 ≤ left → left ≤ Mx → (∃ r, 0 ≤ r ∧ r ≤ left ∧ Q x ∧ f (left, (i : Int)) = some (.inl (r, (i : Int) + 1))) ∨ f (left, (i : Int)) = some (.inr (-1)))
    (he : ∀ left, f (left, (a.length : Int)) = some (.inr left)) {left : Int} (h0 : 0 ≤ left) (hM : left ≤ Mx) : ∃ r, loopC f (left, 0) = some r ∧ -1 ≤ r ∧ r ≤ left ∧ (0 ≤ r → ∀ x ∈ a, Q x) := by
  have key : ∀ (rs : List α) (i : Nat) (left : Int), a.drop i = rs → i + rs.length = a.length → 0 ≤ left → left ≤ Mx → ∃ r, loopC f (left, (i : Int)) = some r ∧ -1 ≤ r ∧ r ≤ left ∧ (0 ≤ r → ∀ x ∈ rs, Q x) := by
    intro rs
    induction rs with
    | nil =>
      intro i left hd hl h0 hM
      obtain rfl : i = a.length := by simpa using hl
      exact ⟨left, loopC_inr (he _), by omega, by omega, fun _ x hx => by cases hx⟩
    | cons x rs ih =>
      intro i left hd hl h0 hM
      simp only [List.length_cons] at hl
      obtain ⟨g1, g2, g3⟩ := drop_cons hd
      rcases h i left x g1 (by rw [← g2]; exact getD_mem g1) g2 h0 hM with ⟨r, r0, r1, r2, r3⟩ | hx
      · obtain ⟨r', e1, e2, e3, e4⟩ := ih (i + 1) r g3 (by omega) r0 (by omega)
        rw [loopC_inl r3, show ((i : Int) + 1) = ((i + 1 : Nat) : Int) by omega]
        refine ⟨r', e1, e2, by omega, fun hr y hy => ?_⟩
        rcases List.mem_cons.1 hy with rfl | hy
        · exact r2
        · exact e4 hr y hy
      · exact ⟨-1, loopC_inr hx, by omega, by omega, by omega⟩
  exact key a 0 left (by simp) (by simp) h0 hM
theorem szRule {x : List Int × List Int} (h1 : Big x.1) (h2 : Big x.2) {left : Int} (h0 : 0 ≤ left) (hM : left ≤ Mx) : ∃ r, F_laws_szRule x left = some r ∧ -1 ≤ r ∧ r ≤ left ∧ (0 ≤ r → x.1.length ≤ Mx ∧ x.2.length ≤ Mx) := by
  obtain ⟨r, e1, e2, e3, e4⟩ := szI h1 h0 hM
  unfold F_laws_szRule
  rw [e1, Option.bind_some]
  by_cases hr : r < 0
  · exact ⟨-1, by simp [hr], by omega, by omega, by omega⟩
  · obtain ⟨r', g1, g2, g3, g4⟩ := szI h2 (left := r) (by omega) (by omega)
    rw [g1]
    by_cases hr' : r' < 0
    · exact ⟨-1, by simp [hr, hr'], by omega, by omega, by omega⟩
    · exact ⟨r', by simp [hr, hr'], by omega, by omega, fun _ => ⟨e4 (by omega), g4 (by omega)⟩⟩
structure BigS (s : Sys) : Prop where
  sig : Big s.1
  rules : Big s.2
  to : ∀ r ∈ s.2, Big r.1 ∧ Big r.2
structure SmS (s : Sys) : Prop where
  sig : s.1.length ≤ Mx
  rules : s.2.length ≤ Mx
  to : ∀ r ∈ s.2, r.1.length ≤ Mx ∧ r.2.length ≤ Mx
theorem szRuleS {a : List (List Int × List Int)} (ha : Big a) (ht : ∀ r ∈ a, Big r.1 ∧ Big r.2) {left : Int} (h0 : 0 ≤ left) (hM : left ≤ Mx) :
    ∃ r, F_laws_szRuleS a left = some r ∧ -1 ≤ r ∧ r ≤ left ∧ (0 ≤ r → a.length ≤ Mx ∧ ∀ x ∈ a, x.1.length ≤ Mx ∧ x.2.length ≤ Mx) := by
  unfold F_laws_szRuleS
  have ha' : a.length < 9223372036854775808 := ha
  have hM' : left ≤ 1048576 := hM
  rw [w64 (n := left - (a.length : Int)) (by omega) (by omega)]
  by_cases h : left - (a.length : Int) < 0
  · exact ⟨-1, by simp [h], by omega, by omega, by omega⟩
  · obtain ⟨r, e1, e2, e3, e4⟩ := loop_sz (a := a) (Q := fun x => x.1.length ≤ Mx ∧ x.2.length ≤ Mx) (f := F_laws_szRuleS_l1 a) (left := left - a.length) (fun i left x hi hx hg h0 hM => by
      obtain ⟨r, e1, e2, e3, e4⟩ := szRule (ht x hx).1 (ht x hx).2 h0 hM
      simp only [F_laws_szRuleS_l1, show (i : Int) < a.length by omega, decide_true, if_true, show (0 : Int) ≤ i by omega, and_self, Int.toNat_natCast, hg, e1, Option.bind_some, w64 (n := (i : Int) + 1) (by omega) (by omega)]
      by_cases hr : r < 0
      · exact .inr (by simp [hr])
      · exact .inl ⟨r, by omega, e3, e4 (by omega), by simp [hr]⟩) (fun left => by simp [F_laws_szRuleS_l1]) (by omega) (by show left - a.length ≤ 1048576; omega)
    refine ⟨r, by rw [if_neg (by simpa using h)]; exact e1, e2, by omega, fun hr => ⟨?_, e4 hr⟩⟩
    show a.length ≤ 1048576
    omega
theorem szSystem {s : Sys} (hs : BigS s) : ∃ r, F_laws_szSystem s 1048576 = some r ∧ (0 ≤ r → SmS s) := by
  obtain ⟨r, e1, e2, e3, e4⟩ := szI hs.sig (left := 1048576) (by omega) (by decide)
  unfold F_laws_szSystem F_laws_szSig
  rw [e1, Option.bind_some]
  by_cases hr : r < 0
  · exact ⟨-1, by simp [hr], by omega⟩
  · obtain ⟨r', g1, g2, g3, g4⟩ := szRuleS hs.rules hs.to (left := r) (by omega) (Int.le_trans e3 (by decide))
    simp only [hr, decide_false, Bool.false_eq_true, if_false, Option.bind_some, g1]
    by_cases hr' : r' < 0
    · exact ⟨-1, by simp [hr'], by omega⟩
    · exact ⟨r', by simp [hr'], fun h => ⟨e4 (by omega), (g4 h).1, (g4 h).2⟩⟩
theorem F_to_Int64S_eq {a : List Int} (h : a.length ≤ Mx) : F_to_Int64S a = some a := by
  have h' : a.length ≤ 1048576 := h
  unfold F_to_Int64S
  rw [if_pos ⟨by omega, by omega, by omega⟩]
  have := loop_to (a := a) (z := List.replicate a.length 0) (g := id) (f := F_to_Int64S_l a) (by simp) (fun i out hi ho hm => by
    simp only [F_to_Int64S_l, show (i : Int) < a.length by omega, show (i : Int) < out.length by omega, decide_true, if_true, show (0 : Int) ≤ i by omega, and_self, Int.toNat_natCast, w64 (n := (i : Int) + 1) (by omega) (by omega), id]) (fun out => by simp [F_to_Int64S_l])
  simpa using this
theorem F_to_Rule_eq {x : List Int × List Int} (h : x.1.length ≤ Mx ∧ x.2.length ≤ Mx) : F_to_Rule x = some x := by
  unfold F_to_Rule
  rw [F_to_Int64S_eq h.1, Option.bind_some, F_to_Int64S_eq h.2, Option.bind_some]
theorem F_to_RuleS_eq {a : List (List Int × List Int)} (h : a.length ≤ Mx) (ht : ∀ x ∈ a, x.1.length ≤ Mx ∧ x.2.length ≤ Mx) : F_to_RuleS a = some a := by
  have h' : a.length ≤ 1048576 := h
  unfold F_to_RuleS
  rw [if_pos ⟨by omega, by omega, by omega⟩]
  have := loop_to (a := a) (z := List.replicate a.length ([], [])) (g := id) (f := F_to_RuleS_l a) (by simp) (fun i out hi ho hm => by
    simp only [F_to_RuleS_l, show (i : Int) < a.length by omega, show (i : Int) < out.length by omega, decide_true, if_true, show (0 : Int) ≤ i by omega, and_self, Int.toNat_natCast, F_to_Rule_eq (ht _ hm), Option.bind_some, w64 (n := (i : Int) + 1) (by omega) (by omega), id]) (fun out => by simp [F_to_RuleS_l])
  simpa using this
theorem F_to_System_eq {s : Sys} (h : SmS s) : F_to_System s = some s := by
  unfold F_to_System F_to_Sig
  rw [F_to_Int64S_eq h.sig, Option.bind_some, Option.bind_some, F_to_RuleS_eq h.rules h.to, Option.bind_some]
theorem F_pub_System_eq {s : Sys} (h : SmS s) : F_pub_System s = some s := by
  unfold F_pub_System
  rw [F_to_System_eq h, Option.bind_some, if_pos ⟨rfl, rfl⟩]
theorem F_pub_Int64S_eq {a : List Int} (h : a.length ≤ Mx) : F_pub_Int64S a = some a := by
  unfold F_pub_Int64S
  rw [F_to_Int64S_eq h, Option.bind_some, if_pos rfl]
theorem eqI_self {a : List Int} (h : Small a) : F_laws_eqInt64S a a = some true := by
  have h' : a.length < 1099511627776 := h
  unfold F_laws_eqInt64S
  rw [if_neg (by simp)]
  refine loop_self (a := a) (fun i hi => ?_) (by simp [F_laws_eqInt64S_l1])
  simp [F_laws_eqInt64S_l1, show (i : Int) < a.length by omega, w64 (n := (i : Int) + 1) (by omega) (by omega)]
theorem eqRule_self {x : List Int × List Int} (h : x.1.length ≤ Mx ∧ x.2.length ≤ Mx) : F_laws_eqRule x x = some true := by
  have h1 : x.1.length ≤ 1048576 := h.1
  have h2 : x.2.length ≤ 1048576 := h.2
  unfold F_laws_eqRule
  rw [eqI_self (show x.1.length < _ by omega), Option.bind_some, if_pos rfl, eqI_self (show x.2.length < _ by omega), Option.bind_some, if_pos rfl]
theorem eqSystem_self {s : Sys} (h : SmS s) : F_laws_eqSystem s s = some true := by
  have h1 : s.1.length ≤ 1048576 := h.sig
  have h2 : s.2.length ≤ 1048576 := h.rules
  have e : F_laws_eqRuleS s.2 s.2 = some true := by
    unfold F_laws_eqRuleS
    rw [if_neg (by simp)]
    refine loop_self (a := s.2) (fun i hi => ?_) (by simp [F_laws_eqRuleS_l1])
    simp only [F_laws_eqRuleS_l1, show (i : Int) < s.2.length by omega, decide_true, if_true, show (0 : Int) ≤ i by omega, and_self, Int.toNat_natCast, eqRule_self (h.to _ (getD_mem hi)), Option.bind_some, w64 (n := (i : Int) + 1) (by omega) (by omega)]
  unfold F_laws_eqSystem F_laws_eqSig
  rw [eqI_self (show s.1.length < _ by omega)]
  simp [e]
end Go.Proofs.YtcbfefbocpikoaaGreat
namespace Go.Proofs.YtcbfefbocpikoaaGreat
open Go Abx Tm
abbrev Kx : Int := 1152921504606846976
def mI (x : Int) (k : Int) : Int × Int := (k, k + 1)
theorem mAcc_le {α : Type} {g : α → Int → α × Int} {B : Int} (hB : 0 ≤ B) : ∀ {a : List α} {k : Int}, 0 ≤ k → (∀ x ∈ a, ∀ k, 0 ≤ k → k ≤ (g x k).2 ∧ (g x k).2 ≤ k + B) → k ≤ (mAcc g a k).2 ∧ (mAcc g a k).2 ≤ k + B * a.length
  | [], k, _, _ => by simp [mAcc]
  | x :: r, k, h0, h => by
    obtain ⟨h1, h2⟩ := h x (by simp) k h0
    obtain ⟨h3, h4⟩ := mAcc_le hB (a := r) (k := (g x k).2) (by omega) (fun y hy => h y (by simp [hy]))
    simp only [mAcc, List.length_cons, Int.natCast_add, Int.natCast_one, Int.mul_add, Int.mul_one]
    omega
theorem mI_le {a : List Int} {k : Int} (h0 : 0 ≤ k) : k ≤ (mAcc mI a k).2 ∧ (mAcc mI a k).2 ≤ k + a.length := by
  have := mAcc_le (g := mI) (B := 1) (by decide) (a := a) (k := k) h0 (fun x _ k _ => by simp only [mI]; omega)
  omega
theorem F_mk_Int64S_eq {a : List Int} {n : Nat} {k : Int} (hn : n = a.length) (hl : a.length ≤ Mx) (h0 : 0 ≤ k) (hk : k ≤ 4 * Kx) : F_mk_Int64S n a k = some (mAcc mI a k) := by
  subst hn
  have hl' : a.length ≤ 1048576 := hl
  have hk' : k ≤ 4 * 1152921504606846976 := hk
  unfold F_mk_Int64S
  refine loop_mk (g := mI) (fun i k' => 0 ≤ k' ∧ k' ≤ k + i) (fun i k' b x hi hb hx hg hp => ?_) (fun k' b => by simp [F_mk_Int64S_l]) ⟨h0, by omega⟩
  obtain ⟨p0, p1⟩ := hp
  refine ⟨?_, by simp only [mI]; omega⟩
  simp only [F_mk_Int64S_l, show (i : Int) < a.length by omega, show (i : Int) < b.length by omega, decide_true, if_true, show (0 : Int) ≤ i by omega, and_self, Int.toNat_natCast, w64 (n := (i : Int) + 1) (by omega) (by omega), w64 (n := k' + 1) (by omega) (by omega), mI]
def mR (x : List Int × List Int) (k : Int) : (List Int × List Int) × Int := (((mAcc mI x.1 k).1, (mAcc mI x.2 (mAcc mI x.1 k).2).1), (mAcc mI x.2 (mAcc mI x.1 k).2).2)
theorem mR_le {x : List Int × List Int} {k : Int} (h0 : 0 ≤ k) (h : x.1.length ≤ Mx ∧ x.2.length ≤ Mx) : k ≤ (mR x k).2 ∧ (mR x k).2 ≤ k + 2097152 := by
  have h1 : x.1.length ≤ 1048576 := h.1
  have h2 : x.2.length ≤ 1048576 := h.2
  have g1 := mI_le (a := x.1) h0
  have g2 := mI_le (a := x.2) (k := (mAcc mI x.1 k).2) (by omega)
  simp only [mR]; omega
theorem F_mk_RuleS_eq {a : List (List Int × List Int)} {n : Nat} {k : Int} (hn : n = a.length) (hl : a.length ≤ Mx) (ht : ∀ x ∈ a, x.1.length ≤ Mx ∧ x.2.length ≤ Mx) (h0 : 0 ≤ k) (hk : k ≤ 2 * Kx) : F_mk_RuleS n a k = some (mAcc mR a k) := by
  subst hn
  have hl' : a.length ≤ 1048576 := hl
  have hk' : k ≤ 2 * 1152921504606846976 := hk
  unfold F_mk_RuleS
  refine loop_mk (g := mR) (fun i k' => 0 ≤ k' ∧ k' ≤ k + 2097152 * i) (fun i k' b x hi hb hx hg hp => ?_) (fun k' b => by simp [F_mk_RuleS_l]) ⟨h0, by omega⟩
  obtain ⟨p0, p1⟩ := hp
  have hx1 : x.1.length ≤ 1048576 := (ht x hx).1
  have g1 := mI_le (a := x.1) p0
  have := mR_le p0 (ht x hx)
  refine ⟨?_, by omega⟩
  simp only [F_mk_RuleS_l, show (i : Int) < a.length by omega, show (i : Int) < b.length by omega, decide_true, if_true, show (0 : Int) ≤ i by omega, and_self, Int.toNat_natCast, hg, F_mk_Int64S_eq rfl (ht x hx).1 p0 (show k' ≤ 4 * 1152921504606846976 by omega),
    F_mk_Int64S_eq rfl (ht x hx).2 (show 0 ≤ (mAcc mI x.1 k').2 by omega) (show (mAcc mI x.1 k').2 ≤ 4 * 1152921504606846976 by omega), Option.bind_some, w64 (n := (i : Int) + 1) (by omega) (by omega), mR]
theorem F_mk_System_ok {s : Sys} (h : SmS s) : ∃ m, F_mk_System s.1.length s.2.length s 1 = some m ∧ 0 ≤ m.2 ∧ m.2 ≤ Kx := by
  have h1 : s.1.length ≤ 1048576 := h.sig
  have h2 : s.2.length ≤ 1048576 := h.rules
  have g1 := mI_le (a := s.1) (k := 1) (by decide)
  have g2 := mAcc_le (g := mR) (B := 2097152) (by decide) (a := s.2) (k := (mAcc mI s.1 1).2) (by omega) (fun x hx k hk => mR_le hk (h.to x hx))
  unfold F_mk_System F_mk_Sig
  rw [F_mk_Int64S_eq rfl h.sig (by decide) (by decide), Option.bind_some, Option.bind_some, F_mk_RuleS_eq rfl h.rules h.to (show 0 ≤ (mAcc mI s.1 1).2 by omega) (show (mAcc mI s.1 1).2 ≤ 2 * 1152921504606846976 by omega), Option.bind_some]
  refine ⟨_, rfl, ?_, ?_⟩
  · show 0 ≤ (mAcc mR s.2 (mAcc mI s.1 1).2).2
    omega
  · show (mAcc mR s.2 (mAcc mI s.1 1).2).2 ≤ 1152921504606846976
    omega
theorem heldI {a : List Int} {k : Int} (hl : a.length ≤ Mx) (h0 : 0 ≤ k) (hk : k ≤ 4 * Kx) : F_laws_heldInt64S (mAcc mI a k).1 k = some (mAcc mI a k).2 := by
  have hl' : a.length ≤ 1048576 := hl
  have hk' : k ≤ 4 * 1152921504606846976 := hk
  have hm : (mAcc mI a k).1.length = a.length := mAcc_len
  unfold F_laws_heldInt64S
  refine loop_held (g := mI) (fun i k' => 0 ≤ k' ∧ k' ≤ k + i) (fun i k' x hi hx hg hp => ?_) (fun k' => by simp [F_laws_heldInt64S_l1, hm]) ⟨h0, by omega⟩
  obtain ⟨p0, p1⟩ := hp
  refine ⟨?_, by simp only [mI]; omega⟩
  simp only [F_laws_heldInt64S_l1, hm, show (i : Int) < a.length by omega, decide_true, if_true, show (0 : Int) ≤ i by omega, and_self, Int.toNat_natCast, hg, mI, bne_self_eq_false, Bool.false_eq_true, if_false, w64 (n := (i : Int) + 1) (by omega) (by omega), w64 (n := k' + 1) (by omega) (by omega)]
end Go.Proofs.YtcbfefbocpikoaaGreat
namespace Go.Proofs.YtcbfefbocpikoaaGreat
open Go Abx Tm
theorem count_two {n : Int} : ∀ {t : List Int}, 2 ≤ t.count n → ∃ j : Nat, ∃ h : j < t.length, t[j] = n ∧ n ∈ t.take j
  | [], h => by simp at h
  | x :: r, h => by
    by_cases hx : x = n
    · subst hx
      have : 0 < r.count x := by rw [List.count_cons_self] at h; omega
      obtain ⟨j, hj, e⟩ := List.getElem_of_mem (List.count_pos_iff.1 this)
      exact ⟨j + 1, by simpa using hj, by simpa using e, by simp⟩
    · have : 2 ≤ r.count n := by rw [List.count_cons_of_ne hx] at h; exact h
      obtain ⟨j, hj, e, hm⟩ := count_two this
      exact ⟨j + 1, by simpa using hj, by simpa using e, by simp [hm]⟩
def linB (t : List Int) : Bool := (List.range t.length).all fun i => !(decide (t.getD i default < 0) && decide (t.getD i default ∈ t.take i))
theorem linB_count {t : List Int} : linB t = (List.range t.length).all fun i => !(decide (t.getD i default < 0) && decide (1 < (t.count (t.getD i default) : Int))) := by
  rw [Bool.eq_iff_iff]
  simp only [linB, List.all_eq_true, List.mem_range, Bool.not_eq_true', Bool.and_eq_false_iff, decide_eq_false_iff_not]
  constructor
  · intro h i hi
    by_cases hn : t.getD i default < 0
    · right
      intro hc
      obtain ⟨j, hj, e, hm⟩ := count_two (t := t) (n := t.getD i default) (by omega)
      rcases h j hj with h' | h'
      · rw [getD_get hj, e] at h'; exact h' hn
      · rw [getD_get hj, e] at h'; exact h' hm
    · exact .inl hn
  · intro h i hi
    rcases h i hi with h' | h'
    · exact .inl h'
    · right
      intro hm
      apply h'
      have e : t = t.take i ++ t.getD i default :: t.drop (i + 1) := by
        rw [getD_get hi, ← List.drop_eq_getElem_cons hi, List.take_append_drop]
      have c1 : 0 < (t.take i).count (t.getD i default) := List.count_pos_iff.2 hm
      have c2 := congrArg (List.count (t.getD i default)) e
      rw [List.count_append, List.count_cons_self] at c2
      omega
theorem F_spec_l1Count_eq {t : List Int} (hs : Small t) (n : Int) : F_spec_l1Count t n = some (t.count n : Int) := by
  have hs' : t.length < 1099511627776 := hs
  unfold F_spec_l1Count
  have := loopC_is (f := F_spec_l1Count_l1 t n) (fun _ => some (t.count n : Int)) (fun s : Int × Int => ∃ i : Nat, s.2 = (i : Int) ∧ i ≤ t.length ∧ s.1 = ((t.take i).count n : Int)) (fun s : Int × Int => t.length - s.2.toNat) ?_ (0, 0) ⟨0, rfl, by omega, by simp⟩
  · exact this
  · rintro ⟨m, i'⟩ ⟨i, h1, h2, h3⟩
    simp only at h1 h3
    subst h1 h3
    have hc : (t.take i).count n ≤ t.length := Nat.le_trans (List.count_le_length) (by simp; omega)
    by_cases hi : i < t.length
    · refine .inl ⟨((t.take (i + 1)).count n, ((i + 1 : Nat) : Int)), ?_, ⟨i + 1, rfl, by omega, rfl⟩, by simp; omega⟩
      simp only [F_spec_l1Count_l1, show (i : Int) < t.length by omega, decide_true, if_true, show (0 : Int) ≤ i by omega, and_self, Int.toNat_natCast, getD_get hi, w64 (n := (i : Int) + 1) (by omega) (by omega), w64 (n := ((t.take i).count n : Int) + 1) (by omega) (by omega)]
      rw [List.take_add_one, List.getElem?_eq_getElem hi, List.count_append, Option.toList_some]
      by_cases he : t[i] = n
      · subst he; simp
      · simp [he, List.count_singleton, beq_iff_eq]
    · obtain rfl : i = t.length := by omega
      refine .inr ⟨(t.count n : Int), ?_, rfl⟩
      simp [F_spec_l1Count_l1]
theorem getD_range {n i : Nat} (h : i < n) : (List.range n).getD i default = i := by rw [List.getD_eq_getElem?_getD]; simp [h]
theorem F_impl_linear_eq {t : List Int} (hs : Small t) : F_impl_linear t = some (linB t) := by
  have hs' : t.length < 1099511627776 := hs
  unfold F_impl_linear linB
  refine loop_all (fun i x hi hi' hx hg => ?_) ?_
  · rw [List.length_range] at hi hi'
    rw [getD_range hi] at hg
    subst hg
    simp only [F_impl_linear_l1, hi', decide_true, if_true, show (0 : Int) ≤ i by omega, and_self, Int.toNat_natCast, show (i : Int) ≤ t.length by omega, w64 (n := (i : Int) + 1) (by omega) (by omega), F_slices_Contains_eq (show Small (t.take i) by show (t.take i).length < _; simp; omega), Option.bind_some]
    generalize decide (t.getD i default < 0) = p
    generalize decide (t.getD i default ∈ t.take i) = q
    cases p <;> cases q <;> simp
  · simp [F_impl_linear_l1]
theorem F_spec_l2Linear_eq {t : List Int} (hs : Small t) : F_spec_l2Linear t = some (linB t) := by
  have hs' : t.length < 1099511627776 := hs
  rw [linB_count]
  unfold F_spec_l2Linear
  refine loop_all (fun i x hi hi' hx hg => ?_) ?_
  · rw [List.length_range] at hi hi'
    rw [getD_range hi] at hg
    subst hg
    simp only [F_spec_l2Linear_l1, hi', decide_true, if_true, show (0 : Int) ≤ i by omega, and_self, Int.toNat_natCast, w64 (n := (i : Int) + 1) (by omega) (by omega), F_spec_l1Count_eq hs, Option.bind_some]
    generalize decide (t.getD i default < 0) = p
    generalize decide ((1 : Int) < (t.count (t.getD i default) : Int)) = q
    cases p <;> cases q <;> simp
  · simp [F_spec_l2Linear_l1]
def llB (s : Sys) : Bool := sysOk s && s.2.all fun r => linB r.1
theorem rule_small {s : Sys} (h : sysOk s = true) {r : List Int × List Int} (hr : r ∈ s.2) : Small r.1 := by
  obtain ⟨_, _, h2⟩ := termOk_iff.1 (ruleOk_iff.1 ((sysOk_iff.1 h).2.2 r hr)).1
  show r.1.length < _; omega
theorem F_impl_LeftLinearIn_eq (s : Sys) : F_impl_LeftLinearIn s = some (llB s) := by
  unfold F_impl_LeftLinearIn llB
  rw [F_impl_SystemOk_eq, Option.bind_some]
  cases hs : sysOk s with
  | false => simp
  | true =>
    have hl := (sysOk_iff.1 hs).2.1
    simp only [if_true, Bool.true_and]
    suffices e : F_impl_leftLinear s.2 = some (s.2.all fun r => linB r.1) by rw [e]; rfl
    unfold F_impl_leftLinear
    refine loop_all (xs := s.2) (p := fun r => linB r.1) (fun i x hi hi' hx hg => ?_) ?_
    · simp only [F_impl_leftLinear_l1, hi', decide_true, if_true, show (0 : Int) ≤ i by omega, and_self, Int.toNat_natCast, hg, F_impl_linear_eq (rule_small hs hx), Option.bind_some, w64 (n := (i : Int) + 1) (by omega) (by omega)]
      cases linB x.1 <;> simp
    · simp [F_impl_leftLinear_l1]
theorem F_spec_LeftLinearIn_eq (s : Sys) : F_spec_LeftLinearIn s = some (llB s) := by
  unfold F_spec_LeftLinearIn llB
  rw [F_spec_SystemOk_eq, Option.bind_some]
  cases hs : sysOk s with
  | false => simp
  | true =>
    have hl := (sysOk_iff.1 hs).2.1
    simp only [if_true, Bool.true_and]
    refine loop_all (xs := s.2) (p := fun r => linB r.1) (fun i x hi hi' hx hg => ?_) ?_
    · simp only [F_spec_LeftLinearIn_l1, hi', decide_true, if_true, show (0 : Int) ≤ i by omega, and_self, Int.toNat_natCast, hg, F_spec_l2Linear_eq (rule_small hs hx), Option.bind_some, w64 (n := (i : Int) + 1) (by omega) (by omega)]
      cases linB x.1 <;> simp
    · simp [F_spec_LeftLinearIn_l1]
def grB (a t : List Int) : Bool := termOk a t && t.all fun x => decide (0 ≤ x)
theorem F_impl_varsIn_ok {t : List Int} (hs : Small t) : Okk True (F_impl_varsIn t) fun o => o.length = ((List.range 24).filter fun i : Nat => decide ((-1 - (i : Int)) ∈ t)).length := by
  unfold F_impl_varsIn
  refine .of (loop_filter (n := 24) (p := fun i => decide ((-1 - (i : Int)) ∈ t)) (g := fun i => (i : Int)) (fun i out hi ho => ?_) (by simp only [F_impl_varsIn_l1]; rfl)) (by simp)
  simp only [F_impl_varsIn_l1, show ((i : Int) < 24) by omega, decide_true, if_true, F_slices_Contains_eq hs, Option.bind_some, w64 (n := -1 - (i : Int)) (by omega) (by omega), w64 (n := (i : Int) + 1) (by omega) (by omega)]
  by_cases hm : (-1 - (i : Int)) ∈ t
  · simp only [hm, decide_true, if_true]
    rw [if_pos (by omega)]
  · simp [hm]
theorem F_impl_GroundIn_eq (a t : List Int) : F_impl_GroundIn a t = some (grB a t) := by
  unfold F_impl_GroundIn grB
  rw [F_impl_TermOk_eq, Option.bind_some]
  cases ht : termOk a t with
  | false => simp
  | true =>
    obtain ⟨h1, h2, h3, h4⟩ := termOk_iff.1 ht
    have hs : Small t := by show t.length < _; omega
    obtain ⟨o, e⟩ := (F_impl_varsIn_ok hs).2 trivial
    have ho := (F_impl_varsIn_ok hs).1 o e
    simp only [if_true, e, Option.bind_some, Bool.true_and, Option.some.injEq]
    rw [Bool.eq_iff_iff]
    simp only [beq_iff_eq, List.all_eq_true, decide_eq_true_eq]
    constructor
    · intro h0 x hx
      refine Int.not_lt.1 fun hn => ?_
      have h24 := (h4.all x hx).1
      have : (-1 - x).toNat ∈ (List.range 24).filter fun i : Nat => decide ((-1 - (i : Int)) ∈ t) := by
        rw [List.mem_filter]
        refine ⟨List.mem_range.2 (by omega), ?_⟩
        rw [decide_eq_true_eq, show -1 - (((-1 - x).toNat : Nat) : Int) = x by omega]
        exact hx
      have := List.length_pos_of_mem this
      omega
    · intro h
      have : ((List.range 24).filter fun i : Nat => decide ((-1 - (i : Int)) ∈ t)) = [] := by
        rw [List.filter_eq_nil_iff]
        intro i hi hm
        have := h _ (of_decide_eq_true hm)
        omega
      rw [ho, this]; rfl
theorem F_spec_l1Into_ok {l : List Int} (hs : Small l) (n : Int) : Okk True (F_spec_l1Into l n) fun o => 0 < o.length ∧ o.length ≤ l.length + 1 := by
  have hs' : l.length < 1099511627776 := hs
  unfold F_spec_l1Into
  refine Okk.loop (fun k : Int => ∃ i : Nat, k = (i : Int) ∧ i ≤ l.length) (fun k : Int => l.length - k.toNat) ⟨0, rfl, by omega⟩ ?_
  rintro _ ⟨i, rfl, hi⟩
  have cp := F_spec_l1Copy_eq (l := l.take i) (by show (l.take i).length < _; simp; omega)
  unfold F_spec_l1Into_l1
  have h1 : (0 : Int) ≤ i := by omega
  have h2 : (i : Int) ≤ l.length := by omega
  have hm : min i l.length = i := by omega
  have b1 : (i + 1) * 8 ≤ 140737488355328 := by omega
  have b2 : (i + 1 + (l.length - i)) * 8 ≤ 140737488355328 := by omega
  have b3 : (i + (1 + (l.length - i))) * 8 ≤ 140737488355328 := by omega
  have b4 : (i + (l.length - i + 1)) * 8 ≤ 140737488355328 := by omega
  by_cases hlt : i < l.length
  · have hlt' : (i : Int) < l.length := by omega
    simp only [hlt', decide_true, if_true, h1, h2, and_self, Int.toNat_natCast, cp, Option.bind_some, w64 (n := (i : Int) + 1) (by omega) (by omega), List.length_append, List.length_take, List.length_drop, List.length_singleton, hm, b1, b2]
    by_cases hn : l.getD i default < n
    · simp only [hn, decide_true, if_true]
      exact .some ⟨⟨i + 1, by simp, by omega⟩, by simp; omega⟩
    · simp only [hn, decide_false, Bool.false_eq_true, if_false]
      by_cases he : (l.getD i default == n) = true
      · simp only [he, if_true, Option.map_some]
        exact .some ⟨by omega, by omega⟩
      · simp only [he, if_false, Option.map_some]
        exact .some ⟨by simp; omega, by simp; omega⟩
  · have hlt' : ¬ (i : Int) < l.length := by omega
    simp only [hlt', decide_false, Bool.false_eq_true, if_false, if_true, h1, h2, and_self, Int.toNat_natCast, cp, Option.bind_some, List.length_append, List.length_take, List.length_drop, List.length_singleton, hm, b1, b2, Option.map_some]
    exact .some ⟨by simp; omega, by simp; omega⟩
theorem F_spec_l2Vars_ok {t : List Int} (ht : t.length ≤ 60) (hx : ∀ x ∈ t, -24 ≤ x) : Okk True (F_spec_l2Vars t) fun o => o.length = 0 ↔ ∀ x ∈ t, 0 ≤ x := by
  unfold F_spec_l2Vars
  refine Okk.loop (fun s : List Int × Int => ∃ i : Nat, s.2 = (i : Int) ∧ i ≤ t.length ∧ s.1.length ≤ i ∧ (s.1.length = 0 ↔ ∀ x ∈ t.take i, 0 ≤ x)) (fun s : List Int × Int => t.length - s.2.toNat) ⟨0, rfl, by omega, by simp, by simp⟩ ?_
  rintro ⟨o, i'⟩ ⟨i, h1, h2, h3, h4⟩
  simp only at h1 h3 h4
  subst h1
  unfold F_spec_l2Vars_l1
  by_cases hi : i < t.length
  · have hi' : (i : Int) < t.length := by omega
    have htk : t.take (i + 1) = t.take i ++ [t[i]] := List.take_succ_eq_append_getElem hi
    simp only [hi', decide_true, if_true, show (0 : Int) ≤ i by omega, and_self, Int.toNat_natCast, getD_get hi, w64 (n := (i : Int) + 1) (by omega) (by omega)]
    by_cases hn : t[i] < 0
    · simp only [hn, decide_true, if_true]
      refine .bind (F_spec_l1Into_ok (by show o.length < _; omega) _) fun r hr => ?_
      refine .some ⟨⟨i + 1, by simp, by omega, by simp; omega, ?_⟩, by simp; omega⟩
      rw [htk]
      constructor
      · intro h; simp only at h; omega
      · intro h
        have := h t[i] (List.mem_append_right _ (List.mem_singleton.2 rfl))
        omega
    · simp only [hn, decide_false, Bool.false_eq_true, if_false]
      refine .some ⟨⟨i + 1, by simp, by omega, by simp; omega, ?_⟩, by simp; omega⟩
      rw [htk]
      simp only [h4, List.mem_append, List.mem_singleton]
      constructor
      · rintro h x (hx | rfl)
        · exact h x hx
        · omega
      · intro h x hx; exact h x (.inl hx)
  · have hi' : ¬ (i : Int) < t.length := by omega
    simp only [hi', decide_false, Bool.false_eq_true, if_false, Option.map_some]
    rw [List.take_of_length_le (by omega)] at h4
    exact .some h4
theorem F_spec_GroundIn_eq (a t : List Int) : F_spec_GroundIn a t = some (grB a t) := by
  unfold F_spec_GroundIn grB
  rw [F_spec_TermOk_eq, Option.bind_some]
  cases ht : termOk a t with
  | false => simp
  | true =>
    obtain ⟨h1, h2, h3, h4⟩ := termOk_iff.1 ht
    obtain ⟨o, e⟩ := (F_spec_l2Vars_ok h3 fun x hx => (h4.all x hx).1).2 trivial
    have ho := (F_spec_l2Vars_ok h3 fun x hx => (h4.all x hx).1).1 o e
    simp only [if_true, e, Option.bind_some, Bool.true_and, Option.some.injEq]
    rw [Bool.eq_iff_iff]
    simp only [beq_iff_eq, List.all_eq_true, decide_eq_true_eq]
    have ho' : o.length = 0 ↔ ∀ x ∈ t, 0 ≤ x := ho
    rw [← ho']; omega
theorem F_impl_instance_eq {a p t : List Int} (hp : termOk a p = true) (ht : termOk a t = true) : F_impl_instance a p t = some (mat a p t none24).isSome := by
  obtain ⟨h1, h2, h3, h4⟩ := termOk_iff.1 hp
  obtain ⟨_, g2, g3, g4⟩ := termOk_iff.1 ht
  unfold F_impl_instance
  obtain ⟨r, e⟩ := (F_impl_match_ok h1 h4 g4 h3 g3).2 trivial
  rw [e, Option.bind_some, match_isSome ((F_impl_match_ok h1 h4 g4 h3 g3).1 r e)]
theorem F_spec_InstanceIn_eq {a p t : List Int} (hp : termOk a p = true) (ht : termOk a t = true) : F_spec_InstanceIn a p t = some (mat a p t none24).isSome := by
  obtain ⟨h1, h2, h3, h4⟩ := termOk_iff.1 hp
  obtain ⟨_, g2, g3, g4⟩ := termOk_iff.1 ht
  unfold F_spec_InstanceIn F_spec_Matched
  obtain ⟨r, e⟩ := (F_spec_l4Match_ok h1 h4 g4 h3 g3).2 trivial
  simp only [F_spec_TermOk_eq, hp, ht, Option.bind_some, if_true, e]
  rw [match_isSome ((F_spec_l4Match_ok h1 h4 g4 h3 g3).1 r e)]
end Go.Proofs.YtcbfefbocpikoaaGreat
namespace Go.Proofs.YtcbfefbocpikoaaGreat
open Go Abx Tm
def ordS (s : List Int) (x : Int) : List Int := if x < 0 ∧ x ∉ s then s ++ [x] else s
def ordL (s t : List Int) : List Int := t.foldl ordS s
theorem ordL_app (s u v : List Int) : ordL s (u ++ v) = ordL (ordL s u) v := List.foldl_append
theorem ordL_take {t : List Int} {i : Nat} (hi : i < t.length) : ordL [] (t.take (i + 1)) = ordS (ordL [] (t.take i)) t[i] := by
  rw [List.take_succ_eq_append_getElem hi, ordL_app]; rfl
theorem ordS_pre (s : List Int) (x : Int) : ∃ r, ordS s x = s ++ r := by
  unfold ordS; split
  · exact ⟨_, rfl⟩
  · exact ⟨[], by simp⟩
theorem ordL_pre : ∀ (t s : List Int), ∃ r, ordL s t = s ++ r
  | [], s => ⟨[], by simp [ordL]⟩
  | x :: t, s => by
    obtain ⟨r, h⟩ := ordS_pre s x
    obtain ⟨r', h'⟩ := ordL_pre t (ordS s x)
    exact ⟨r ++ r', by show ordL (ordS s x) t = _; rw [h', h, List.append_assoc]⟩
theorem ordS_mem {s : List Int} {x y : Int} : y ∈ ordS s x ↔ y ∈ s ∨ (y = x ∧ x < 0) := by
  unfold ordS
  split
  · rename_i h; simp [h.1]
  · rename_i h
    constructor
    · exact .inl
    · rintro (h' | ⟨rfl, h'⟩)
      · exact h'
      · exact Decidable.byContradiction fun hn => h ⟨h', hn⟩
theorem ordL_mem : ∀ {t s : List Int} {y : Int}, y ∈ ordL s t ↔ y ∈ s ∨ (y ∈ t ∧ y < 0)
  | [], s, y => by simp [ordL]
  | x :: t, s, y => by
    show y ∈ ordL (ordS s x) t ↔ _
    rw [ordL_mem, ordS_mem, List.mem_cons]
    constructor
    · rintro ((h | ⟨rfl, h⟩) | ⟨h, h'⟩)
      · exact .inl h
      · exact .inr ⟨.inl rfl, h⟩
      · exact .inr ⟨.inr h, h'⟩
    · rintro (h | ⟨rfl | h, h'⟩)
      · exact .inl (.inl h)
      · exact .inl (.inr ⟨rfl, h'⟩)
      · exact .inr ⟨h, h'⟩
theorem ordS_nodup {s : List Int} {x : Int} (h : s.Nodup) : (ordS s x).Nodup := by
  unfold ordS
  split
  · rename_i h'
    rw [List.nodup_append]
    exact ⟨h, by simp, fun a ha b hb => by rw [List.mem_singleton.1 hb]; rintro rfl; exact h'.2 ha⟩
  · exact h
theorem ordL_nodup : ∀ {t s : List Int}, s.Nodup → (ordL s t).Nodup
  | [], s, h => h
  | x :: t, s, h => ordL_nodup (t := t) (ordS_nodup h)
theorem len_sub {α : Type} [DecidableEq α] : ∀ {l m : List α}, l.Nodup → (∀ x ∈ l, x ∈ m) → l.length ≤ m.length
  | [], m, _, _ => by simp
  | x :: l, m, h, hs => by
    obtain ⟨h1, h2⟩ := List.nodup_cons.1 h
    have hx := hs x (by simp)
    have := len_sub (l := l) (m := m.erase x) h2 fun y hy => (List.mem_erase_of_ne (by rintro rfl; exact h1 hy)).2 (hs y (by simp [hy]))
    rw [List.length_erase_of_mem hx] at this
    have := List.length_pos_of_mem hx
    simp only [List.length_cons]; omega
theorem ordL_len {t : List Int} (ht : ∀ x ∈ t, -24 ≤ x) : (ordL [] t).length ≤ 24 := by
  have := len_sub (l := ordL [] t) (m := (List.range 24).map fun i : Nat => (-1 - (i : Int))) (ordL_nodup (by simp)) fun x hx => by
    rcases ordL_mem.1 hx with h | ⟨h, h'⟩
    · cases h
    · have := ht x h
      exact List.mem_map.2 ⟨(-1 - x).toNat, List.mem_range.2 (by omega), by omega⟩
  simpa using this
theorem ordL_le {t : List Int} : ∀ {s : List Int}, (ordL s t).length ≤ s.length + t.length := by
  induction t with
  | nil => intro s; simp [ordL]
  | cons x t ih =>
    intro s
    have h1 : (ordS s x).length ≤ s.length + 1 := by unfold ordS; split <;> simp
    have := ih (s := ordS s x)
    show (ordL (ordS s x) t).length ≤ _
    simp only [List.length_cons]; omega
def renV (o : List Int) (x : Int) : Int := if x < 0 then -1 - (o.idxOf x : Int) else x
def renT (t : List Int) : List Int := t.map (renV (ordL [] t))
theorem renT_len (t : List Int) : (renT t).length = t.length := by simp [renT]
theorem renV_neg {o : List Int} {x : Int} : renV o x < 0 ↔ x < 0 := by unfold renV; split <;> omega
theorem idx_take {t : List Int} {i : Nat} (hi : i ≤ t.length) {x : Int} (hx : x ∈ ordL [] (t.take i)) : (ordL [] t).idxOf x = (ordL [] (t.take i)).idxOf x := by
  obtain ⟨r, h⟩ := ordL_pre (t.drop i) (ordL [] (t.take i))
  rw [← ordL_app, List.take_append_drop] at h
  rw [h, List.idxOf_append, if_pos hx]
theorem renT_wf {a t : List Int} (h : Wf a 1 t) : Wf a 1 (renT t) := by
  have hm := fun x hx => (h.all x hx).1
  have e : renT t = sub (fun x => [renV (ordL [] t) x]) t := by
    unfold renT sub
    rw [List.map_eq_flatMap]
    refine congrArg (fun f => List.flatMap f t) (funext fun x => ?_)
    split
    · rfl
    · rename_i hx; simp [renV, hx]
  rw [e]
  refine h.sub fun x hx hn => ?_
  refine Wf.cons_iff.2 ⟨⟨?_, ?_⟩, ?_⟩
  · have h1 : x ∈ ordL [] t := ordL_mem.2 (.inr ⟨hx, hn⟩)
    have h2 := ordL_len hm
    have h3 := List.idxOf_lt_length_iff.2 h1
    simp only [renV, hn, if_true]; omega
  · simp only [renV, hn, if_true]; omega
  · simp only [ari, renV_neg.2 hn, if_true]
    exact Wf.nil
theorem renT_ok {a t : List Int} (h : termOk a t = true) : termOk a (renT t) = true := by
  obtain ⟨h1, h2, h3, h4⟩ := termOk_iff.1 h
  exact termOk_iff.2 ⟨h1, by rw [renT_len]; exact h2, by rw [renT_len]; exact h3, renT_wf h4⟩
end Go.Proofs.YtcbfefbocpikoaaGreat
namespace Go.Proofs.YtcbfefbocpikoaaGreat
open Go Abx Tm
theorem F_spec_l2Order_eq {t : List Int} (hs : Small t) : F_spec_l2Order t = some (ordL [] t) := by
  have hs' : t.length < 1099511627776 := hs
  unfold F_spec_l2Order
  refine loop_st (n := t.length) (fun i => (ordL [] (t.take i), (i : Int))) (fun i hi => ?_) ?_
  · have hl : (ordL [] (t.take i)).length ≤ i := by
      have := ordL_le (t := t.take i) (s := [])
      simp at this; omega
    rw [ordL_take hi]
    simp only [F_spec_l2Order_l1, show (i : Int) < t.length by omega, decide_true, if_true, show (0 : Int) ≤ i by omega, and_self, Int.toNat_natCast, getD_get hi, w64 (n := (i : Int) + 1) (by omega) (by omega), F_spec_l1Has_eq (show Small (ordL [] (t.take i)) by show (ordL [] (t.take i)).length < _; omega), Option.bind_some]
    rw [if_pos (show ((ordL [] (t.take i)).length + 1) * 8 ≤ 140737488355328 by omega)]
    unfold ordS
    by_cases hn : t[i] < 0 <;> by_cases hm : t[i] ∈ ordL [] (t.take i) <;> simp [hn, hm]
  · simp [F_spec_l2Order_l1]
theorem F_spec_l2By_eq {o t : List Int} (hs : Small t) (ho : Small o) (hn : o.Nodup) (hm : ∀ x ∈ t, x < 0 → x ∈ o) : F_spec_l2By o t = some (t.map (renV o)) := by
  have hs' : t.length < 1099511627776 := hs
  have ho' : o.length < 1099511627776 := ho
  unfold F_spec_l2By
  refine loop_st (n := t.length) (fun i => ((t.take i).map (renV o), (i : Int))) (fun i hi => ?_) (by simp [F_spec_l2By_l1])
  have hi' : (i : Int) < t.length := by omega
  have h0 : (0 : Int) ≤ i := by omega
  have ht : (t.take (i + 1)).map (renV o) = (t.take i).map (renV o) ++ [renV o t[i]] := by rw [List.take_succ_eq_append_getElem hi, List.map_append]; rfl
  have hb : (((t.take i).map (renV o)).length + 1) * 8 ≤ 140737488355328 := by simp; omega
  simp only [F_spec_l2By_l1, hi', decide_true, if_true, h0, and_self, Int.toNat_natCast, getD_get hi]
  rw [ht]
  by_cases hx : t[i] < 0
  · have hxo := hm _ (List.getElem_mem hi) hx
    have hix := List.idxOf_lt_length_iff.2 hxo
    refine loop_st (n := o.length) (fun k => (if o.idxOf t[i] < k then renV o t[i] else t[i], (k : Int))) (fun k hk => ?_) ?_
    · have hg : o.getD k default = t[i] ↔ o.idxOf t[i] = k := by
        constructor
        · intro h
          rw [← h, getD_get hk]; exact hn.idxOf_getElem k hk
        · rintro rfl; rw [getD_get hk]; exact List.getElem_idxOf hix
      simp only [F_spec_l2By_l2, show (k : Int) < o.length by omega, hi', decide_true, if_true, h0, show (0 : Int) ≤ k by omega, and_self, Int.toNat_natCast, getD_get hi, hx, w64 (n := (k : Int) + 1) (by omega) (by omega), w64 (n := -1 - (k : Int)) (by omega) (by omega)]
      by_cases he : o.idxOf t[i] = k
      · have he' := hg.2 he
        simp only [he', beq_self_eq_true, if_true]
        rw [if_pos (show o.idxOf t[i] < k + 1 by omega)]
        simp only [renV, hx, if_true, he]
        rfl
      · have he' : (o.getD k default == t[i]) = false := beq_eq_false_iff_ne.2 fun h => he (hg.1 h)
        simp only [he', Bool.false_eq_true, if_false]
        by_cases hl : o.idxOf t[i] < k
        · rw [if_pos hl, if_pos (show o.idxOf t[i] < k + 1 by omega)]; rfl
        · rw [if_neg hl, if_neg (show ¬ o.idxOf t[i] < k + 1 by omega)]; rfl
    · simp only [F_spec_l2By_l2, show ¬ (o.length : Int) < o.length by omega, decide_false, Bool.false_eq_true, if_false, hb, if_true, hix, Option.map_some, w64 (n := (i : Int) + 1) (by omega) (by omega)]
      rfl
  · have hr : renV o t[i] = t[i] := by simp [renV, hx]
    rw [hr]
    refine loopC_inr ?_
    simp only [F_spec_l2By_l2, hi', decide_true, if_true, h0, and_self, Int.toNat_natCast, getD_get hi, hx, decide_false, Bool.false_eq_true, if_false, hb, Option.map_some, w64 (n := (i : Int) + 1) (by omega) (by omega)]
    by_cases hk : (0 : Int) < o.length <;> simp [hk]
theorem F_spec_l2Renamed_eq {t : List Int} (hs : Small t) : F_spec_l2Renamed t = some (renT t) := by
  unfold F_spec_l2Renamed
  have hs' : t.length < 1099511627776 := hs
  have hl := ordL_le (t := t) (s := [])
  rw [F_spec_l2Order_eq hs, Option.bind_some, F_spec_l2By_eq hs (by show (ordL [] t).length < _; simp at hl; omega) (ordL_nodup (by simp)) fun x hx hn => ordL_mem.2 (.inr ⟨hx, hn⟩)]
  rfl
theorem F_slices_Index_eq {s : List Int} (hs : Small s) (v : Int) : F_slices_Index_int64_int64 s v = some (firstI (fun x => v == x) s) := by
  have hs' : s.length < 1099511627776 := hs
  unfold F_slices_Index_int64_int64
  refine loop_first (fun i x hi hx hg => ?_) (by simp [F_slices_Index_int64_int64_l1])
  simp only [F_slices_Index_int64_int64_l1, show (i : Int) < s.length by omega, decide_true, if_true, show (0 : Int) ≤ i by omega, and_self, Int.toNat_natCast, hg, w64 (n := (i : Int) + 1) (by omega) (by omega), Option.map_some]
  cases v == x <;> rfl
theorem firstI_idx {s : List Int} {v : Int} (h : v ∈ s) : firstI (fun x => v == x) s = (s.idxOf v : Int) := by
  unfold firstI
  have : s.findIdx? (fun x => v == x) = some (s.idxOf v) := by
    rw [List.findIdx?_eq_some_iff_getElem]
    have hl := List.idxOf_lt_length_iff.2 h
    refine ⟨hl, by simp, fun j hj => ?_⟩
    intro he
    have he' : s[j] = v := (beq_iff_eq.1 he).symm
    have := List.not_of_lt_findIdx (p := (· == v)) hj
    simp [he'] at this
  rw [this]
theorem F_impl_renamed_eq {t : List Int} (hs : Small t) : F_impl_renamed t = some (renT t) := by
  have hs' : t.length < 1099511627776 := hs
  have cl : F_slices_Clone_int64_int64_s1 t = some t := F_slices_Clone_eq hs
  unfold F_impl_renamed
  suffices h : F_impl_renumber [t] = some [renT t] by rw [h]; simp
  unfold F_impl_renumber
  have e0 : F_impl_renumber_l1 [t] ([], [], 0) = loopC (F_impl_renumber_l2 [] 0 t) ([], 0, t) := by
    simp [F_impl_renumber_l1, cl]
  have e1 : loopC (F_impl_renumber_l2 [] 0 t) ([], 0, t) = some (.inl (ordL [] t, [renT t], 1)) := by
    have h0 : ((ordL [] (t.take 0)), ((0 : Nat) : Int), (t.take 0).map (renV (ordL [] t)) ++ t.drop 0) = (([] : List Int), (0 : Int), t) := by simp [ordL]
    rw [← h0]
    refine loop_st (n := t.length) (fun i => (ordL [] (t.take i), (i : Int), (t.take i).map (renV (ordL [] t)) ++ t.drop i)) (fun i hi => ?_) ?_
    · have hl : (ordL [] (t.take i)).length ≤ i := by
        have := ordL_le (t := t.take i) (s := [])
        simp at this; omega
      have hi' : (i : Int) < t.length := by omega
      have h00 : (0 : Int) ≤ i := by omega
      have ht : (t.take (i + 1)).map (renV (ordL [] t)) = (t.take i).map (renV (ordL [] t)) ++ [renV (ordL [] t) t[i]] := by rw [List.take_succ_eq_append_getElem hi, List.map_append]; rfl
      have hd : t.drop i = t[i] :: t.drop (i + 1) := List.drop_eq_getElem_cons hi
      have hlen : ((t.take i).map (renV (ordL [] t))).length = i := by simp; omega
      have hg : ((t.take i).map (renV (ordL [] t)) ++ t.drop i).getD i default = t[i] := by
        rw [List.getD_eq_getElem?_getD, List.getElem?_append_right (by omega), hlen, Nat.sub_self, hd]; rfl
      have hset : ∀ y, ((t.take i).map (renV (ordL [] t)) ++ t.drop i).set i y = (t.take i).map (renV (ordL [] t)) ++ y :: t.drop (i + 1) := fun y => by
        rw [List.set_append_right _ _ (by omega), hlen, Nat.sub_self, hd]; rfl
      have hle : (((t.take i).map (renV (ordL [] t)) ++ t.drop i).length : Int) = t.length := by simp; omega
      have hb : ((ordL [] (t.take i)).length + 1) * 8 ≤ 140737488355328 := by omega
      have hsm : Small (ordL [] (t.take i)) := by show (ordL [] (t.take i)).length < _; omega
      have hidx := idx_take (t := t) (i := i + 1) (by omega) (x := t[i])
      rw [ordL_take hi] at hidx ⊢
      rw [ht]
      simp only [F_impl_renumber_l2, hi', hle, decide_true, if_true, h00, and_self, Int.toNat_natCast, hg, hset, w64 (n := (i : Int) + 1) (by omega) (by omega), F_slices_Index_eq hsm, Option.bind_some, hb, List.append_assoc, List.singleton_append]
      by_cases hx : t[i] < 0
      · have hx' : ¬ (0 : Int) ≤ t[i] := by omega
        have hv : renV (ordL [] t) t[i] = -1 - ((ordS (ordL [] (t.take i)) t[i]).idxOf t[i] : Int) := by
          rw [renV, if_pos hx, hidx (ordS_mem.2 (.inr ⟨rfl, hx⟩))]
        simp only [hx', decide_false, Bool.false_eq_true, if_false]
        rw [hv]
        by_cases hm : t[i] ∈ ordL [] (t.take i)
        · rw [firstI_idx hm]
          have hlt := List.idxOf_lt_length_iff.2 hm
          simp only [ordS, hx, hm, not_true, and_false, if_false, show ¬ (((ordL [] (t.take i)).idxOf t[i] : Nat) : Int) < 0 by omega, decide_false, Bool.false_eq_true, w64 (n := -1 - (((ordL [] (t.take i)).idxOf t[i] : Nat) : Int)) (by omega) (by omega)]
          rfl
        · rw [firstI_none (fun x hx => beq_eq_false_iff_ne.2 (by rintro rfl; exact hm hx))]
          have hix : (ordL [] (t.take i) ++ [t[i]]).idxOf t[i] = (ordL [] (t.take i)).length := by rw [List.idxOf_append, if_neg hm]; simp
          simp only [ordS, hx, hm, not_false_eq_true, and_self, if_true, hix, show (-1 : Int) < 0 by decide, decide_true, w64 (n := -1 - ((ordL [] (t.take i)).length : Int)) (by omega) (by omega)]
          rfl
      · have hx' : (0 : Int) ≤ t[i] := by omega
        have hv : renV (ordL [] t) t[i] = t[i] := by simp [renV, hx]
        rw [hv]
        simp only [hx', decide_true, if_true, ordS, hx, false_and, if_false, hd]
        rfl
    · simp [F_impl_renumber_l2, renT, w64 (n := (0 : Int) + 1) (by omega) (by omega)]
      decide
  rw [loopC_inl (e0.trans e1)]
  refine loopC_inr ?_
  simp [F_impl_renumber_l1]
end Go.Proofs.YtcbfefbocpikoaaGreat
namespace Go.Proofs.YtcbfefbocpikoaaGreat
open Go Abx Tm
theorem F_spec_LessTerm_eq {a b : List Int} (ha : Small a) : F_spec_LessTerm a b = some (decide (cmpT a b < 0)) := by
  have ha' : a.length < 1099511627776 := ha
  unfold F_spec_LessTerm cmpT
  by_cases hl : a.length = b.length
  · rw [if_neg (by simp [hl]), if_pos hl]
    have := loopC_is (f := F_spec_LessTerm_l1 a b) (fun k => some (decide (lexI (a.drop k.toNat) (b.drop k.toNat) < 0))) (fun k : Int => ∃ i : Nat, k = (i : Int) ∧ i ≤ a.length) (fun k : Int => a.length - k.toNat) ?_ 0 ⟨0, rfl, by omega⟩
    · simpa using this
    · rintro _ ⟨i, rfl, hi⟩
      by_cases hlt : i < a.length
      · have hb : i < b.length := by omega
        simp only [F_spec_LessTerm_l1, show (i : Int) < a.length by omega, show (i : Int) < b.length by omega, decide_true, if_true, show (0 : Int) ≤ i by omega, and_self, Int.toNat_natCast, getD_get hlt, getD_get hb, w64 (n := (i : Int) + 1) (by omega) (by omega), Option.map_some]
        simp only [List.drop_eq_getElem_cons hlt, List.drop_eq_getElem_cons hb]
        by_cases he : a[i] = b[i]
        · refine .inl ⟨((i + 1 : Nat) : Int), by simp [he], ⟨i + 1, rfl, by omega⟩, by simp; omega, ?_⟩
          simp [lexI, he]
        · refine .inr ⟨_, by simp [he]; rfl, ?_⟩
          simp only [lexI]
          rcases Int.lt_or_gt_of_ne he with h | h
          · simp [h]
          · simp [h, show ¬ a[i] < b[i] by omega]
      · obtain rfl : i = a.length := by omega
        refine .inr ⟨false, by simp [F_spec_LessTerm_l1], ?_⟩
        simp only [Int.toNat_natCast, List.drop_length, show b.drop a.length = [] by rw [hl]; exact List.drop_length, lexI_self]
        rfl
  · rw [if_pos (by simp; omega), if_neg hl]
    refine congrArg some (decide_eq_decide.2 ?_)
    omega
abbrev Srt (l : List (List Int)) : Prop := l.Pairwise fun a b => cmpT a b ≤ 0
theorem insert_ok {l : List (List Int)} {t : List Int} (hl : l.length < 1099511627776) (ht : Small t) (hs : Srt l) : Okk True (F_spec_l28Insert l t) fun o => o.Perm (t :: l) ∧ Srt o := by
  unfold F_spec_l28Insert
  refine Okk.loop (fun k : Int => ∃ i : Nat, k = (i : Int) ∧ i ≤ l.length ∧ ∀ x ∈ l.drop i, cmpT t x ≤ 0) (fun k : Int => k.toNat) ⟨l.length, rfl, by omega, by simp⟩ ?_
  rintro _ ⟨i, rfl, hi, hd⟩
  have fin : (∀ x ∈ l.take i, cmpT x t ≤ 0) → (l.take i ++ [t] ++ l.drop i).Perm (t :: l) ∧ Srt (l.take i ++ [t] ++ l.drop i) := fun h => by
    constructor
    · rw [List.append_assoc, List.singleton_append]
      refine List.perm_middle.trans ?_
      rw [List.take_append_drop]
    · have hs' := hs
      rw [← List.take_append_drop i l, Srt, List.pairwise_append] at hs'
      rw [Srt, List.append_assoc, List.singleton_append, List.pairwise_append]
      refine ⟨hs'.1, List.pairwise_cons.2 ⟨hd, hs'.2.1⟩, fun x hx y hy => ?_⟩
      rcases List.mem_cons.1 hy with rfl | hy
      · exact h x hx
      · exact hs'.2.2 x hx y hy
  have hm : min i l.length = i := by omega
  have b1 : (0 + i) * 24 ≤ 140737488355328 := by omega
  have b2 : (i + 1) * 24 ≤ 140737488355328 := by omega
  have b3 : (i + 1 + (l.length - i)) * 24 ≤ 140737488355328 := by omega
  unfold F_spec_l28Insert_l1
  have h0 : (0 : Int) ≤ i := by omega
  have h1 : (i : Int) ≤ l.length := by omega
  simp only [h0, h1, and_self, if_true, Int.toNat_natCast, List.length_append, List.length_take, List.length_drop, List.length_singleton, hm, b1, b2, b3]
  by_cases hz : (0 : Int) < i
  · have hw : IntKind.i64.wrap ((i : Int) - 1) = ((i - 1 : Nat) : Int) := by rw [w64 (by omega) (by omega)]; omega
    have hlt : i - 1 < l.length := by omega
    simp only [hz, decide_true, if_true, hw, show (0 : Int) ≤ ((i - 1 : Nat) : Int) by omega, show ((i - 1 : Nat) : Int) < l.length by omega, and_self, Int.toNat_natCast, getD_get hlt, F_spec_LessTerm_eq ht, Option.bind_some]
    by_cases hc : cmpT t l[i - 1] < 0
    · simp only [hc, decide_true, if_true]
      refine .some ⟨⟨i - 1, rfl, by omega, fun x hx => ?_⟩, by simp; omega⟩
      rw [List.drop_eq_getElem_cons hlt, show i - 1 + 1 = i by omega] at hx
      rcases List.mem_cons.1 hx with rfl | hx
      · omega
      · exact hd x hx
    · simp only [hc, decide_false, Bool.false_eq_true, if_false, Option.map_some]
      refine .some (fin fun x hx => ?_)
      have h2 : cmpT l[i - 1] t ≤ 0 := by have := cmpT_neg t l[i - 1]; omega
      rw [show i = i - 1 + 1 by omega, List.take_succ_eq_append_getElem hlt] at hx
      rcases List.mem_append.1 hx with hx | hx
      · have hs' := hs
        rw [← List.take_append_drop (i - 1) l, Srt, List.pairwise_append] at hs'
        exact (cmpT_trans (hs'.2.2 x hx l[i - 1] (by rw [List.drop_eq_getElem_cons hlt]; exact List.mem_cons_self)) h2).1
      · rw [List.mem_singleton.1 hx]; exact h2
  · simp only [hz, decide_false, Bool.false_eq_true, if_false, Option.map_some]
    refine .some (fin fun x hx => ?_)
    obtain rfl : i = 0 := by omega
    simp at hx
theorem insert_sort {g : List (List Int)} {t : List Int} (hl : g.length < 1099511627776) (ht : Small t) : F_spec_l28Insert (sortT g) t = some (sortT (g ++ [t])) := by
  obtain ⟨o, e⟩ := (insert_ok (l := sortT g) (t := t) (by rw [sortT_len]; exact hl) ht (sortT_sorted g)).2 trivial
  obtain ⟨h1, h2⟩ := (insert_ok (l := sortT g) (t := t) (by rw [sortT_len]; exact hl) ht (sortT_sorted g)).1 o e
  rw [e]
  refine congrArg some (sorted_uniq ?_ h2 (sortT_sorted _))
  refine h1.trans (List.Perm.trans ?_ (sortT_perm _).symm)
  refine ((sortT_perm g).cons t).trans ?_
  exact (List.perm_append_comm (l₁ := [t]) (l₂ := g))
theorem F_spec_l1TermPlace_eq {l : List (List Int)} (hl : l.length < 1099511627776) (hs : ∀ x ∈ l, Small x) (t : List Int) : F_spec_l1TermPlace l t = some (firstI (fun x => x == t) l) := by
  unfold F_spec_l1TermPlace
  refine loop_first (fun i x hi hx hg => ?_) (by simp [F_spec_l1TermPlace_l1])
  simp only [F_spec_l1TermPlace_l1, show (i : Int) < l.length by omega, decide_true, if_true, show (0 : Int) ≤ i by omega, and_self, Int.toNat_natCast, hg, w64 (n := (i : Int) + 1) (by omega) (by omega), Option.map_some, F_spec_SameTerm_eq (hs x hx), Option.bind_some]
  cases x == t <;> rfl
theorem firstI_neg {l : List (List Int)} {t : List Int} : (decide (firstI (fun x => x == t) l < 0)) = !decide (t ∈ l) := by
  by_cases h : t ∈ l
  · have := firstI_at (p := fun x => x == t) h (by simp)
    simp [h]; omega
  · rw [firstI_none (fun x hx => beq_eq_false_iff_ne.2 (by rintro rfl; exact h hx))]
    simp [h]
theorem F_contains_eq {l : List (List Int)} (hl : l.length < 1099511627776) (hs : ∀ x ∈ l, Small x) (t : List Int) : F_slices_ContainsFunc_int64_int64_s1 l t = some (decide (t ∈ l)) := by
  unfold F_slices_ContainsFunc_int64_int64_s1
  suffices h : F_slices_IndexFunc_int64_int64_s1 l t = some (firstI (fun x => x == t) l) by
    rw [h, Option.bind_some]
    have := firstI_neg (l := l) (t := t)
    by_cases ht : t ∈ l
    · simp [ht] at this ⊢; omega
    · simp [ht] at this ⊢; omega
  unfold F_slices_IndexFunc_int64_int64_s1
  refine loop_first (fun i x hi hx hg => ?_) (by simp [F_slices_IndexFunc_int64_int64_s1_l1])
  simp only [F_slices_IndexFunc_int64_int64_s1_l1, show (i : Int) < l.length by omega, decide_true, if_true, show (0 : Int) ≤ i by omega, and_self, Int.toNat_natCast, hg, w64 (n := (i : Int) + 1) (by omega) (by omega), Option.map_some, F_impl_shapesOf_1_s1, F_slices_Equal_eq (hs x hx), Option.bind_some]
  cases x == t <;> rfl
def shp (a l : List Int) (g : List (List Int)) (p : Nat) : List (List Int) :=
  if l.getD p default < 0 then g else if renT (at' a l p) ∈ g then g else g ++ [renT (at' a l p)]
def shI (a l : List Int) (n : Nat) (g : List (List Int)) : List (List Int) := (List.range' 1 n).foldl (shp a l) g
def shL (a : List Int) (ls : List (List Int)) (n : Nat) : List (List Int) := (ls.take n).foldl (fun g l => shI a l (l.length - 1) g) []
theorem shI_succ (a l : List Int) (n : Nat) (g : List (List Int)) : shI a l (n + 1) g = shp a l (shI a l n g) (n + 1) := by
  unfold shI
  rw [List.range'_concat, List.foldl_append, show 1 + 1 * n = n + 1 by omega]; rfl
theorem shL_succ (a : List Int) {ls : List (List Int)} {i : Nat} (hi : i < ls.length) : shL a ls (i + 1) = shI a ls[i] (ls[i].length - 1) (shL a ls i) := by
  unfold shL
  rw [List.take_succ_eq_append_getElem hi, List.foldl_append]; rfl
structure ShOk (a : List Int) (g : List (List Int)) (n : Nat) : Prop where
  len : g.length ≤ n
  ok : ∀ x ∈ g, termOk a x = true
theorem at_ok {a t : List Int} (ht : termOk a t = true) {i : Nat} (hi : i < t.length) : termOk a (at' a t i) = true := by
  obtain ⟨q, h1, h2, h3, u, h4⟩ := at_place ht hi
  exact termOk_iff.2 ⟨(termOk_iff.1 ht).1, by rw [h4]; simp, h3, h2⟩
theorem ShOk.step {a l : List Int} {g : List (List Int)} {n p : Nat} (h : ShOk a g n) (hl : termOk a l = true) (hp : p < l.length) : ShOk a (shp a l g p) (n + 1) := by
  unfold shp
  split
  · exact ⟨by have := h.len; omega, h.ok⟩
  · split
    · exact ⟨by have := h.len; omega, h.ok⟩
    · refine ⟨by have := h.len; simp; omega, fun x hx => ?_⟩
      rcases List.mem_append.1 hx with hx | hx
      · exact h.ok x hx
      · rw [List.mem_singleton.1 hx]; exact renT_ok (at_ok hl hp)
theorem ShOk.inner {a l : List Int} {g : List (List Int)} {n : Nat} (h : ShOk a g n) (hl : termOk a l = true) : ∀ {j : Nat}, j < l.length → ShOk a (shI a l j g) (n + j)
  | 0, _ => h
  | j + 1, hj => by rw [shI_succ]; exact (ShOk.inner h hl (by omega)).step hl hj
theorem ShOk.outer {a : List Int} {ls : List (List Int)} (hls : ∀ l ∈ ls, termOk a l = true) : ∀ {i : Nat}, i ≤ ls.length → ShOk a (shL a ls i) (60 * i)
  | 0, _ => ⟨by simp [shL], by simp [shL]⟩
  | i + 1, hi => by
    have hl := hls _ (List.getElem_mem (show i < ls.length by omega))
    obtain ⟨_, l1, l2, _⟩ := termOk_iff.1 hl
    have := (ShOk.outer hls (show i ≤ ls.length by omega)).inner hl (j := ls[i].length - 1) (by omega)
    rw [shL_succ a (show i < ls.length by omega)]
    exact ⟨by have := this.len; omega, this.ok⟩
theorem ok_small {a : List Int} {g : List (List Int)} (h : ∀ x ∈ g, termOk a x = true) : ∀ x ∈ g, Small x := fun x hx => by
  obtain ⟨_, _, h3, _⟩ := termOk_iff.1 (h x hx)
  show x.length < _; omega
theorem at_head {a t : List Int} (ht : termOk a t = true) {i : Nat} (hi : i < t.length) : (renT (at' a t i)).length ≠ 0 ∧ ((renT (at' a t i)).getD 0 default < 0 ↔ t[i] < 0) := by
  obtain ⟨q, h1, h2, h3, u, h4⟩ := at_place ht hi
  rw [h4, renT_len]
  refine ⟨by simp, ?_⟩
  simp only [renT, List.map_cons]
  exact renV_neg
theorem F_spec_l24Shapes_eq {a : List Int} {ls : List (List Int)} (ha : sigOk a = true) (hn : ls.length ≤ 12) (hls : ∀ l ∈ ls, termOk a l = true) : F_spec_l24Shapes a ls = some (sortT (shL a ls ls.length)) := by
  unfold F_spec_l24Shapes
  have hz : sortT [] = [] := by simp [sortT]
  have := loop_st (n := ls.length) (fun i => (sortT (shL a ls i), (i : Int))) (f := F_spec_l24Shapes_l1 a ls) (c := sortT (shL a ls ls.length)) (fun i hi => ?_) (by simp [F_spec_l24Shapes_l1])
  · simpa [shL, hz] using this
  · have hi' : (i : Int) < ls.length := by omega
    have h0 : (0 : Int) ≤ i := by omega
    have hl := hls _ (List.getElem_mem hi)
    obtain ⟨_, l1, l2, lw⟩ := termOk_iff.1 hl
    have inv := ShOk.outer hls (show i ≤ ls.length by omega)
    simp only [F_spec_l24Shapes_l1, hi', decide_true, if_true]
    rw [shL_succ a hi]
    refine loop_st (n := ls[i].length - 1) (fun j => (sortT (shI a ls[i] j (shL a ls i)), ((j + 1 : Nat) : Int))) (fun j hj => ?_) ?_
    · have iv := inv.inner hl (j := j) (by omega)
      have hp : j + 1 < ls[i].length := by omega
      have hp' : ((j + 1 : Nat) : Int) < ls[i].length := by omega
      obtain ⟨q, d1, d2, d3, _⟩ := at_place hl hp
      have es := F_spec_l1Sub_eq ha (show Small ls[i] by show ls[i].length < _; omega) d1 d2
      have er := F_spec_l2Renamed_eq (t := at' a ls[i] (j + 1)) (by show (at' a ls[i] (j + 1)).length < _; omega)
      obtain ⟨n1, n2⟩ := at_head hl hp
      have n1' : (0 : Int) < (renT (at' a ls[i] (j + 1))).length := by omega
      have hlen := iv.len
      have ep := F_spec_l1TermPlace_eq (l := sortT (shI a ls[i] j (shL a ls i))) (by rw [sortT_len]; omega) (ok_small fun x hx => iv.ok x ((sortT_perm _).mem_iff.1 hx)) (renT (at' a ls[i] (j + 1)))
      have ei := insert_sort (g := shI a ls[i] j (shL a ls i)) (t := renT (at' a ls[i] (j + 1))) (by omega) (by show (renT _).length < _; rw [renT_len]; omega)
      have hfn := firstI_neg (l := sortT (shI a ls[i] j (shL a ls i))) (t := renT (at' a ls[i] (j + 1)))
      simp only [(sortT_perm (shI a ls[i] j (shL a ls i))).mem_iff] at hfn
      simp only [F_spec_l24Shapes_l2, hi', h0, and_self, if_true, Int.toNat_natCast, getD_get hi, hp', decide_true, es, er, Option.bind_some, Int.le_refl, n1', ep, ei, hfn, w64 (n := ((j + 1 : Nat) : Int) + 1) (by omega) (by omega)]
      rw [shI_succ]
      have e1 : ls[i].getD (j + 1) default = ls[i][j + 1] := getD_get hp
      simp only [shp, e1]
      by_cases hx : ls[i][j + 1] < 0
      · have := n2.2 hx
        simp only [hx, if_true, show ¬ (0 : Int) ≤ (renT (at' a ls[i] (j + 1))).getD 0 default by omega, decide_false, Bool.false_eq_true, if_false]
        rfl
      · have : ¬ (renT (at' a ls[i] (j + 1))).getD 0 default < 0 := fun h => hx (n2.1 h)
        simp only [hx, if_false, show (0 : Int) ≤ (renT (at' a ls[i] (j + 1))).getD 0 default by omega, decide_true, if_true]
        by_cases hm : renT (at' a ls[i] (j + 1)) ∈ shI a ls[i] j (shL a ls i)
        · simp only [hm, if_true, decide_true, Bool.not_true, Bool.false_eq_true, if_false]; rfl
        · simp only [hm, if_false, decide_false, Bool.not_false, if_true]; rfl
    · have e : ((ls[i].length - 1 + 1 : Nat) : Int) = ls[i].length := by omega
      simp only [F_spec_l24Shapes_l2, hi', h0, and_self, if_true, Int.toNat_natCast, getD_get hi, e, show ¬ (ls[i].length : Int) < ls[i].length by omega, decide_false, Bool.false_eq_true, if_false, Option.map_some, w64 (n := (i : Int) + 1) (by omega) (by omega)]
      rfl
theorem F_impl_shapesOf_eq {a : List Int} {ls : List (List Int)} (ha : sigOk a = true) (hn : ls.length ≤ 12) (hls : ∀ l ∈ ls, termOk a l = true) : F_impl_shapesOf a ls = some (sortT (shL a ls ls.length)) := by
  unfold F_impl_shapesOf
  have fin := ShOk.outer hls (Nat.le_refl ls.length)
  have es : F_sortT (shL a ls ls.length) = some () := by
    unfold F_sortT
    have := fin.len
    rw [if_pos ⟨by omega, fun x hx => by obtain ⟨_, _, h3, _⟩ := termOk_iff.1 (fin.ok x hx); omega⟩]
  have := loop_st (n := ls.length) (fun i => ((i : Int), shL a ls i)) (f := F_impl_shapesOf_l1 a ls) (c := sortT (shL a ls ls.length)) (fun i hi => ?_) (by simp [F_impl_shapesOf_l1, es])
  · simpa [shL] using this
  · have hi' : (i : Int) < ls.length := by omega
    have h0 : (0 : Int) ≤ i := by omega
    have hl := hls _ (List.getElem_mem hi)
    obtain ⟨_, l1, l2, lw⟩ := termOk_iff.1 hl
    have inv := ShOk.outer hls (show i ≤ ls.length by omega)
    simp only [F_impl_shapesOf_l1, hi', h0, and_self, decide_true, if_true]
    rw [shL_succ a hi]
    refine loop_st (n := ls[i].length - 1) (fun j => (((j + 1 : Nat) : Int), shI a ls[i] j (shL a ls i))) (fun j hj => ?_) ?_
    · have iv := inv.inner hl (j := j) (by omega)
      have hp : j + 1 < ls[i].length := by omega
      have hp' : ((j + 1 : Nat) : Int) < ls[i].length := by omega
      obtain ⟨q, d1, d2, d3, _⟩ := at_place hl hp
      have es := F_impl_subAt_eq ha (show Small ls[i] by show ls[i].length < _; omega) (fun x hx => (lw.all x hx).1) d1 d2
      have er := F_impl_renamed_eq (t := at' a ls[i] (j + 1)) (by show (at' a ls[i] (j + 1)).length < _; omega)
      have hlen := iv.len
      have ec := F_contains_eq (l := shI a ls[i] j (shL a ls i)) (by omega) (ok_small iv.ok) (renT (at' a ls[i] (j + 1)))
      have hb : ((shI a ls[i] j (shL a ls i)).length + 1) * 24 ≤ 140737488355328 := by omega
      simp only [F_impl_shapesOf_l2, Int.toNat_natCast, getD_get hi, hp', decide_true, if_true, show (0 : Int) ≤ ((j + 1 : Nat) : Int) by omega, and_self, es, er, ec, hb, Option.bind_some, w64 (n := ((j + 1 : Nat) : Int) + 1) (by omega) (by omega)]
      rw [shI_succ]
      simp only [shp]
      by_cases hx : ls[i].getD (j + 1) default < 0
      · simp only [hx, decide_true, if_true]; rfl
      · simp only [hx, decide_false, Bool.false_eq_true, if_false]
        by_cases hm : renT (at' a ls[i] (j + 1)) ∈ shI a ls[i] j (shL a ls i)
        · simp only [hm, decide_true, if_true]; rfl
        · simp only [hm, decide_false, Bool.false_eq_true, if_false]; rfl
    · have e : ((ls[i].length - 1 + 1 : Nat) : Int) = ls[i].length := by omega
      simp only [F_impl_shapesOf_l2, Int.toNat_natCast, getD_get hi, e, show ¬ (ls[i].length : Int) < ls[i].length by omega, decide_false, Bool.false_eq_true, if_false, Option.map_some, w64 (n := (i : Int) + 1) (by omega) (by omega)]
      rfl
def shAll (s : Sys) : List (List Int) := sortT (shL s.1 (s.2.map (·.1)) s.2.length)
def insL (s : Sys) (t : List Int) : List Int := ((List.range (shAll s).length).filter fun i => (mat s.1 ((shAll s).getD i default) t none24).isSome).map fun i : Nat => (i : Int)
def shapesAt (s : Sys) (t : List Int) : List Int := if llB s = true ∧ grB s.1 t = true then insL s t else []
theorem lefts_ok {s : Sys} (h : sysOk s = true) : sigOk s.1 = true ∧ (s.2.map (·.1)).length ≤ 12 ∧ ∀ l ∈ s.2.map (·.1), termOk s.1 l = true := by
  obtain ⟨h1, h2, h3⟩ := sysOk_iff.1 h
  refine ⟨h1, by simpa using h2, fun l hl => ?_⟩
  obtain ⟨r, hr, rfl⟩ := List.mem_map.1 hl
  exact (ruleOk_iff.1 (h3 r hr)).1
theorem shAll_ok {s : Sys} (h : sysOk s = true) : (shAll s).length ≤ 720 ∧ ∀ x ∈ shAll s, termOk s.1 x = true := by
  obtain ⟨h1, h2, h3⟩ := lefts_ok h
  have := ShOk.outer h3 (Nat.le_refl _)
  rw [List.length_map] at this h2
  refine ⟨?_, fun x hx => this.ok x ((sortT_perm _).mem_iff.1 hx)⟩
  unfold shAll
  rw [sortT_len]
  have := this.len
  omega
theorem llB_sys {s : Sys} (h : llB s = true) : sysOk s = true := by
  unfold llB at h
  exact (Bool.and_eq_true_iff.1 h).1
theorem F_spec_l24Ls_eq {s : Sys} (h : sysOk s = true) : F_spec_l24Ls s = some (s.2.map (·.1)) := by
  have h2 := (sysOk_iff.1 h).2.1
  unfold F_spec_l24Ls
  refine loop_map (fun i o => (o, i)) (out0 := []) (g := fun r : List Int × List Int => r.1) (xs := s.2) (fun i out x hi hx hg ho => ?_) (by simp [F_spec_l24Ls_l1])
  simp only [List.length_nil, Nat.zero_add] at ho
  simp only [F_spec_l24Ls_l1, show (i : Int) < s.2.length by omega, decide_true, if_true, show (0 : Int) ≤ i by omega, and_self, Int.toNat_natCast, hg, w64 (n := (i : Int) + 1) (by omega) (by omega)]
  rw [if_pos (by omega)]
theorem F_spec_ShapesAt_eq (s : Sys) (t : List Int) : F_spec_ShapesAt s t = some (shapesAt s t) := by
  unfold F_spec_ShapesAt F_spec_l24Right shapesAt
  rw [F_spec_SystemOk_eq, Option.bind_some, F_spec_LeftLinearIn_eq]
  cases hl : llB s with
  | false => cases sysOk s <;> simp
  | true =>
    have hs := llB_sys hl
    rw [hs]
    simp only [if_true, Option.bind_some, F_spec_GroundIn_eq]
    cases hg : grB s.1 t with
    | false => simp
    | true =>
      have ht : termOk s.1 t = true := (Bool.and_eq_true_iff.1 hg).1
      obtain ⟨o1, o2⟩ := shAll_ok hs
      obtain ⟨l1, l2, l3⟩ := lefts_ok hs
      simp only [if_true, Option.bind_some, F_spec_l24Ls_eq hs, F_spec_l24Shapes_eq l1 l2 l3, and_self, List.length_map]
      refine loop_filter (n := (shAll s).length) (p := fun i => (mat s.1 ((shAll s).getD i default) t none24).isSome) (g := fun i => (i : Int)) (fun i out hi ho => ?_) (by simp [F_spec_ShapesAt_l1, insL, shAll])
      show F_spec_ShapesAt_l1 s t (shAll s) _ = _
      simp only [F_spec_ShapesAt_l1, show (i : Int) < (shAll s).length by omega, decide_true, if_true, show (0 : Int) ≤ i by omega, and_self, Int.toNat_natCast, F_spec_InstanceIn_eq (o2 _ (getD_mem hi)) ht, Option.bind_some, w64 (n := (i : Int) + 1) (by omega) (by omega), show (out.length + 1) * 8 ≤ 140737488355328 by omega]
      cases (mat s.1 ((shAll s).getD i default) t none24).isSome <;> rfl
theorem F_impl_ShapesAt_eq (s : Sys) (t : List Int) : F_impl_ShapesAt_s1 s t = some (shapesAt s t) := by
  unfold F_impl_ShapesAt_s1 F_impl_ShapesOf shapesAt
  rw [F_impl_LeftLinearIn_eq, Option.bind_some]
  cases hl : llB s with
  | false => simp
  | true =>
    have hs := llB_sys hl
    simp only [if_true, Option.bind_some, F_impl_GroundIn_eq]
    cases hg : grB s.1 t with
    | false => simp
    | true =>
      have ht : termOk s.1 t = true := (Bool.and_eq_true_iff.1 hg).1
      obtain ⟨o1, o2⟩ := shAll_ok hs
      obtain ⟨l1, l2, l3⟩ := lefts_ok hs
      have el : F_impl_leftsOf s.2 = some (s.2.map (·.1)) := by
        unfold F_impl_leftsOf
        rw [List.length_map] at l2
        refine if_pos ⟨by omega, fun x hx => ?_⟩
        obtain ⟨_, _, h3, _⟩ := termOk_iff.1 (l3 x.1 (List.mem_map.2 ⟨x, hx, rfl⟩))
        omega
      simp only [if_true, Option.bind_some, el, F_impl_shapesOf_eq l1 l2 l3, and_self, List.length_map]
      refine loop_filter (n := (shAll s).length) (p := fun i => (mat s.1 ((shAll s).getD i default) t none24).isSome) (g := fun i => (i : Int)) (fun i out hi ho => ?_) (by simp [F_impl_ShapesAt_s1_l1, insL, shAll])
      show F_impl_ShapesAt_s1_l1 s t (shAll s) _ = _
      simp only [F_impl_ShapesAt_s1_l1, show (i : Int) < (shAll s).length by omega, decide_true, if_true, show (0 : Int) ≤ i by omega, and_self, Int.toNat_natCast, F_impl_instance_eq (o2 _ (getD_mem hi)) ht, Option.bind_some, w64 (n := (i : Int) + 1) (by omega) (by omega), show (out.length + 1) * 8 ≤ 140737488355328 by omega]
      cases (mat s.1 ((shAll s).getD i default) t none24).isSome <;> rfl
end Go.Proofs.YtcbfefbocpikoaaGreat
namespace Go.Proofs.YtcbfefbocpikoaaGreat
open Go Abx Tm
theorem shapesAt_le (s : Sys) (t : List Int) : (shapesAt s t).length ≤ Mx := by
  show _ ≤ 1048576
  unfold shapesAt
  split
  · rename_i h
    have := (shAll_ok (llB_sys h.1)).1
    unfold insL
    rw [List.length_map]
    refine Nat.le_trans (List.length_filter_le _ _) ?_
    rw [List.length_range]; omega
  · simp
theorem law_shapes {s : Sys} {t : List Int} (hs : BigS s) : F_laws_FnExactShapesAt s t = some true := by
  unfold F_laws_FnExactShapesAt
  by_cases ht : (1048576 : Int) < t.length
  · rw [if_pos (by simpa using ht)]
  rw [if_neg (by simpa using ht)]
  have ht' : t.length ≤ Mx := by show t.length ≤ 1048576; omega
  obtain ⟨r, e1, e2⟩ := szSystem hs
  rw [e1, Option.bind_some]
  by_cases hr : r < 0
  · rw [if_pos (by simpa using hr)]
  rw [if_neg (by simpa using hr)]
  have sm := e2 (by omega)
  have h2 := F_spec_ShapesAt_eq s t
  have l1 : F_le_ShapesAt_ll s.1.length s.2.length t.length s t = some (shapesAt s t) := by
    unfold F_le_ShapesAt_ll; rw [if_pos ⟨rfl, rfl, rfl⟩]; exact F_impl_ShapesAt_eq s t
  have l3 : F_le_eqSystem_ll s.1.length s.2.length s.1.length s.2.length s s = some true := by
    unfold F_le_eqSystem_ll; rw [if_pos ⟨rfl, rfl, rfl, rfl⟩]; exact eqSystem_self sm
  have l4 : F_le_eqInt64S_ll t.length t.length t t = some true := by
    unfold F_le_eqInt64S_ll; rw [if_pos ⟨rfl, rfl⟩]
    have hc' : t.length ≤ 1048576 := ht'
    exact eqI_self (show t.length < _ by omega)
  have hv := shapesAt_le s t
  generalize shapesAt s t = v at *
  have hv' : v.length ≤ 1048576 := hv
  have l5 : F_le_eqInt64S_ld v.length v v = some true := by
    unfold F_le_eqInt64S_ld; rw [if_pos rfl]
    exact eqI_self (show v.length < _ by omega)
  obtain ⟨m, m1, m2, m3⟩ := F_mk_System_ok sm
  have hK : m.2 ≤ 4 * Kx := by have : (0 : Int) ≤ Kx := by decide
                               omega
  have n1 := F_mk_Int64S_eq (a := t) (n := t.length) (k := m.2) rfl ht' m2 hK
  have n2 := F_mk_Int64S_eq (a := v) (n := v.length) (k := 1) rfl hv (by decide) (by decide)
  have g1 := mI_le (a := t) m2
  have g2 := mI_le (a := v) (k := 1) (by decide)
  have l6 : F_le_heldInt64S_ld v.length (mAcc mI v 1).1 1 = some (mAcc mI v 1).2 := by
    unfold F_le_heldInt64S_ld; rw [if_pos (by rw [mAcc_len])]
    exact heldI hv (by decide) (by decide)
  have c1 : ¬ (mAcc mI t m.2).2 < 0 := by omega
  have c2 : ¬ (mAcc mI v 1).2 < 0 := by omega
  simp only [F_pub_System_eq sm, F_pub_Int64S_eq ht', h2, F_to_System_eq sm, F_to_Int64S_eq ht', Option.bind_some, l1, l3, l4, l5, m1, n1, n2, l6, c1, c2, decide_false, bne_self_eq_false, Bool.false_eq_true, if_false, if_true]
theorem law_shapes_pure {s : Sys} {t : List Int} (hs : BigS s) : PFun Tryz.prog 3 [D_laws_System s, (slD 1 iD) t] (bD true) := c_laws_FnExactShapesAt.c (law_shapes hs)
end Go.Proofs.YtcbfefbocpikoaaGreat
namespace Go.Proofs.YtcbfefbocpikoaaGreat
open Go Abx Go.ChangeShapes Go.WideShapes Go.ChangeAt Go.RowKit
theorem ownZ : ownKnob Tryz.prog.godebug = none := by kernel_rfl
theorem laidZ : laidOutB Tryz.prog = true := by kernel_rfl
theorem cel_agg {α : Type} {f : α → D} (hf : ∀ y, ∃ cs, f y = .agg cs) : ∀ y O w vs, D.oks O w (dcells (f y)) vs → D.cel O w (f y) vs := fun y O w vs h => by
  obtain ⟨cs, e⟩ := hf y
  rw [e] at h ⊢
  exact h
theorem cel_one {α : Type} {f : α → D} (hf : ∀ y, dcells (f y) = [f y]) (ha : ∀ y cs, f y ≠ .agg cs) : ∀ y O w vs, D.oks O w (dcells (f y)) vs → D.cel O w (f y) vs := fun y O w vs h => by
  rw [hf] at h
  obtain ⟨v, r, e, _, h2, h3⟩ := h
  have h3' : r = [] := h3
  subst h3'
  have := ha y
  cases hy : f y with
  | agg cs => exact absurd hy (this cs)
  | _ => rw [hy] at h2; exact ⟨v, e, h2⟩
theorem rd2 : Rd Tryz.prog 2 1 iD (fun _ => True) := Rd.int Tryz.underlying2 (by kernel_rfl)
theorem rd22 : Rd Tryz.prog 22 1 (slD 1 iD) (fun x : (List Int) => (BigL x ∧ ∀ y0 : Int, y0 ∈ x → True)) := Rd.slice Tryz.underlying22 (by kernel_rfl) (by decide) rd2 (cel_one (fun _ => rfl) (fun _ _ h => nomatch h))
theorem rd24 : Rd Tryz.prog 24 1 D_laws_Sig (fun x : (List Int) => ((BigL x ∧ ∀ y0 : Int, y0 ∈ x → True))) := by
  have h := RdF.cons (P := Tryz.prog) (f := { name := "Arity", type := 22, offset := 0, embedded := false, tag := "", pkgPath := "", byteOffset := 0 }) (m := 1) rfl rd22 rfl (RdF.nil)
  exact Rd.struct (fun y : (List Int) × Unit => y.1) Tryz.underlying24 (by kernel_rfl) h (fun _ => rfl) (fun _ h => h.1)
theorem rd66 : Rd Tryz.prog 66 2 D_laws_Rule (fun x : ((List Int) × (List Int)) => ((BigL x.1 ∧ ∀ y0 : Int, y0 ∈ x.1 → True) ∧ (BigL x.2 ∧ ∀ y0 : Int, y0 ∈ x.2 → True))) := by
  have h := RdF.cons (P := Tryz.prog) (f := { name := "L", type := 22, offset := 0, embedded := false, tag := "", pkgPath := "", byteOffset := 0 }) (m := 2) rfl rd22 rfl (RdF.cons (f := { name := "R", type := 22, offset := 1, embedded := false, tag := "", pkgPath := "", byteOffset := 24 }) rfl rd22 rfl (RdF.nil))
  exact Rd.struct (fun y : (List Int) × (List Int) × Unit => (y.1, y.2.1)) Tryz.underlying66 (by kernel_rfl) h (fun _ => rfl) (fun _ h => ⟨h.1, h.2.1⟩)
theorem rd25 : Rd Tryz.prog 25 1 (slD 2 D_laws_Rule) (fun x : (List ((List Int) × (List Int))) => (BigL x ∧ ∀ y0 : ((List Int) × (List Int)), y0 ∈ x → ((BigL y0.1 ∧ ∀ y1 : Int, y1 ∈ y0.1 → True) ∧ (BigL y0.2 ∧ ∀ y1 : Int, y1 ∈ y0.2 → True)))) := Rd.slice Tryz.underlying25 (by kernel_rfl) (by decide) rd66 (cel_agg fun _ => ⟨_, rfl⟩)
theorem rd27 : Rd Tryz.prog 27 2 D_laws_System (fun x : ((List Int) × (List ((List Int) × (List Int)))) => (((BigL x.1 ∧ ∀ y0 : Int, y0 ∈ x.1 → True)) ∧ (BigL x.2 ∧ ∀ y0 : ((List Int) × (List Int)), y0 ∈ x.2 → ((BigL y0.1 ∧ ∀ y1 : Int, y1 ∈ y0.1 → True) ∧ (BigL y0.2 ∧ ∀ y1 : Int, y1 ∈ y0.2 → True))))) := by
  have h := RdF.cons (P := Tryz.prog) (f := { name := "Sig", type := 24, offset := 0, embedded := false, tag := "", pkgPath := "", byteOffset := 0 }) (m := 2) rfl rd24 rfl (RdF.cons (f := { name := "Rules", type := 25, offset := 1, embedded := false, tag := "", pkgPath := "", byteOffset := 24 }) rfl rd25 rfl (RdF.nil))
  exact Rd.struct (fun y : (List Int) × (List ((List Int) × (List Int))) × Unit => (y.1, y.2.1)) Tryz.underlying27 (by kernel_rfl) h (fun _ => rfl) (fun _ h => ⟨h.1, h.2.1⟩)
end Go.Proofs.YtcbfefbocpikoaaGreat
namespace Go.Proofs.YtcbfefbocpikoaaGreat
open Go Abx Go.ChangeShapes Go.WideShapes Go.ChangeAt Go.RowKit
section
variable {H : Type} {enc : TypeId × Value → H} {P : Program} {w : World} {base : Nat} {spare : Nat → Bool} {held : Bool}
theorem trodAll_3x {t0 t1 : TypeId} {args : Array Value} {ds : List (DataW H)} {ps : List MemPlace} (h : DataW.TrodAll enc P w base spare held [t0, t1] args.toList ds ps) :
    ∃ v0 v1 d0 d1 p0 p1, args = #[v0, v1] ∧ ds = [d0, d1] ∧ ps = p0 ++ p1 ∧ DataW.Trod enc P w base spare held t0 v0 d0 p0 ∧ DataW.Trod enc P w base spare held t1 v1 d1 p1 := by
  obtain ⟨v0, vs0, d0, ds0, p0, q0, hargs, rfl, rfl, k0, h0⟩ := trodAll_cons h
  obtain ⟨v1, vs1, d1, ds1, p1, q1, rfl, rfl, rfl, k1, h1⟩ := trodAll_cons h0
  obtain ⟨rfl, rfl, rfl⟩ := trodAll_nil h1
  exact ⟨v0, v1, d0, d1, p0, p1, by cases args; simp_all, rfl, by simp, k0, k1⟩
end
theorem law_walk3 {W : World} {v0 v1 : Value} {x0 : ((List Int) × (List ((List Int) × (List Int))))} {x1 : (List Int)} (g0 : (((BigL x0.1 ∧ ∀ y0 : Int, y0 ∈ x0.1 → True)) ∧ (BigL x0.2 ∧ ∀ y0 : ((List Int) × (List Int)), y0 ∈ x0.2 → ((BigL y0.1 ∧ ∀ y1 : Int, y1 ∈ y0.1 → True) ∧ (BigL y0.2 ∧ ∀ y1 : Int, y1 ∈ y0.2 → True))))) (g1 : (BigL x1 ∧ ∀ y0 : Int, y0 ∈ x1 → True)) (h0 : D.ok NoO W (D_laws_System x0) v0) (h1 : D.ok NoO W ((slD 1 iD) x1) v1) :
    Calls Tryz.prog 3 #[v0, v1] W fun e W' => e = .returned (.bool true) ∧ Below W.heap.size W W' :=
  (pure_belowN (show PFun Tryz.prog 3 [D_laws_System x0, (slD 1 iD) x1] (bD true) from law_shapes_pure (hs := ⟨g0.1.1, g0.2.1, fun r hr => ⟨(g0.2.2 r hr).1.1, (g0.2.2 r hr).2.1⟩⟩)) (vs := #[v0, v1]) (fun _ _ => trivial) ⟨v0, _, rfl, h0, v1, _, rfl, h1, rfl⟩).mono fun _ _ ⟨⟨_, h1, h2⟩, h3⟩ => by
    simp only [D.ok] at h2
    exact ⟨by rw [h1, h2.1], h3⟩
set_option maxRecDepth 100000 in
theorem fnExactShapesAt_lifted (os : Os) (started : os.Started) (H : Type) (enc : TypeId × Value → H) :
    ReturnsInHanded {} Tryz.checked os 3 .any (Rows.fnExactShapesAtSpec.pre6 enc Tryz.prog Tryz.f3 Rows.fnExactShapesAtRow.domain false) (Rows.fnExactShapesAtSpec.post enc Tryz.prog Tryz.f3 false true false false) := by
  refine returnsInHanded_of_change (C := Tryz.checked) ownZ started (by kernel_rfl) Tryz.func3
    (ChangeSpec.witness6 (enc := enc) (C := Tryz.checked) false ⟨#[], #[.agg #[.slice none 0 0, .slice none 0 0], .slice none 0 0], []⟩ 8 (by kernel_rfl) (by kernel_rfl) (by kernel_rfl) (by kernel_rfl)) ?_
  intro W base args ds gs before hval0 hW hcnd _
  have hval : ∀ (j : Nat) t v, Tryz.f3.params[j]? = some t → args[j]? = some v → Value.okWide Tryz.prog W .any base t v := hval0
  have hW' := hW
  obtain ⟨p, q, hA0, hV, rfl, hfz, hnd⟩ := hW
  have hA : DataW.TrodAll enc Tryz.prog W 0 (fun _ => true) true Tryz.f3.params.toList args.toList ds p := hA0
  rw [Tryz.params3] at hA hval
  obtain ⟨v0, v1, d0, d1, p0, p1, rfl, rfl, rfl, t0, t1⟩ := trodAll_3x hA
  obtain ⟨rfl, rfl⟩ := trodVars_none hV
  have k0 := t0
  have lt0 : ∀ x ∈ p0, x.block < W.heap.size := by obtain ⟨m, hm⟩ := t0; exact DataW.trod_lt m _ _ _ hm
  have k1 := t1
  have lt1 : ∀ x ∈ p1, x.block < W.heap.size := by obtain ⟨m, hm⟩ := t1; exact DataW.trod_lt m _ _ _ hm
  obtain ⟨x0, g0, h0⟩ := rd27.agg Tryz.underlying27 (fun _ => ⟨_, rfl⟩) (hval 0 _ v0 rfl rfl) t0
  obtain ⟨a1, l1, c1, rfl⟩ := okWide_slice Tryz.underlying22 (hval 1 _ v1 rfl rfl)
  obtain ⟨x1, g1, h1⟩ := rd22.cell (fun _ => rfl) rfl t1
  clear hA0 hval0
  refine (law_walk3 g0 g1 h0 h1).mono fun e W' ⟨he, bel⟩ => ?_
  subst he
  have s0 := Below.trod laidZ (by kernel_rfl) (of_decide_eq_true (by kernel_rfl)) k0 bel lt0
  have s1 := Below.trod laidZ (by kernel_rfl) (of_decide_eq_true (by kernel_rfl)) k1 bel lt1
  exact ⟨_, rfl, _, _, _, [], _, [], hW', trodAll_mk1 (shut_bool Tryz.underlying4 _), trodAll_cons_mk s0 (trodAll_mk1 s1), rfl, bel.frame _, fun h => by cases h⟩
end Go.Proofs.YtcbfefbocpikoaaGreat
namespace Go.Proofs.YtcbfefbocpikoaaGreat
open Go Go.ChangeShapes Go.WideShapes Go.ChangeAt Go.RowKit
theorem and2b3 {a b : Bool} (ha : a = true) (hb : b = true) : (a && b) = true := by rw [ha, hb]; rfl
set_option maxRecDepth 100000 in
set_option maxHeartbeats 4000000 in
theorem closed3 : joinedFacts Tryz.prog 3 Tryz.f3 Rows.fnExactShapesAtSpec Rows.fnExactShapesAtRow = true := by
  unfold joinedFacts
  with_reducible repeat' refine and2b3 ?_ ?_
  all_goals as_aux_lemma => kernel_rfl
end Go.Proofs.YtcbfefbocpikoaaGreat
