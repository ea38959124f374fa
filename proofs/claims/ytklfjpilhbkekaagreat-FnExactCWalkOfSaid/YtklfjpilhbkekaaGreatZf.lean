/- Functions of the program and the equations that they compute, walks inside terms; nothing is assumed. -/
import Derived.Test.YtklfjpilhbkekaaGreatZe
set_option linter.all false
noncomputable section
namespace Go.Proofs.YtklfjpilhbkekaaGreat
open Go Abx
attribute [local irreducible] vcm vgo vdr q3o q0n MWp p5q BrC BrO BrG BrD BrH z0s a3q q3y drQ w8 e2q
set_option maxHeartbeats 4000000
def q4i (x : (q7 × Ty5 × Int × Ty1)) : D := .agg [(z7 1 iD) x.1, (z7 3 z5) x.2.1, iD x.2.2.1, (z7 1 (z7 1 iD)) x.2.2.2]
instance : Cel q4i 4 := ⟨fun _ => rfl⟩
attribute [go_sem] q4i
def y3c : j5 :=
 (.seq (.reg (sq 3 [bo 3 43 0] ++ sq 6 [.mv (.const (.slice none 0 0))])) (.seq (.seq (.reg (sq 7 [la 1 3, mv 1, cf 154 [7, 8], nt 9, mv 10] ++ sg 11 false 12 [mv 1, mv 2, cf 86 [12, 13], nt 14] ++ sq 16 [po 11 15])) (.cond (t0 16) (.seq (.reg (sq 17 [.bsl 17 2 1 []] ++ sq 6 [mv 17])) .ret) .skip)) (.seq (.reg (sq 18 [la 1 3, mv 1, mv 2, cf 163 [18, 19, 20]] ++ sq 6 [mv 21])) .ret)))
theorem fn111 : t6 Tryz.prog 111 y3c 22 [.tmp 6] := mf Tryz.func111 Tryz.ntmps111
def r3q (sig : q7) (t : q7) (x7 : Int) : Option q7 :=
 (q2q sig t).bind fun r =>
 if r = true then
  (u7q t x7).bind fun r_1 =>
  if r_1 = true then
   (x2q sig t x7).bind fun r_2 =>
   some r_2
  else
   some []
 else
  some []
instance x4e {sig : q7} {t : q7} {x7 : Int} : y3 (r3q sig t x7) fun rr => p7 Tryz.prog 111 [u3 sig, (z7 1 iD) t, iD x7] ((z7 1 iD) rr) := ⟨@fun rr h => by
 delta r3q at h
 refine fn111.pureL (q6 ?_)
 delta y3c
 refine v5 ?_
 exact aut⟩
instance : Cl z5 := Cl.agg _ (fun _ => rfl) (fun _ => rfl)
instance : Cl u7 := Cl.agg _ (fun _ => rfl) (fun _ => rfl)
instance : Cl u3 := Cl.agg _ (fun _ => rfl) (fun _ => rfl)
instance : Cl d5 := Cl.agg _ (fun _ => rfl) (fun _ => rfl)
instance : Cl c7 := Cl.agg _ (fun _ => rfl) (fun _ => rfl)
instance : Cl q4i := Cl.agg _ (fun _ => rfl) (fun _ => rfl)
def y3i : j5 :=
 (.seq (.reg (sq 2 [bo 2 43 0, bo 3 48 1, mb false])) (.seq (.seq (.reg (sq 7 [la 1 2, cf 172 [7], nt 8, mv 9] ++ sg 10 false 11 [fa 0 3, ld 11, ln 12, bi .gtr 13 24] ++ sq 15 [po 10 14])) (.cond (t0 15) (.seq (.reg (sq 4 [mb false])) .ret) .skip)) (.seq (.seq (.reg (sq 16 [fa 0 3, ld 16, ln 17, mi 0])) (.block 0 (.loop (.seq (.reg (sq 20 [bn .lss 19 18])) (.seq (.cond (t0 20) .skip (.exit 0)) (.seq (.block 1 (.seq (.reg (sq 21 [ix 1 17 19, ld 21] ++ sq 6 [mv 22])) (.seq (.reg (sq 23 [mv 6, ln 23, bi .gtr 24 0, mv 25] ++ sg 26 true 27 [la 1 2, mv 6, cf 157 [27, 28], nt 29] ++ sq 31 [pa 26 30])) (.cond (t0 31) (.seq (.reg (sq 4 [mb false])) .ret) .skip)))) (.reg (sq 32 [bi .add 19 1] ++ sq 19 [mv 32])))))))) (.seq (.reg (sq 4 [mb true])) .ret))))
theorem fn124 : t6 Tryz.prog 124 y3i 33 [.tmp 4] := mf Tryz.func124 Tryz.ntmps124
def q3p (sig : q7) (s : Ty1) : Int -> Option (Int ⊕ Bool)
 | v19 =>
  if (decide (v19 < (s.length : Int))) = true then
   if 0 <= v19 /\ v19 < (s.length : Int) then
    if (decide (0 < ((s.getD v19.toNat default).length : Int))) = true then
     (r6 sig (s.getD v19.toNat default)).bind fun r_1 =>
     if r_1 = true then
      some (.inl (IntKind.i64.wrap (v19 + 1)))
     else
      Option.map Sum.inr (
       some false)
    else
     some (.inl (IntKind.i64.wrap (v19 + 1)))
   else none
  else
   Option.map Sum.inr (
    some true)
def a9q (sig : q7) (s : Ty1) : Option Bool :=
 (m4q sig).bind fun r =>
 if r = true then
  if (decide (24 < (s.length : Int))) = true then
   some false
  else
   loopC (q3p sig s) 0
 else
  some false
instance j7k {sig : q7} {s : Ty1} : y3 (a9q sig s) fun rr => p7 Tryz.prog 124 [u3 sig, c7 s] (bD rr) := ⟨@fun rr h => by
 delta a9q at h
 refine fn124.pureL (q6 ?_)
 delta y3i
 refine v5 ?_
 refine rC h fun r hr h => ?_
 refine iT h fun hc h => ?_
 refine iF h fun hc h => ?_
 refine s9 h [4, 6, 19, 20, 21, 22, 23, 24, 25, 26, 27, 28, 29, 30, 31, 32] (fun pp => [(19, .d (iD pp))]) (fun pp => [(2, .obj 43 [.d (z7 1 iD sig)]), (3, .obj 48 [.d (z7 1 (z7 1 iD) s)])]) ?_
 rintro v19 t1 h hb1
 unfold q3p at h
 try dsimp only at h
 refine q6 (v5 ?_)
 exact aut⟩
def y3g : j5 :=
 (.seq (.reg (sq 2 [bo 2 46 0, bo 3 50 1, mb false])) (.seq (.seq (.draw (sq 7 [fa 0 3, fa 1 7, ld 8, ln 9, bi .eql 10 0, mv 11] ++ sg 12 false 13 [la 2 2, fa 0 3, la 2 14, cf 190 [13, 15], nt 16] ++ sq 18 [po 12 17, mv 18] ++ sg 19 false 20 [fa 0 2, la 1 20, fa 0 3, la 2 22, cf 61 [23], fa 2 3, ld 25, cf 191 [21, 24, 26], nt 27] ++ sq 29 [po 19 28, mv 29] ++ sg 30 false 31 [fa 0 2, la 1 31, fa 3 3, la 1 33, cf 124 [32, 34], nt 35] ++ sq 37 [po 30 36]) [[], [0], [1], [2], [3], [4], [5], [5], [7, 5], [6, 8, 5, 5], [9, 5], [5, 10], [11, 9], [12], [13, 12], [12], [15, 12], [16, 12, 12], [12], [18, 12], [14, 17, 19, 17, 12], [20, 12], [12, 21], [22, 20], [23], [24, 23], [23], [26, 23], [25, 27, 23, 23], [28, 23], [23, 29]]) (.cond (t0 37) (.seq (.reg (sq 4 [mb false])) .ret) .skip)) (.seq (.reg (sq 39 [fa 3 3, la 1 39, fa 0 3, fa 0 41, ld 42, cf 125 [40, 43]] ++ sq 38 [mv 44] ++ sq 45 [ex 38 0, ex 38 1] ++ sq 5 [mv 45, mv 46])) (.seq (.draw (sq 47 [mv 6, mv 47] ++ sg 48 true 49 [mv 5, fa 0 2, la 1 50, fa 0 3, la 2 52, cf 61 [53], fa 2 3, ld 55, cf 159 [51, 54, 56], cf 128 [49, 57]] ++ sq 59 [pa 48 58] ++ sq 4 [mv 59]) [[], [0], [1], [1], [3, 1], [1], [5, 1], [6, 1, 1], [1], [8, 1], [4, 7, 9, 7, 1], [2, 10, 10, 1], [1, 11], [12, 11, 0, 1, 2, 3, 4, 5, 6, 7, 8, 9, 10, 11, 12]]) .ret))))
theorem fn120 : t6 Tryz.prog 120 y3g 60 [.tmp 4] := mf Tryz.func120 Tryz.ntmps120
def q8y (sys : Ty6) (l : (q7 × Ty5 × Int × Ty1)) : Option Bool :=
 if ((l.2.1.length : Int) == 0) = true then
  some false
 else
  (q1d sys (l.1, l.2.1)).bind fun r =>
  if r = true then
   (b8 (l.1, l.2.1)).bind fun r_1 =>
   (q2v sys.1 r_1 l.2.2.1).bind fun r_2 =>
   if r_2 = true then
    (a9q sys.1 l.2.2.2).bind fun r_3 =>
    if r_3 = true then
     (k5q l.2.2.2 l.1).bind fun r_4 =>
     if r_4.2 = true then
      (b8 (l.1, l.2.1)).bind fun r_5 =>
      (q7q sys.1 r_5 l.2.2.1).bind fun r_6 =>
      (f7 r_4.1 r_6).bind fun r_7 =>
      some r_7
     else
      some false
    else
     some false
   else
    some false
  else
   some false
instance j9k {sys : Ty6} {l : (q7 × Ty5 × Int × Ty1)} : y3 (q8y sys l) fun rr => p7 Tryz.prog 120 [d5 sys, q4i l] (bD rr) := ⟨@fun rr h => by
 delta q8y at h
 refine fn120.pureL (q6 ?_)
 delta y3g
 refine v5 ?_
 exact aut⟩
def x8d : j5 :=
 (.seq (.reg (sq 3 [bo 3 151 1])) (.draw (sq 4 [mv 0, mv 0, .nilc (t0 5), fa 1 6, ld 7, fa 0 3, ld 9, fa 1 3, ld 11, fa 2 3, ld 13, cf 121 [14], .build [.lit (.int .i64 0), .lit (.int .i64 0), .sl 0 (some true) []] [(0, 1, (t0 10)), (1, 1, (t0 12)), (2, 1, (t0 15))], .bsl 17 151 3 [(t0 16)], ap 18 151 3 40 8 17, .nilc (t0 4), fa 1 19] ++ s0 (sr 1 20 18)) [[], [], [1], [2], [3], [], [5], [], [7], [], [9], [10], [6, 8, 11], [12], [4, 13, 11], [0, 0, 1, 2, 3, 4, 5, 6, 7, 8, 9, 10, 11, 12, 13, 14], [15, 0, 1, 2, 3, 4, 5, 6, 7, 8, 9, 10, 11, 12, 13, 14], [16, 14, 14, 0, 1, 2, 3, 4, 5, 6, 7, 8, 9, 10, 11, 12, 13, 14]]))
theorem y1y : t6 Tryz.prog 122 x8d 21 [] := mf Tryz.func122 Tryz.ntmps122
def v6q (s : Ty4) (w0 : q7) (w1 : Ty5) : Option Ty5 :=
 (y7 s.2.2).bind fun r =>
 if (w1.length + 1) * 40 <= 140737488355328 then
  some (w1 ++ [(s.1, s.2.1, r)])
 else none
instance j2l {s : Ty4} {w0 : q7} {w1 : Ty5} : y3 (v6q s w0 w1) fun rr => x6 Tryz.prog 122 [.ptr 0 0, .d (.agg [iD s.1, iD s.2.1, z7 1 iD s.2.2])] [(0, .obj 40 [.d (z7 1 iD w0), .own 3 1 (List.map z5 w1)]), (1, .tok 151 3 w1.length)] 2 fun xx ss => xx = .tup [] /\ ss = [(0, .obj 40 [.d (z7 1 iD w0), .own 3 1 (List.map z5 rr)]), (1, .tok 151 3 rr.length)] := ⟨@fun rr h => by
 delta v6q at h
 refine y1y.callsO (q6 ?_)
 delta x8d
 refine v5 ?_
 refine dC h fun r hr h => ?_
 refine ndI h fun hp h => ?_
 refine y7q (by kernel_rfl) (v5 ?_)
 cases h
 exact ⟨[3, 17], by simp, don, don⟩⟩
def mc58 : j5 :=
 (.seq (.reg (sq 1 [bo 1 40 0, .alloc 2 40 [.sl 0 (some true) [], .sl 0 (some true) []]])) (.seq (.reg (sq 6 [fa 0 1, ld 6, cf 121 [7], .build [.sl 0 (some true) [], .sl 0 (some true) []] [(0, 1, (t0 8))]] ++ sq 3 [.alloc 3 40 [.sl 0 (some true) [], .sl 0 (some true) []]] ++ s0 (sr 2 3 9))) (.seq (.seq (.reg (sq 10 [fa 1 1, ld 10, ln 11, mi 0])) (.block 0 (.loop (.seq (.reg (sq 14 [bn .lss 13 12])) (.seq (.cond (t0 14) .skip (.exit 0)) (.seq (.block 1 (.seq (.reg (sq 15 [ix 3 11 13, la 3 15] ++ sq 5 [.alloc 5 151 [.lit (.int .i64 0), .lit (.int .i64 0), .sl 0 (some true) []]] ++ s0 (sr 3 5 16))) (.reg (sq 17 [la 3 5, cf 122 [3, 17]])))) (.reg (sq 19 [bi .add 13 1] ++ sq 13 [mv 19])))))))) (.seq (.reg (sq 20 [la 2 3] ++ s0 (sr 2 2 20))) .ret))))
theorem fn58 : t6 Tryz.prog 58 mc58 21 [.cell 2 2 true] := mf Tryz.func58 Tryz.ntmps58
def q1s (w : Ty7) (r : q7) : (Int × Ty5) -> Option ((Int × Ty5) ⊕ Ty7)
 | (v13, out) =>
  if (decide (v13 < (w.2.length : Int))) = true then
   if 0 <= v13 /\ v13 < (w.2.length : Int) then
    (v6q ((w.2.getD v13.toNat default).1, (w.2.getD v13.toNat default).2.1, (w.2.getD v13.toNat default).2.2) r out).bind fun r_1 =>
    some (.inl ((IntKind.i64.wrap (v13 + 1)), r_1))
   else none
  else
   Option.map Sum.inr (
    some (r, out))
def q5g (w : Ty7) : Option Ty7 :=
 (y7 w.1).bind fun r =>
 loopC (q1s w r) (0, [])
instance j1j {w : Ty7} : y3 (q5g w) fun rr => p7 Tryz.prog 58 [u7 w] (u7 rr) := ⟨@fun rr h => by
 delta q5g at h
 refine fn58.pureL (q6 ?_)
 delta mc58
 refine v5 ?_
 refine rC h fun r hr h => ?_
 refine w5q h [5, 13, 14, 15, 16, 17, 18, 19] (fun pp => [(13, .d (iD pp.1))]) (fun pp => [(1, .obj 40 [.d (z7 1 iD w.1), .d (z7 3 z5 w.2)]), (2, .obj 40 [.d (.sl 0 (some true) []), .d (.sl 0 (some true) [])]), (3, .obj 40 [.d (z7 1 iD r), .own 3 300000 (List.map z5 pp.2)]), (300000, .tok 151 3 pp.2.length)]) ?_ ?_
 ·try dsimp only
  refine (y0.thawCell 3 1 300000 151 3 rfl rfl rfl).trans ?_
  exact wk
 rintro ⟨v13, out⟩ t1 h hb1
 unfold q1s at h
 try dsimp only at h
 refine q6 (v5 ?_)
 refine iT h fun hc h => ?_
 refine ndI h fun hp h => ?_
 refine rCo [(0, 3), (1, 300000)] [] h fun r_1 hr_1 h => ?_
 cases h
 refine ⟨_, rfl, ?_⟩
 refine (y0.drop 5 (by omega)).trans ?_
 exact wk⟩
def y3k : j5 :=
 (.seq (.reg (sq 3 [bo 3 48 0] ++ sq 6 [mi 0])) (.seq (.reg (sq 7 [mi 0])) (.seq (.seq (.reg (sq 11 [mv 1, mv 2, .slc (t0 11) 1 none (some (t0 12)) none, ln 13, mi 0])) (.block 0 (.loop (.seq (.reg (sq 16 [bn .lss 15 14])) (.seq (.cond (t0 16) .skip (.exit 0)) (.seq (.block 1 (.seq (.reg (sq 17 [ix 1 13 15, ld 17] ++ sq 9 [mv 18])) (.seq (.reg (sq 19 [mv 7, bi .add 19 1] ++ sq 7 [mv 20])) (.seq (.seq (.reg (sq 21 [mv 9, bi .geq 21 0])) (.cond (t0 22) (.exit 1) .skip)) (.seq (.reg (sq 23 [la 1 3, mv 9, .bin .sub (i0 (-1)) (t0 24), cf 193 [23, 25]] ++ sq 10 [mv 26])) (.seq (.reg (sq 27 [mv 10, .eqnil true (t0 27)])) (.cond (t0 28) (.reg (sq 29 [mv 7, mv 10, ln 30, bi .sub 31 1, bn .add 29 32] ++ sq 7 [mv 33])) .skip))))))) (.reg (sq 34 [bi .add 15 1] ++ sq 15 [mv 34])))))))) (.seq (.reg (sq 35 [mv 7] ++ sq 6 [mv 35])) .ret))))
theorem fn126 : t6 Tryz.prog 126 y3k 36 [.tmp 6] := mf Tryz.func126 Tryz.ntmps126
def q0v (s : Ty1) (t : q7) (x7 : Int) : (Int × Int) -> Option ((Int × Int) ⊕ Int)
 | (out, v15) =>
  if (decide (v15 < ((t.take x7.toNat).length : Int))) = true then
   if 0 <= v15 /\ v15 < ((t.take x7.toNat).length : Int) then
    if (decide (0 <= ((t.take x7.toNat).getD v15.toNat default))) = true then
     some (.inl ((IntKind.i64.wrap (out + 1)), (IntKind.i64.wrap (v15 + 1))))
    else
     (x4q s (IntKind.i64.wrap ((-1) - ((t.take x7.toNat).getD v15.toNat default)))).bind fun r =>
     if r.isEmpty = true then
      some (.inl ((IntKind.i64.wrap (out + 1)), (IntKind.i64.wrap (v15 + 1))))
     else
      some (.inl ((IntKind.i64.wrap ((IntKind.i64.wrap (out + 1)) + (IntKind.i64.wrap ((r.length : Int) - 1)))), (IntKind.i64.wrap (v15 + 1))))
   else none
  else
   Option.map Sum.inr (
    some out)
def e6q (s : Ty1) (t : q7) (x7 : Int) : Option Int :=
 if 0 <= x7 /\ x7 <= (t.length : Int) then
  loopC (q0v s t x7) (0, 0)
 else none
instance z9e {s : Ty1} {t : q7} {x7 : Int} : y3 (e6q s t x7) fun rr => p7 Tryz.prog 126 [c7 s, (z7 1 iD) t, iD x7] (iD rr) := ⟨@fun rr h => by
 delta e6q at h
 refine fn126.pureL (q6 ?_)
 delta y3k
 refine v5 ?_
 refine ndI h fun hp h => ?_
 refine s9 h [7, 9, 10, 15, 16, 17, 18, 19, 20, 21, 22, 23, 24, 25, 26, 27, 28, 29, 30, 31, 32, 33, 34] (fun pp => [(7, .d (iD pp.1)), (15, .d (iD pp.2))]) (fun pp => [(3, .obj 48 [.d (z7 1 (z7 1 iD) s)])]) ?_
 rintro ⟨out, v15⟩ t1 h hb1
 unfold q0v at h
 try dsimp only at h
 refine q6 (v5 ?_)
 exact aut⟩
def mc59 : j5 :=
 (.seq (.reg (sq 3 [bo 3 46 0, bo 4 40 1, bo 5 48 2, .alloc 6 40 [.sl 0 (some true) [], .sl 0 (some true) []], mb false])) (.seq (.seq (.reg (sq 16 [la 2 3, la 2 4, cf 123 [16, 17], nt 18, mv 19] ++ sg 20 false 21 [fa 0 3, la 1 21, la 1 5, cf 124 [22, 23], nt 24] ++ sq 26 [po 20 25])) (.cond (t0 26) (.seq (.reg (sq 27 [.build [.sl 0 (some true) [], .sl 0 (some true) []] []] ++ s0 (sr 2 6 27) ++ sq 7 [mb false])) .ret) .skip)) (.seq (.reg (sq 29 [la 1 5, fa 0 4, ld 30, cf 125 [29, 31]] ++ sq 28 [mv 32] ++ sq 33 [ex 28 0, ex 28 1] ++ sq 8 [mv 33, mv 34])) (.seq (.seq (.reg (sq 35 [mv 9, nt 35])) (.cond (t0 36) (.seq (.reg (sq 37 [.build [.sl 0 (some true) [], .sl 0 (some true) []] []] ++ s0 (sr 2 6 37) ++ sq 7 [mb false])) .ret) .skip)) (.seq (.reg (sq 38 [mv 8, .build [.sl 0 (some true) [], .sl 0 (some true) []] [(0, 1, (t0 38))]] ++ sq 10 [.alloc 10 40 [.sl 0 (some true) [], .sl 0 (some true) []]] ++ s0 (sr 2 10 39))) (.seq (.reg (sq 40 [fa 0 4, ld 40] ++ sq 11 [mv 41])) (.seq (.seq (.reg (sq 42 [fa 1 4, ld 42, ln 43, mi 0])) (.block 0 (.loop (.seq (.reg (sq 46 [bn .lss 45 44])) (.seq (.cond (t0 46) .skip (.exit 0)) (.seq (.block 1 (.seq (.reg (sq 47 [ix 3 43 45, la 3 47] ++ sq 13 [.alloc 13 151 [.lit (.int .i64 0), .lit (.int .i64 0), .sl 0 (some true) []]] ++ s0 (sr 3 13 48))) (.seq (.reg (sq 50 [la 1 5, fa 2 13, ld 51, cf 125 [50, 52]] ++ sq 49 [mv 53] ++ sq 54 [ex 49 0, ex 49 1] ++ sq 14 [mv 54, mv 55])) (.seq (.seq (.reg (sq 56 [mv 15, nt 56])) (.cond (t0 57) (.seq (.reg (sq 58 [.build [.sl 0 (some true) [], .sl 0 (some true) []] []] ++ s0 (sr 2 6 58) ++ sq 7 [mb false])) .ret) .skip)) (.seq (.draw (sq 59 [fa 1 10, ld 59, la 1 5, mv 11, fa 0 13, ld 63, cf 126 [61, 62, 64], fa 1 13, ld 66, mv 14, .build [.lit (.int .i64 0), .lit (.int .i64 0), .sl 0 (some true) []] [(0, 1, (t0 65)), (1, 1, (t0 67)), (2, 1, (t0 68))], .bsl 70 151 3 [(t0 69)], ap 71 151 3 40 60 70, fa 1 10] ++ s0 (sr 1 72 71)) [[], [0], [], [], [], [4], [2, 3, 5], [], [7], [], [6, 8, 9], [10], [1, 11, 6], [0, 1, 2, 3, 4, 5, 6, 7, 8, 9, 10, 11, 12], [13, 12, 12, 0, 1, 2, 3, 4, 5, 6, 7, 8, 9, 10, 11, 12]]) (.reg (sq 73 [fa 2 13, ld 73] ++ sq 11 [mv 74]))))))) (.reg (sq 75 [bi .add 45 1] ++ sq 45 [mv 75])))))))) (.seq (.reg (sq 76 [la 2 10] ++ s0 (sr 2 6 76) ++ sq 7 [mb true])) .ret))))))))
theorem fn59 : t6 Tryz.prog 59 mc59 77 [.cell 6 2 true, .tmp 7] := mf Tryz.func59 Tryz.ntmps59
def q1r (w : Ty7) (s : Ty1) (r_2 : (q7 × Bool)) : (q7 × Int × Ty5) -> Option ((q7 × Int × Ty5) ⊕ (Ty7 × Bool))
 | (t, v45, out) =>
  if (decide (v45 < (w.2.length : Int))) = true then
   if 0 <= v45 /\ v45 < (w.2.length : Int) then
    (k5q s ((w.2.getD v45.toNat default).2.2)).bind fun r_3 =>
    if r_3.2 = true then
     (e6q s t ((w.2.getD v45.toNat default).1)).bind fun r_4 =>
     if (out.length + 1) * 40 <= 140737488355328 then
      some (.inl ((w.2.getD v45.toNat default).2.2, (IntKind.i64.wrap (v45 + 1)), (out ++ [(r_4, (w.2.getD v45.toNat default).2.1, r_3.1)])))
     else none
    else
     Option.map Sum.inr (
      some (([], []), false))
   else none
  else
   Option.map Sum.inr (
    some ((r_2.1, out), true))
def q5f (sys : Ty6) (w : Ty7) (s : Ty1) : Option (Ty7 × Bool) :=
 (q4o sys w).bind fun r =>
 if r = true then
  (a9q sys.1 s).bind fun r_1 =>
  if r_1 = true then
   (k5q s w.1).bind fun r_2 =>
   if r_2.2 = true then
    loopC (q1r w s r_2) (w.1, 0, [])
   else
    some (([], []), false)
  else
   some (([], []), false)
 else
  some (([], []), false)
instance j1i {sys : Ty6} {w : Ty7} {s : Ty1} : y3 (q5f sys w s) fun rr => r9 Tryz.prog 59 [d5 sys, u7 w, c7 s] [u7 rr.1, bD rr.2] := ⟨@fun rr h => by
 delta q5f at h
 refine fn59.pureLN (q6 ?_)
 delta mc59
 refine v5 ?_
 refine rC h fun r hr h => ?_
 refine iT h fun hc h => ?_
 refine rC h fun r_1 hr_1 h => ?_
 refine iT h fun hc h => ?_
 refine rCN h fun r_2 hr_2 h => ?_
 refine iT h fun hc h => ?_
 refine w5q h [7, 11, 13, 14, 15, 45, 46, 47, 48, 49, 50, 51, 52, 53, 54, 55, 56, 57, 58, 59, 60, 61, 62, 63, 64, 65, 66, 67, 68, 69, 70, 71, 72, 73, 74, 75] (fun pp => [(11, .d (z7 1 iD pp.1)), (45, .d (iD pp.2.1))]) (fun pp => [(3, .obj 46 [.d (z7 1 iD sys.1), .d (z7 2 v7 sys.2)]), (4, .obj 40 [.d (z7 1 iD w.1), .d (z7 3 z5 w.2)]), (5, .obj 48 [.d (z7 1 (z7 1 iD) s)]), (6, .obj 40 [.d (.sl 0 (some true) []), .d (.sl 0 (some true) [])]), (10, .obj 40 [.d (z7 1 iD r_2.1), .own 3 71 (List.map z5 pp.2.2)]), (71, .tok 151 3 pp.2.2.length)]) ?_ ?_
 ·try dsimp only
  refine (y0.thawCell 10 1 71 151 3 rfl rfl rfl).trans ?_
  exact wk
 rintro ⟨t, v45, out⟩ t1 h hb1
 unfold q1r at h
 try dsimp only at h
 refine q6 (v5 ?_)
 refine iT h fun hc h => ?_
 refine ndI h fun hp h => ?_
 refine rCN h fun r_3 hr_3 h => ?_
 refine iT h fun hc h => ?_
 refine dC h fun r_4 hr_4 h => ?_
 refine ndI h fun hp h => ?_
 refine y7q (by kernel_rfl) (v5 ?_)
 cases h
 refine ⟨_, rfl, ?_⟩
 refine (y0.drop 13 (by omega)).trans ?_
 refine (y0.drop 70 (by omega)).trans ?_
 exact wk⟩
def mc60 : j5 :=
 (.seq (.reg (sq 4 [bo 4 43 0, bo 5 40 1] ++ sq 8 [.alloc 8 40 [.sl 0 (some true) [], .sl 0 (some true) []], mb false])) (.seq (.reg (sq 18 [la 1 4, mv 2, mv 3, fa 0 5, ld 21, cf 127 [18, 19, 20, 22]] ++ sq 17 [mv 23] ++ sq 24 [ex 17 0, ex 17 1] ++ sq 10 [mv 24, mv 25])) (.seq (.seq (.reg (sq 26 [mv 11, nt 26])) (.cond (t0 27) (.seq (.reg (sq 28 [.build [.sl 0 (some true) [], .sl 0 (some true) []] []] ++ s0 (sr 2 8 28) ++ sq 9 [mb false])) .ret) .skip)) (.seq (.reg (sq 29 [mv 10, .build [.sl 0 (some true) [], .sl 0 (some true) []] [(0, 1, (t0 29))]] ++ sq 12 [.alloc 12 40 [.sl 0 (some true) [], .sl 0 (some true) []]] ++ s0 (sr 2 12 30))) (.seq (.seq (.reg (sq 31 [fa 1 5, ld 31, ln 32, mi 0])) (.block 0 (.loop (.seq (.reg (sq 35 [bn .lss 34 33])) (.seq (.cond (t0 35) .skip (.exit 0)) (.seq (.block 1 (.seq (.reg (sq 36 [ix 3 32 34, la 3 36] ++ sq 14 [.alloc 14 151 [.lit (.int .i64 0), .lit (.int .i64 0), .sl 0 (some true) []]] ++ s0 (sr 3 14 37))) (.seq (.reg (sq 39 [la 1 4, mv 2, mv 3, fa 2 14, ld 42, cf 127 [39, 40, 41, 43]] ++ sq 38 [mv 44] ++ sq 45 [ex 38 0, ex 38 1] ++ sq 15 [mv 45, mv 46])) (.seq (.seq (.reg (sq 47 [mv 16, nt 47])) (.cond (t0 48) (.seq (.reg (sq 49 [.build [.sl 0 (some true) [], .sl 0 (some true) []] []] ++ s0 (sr 2 8 49) ++ sq 9 [mb false])) .ret) .skip)) (.reg (sq 50 [fa 1 12, ld 50, fa 0 14, ld 52, mv 3, bn .add 53 54, fa 1 14, ld 56, mv 15, .build [.lit (.int .i64 0), .lit (.int .i64 0), .sl 0 (some true) []] [(0, 1, (t0 55)), (1, 1, (t0 57)), (2, 1, (t0 58))], .bsl 60 151 3 [(t0 59)], ap 61 151 3 40 51 60, fa 1 12] ++ s0 (sr 1 62 61))))))) (.reg (sq 63 [bi .add 34 1] ++ sq 34 [mv 63])))))))) (.seq (.reg (sq 64 [la 2 12] ++ s0 (sr 2 8 64) ++ sq 9 [mb true])) .ret))))))
theorem fn60 : t6 Tryz.prog 60 mc60 65 [.cell 8 2 true, .tmp 9] := mf Tryz.func60 Tryz.ntmps60
def u9q (sig : q7) (w : Ty7) (t : q7) (x7 : Int) (r : (q7 × Bool)) : (Int × Ty5) -> Option ((Int × Ty5) ⊕ (Ty7 × Bool))
 | (v34, out) =>
  if (decide (v34 < (w.2.length : Int))) = true then
   if 0 <= v34 /\ v34 < (w.2.length : Int) then
    (g4q sig t x7 ((w.2.getD v34.toNat default).2.2)).bind fun r_1 =>
    if r_1.2 = true then
     if (out.length + 1) * 40 <= 140737488355328 then
      some (.inl ((IntKind.i64.wrap (v34 + 1)), (out ++ [((IntKind.i64.wrap ((w.2.getD v34.toNat default).1 + x7)), (w.2.getD v34.toNat default).2.1, r_1.1)])))
     else none
    else
     Option.map Sum.inr (
      some (([], []), false))
   else none
  else
   Option.map Sum.inr (
    some ((r.1, out), true))
def v1q (sig : q7) (w : Ty7) (t : q7) (x7 : Int) : Option (Ty7 × Bool) :=
 (g4q sig t x7 w.1).bind fun r =>
 if r.2 = true then
  loopC (u9q sig w t x7 r) (0, [])
 else
  some (([], []), false)
instance z9f {sig : q7} {w : Ty7} {t : q7} {x7 : Int} : y3 (v1q sig w t x7) fun rr => r9 Tryz.prog 60 [u3 sig, u7 w, (z7 1 iD) t, iD x7] [u7 rr.1, bD rr.2] := ⟨@fun rr h => by
 delta v1q at h
 refine fn60.pureLN (q6 ?_)
 delta mc60
 refine v5 ?_
 refine rCN h fun r hr h => ?_
 refine iT h fun hc h => ?_
 refine w5q h [9, 14, 15, 16, 34, 35, 36, 37, 38, 39, 40, 41, 42, 43, 44, 45, 46, 47, 48, 49, 50, 51, 52, 53, 54, 55, 56, 57, 58, 59, 60, 61, 62, 63] (fun pp => [(34, .d (iD pp.1))]) (fun pp => [(4, .obj 43 [.d (z7 1 iD sig)]), (5, .obj 40 [.d (z7 1 iD w.1), .d (z7 3 z5 w.2)]), (8, .obj 40 [.d (.sl 0 (some true) []), .d (.sl 0 (some true) [])]), (12, .obj 40 [.d (z7 1 iD r.1), .own 3 61 (List.map z5 pp.2)]), (61, .tok 151 3 pp.2.length)]) ?_ ?_
 ·try dsimp only
  refine (y0.thawCell 12 1 61 151 3 rfl rfl rfl).trans ?_
  exact wk
 rintro ⟨v34, out⟩ t1 h hb1
 unfold u9q at h
 try dsimp only at h
 refine q6 (v5 ?_)
 refine iT h fun hc h => ?_
 refine ndI h fun hp h => ?_
 refine rCN h fun r_1 hr_1 h => ?_
 refine iT h fun hc h => ?_
 refine ndI h fun hp h => ?_
 cases h
 refine ⟨_, rfl, ?_⟩
 refine (y0.drop 14 (by omega)).trans ?_
 refine (y0.drop 60 (by omega)).trans ?_
 exact wk⟩
def t0q (s : Ty4) (w0 : q7) (w1 : Ty5) : Option Ty5 :=
 (y7 s.2.2).bind fun r =>
 if (w1.length + 1) * 40 <= 140737488355328 then
  some (w1 ++ [(s.1, s.2.1, r)])
 else none
instance z6g {s : Ty4} {w0 : q7} {w1 : Ty5} : y3 (t0q s w0 w1) fun rr => x6 Tryz.prog 122 [.ptr 0 0, .d (.agg [iD s.1, iD s.2.1, z7 1 iD s.2.2])] [(0, .obj 40 [.own 1 1 (List.map iD w0), .own 3 2 (List.map z5 w1)]), (1, .tok 2 1 w0.length), (2, .tok 151 3 w1.length)] 3 fun xx ss => xx = .tup [] /\ ss = [(0, .obj 40 [.own 1 1 (List.map iD w0), .own 3 2 (List.map z5 rr)]), (1, .tok 2 1 w0.length), (2, .tok 151 3 rr.length)] := ⟨@fun rr h => by
 delta t0q at h
 refine y1y.callsO (q6 ?_)
 delta x8d
 refine v5 ?_
 refine dC h fun r hr h => ?_
 refine ndI h fun hp h => ?_
 refine y7q (by kernel_rfl) (v5 ?_)
 cases h
 exact ⟨[3, 17], by simp, don, don⟩⟩
def e4q : j5 :=
 (.seq (.reg (sq 3 [bo 3 151 1])) (.draw (sq 4 [mv 0, mv 0, .nilc (t0 5), fa 1 6, ld 7, fa 0 3, ld 9, fa 1 3, ld 11, fa 2 3, ld 13, cf 121 [14], .build [.lit (.int .i64 0), .lit (.int .i64 0), .sl 0 (some true) []] [(0, 1, (t0 10)), (1, 1, (t0 12)), (2, 1, (t0 15))], .bsln 17 151 3 [(t0 16)], .appn 18 151 3 40 (t0 8) (t0 17), .nilc (t0 4), fa 1 19] ++ s0 (sr 1 20 18)) [[], [], [1], [2], [3], [], [5], [], [7], [], [9], [10], [6, 8, 11], [12], [4, 13, 11], [0, 0, 1, 2, 3, 4, 5, 6, 7, 8, 9, 10, 11, 12, 13, 14], [15, 0, 1, 2, 3, 4, 5, 6, 7, 8, 9, 10, 11, 12, 13, 14], [16, 14, 14, 0, 1, 2, 3, 4, 5, 6, 7, 8, 9, 10, 11, 12, 13, 14]]))
theorem q5o : t6 Tryz.prog 122 e4q 21 [] := mf Tryz.func122 Tryz.ntmps122
def x5q (s : Ty4) (w0 : q7) (w1 : Ty5) : Option Ty5 :=
 (n7 s.2.2).bind fun r =>
 if (w1.length + 1) * 40 <= 140737488355328 then
  some (w1 ++ [(s.1, s.2.1, r)])
 else none
instance z6h {s : Ty4} {w0 : q7} {w1 : Ty5} : y3 (x5q s w0 w1) fun rr => x6 Tryz.prog 122 [.ptr 0 0, .d (.agg [iD s.1, iD s.2.1, z7 1 iD s.2.2])] [(0, .obj 40 [.own 1 1 (List.map iD w0), .own 3 2 (List.map z5 w1)]), (1, .tok 2 1 w0.length), (2, .nst 151 3 w1.length (j7 (List.map z5 w1)))] 3 fun xx ss => xx = .tup [] /\ ss = [(0, .obj 40 [.own 1 1 (List.map iD w0), .own 3 2 (List.map z5 rr)]), (1, .tok 2 1 w0.length), (2, .nst 151 3 rr.length (j7 (List.map z5 rr)))] := ⟨@fun rr h => by
 delta x5q at h
 refine q5o.callsD (q6 ?_)
 delta e4q
 refine v5 ?_
 refine dCo [] [(900000, 15)] h fun r hr h => ?_
 refine nds ?_
 refine ndI h fun hp h => ?_
 refine y7q (by kernel_rfl) (v5 ?_)
 cases h
 exact x9.trans ((x9.trans (x9.absorbA 2 15 2 rfl rfl (by omega) (by decide) (q6f.flat (t := 2) (n := r.length) (by first | rfl | (simp [sat, q0m, j8, p8, k3f, k0m, Ob.ren, Ob.kill, m8]; done)) (by simp))) (x9.trans (x9.drops [15] (by simp)) (x9.trans (x9.nstE 2 (j7 (List.map z5 (w1 ++ [(s.1, s.2.1, r)]))) rfl (by first | rfl | (rw [List.map_append, k2o]; rfl) | (simp only [go_sem, AV.rens, AV.ren, List.map_append, k2o]; first | done | rfl))) (x9.drops [3, 17] (by simp)))))) (x9.told frd don)⟩
end Go.Proofs.YtklfjpilhbkekaaGreat
