/- Functions of the program and the equations that they compute, first part; nothing is assumed. -/
import Derived.Test.YtklfjpilhbkekaaGreatZbase
set_option linter.all false
noncomputable section
namespace Go.Proofs.YtklfjpilhbkekaaGreat
open Go Abx
attribute [local irreducible] vcm vgo vdr q3o q0n MWp p5q BrC BrO BrG BrD BrH z0s a3q q3y drQ w8 e2q
set_option maxHeartbeats 4000000
def u3 (x : q7) : D := .agg [(z7 1 iD) x]
def v7 (x : Ty2) : D := .agg [(z7 1 iD) x.1, (z7 1 iD) x.2]
def d5 (x : Ty6) : D := .agg [(z7 1 iD) x.1, (z7 2 v7) x.2]
instance : Cel u3 1 := ⟨fun _ => rfl⟩
instance : Cel v7 2 := ⟨fun _ => rfl⟩
instance : Cel d5 2 := ⟨fun _ => rfl⟩
attribute [go_sem] u3 v7 d5
def y4a : j5 :=
 (.seq (.reg (sq 1 [bo 1 43 0, mb false])) (.seq (.seq (.reg (sq 5 [fa 0 1, ld 5, ln 6, bi .lss 7 1, mv 8] ++ sg 9 false 10 [fa 0 1, ld 10, ln 11, bi .gtr 12 8] ++ sq 14 [po 9 13])) (.cond (t0 14) (.seq (.reg (sq 2 [mb false])) .ret) .skip)) (.seq (.seq (.reg (sq 15 [fa 0 1, ld 15, ln 16, mi 0])) (.block 0 (.loop (.seq (.reg (sq 19 [bn .lss 18 17])) (.seq (.cond (t0 19) .skip (.exit 0)) (.seq (.block 1 (.seq (.reg (sq 20 [ix 1 16 18, ld 20] ++ sq 4 [mv 21])) (.seq (.reg (sq 22 [mv 4, bi .lss 22 0, mv 23] ++ sg 24 false 25 [mv 4, bi .gtr 25 3] ++ sq 27 [po 24 26])) (.cond (t0 27) (.seq (.reg (sq 2 [mb false])) .ret) .skip)))) (.reg (sq 28 [bi .add 18 1] ++ sq 18 [mv 28])))))))) (.seq (.reg (sq 2 [mb true])) .ret))))
theorem fn172 : t6 Tryz.prog 172 y4a 29 [.tmp 2] := mf Tryz.func172 Tryz.ntmps172
def r9q (sig : q7) : Int -> Option (Int ⊕ Bool)
 | v18 =>
  if (decide (v18 < (sig.length : Int))) = true then
   if 0 <= v18 /\ v18 < (sig.length : Int) then
    if (decide ((sig.getD v18.toNat default) < 0)) = true then
     Option.map Sum.inr (
      some false)
    else
     if (decide (3 < (sig.getD v18.toNat default))) = true then
      Option.map Sum.inr (
       some false)
     else
      some (.inl (IntKind.i64.wrap (v18 + 1)))
   else none
  else
   Option.map Sum.inr (
    some true)
def m4q (sig : q7) : Option Bool :=
 if (decide ((sig.length : Int) < 1)) = true then
  some false
 else
  if (decide (8 < (sig.length : Int))) = true then
   some false
  else
   loopC (r9q sig) 0
instance x3p {sig : q7} : y3 (m4q sig) fun rr => p7 Tryz.prog 172 [u3 sig] (bD rr) := ⟨@fun rr h => by
 delta m4q at h
 refine fn172.pureL (q6 ?_)
 delta y4a
 refine v5 ?_
 refine iF h fun hc h => ?_
 refine iF h fun hc h => ?_
 refine s9 h [2, 4, 18, 19, 20, 21, 22, 23, 24, 25, 26, 27, 28] (fun pp => [(18, .d (iD pp))]) (fun pp => [(1, .obj 43 [.d (z7 1 iD sig)])]) ?_
 rintro v18 t1 h hb1
 unfold r9q at h
 try dsimp only at h
 refine q6 (v5 ?_)
 exact aut⟩
def y4x : j5 :=
 (.seq (.reg (sq 2 [mi 0])) (.seq (.seq (.reg (sq 5 [mv 0, ln 5, bi .lss 6 1])) (.cond (t0 7) (.reg (sq 8 [.dead] ++ s0 .dead)) .skip)) (.seq (.reg (sq 9 [mv 0, .ixa 1 (t0 9) (i0 0), ld 10] ++ sq 3 [mv 11])) (.seq (.seq (.reg (sq 4 [mi 1])) (.block 0 (.loop (.seq (.seq (.reg (sq 12 [mv 4, mv 0, ln 13, bn .lss 12 14])) (.cond (t0 15) .skip (.exit 0))) (.seq (.block 1 (.reg (sq 18 [mv 3, mv 0, mv 4, ix 1 19 20, ld 21, .min (t0 18) (t0 22)] ++ sq 3 [mv 23]))) (.reg (sq 16 [mv 4, bi .add 16 1] ++ sq 4 [mv 17]))))))) (.seq (.reg (sq 24 [mv 3] ++ sq 2 [mv 24])) .ret)))))
theorem fn224 : t6 Tryz.prog 224 y4x 25 [.tmp 2] := mf Tryz.func224 Tryz.ntmps224
def v7q (x : q7) : (Int × Int) -> Option ((Int × Int) ⊕ Int)
 | (m, i) =>
  if (decide (i < (x.length : Int))) = true then
   if 0 <= i /\ i < (x.length : Int) then
    some (.inl ((if (x.getD i.toNat default) < m then (x.getD i.toNat default) else m), (IntKind.i64.wrap (i + 1))))
   else none
  else
   Option.map Sum.inr (
    some m)
def k6q (x : q7) : Option Int :=
 if (decide ((x.length : Int) < 1)) = true then
  none
 else
  if 0 <= 0 /\ 0 < (x.length : Int) then
   loopC (v7q x) ((x.getD 0 default), 1)
  else none
instance k7e {x : q7} : y3 (k6q x) fun rr => p7 Tryz.prog 224 [(z7 1 iD) x] (iD rr) := ⟨@fun rr h => by
 delta k6q at h
 refine fn224.pureL (q6 ?_)
 delta y4x
 refine v5 ?_
 refine iF h fun hc h => ?_
 refine ndI h fun hp h => ?_
 refine s9 h [3, 4, 12, 13, 14, 15, 16, 17, 18, 19, 20, 21, 22, 23] (fun pp => [(3, .d (iD pp.1)), (4, .d (iD pp.2))]) (fun pp => []) ?_
 rintro ⟨m, i⟩ t1 h hb1
 unfold v7q at h
 try dsimp only at h
 refine q6 (v5 ?_)
 exact aut⟩
def y6d : j5 :=
 (.seq (.reg (sq 2 [bo 2 43 0] ++ sq 4 [mi 0])) (.seq (.seq (.reg (sq 5 [mv 1, bi .lss 5 0])) (.cond (t0 6) (.seq (.reg (sq 4 [mi 0])) .ret) .skip)) (.seq (.reg (sq 7 [fa 0 2, ld 7, mv 1, ix 1 8 9, ld 10] ++ sq 4 [mv 11])) .ret)))
theorem fn283 : t6 Tryz.prog 283 y6d 12 [.tmp 4] := mf Tryz.func283 Tryz.ntmps283
def c5q (sig : q7) (n : Int) : Option Int :=
 if (decide (n < 0)) = true then
  some 0
 else
  if 0 <= n /\ n < (sig.length : Int) then
   some (sig.getD n.toNat default)
  else none
instance j7l {sig : q7} {n : Int} : y3 (c5q sig n) fun rr => p7 Tryz.prog 283 [u3 sig, iD n] (iD rr) := ⟨@fun rr h => by
 delta c5q at h
 refine fn283.pureL (q6 ?_)
 delta y6d
 refine v5 ?_
 exact aut⟩
def y6a : j5 :=
 (.seq (.reg (sq 2 [mi 0])) (.seq (.seq (.draw (sq 3 [mv 0, .nilc (t0 3), fa 2 4, ld 5, mv 0, .nilc (t0 7), fa 1 8, ld 9, ln 10, bn .geq 6 11, mv 12] ++ sg 13 false 14 [mv 0, .nilc (t0 14), fa 1 15, ld 16, mv 0, .nilc (t0 18), fa 2 19, ld 20, ix 1 17 21, ld 22, mv 0, .nilc (t0 24), fa 0 25, fa 0 26, ld 27, ln 28, bn .geq 23 29] ++ sq 31 [po 13 30]) [[], [0], [1], [2], [], [4], [5], [6], [7], [3, 8], [9], [10], [11, 10], [12, 10], [13, 10], [10], [15, 10], [16, 10], [17, 10], [14, 18, 10], [19, 10], [10], [21, 10], [22, 10], [23, 10], [24, 10], [25, 10], [20, 26, 10], [10, 27]]) (.cond (t0 31) (.seq (.reg (sq 2 [mi (-1)])) .ret) .skip)) (.seq (.reg (sq 32 [mv 0, .nilc (t0 32), fa 2 33, ld 34, bi .add 35 1, .nilc (t0 32), fa 2 37] ++ s0 (sr 1 38 36))) (.seq (.draw (sq 39 [mv 0, .nilc (t0 39), fa 0 40, la 1 41, mv 0, .nilc (t0 43), fa 1 44, ld 45, mv 0, .nilc (t0 47), fa 2 48, ld 49, bi .sub 50 1, ix 1 46 51, ld 52, cf 283 [42, 53]] ++ sq 2 [mv 54]) [[], [0], [1], [2], [], [4], [5], [6], [], [8], [9], [10], [11], [7, 12], [13], [3, 14], [15, 15, 0, 1, 2, 3, 4, 5, 6, 7, 8, 9, 10, 11, 12, 13, 14, 15]]) .ret))))
theorem fn274 : t6 Tryz.prog 274 y6a 55 [.tmp 2] := mf Tryz.func274 Tryz.ntmps274
def g9q (c0 : q7) (c1 : q7) (c2 : Int) : Option (Int × Int) :=
 if (decide ((c1.length : Int) <= c2)) = true then
  some ((-1), c2)
 else
  if 0 <= c2 /\ c2 < (c1.length : Int) then
   if (decide ((c0.length : Int) <= (c1.getD c2.toNat default))) = true then
    some ((-1), c2)
   else
    if 0 <= (IntKind.i64.wrap ((IntKind.i64.wrap (c2 + 1)) - 1)) /\ (IntKind.i64.wrap ((IntKind.i64.wrap (c2 + 1)) - 1)) < (c1.length : Int) then
     (c5q c0 (c1.getD (IntKind.i64.wrap ((IntKind.i64.wrap (c2 + 1)) - 1)).toNat default)).bind fun r =>
     some (r, (IntKind.i64.wrap (c2 + 1)))
    else none
  else none
instance z6j {c0 : q7} {c1 : q7} {c2 : Int} : y3 (g9q c0 c1 c2) fun rr => x6 Tryz.prog 274 [.ptr 0 0] [(0, .obj 281 [.d (z7 1 iD c0), .d (z7 1 iD c1), .d (iD c2)])] 1 fun xx ss => xx = .d (iD rr.1) /\ ss = [(0, .obj 281 [.d (z7 1 iD c0), .d (z7 1 iD c1), .d (iD rr.2)])] := ⟨@fun rr h => by
 delta g9q at h
 refine fn274.callsO (q6 ?_)
 delta y6a
 refine v5 ?_
 exact aut⟩
def y5p : j5 :=
 (.seq (.reg (sq 2 [mb false])) (.seq (.seq (.reg (sq 3 [mi 1])) (.block 0 (.loop (.seq (.seq (.reg (sq 5 [mv 3, bi .gtr 5 0])) (.cond (t0 6) .skip (.exit 0))) (.seq (.block 1 (.seq (.reg (sq 9 [mv 0, cf 274 [9]] ++ sq 4 [mv 10])) (.seq (.seq (.reg (sq 11 [mv 4, bi .lss 11 0])) (.cond (t0 12) (.seq (.reg (sq 2 [mb false])) .ret) .skip)) (.reg (sq 13 [mv 3, mv 4, bn .add 13 14] ++ sq 3 [mv 15]))))) (.reg (sq 7 [mv 3, bi .sub 7 1] ++ sq 3 [mv 8]))))))) (.seq (.reg (sq 2 [mb true])) .ret)))
theorem fn244 : t6 Tryz.prog 244 y5p 16 [.tmp 2] := mf Tryz.func244 Tryz.ntmps244
def b2q (c0 : q7) (c1 : q7) : (Int × Int) -> Option ((Int × Int) ⊕ (Bool × Int))
 | (need, c) =>
  if (decide (0 < need)) = true then
   (g9q c0 c1 c).bind fun r =>
   if (decide (r.1 < 0)) = true then
    Option.map Sum.inr (
     some (false, r.2))
   else
    some (.inl ((IntKind.i64.wrap ((IntKind.i64.wrap (need + r.1)) - 1)), r.2))
  else
   Option.map Sum.inr (
    some (true, c))
def u0q (c0 : q7) (c1 : q7) (c2 : Int) : Option (Bool × Int) :=
 loopC (b2q c0 c1) (1, c2)
instance z6k {c0 : q7} {c1 : q7} {c2 : Int} : y3 (u0q c0 c1 c2) fun rr => x6 Tryz.prog 244 [.ptr 0 0] [(0, .obj 281 [.d (z7 1 iD c0), .d (z7 1 iD c1), .d (iD c2)])] 1 fun xx ss => xx = .d (bD rr.1) /\ ss = [(0, .obj 281 [.d (z7 1 iD c0), .d (z7 1 iD c1), .d (iD rr.2)])] := ⟨@fun rr h => by
 delta u0q at h
 refine fn244.callsO (q6 ?_)
 delta y5p
 refine v5 ?_
 refine s9 h [2, 3, 4, 5, 6, 7, 8, 9, 10, 11, 12, 13, 14, 15] (fun pp => [(3, .d (iD pp.1))]) (fun pp => [(0, .obj 281 [.d (z7 1 iD c0), .d (z7 1 iD c1), .d (iD pp.2)])]) ?_
 rintro ⟨need, c⟩ t1 h hb1
 unfold b2q at h
 try dsimp only at h
 refine q6 (v5 ?_)
 refine iT h fun hc h => ?_
 refine rCo [(0, 0)] [] h fun r hr h => ?_
 exact aut⟩
def y4v : j5 :=
 (.seq (.reg (sq 3 [bo 3 43 0] ++ sq 6 [mi 0])) (.seq (.reg (sq 8 [la 1 3, mv 1, mv 2, .build [.sl 0 (some true) [], .sl 0 (some true) [], .lit (.int .i64 0)] [(0, 1, (t0 8)), (1, 1, (t0 9)), (2, 1, (t0 10))]] ++ sq 7 [.alloc 7 281 [.sl 0 (some true) [], .sl 0 (some true) [], .lit (.int .i64 0)]] ++ s0 (sr 3 7 11))) (.seq (.seq (.reg (sq 12 [cf 244 [7], nt 12])) (.cond (t0 13) (.seq (.reg (sq 6 [mi (-1)])) .ret) .skip)) (.seq (.reg (sq 14 [fa 2 7, ld 14] ++ sq 6 [mv 15])) .ret))))
theorem fn195 : t6 Tryz.prog 195 y4v 16 [.tmp 6] := mf Tryz.func195 Tryz.ntmps195
def y6q (sig : q7) (t : q7) (x7 : Int) : Option Int :=
 (u0q sig t x7).bind fun r =>
 if r.1 = true then
  some r.2
 else
  some (-1)
instance x3r {sig : q7} {t : q7} {x7 : Int} : y3 (y6q sig t x7) fun rr => p7 Tryz.prog 195 [u3 sig, (z7 1 iD) t, iD x7] (iD rr) := ⟨@fun rr h => by
 delta y6q at h
 refine fn195.pureL (q6 ?_)
 delta y4v
 refine v5 ?_
 refine rCo [(0, 7)] [] h fun r hr h => ?_
 exact aut⟩
def y3p : j5 :=
 (.seq (.reg (sq 2 [bo 2 43 0] ++ sq 4 [mb false])) (.seq (.reg (sq 5 [la 1 2, cf 172 [5], mv 6] ++ sg 7 true 8 [mv 1, ln 8, bi .gtr 9 0] ++ sq 11 [pa 7 10, mv 11] ++ sg 12 true 13 [mv 1, ln 13, bi .leq 14 60] ++ sq 16 [pa 12 15, mv 16] ++ sg 17 true 18 [mv 1, cf 224 [18], bi .geq 19 (-24)] ++ sq 21 [pa 17 20, mv 21] ++ sg 22 true 23 [la 1 2, mv 1, .callf 195 [(t0 23), (t0 24), (i0 0)], mv 1, ln 26, bn .eql 25 27] ++ sq 29 [pa 22 28] ++ sq 4 [mv 29])) .ret))
theorem fn157 : t6 Tryz.prog 157 y3p 30 [.tmp 4] := mf Tryz.func157 Tryz.ntmps157
def r6 (sig : q7) (t : q7) : Option Bool :=
 (m4q sig).bind fun r =>
 if r = true then
  if (decide (0 < (t.length : Int))) = true then
   if (decide ((t.length : Int) <= 60)) = true then
    (k6q t).bind fun r_1 =>
    if (decide ((-24) <= r_1)) = true then
     (y6q sig t 0).bind fun r_2 =>
     some (r_2 == (t.length : Int))
    else
     some false
   else
    some false
  else
   some false
 else
  some false
instance j9i {sig : q7} {t : q7} : y3 (r6 sig t) fun rr => p7 Tryz.prog 157 [u3 sig, (z7 1 iD) t] (bD rr) := ⟨@fun rr h => by
 delta r6 at h
 refine fn157.pureL (q6 ?_)
 delta y3p
 refine v5 ?_
 exact aut⟩
def mc49 : j5 :=
 (.seq (.reg (sq 6 [mb false])) (.seq (.reg (sq 7 [mv 0, mv 1, bn .geq 7 8, mv 9] ++ sg 10 true 11 [mv 0, mv 2, bn .leq 11 12] ++ sq 14 [pa 10 13] ++ sq 6 [mv 14])) .ret))
theorem fn49 : t6 Tryz.prog 49 mc49 15 [.tmp 6] := mf Tryz.func49 Tryz.ntmps49
def x9q (x : Int) (lo : Int) (hi : Int) : Option Bool :=
 if (decide (lo <= x)) = true then
  some (decide (x <= hi))
 else
  some false
instance x6w {x : Int} {lo : Int} {hi : Int} : y3 (x9q x lo hi) fun rr => p7 Tryz.prog 49 [iD x, iD lo, iD hi] (bD rr) := ⟨@fun rr h => by
 delta x9q at h
 refine fn49.pureL (q6 ?_)
 delta mc49
 refine v5 ?_
 exact aut⟩
def mc96 : j5 :=
 (.seq (.reg (sq 1 [bo 1 43 0, mb false])) (.seq (.seq (.reg (sq 4 [fa 0 1, ld 4, ln 5, .callf 49 [(t0 6), (i0 1), (i0 8)], nt 7])) (.cond (t0 8) (.seq (.reg (sq 2 [mb false])) .ret) .skip)) (.seq (.seq (.reg (sq 3 [mi 0])) (.block 0 (.loop (.seq (.seq (.reg (sq 9 [mv 3, fa 0 1, ld 10, ln 11, bn .lss 9 12])) (.cond (t0 13) .skip (.exit 0))) (.seq (.block 1 (.seq (.reg (sq 16 [fa 0 1, ld 16, mv 3, ix 1 17 18, ld 19, .callf 49 [(t0 20), (i0 0), (i0 3)], nt 21])) (.cond (t0 22) (.seq (.reg (sq 2 [mb false])) .ret) .skip))) (.reg (sq 14 [mv 3, bi .add 14 1] ++ sq 3 [mv 15]))))))) (.seq (.reg (sq 2 [mb true])) .ret))))
theorem fn96 : t6 Tryz.prog 96 mc96 23 [.tmp 2] := mf Tryz.func96 Tryz.ntmps96
def t8q (sig : q7) : Int -> Option (Int ⊕ Bool)
 | f =>
  if (decide (f < (sig.length : Int))) = true then
   if 0 <= f /\ f < (sig.length : Int) then
    (x9q (sig.getD f.toNat default) 0 3).bind fun r_1 =>
    if r_1 = true then
     some (.inl (IntKind.i64.wrap (f + 1)))
    else
     Option.map Sum.inr (
      some false)
   else none
  else
   Option.map Sum.inr (
    some true)
def b8q (sig : q7) : Option Bool :=
 (x9q (sig.length : Int) 1 8).bind fun r =>
 if r = true then
  loopC (t8q sig) 0
 else
  some false
instance x4d {sig : q7} : y3 (b8q sig) fun rr => p7 Tryz.prog 96 [u3 sig] (bD rr) := ⟨@fun rr h => by
 delta b8q at h
 refine fn96.pureL (q6 ?_)
 delta mc96
 refine v5 ?_
 refine rC h fun r hr h => ?_
 refine iT h fun hc h => ?_
 refine s9 h [2, 3, 9, 10, 11, 12, 13, 14, 15, 16, 17, 18, 19, 20, 21, 22] (fun pp => [(3, .d (iD pp))]) (fun pp => [(1, .obj 43 [.d (z7 1 iD sig)])]) ?_
 rintro f t1 h hb1
 unfold t8q at h
 try dsimp only at h
 refine q6 (v5 ?_)
 exact aut⟩
def y5m : j5 :=
 (.seq (.reg (sq 2 [bo 2 43 0] ++ sq 4 [mi 0])) (.seq (.block 0 (.seq (.reg (sq 6 [mv 1, .callf 49 [(t0 6), (i0 (-24)), (i0 (-1))]] ++ sq 5 [mv 7])) (.cond (t0 5) (.seq (.reg (sq 4 [mi 0])) .ret) (.seq (.reg (sq 9 [mv 1, fa 0 2, ld 10, ln 11, bi .sub 12 1, .callf 49 [(t0 9), (i0 0), (t0 13)]] ++ sq 8 [mv 14])) (.cond (t0 8) (.seq (.reg (sq 15 [fa 0 2, ld 15, mv 1, ix 1 16 17, ld 18] ++ sq 4 [mv 19])) .ret) .skip))))) (.seq (.reg (sq 4 [mi (-1)])) .ret)))
theorem fn240 : t6 Tryz.prog 240 y5m 20 [.tmp 4] := mf Tryz.func240 Tryz.ntmps240
def w1q (sig : q7) (n : Int) : Option Int :=
 (x9q n (-24) (-1)).bind fun r =>
 if r = true then
  some 0
 else
  (x9q n 0 (IntKind.i64.wrap ((sig.length : Int) - 1))).bind fun r_1 =>
  if r_1 = true then
   if 0 <= n /\ n < (sig.length : Int) then
    some (sig.getD n.toNat default)
   else none
  else
   some (-1)
instance j7v {sig : q7} {n : Int} : y3 (w1q sig n) fun rr => p7 Tryz.prog 240 [u3 sig, iD n] (iD rr) := ⟨@fun rr h => by
 delta w1q at h
 refine fn240.pureL (q6 ?_)
 delta y5m
 refine v5 ?_
 exact aut⟩
def y4n : j5 :=
 (.seq (.reg (sq 3 [bo 3 43 0] ++ sq 6 [mi 0])) (.seq (.reg (sq 7 [mi 1])) (.seq (.seq (.reg (sq 10 [mv 2] ++ sq 8 [mv 10])) (.block 0 (.loop (.seq (.seq (.reg (sq 11 [mv 8, mv 1, ln 12, bn .lss 11 13])) (.cond (t0 14) .skip (.exit 0))) (.seq (.block 1 (.seq (.draw (sq 17 [la 1 3, mv 1, mv 8, ix 1 18 19, ld 20, cf 240 [17, 21]] ++ sq 9 [mv 22]) [[], [], [], [1, 2], [3], [0, 4], [5, 5, 0, 1, 2, 3, 4, 5]]) (.seq (.seq (.reg (sq 23 [mv 9, bi .lss 23 0])) (.cond (t0 24) (.seq (.reg (sq 6 [mi (-1)])) .ret) .skip)) (.seq (.reg (sq 25 [mv 7, mv 9, bn .add 25 26, bi .sub 27 1] ++ sq 7 [mv 28])) (.seq (.reg (sq 29 [mv 7, bi .eql 29 0])) (.cond (t0 30) (.seq (.reg (sq 31 [mv 8, bi .add 31 1] ++ sq 6 [mv 32])) .ret) .skip)))))) (.reg (sq 15 [mv 8, bi .add 15 1] ++ sq 8 [mv 16]))))))) (.seq (.reg (sq 6 [mi (-1)])) .ret))))
theorem fn187 : t6 Tryz.prog 187 y4n 33 [.tmp 6] := mf Tryz.func187 Tryz.ntmps187
def q2c (sig : q7) (t : q7) : (Int × Int) -> Option ((Int × Int) ⊕ Int)
 | (need, i) =>
  if (decide (i < (t.length : Int))) = true then
   if 0 <= i /\ i < (t.length : Int) then
    (w1q sig (t.getD i.toNat default)).bind fun r =>
    if (decide (r < 0)) = true then
     Option.map Sum.inr (
      some (-1))
    else
     if ((IntKind.i64.wrap ((IntKind.i64.wrap (need + r)) - 1)) == 0) = true then
      Option.map Sum.inr (
       some (IntKind.i64.wrap (i + 1)))
     else
      some (.inl ((IntKind.i64.wrap ((IntKind.i64.wrap (need + r)) - 1)), (IntKind.i64.wrap (i + 1))))
   else none
  else
   Option.map Sum.inr (
    some (-1))
def z6q (sig : q7) (t : q7) (x7 : Int) : Option Int :=
 loopC (q2c sig t) (1, x7)
instance x4f {sig : q7} {t : q7} {x7 : Int} : y3 (z6q sig t x7) fun rr => p7 Tryz.prog 187 [u3 sig, (z7 1 iD) t, iD x7] (iD rr) := ⟨@fun rr h => by
 delta z6q at h
 refine fn187.pureL (q6 ?_)
 delta y4n
 refine v5 ?_
 refine s9 h [6, 7, 8, 9, 11, 12, 13, 14, 15, 16, 17, 18, 19, 20, 21, 22, 23, 24, 25, 26, 27, 28, 29, 30, 31, 32] (fun pp => [(7, .d (iD pp.1)), (8, .d (iD pp.2))]) (fun pp => [(3, .obj 43 [.d (z7 1 iD sig)])]) ?_
 rintro ⟨need, i⟩ t1 h hb1
 unfold q2c at h
 try dsimp only at h
 refine q6 (v5 ?_)
 exact aut⟩
def y3o : j5 :=
 (.seq (.reg (sq 2 [bo 2 43 0] ++ sq 4 [mb false])) (.seq (.reg (sq 5 [la 1 2, cf 96 [5], mv 6] ++ sg 7 true 8 [mv 1, ln 8, .callf 49 [(t0 9), (i0 1), (i0 60)]] ++ sq 11 [pa 7 10, mv 11] ++ sg 12 true 13 [la 1 2, mv 1, .callf 187 [(t0 13), (t0 14), (i0 0)], mv 1, ln 16, bn .eql 15 17] ++ sq 19 [pa 12 18] ++ sq 4 [mv 19])) .ret))
theorem fn154 : t6 Tryz.prog 154 y3o 20 [.tmp 4] := mf Tryz.func154 Tryz.ntmps154
def q2q (sig : q7) (t : q7) : Option Bool :=
 (b8q sig).bind fun r =>
 if r = true then
  (x9q (t.length : Int) 1 60).bind fun r_1 =>
  if r_1 = true then
   (z6q sig t 0).bind fun r_2 =>
   some (r_2 == (t.length : Int))
  else
   some false
 else
  some false
instance j9s {sig : q7} {t : q7} : y3 (q2q sig t) fun rr => p7 Tryz.prog 154 [u3 sig, (z7 1 iD) t] (bD rr) := ⟨@fun rr h => by
 delta q2q at h
 refine fn154.pureL (q6 ?_)
 delta y3o
 refine v5 ?_
 exact aut⟩
def y5t : j5 :=
 (.seq (.reg (sq 4 [mi 0])) (.seq (.seq (.reg (sq 6 [mv 0, ln 6, mi 0])) (.block 0 (.loop (.seq (.reg (sq 9 [bn .lss 8 7])) (.seq (.cond (t0 9) .skip (.exit 0)) (.seq (.block 1 (.seq (.reg (sq 10 [mv 8] ++ sq 5 [mv 10])) (.seq (.reg (sq 11 [mv 1, mv 0, mv 5, ix 1 12 13, ld 14, bn .eql 11 15])) (.cond (t0 16) (.seq (.reg (sq 17 [mv 5] ++ sq 4 [mv 17])) .ret) .skip)))) (.reg (sq 18 [bi .add 8 1] ++ sq 8 [mv 18])))))))) (.seq (.reg (sq 4 [mi (-1)])) .ret)))
theorem fn266 : t6 Tryz.prog 266 y5t 19 [.tmp 4] := mf Tryz.func266 Tryz.ntmps266
def x8q (s : q7) (v : Int) : Int -> Option (Int ⊕ Int)
 | v8 =>
  if (decide (v8 < (s.length : Int))) = true then
   if 0 <= v8 /\ v8 < (s.length : Int) then
    if (v == (s.getD v8.toNat default)) = true then
     Option.map Sum.inr (
      some v8)
    else
     some (.inl (IntKind.i64.wrap (v8 + 1)))
   else none
  else
   Option.map Sum.inr (
    some (-1))
def q5q (s : q7) (v : Int) : Option Int :=
 loopC (x8q s v) 0
instance k6s {s : q7} {v : Int} : y3 (q5q s v) fun rr => p7 Tryz.prog 266 [(z7 1 iD) s, iD v] (iD rr) := ⟨@fun rr h => by
 delta q5q at h
 refine fn266.pureL (q6 ?_)
 delta y5t
 refine v5 ?_
 refine s9 h [4, 5, 8, 9, 10, 11, 12, 13, 14, 15, 16, 17, 18] (fun pp => [(8, .d (iD pp))]) (fun pp => []) ?_
 rintro v8 t1 h hb1
 unfold x8q at h
 try dsimp only at h
 refine q6 (v5 ?_)
 exact aut⟩
def y5b : j5 :=
 (.seq (.reg (sq 4 [mb false])) (.seq (.reg (sq 5 [mv 0, mv 1, cf 266 [5, 6], bi .geq 7 0] ++ sq 4 [mv 8])) .ret))
theorem fn228 : t6 Tryz.prog 228 y5b 9 [.tmp 4] := mf Tryz.func228 Tryz.ntmps228
def m5 (s : q7) (v : Int) : Option Bool :=
 (q5q s v).bind fun r =>
 some (decide (0 <= r))
instance k3a {s : q7} {v : Int} : y3 (m5 s v) fun rr => p7 Tryz.prog 228 [(z7 1 iD) s, iD v] (bD rr) := ⟨@fun rr h => by
 delta m5 at h
 refine fn228.pureL (q6 ?_)
 delta y5b
 refine v5 ?_
 exact aut⟩
def y4o : j5 :=
 (.seq (.reg (sq 2 [bo 2 43 0, bo 3 147 1, mb false])) (.seq (.seq (.reg (sq 7 [la 1 2, fa 0 3, ld 8, cf 157 [7, 9], nt 10, mv 11] ++ sg 12 false 13 [la 1 2, fa 1 3, ld 14, cf 157 [13, 15], nt 16] ++ sq 18 [po 12 17, mv 18] ++ sg 19 false 20 [fa 0 3, ld 20, .ixa 1 (t0 21) (i0 0), ld 22, bi .lss 23 0] ++ sq 25 [po 19 24])) (.cond (t0 25) (.seq (.reg (sq 4 [mb false])) .ret) .skip)) (.seq (.seq (.reg (sq 26 [fa 1 3, ld 26, ln 27, mi 0])) (.block 0 (.loop (.seq (.reg (sq 30 [bn .lss 29 28])) (.seq (.cond (t0 30) .skip (.exit 0)) (.seq (.block 1 (.seq (.reg (sq 31 [ix 1 27 29, ld 31] ++ sq 6 [mv 32])) (.seq (.reg (sq 33 [mv 6, bi .lss 33 0, mv 34] ++ sg 35 true 36 [fa 0 3, ld 36, mv 6, cf 228 [37, 38], nt 39] ++ sq 41 [pa 35 40])) (.cond (t0 41) (.seq (.reg (sq 4 [mb false])) .ret) .skip)))) (.reg (sq 42 [bi .add 29 1] ++ sq 29 [mv 42])))))))) (.seq (.reg (sq 4 [mb true])) .ret))))
theorem fn189 : t6 Tryz.prog 189 y4o 43 [.tmp 4] := mf Tryz.func189 Tryz.ntmps189
def i4q (r : Ty2) : Int -> Option (Int ⊕ Bool)
 | v29 =>
  if (decide (v29 < (r.2.length : Int))) = true then
   if 0 <= v29 /\ v29 < (r.2.length : Int) then
    if (decide ((r.2.getD v29.toNat default) < 0)) = true then
     (m5 r.1 (r.2.getD v29.toNat default)).bind fun r_3 =>
     if r_3 = true then
      some (.inl (IntKind.i64.wrap (v29 + 1)))
     else
      Option.map Sum.inr (
       some false)
    else
     some (.inl (IntKind.i64.wrap (v29 + 1)))
   else none
  else
   Option.map Sum.inr (
    some true)
def r8q (sig : q7) (r : Ty2) : Option Bool :=
 (r6 sig r.1).bind fun r_1 =>
 if r_1 = true then
  (r6 sig r.2).bind fun r_2 =>
  if r_2 = true then
   if 0 <= 0 /\ 0 < (r.1.length : Int) then
    if (decide ((r.1.getD 0 default) < 0)) = true then
     some false
    else
     loopC (i4q r) 0
   else none
  else
   some false
 else
  some false
instance j9g {sig : q7} {r : Ty2} : y3 (r8q sig r) fun rr => p7 Tryz.prog 189 [u3 sig, v7 r] (bD rr) := ⟨@fun rr h => by
 delta r8q at h
 refine fn189.pureL (q6 ?_)
 delta y4o
 refine v5 ?_
 refine rC h fun r_1 hr_1 h => ?_
 refine iT h fun hc h => ?_
 refine rC h fun r_2 hr_2 h => ?_
 refine iT h fun hc h => ?_
 refine ndI h fun hp h => ?_
 refine iF h fun hc h => ?_
 refine s9 h [4, 6, 29, 30, 31, 32, 33, 34, 35, 36, 37, 38, 39, 40, 41, 42] (fun pp => [(29, .d (iD pp))]) (fun pp => [(2, .obj 43 [.d (z7 1 iD sig)]), (3, .obj 147 [.d (z7 1 iD r.1), .d (z7 1 iD r.2)])]) ?_
 rintro v29 t1 h hb1
 unfold i4q at h
 try dsimp only at h
 refine q6 (v5 ?_)
 exact aut⟩
def y3f : j5 :=
 (.seq (.reg (sq 1 [bo 1 46 0, mb false])) (.seq (.seq (.reg (sq 5 [fa 0 1, la 1 5, cf 172 [6], nt 7, mv 8] ++ sg 9 false 10 [fa 1 1, ld 10, ln 11, bi .gtr 12 12] ++ sq 14 [po 9 13])) (.cond (t0 14) (.seq (.reg (sq 2 [mb false])) .ret) .skip)) (.seq (.seq (.reg (sq 15 [fa 1 1, ld 15, ln 16, mi 0])) (.block 0 (.loop (.seq (.reg (sq 19 [bn .lss 18 17])) (.seq (.cond (t0 19) .skip (.exit 0)) (.seq (.block 1 (.seq (.reg (sq 20 [ix 2 16 18, la 2 20] ++ sq 4 [.alloc 4 147 [.sl 0 (some true) [], .sl 0 (some true) []]] ++ s0 (sr 2 4 21))) (.seq (.reg (sq 22 [fa 0 1, la 1 22, la 2 4, cf 189 [23, 24], nt 25])) (.cond (t0 26) (.seq (.reg (sq 2 [mb false])) .ret) .skip)))) (.reg (sq 27 [bi .add 18 1] ++ sq 18 [mv 27])))))))) (.seq (.reg (sq 2 [mb true])) .ret))))
theorem fn119 : t6 Tryz.prog 119 y3f 28 [.tmp 2] := mf Tryz.func119 Tryz.ntmps119
def w9q (sys : Ty6) : Int -> Option (Int ⊕ Bool)
 | v18 =>
  if (decide (v18 < (sys.2.length : Int))) = true then
   if 0 <= v18 /\ v18 < (sys.2.length : Int) then
    (r8q sys.1 ((sys.2.getD v18.toNat default).1, (sys.2.getD v18.toNat default).2)).bind fun r_1 =>
    if r_1 = true then
     some (.inl (IntKind.i64.wrap (v18 + 1)))
    else
     Option.map Sum.inr (
      some false)
   else none
  else
   Option.map Sum.inr (
    some true)
def x1q (sys : Ty6) : Option Bool :=
 (m4q sys.1).bind fun r =>
 if r = true then
  if (decide (12 < (sys.2.length : Int))) = true then
   some false
  else
   loopC (w9q sys) 0
 else
  some false
instance j2k {sys : Ty6} : y3 (x1q sys) fun rr => p7 Tryz.prog 119 [d5 sys] (bD rr) := ⟨@fun rr h => by
 delta x1q at h
 refine fn119.pureL (q6 ?_)
 delta y3f
 refine v5 ?_
 refine rC h fun r hr h => ?_
 refine iT h fun hc h => ?_
 refine iF h fun hc h => ?_
 refine s9 h [2, 4, 18, 19, 20, 21, 22, 23, 24, 25, 26, 27] (fun pp => [(18, .d (iD pp))]) (fun pp => [(1, .obj 46 [.d (z7 1 iD sys.1), .d (z7 2 v7 sys.2)])]) ?_
 rintro v18 t1 h hb1
 unfold w9q at h
 try dsimp only at h
 refine q6 (v5 ?_)
 refine iT h fun hc h => ?_
 refine ndI h fun hp h => ?_
 refine rC h fun r_1 hr_1 h => ?_
 refine iT h fun hc h => ?_
 cases h
 refine ⟨_, rfl, ?_⟩
 refine (y0.drop 4 (by omega)).trans ?_
 exact wk⟩
def y4h : j5 :=
 (.seq (.reg (sq 4 [mb false])) (.seq (.seq (.reg (sq 5 [mi 0])) (.block 0 (.loop (.seq (.seq (.reg (sq 6 [mv 5, mv 0, ln 7, bn .lss 6 8])) (.cond (t0 9) .skip (.exit 0))) (.seq (.block 1 (.seq (.reg (sq 12 [mv 0, mv 5, ix 1 12 13, ld 14, mv 1, bn .eql 15 16])) (.cond (t0 17) (.seq (.reg (sq 4 [mb true])) .ret) .skip))) (.reg (sq 10 [mv 5, bi .add 10 1] ++ sq 5 [mv 11]))))))) (.seq (.reg (sq 4 [mb false])) .ret)))
theorem fn179 : t6 Tryz.prog 179 y4h 18 [.tmp 4] := mf Tryz.func179 Tryz.ntmps179
def t9q (s : q7) (n : Int) : Int -> Option (Int ⊕ Bool)
 | i =>
  if (decide (i < (s.length : Int))) = true then
   if 0 <= i /\ i < (s.length : Int) then
    if ((s.getD i.toNat default) == n) = true then
     Option.map Sum.inr (
      some true)
    else
     some (.inl (IntKind.i64.wrap (i + 1)))
   else none
  else
   Option.map Sum.inr (
    some false)
def n0q (s : q7) (n : Int) : Option Bool :=
 loopC (t9q s n) 0
instance x4g {s : q7} {n : Int} : y3 (n0q s n) fun rr => p7 Tryz.prog 179 [(z7 1 iD) s, iD n] (bD rr) := ⟨@fun rr h => by
 delta n0q at h
 refine fn179.pureL (q6 ?_)
 delta y4h
 refine v5 ?_
 refine s9 h [4, 5, 6, 7, 8, 9, 10, 11, 12, 13, 14, 15, 16, 17] (fun pp => [(5, .d (iD pp))]) (fun pp => []) ?_
 rintro i t1 h hb1
 unfold t9q at h
 try dsimp only at h
 refine q6 (v5 ?_)
 exact aut⟩
def mc97 : j5 :=
 (.seq (.reg (sq 2 [bo 2 43 0, bo 3 147 1, mb false])) (.seq (.seq (.reg (sq 6 [la 1 2, fa 0 3, ld 7, cf 154 [6, 8], nt 9, mv 10] ++ sg 11 false 12 [la 1 2, fa 1 3, ld 13, cf 154 [12, 14], nt 15] ++ sq 17 [po 11 16, mv 17] ++ sg 18 false 19 [fa 0 3, ld 19, .ixa 1 (t0 20) (i0 0), ld 21, bi .lss 22 0] ++ sq 24 [po 18 23])) (.cond (t0 24) (.seq (.reg (sq 4 [mb false])) .ret) .skip)) (.seq (.seq (.reg (sq 5 [mi 0])) (.block 0 (.loop (.seq (.seq (.reg (sq 25 [mv 5, fa 1 3, ld 26, ln 27, bn .lss 25 28])) (.cond (t0 29) .skip (.exit 0))) (.seq (.block 1 (.seq (.draw (sq 32 [fa 1 3, ld 32, mv 5, ix 1 33 34, ld 35, bi .lss 36 0, mv 37] ++ sg 38 true 39 [fa 0 3, ld 39, fa 1 3, ld 41, mv 5, ix 1 42 43, ld 44, cf 179 [40, 45], nt 46] ++ sq 48 [pa 38 47]) [[], [0], [], [1, 2], [3], [4], [5], [6], [7, 6], [6], [9, 6], [6], [10, 11, 6], [12, 6], [8, 13, 6, 6], [14, 6], [6, 15]]) (.cond (t0 48) (.seq (.reg (sq 4 [mb false])) .ret) .skip))) (.reg (sq 30 [mv 5, bi .add 30 1] ++ sq 5 [mv 31]))))))) (.seq (.reg (sq 4 [mb true])) .ret))))
theorem fn97 : t6 Tryz.prog 97 mc97 49 [.tmp 4] := mf Tryz.func97 Tryz.ntmps97
def i5q (r : Ty2) : Int -> Option (Int ⊕ Bool)
 | i =>
  if (decide (i < (r.2.length : Int))) = true then
   if 0 <= i /\ i < (r.2.length : Int) then
    if (decide ((r.2.getD i.toNat default) < 0)) = true then
     if 0 <= i /\ i < (r.2.length : Int) then
      (n0q r.1 (r.2.getD i.toNat default)).bind fun r_3 =>
      if r_3 = true then
       some (.inl (IntKind.i64.wrap (i + 1)))
      else
       Option.map Sum.inr (
        some false)
     else none
    else
     some (.inl (IntKind.i64.wrap (i + 1)))
   else none
  else
   Option.map Sum.inr (
    some true)
def t7q (sig : q7) (r : Ty2) : Option Bool :=
 (q2q sig r.1).bind fun r_1 =>
 if r_1 = true then
  (q2q sig r.2).bind fun r_2 =>
  if r_2 = true then
   if 0 <= 0 /\ 0 < (r.1.length : Int) then
    if (decide ((r.1.getD 0 default) < 0)) = true then
     some false
    else
     loopC (i5q r) 0
   else none
  else
   some false
 else
  some false
instance j9r {sig : q7} {r : Ty2} : y3 (t7q sig r) fun rr => p7 Tryz.prog 97 [u3 sig, v7 r] (bD rr) := ⟨@fun rr h => by
 delta t7q at h
 refine fn97.pureL (q6 ?_)
 delta mc97
 refine v5 ?_
 refine rC h fun r_1 hr_1 h => ?_
 refine iT h fun hc h => ?_
 refine rC h fun r_2 hr_2 h => ?_
 refine iT h fun hc h => ?_
 refine ndI h fun hp h => ?_
 refine iF h fun hc h => ?_
 refine s9 h [4, 5, 25, 26, 27, 28, 29, 30, 31, 32, 33, 34, 35, 36, 37, 38, 39, 40, 41, 42, 43, 44, 45, 46, 47, 48] (fun pp => [(5, .d (iD pp))]) (fun pp => [(2, .obj 43 [.d (z7 1 iD sig)]), (3, .obj 147 [.d (z7 1 iD r.1), .d (z7 1 iD r.2)])]) ?_
 rintro i t1 h hb1
 unfold i5q at h
 try dsimp only at h
 refine q6 (v5 ?_)
 exact aut⟩
def mc37 : j5 :=
 (.seq (.reg (sq 1 [bo 1 46 0, mb false])) (.seq (.seq (.reg (sq 4 [fa 0 1, la 1 4, cf 96 [5], nt 6, mv 7] ++ sg 8 false 9 [fa 1 1, ld 9, ln 10, bi .gtr 11 12] ++ sq 13 [po 8 12])) (.cond (t0 13) (.seq (.reg (sq 2 [mb false])) .ret) .skip)) (.seq (.seq (.reg (sq 3 [mi 0])) (.block 0 (.loop (.seq (.seq (.reg (sq 14 [mv 3, fa 1 1, ld 15, ln 16, bn .lss 14 17])) (.cond (t0 18) .skip (.exit 0))) (.seq (.block 1 (.seq (.draw (sq 21 [fa 0 1, la 1 21, fa 1 1, ld 23, mv 3, ix 2 24 25, la 2 26, cf 97 [22, 27], nt 28]) [[], [0], [], [2], [], [3, 4], [5], [1, 6], [7]]) (.cond (t0 29) (.seq (.reg (sq 2 [mb false])) .ret) .skip))) (.reg (sq 19 [mv 3, bi .add 19 1] ++ sq 3 [mv 20]))))))) (.seq (.reg (sq 2 [mb true])) .ret))))
theorem fn37 : t6 Tryz.prog 37 mc37 30 [.tmp 2] := mf Tryz.func37 Tryz.ntmps37
def p3q (sys : Ty6) : Int -> Option (Int ⊕ Bool)
 | i =>
  if (decide (i < (sys.2.length : Int))) = true then
   if 0 <= i /\ i < (sys.2.length : Int) then
    (t7q sys.1 ((sys.2.getD i.toNat default).1, (sys.2.getD i.toNat default).2)).bind fun r_1 =>
    if r_1 = true then
     some (.inl (IntKind.i64.wrap (i + 1)))
    else
     Option.map Sum.inr (
      some false)
   else none
  else
   Option.map Sum.inr (
    some true)
def d5q (sys : Ty6) : Option Bool :=
 (b8q sys.1).bind fun r =>
 if r = true then
  if (decide (12 < (sys.2.length : Int))) = true then
   some false
  else
   loopC (p3q sys) 0
 else
  some false
instance j2u {sys : Ty6} : y3 (d5q sys) fun rr => p7 Tryz.prog 37 [d5 sys] (bD rr) := ⟨@fun rr h => by
 delta d5q at h
 refine fn37.pureL (q6 ?_)
 delta mc37
 refine v5 ?_
 refine rC h fun r hr h => ?_
 refine iT h fun hc h => ?_
 refine iF h fun hc h => ?_
 refine s9 h [2, 3, 14, 15, 16, 17, 18, 19, 20, 21, 22, 23, 24, 25, 26, 27, 28, 29] (fun pp => [(3, .d (iD pp))]) (fun pp => [(1, .obj 46 [.d (z7 1 iD sys.1), .d (z7 2 v7 sys.2)])]) ?_
 rintro i t1 h hb1
 unfold p3q at h
 try dsimp only at h
 refine q6 (v5 ?_)
 exact aut⟩
def c7 (x : Ty1) : D := .agg [(z7 1 (z7 1 iD)) x]
instance : Cel c7 1 := ⟨fun _ => rfl⟩
attribute [go_sem] c7
def y3s : j5 :=
 (.seq (.reg (sq 3 [bo 3 43 0] ++ sq 6 [.mv (.const (.slice none 0 0))])) (.seq (.reg (sq 7 [mv 1, mv 2, la 1 3, mv 1, mv 2, cf 195 [9, 10, 11], .slc (t0 7) 1 (some (t0 8)) (some (t0 12)) none] ++ sq 6 [mv 13])) .ret))
theorem fn159 : t6 Tryz.prog 159 y3s 14 [.tmp 6] := mf Tryz.func159 Tryz.ntmps159
def q7q (sig : q7) (t : q7) (x7 : Int) : Option q7 :=
 (y6q sig t x7).bind fun r =>
 if 0 <= x7 /\ x7 <= r /\ r <= (t.length : Int) then
  some ((t.take r.toNat).drop x7.toNat)
 else none
instance x3y {sig : q7} {t : q7} {x7 : Int} : y3 (q7q sig t x7) fun rr => p7 Tryz.prog 159 [u3 sig, (z7 1 iD) t, iD x7] ((z7 1 iD) rr) := ⟨@fun rr h => by
 delta q7q at h
 refine fn159.pureL (q6 ?_)
 delta y3s
 refine v5 ?_
 exact aut⟩
def y3m : j5 :=
 (.seq (.reg (sq 4 [mb false])) (.seq (.seq (.reg (sq 6 [mv 0, ln 6, mv 1, ln 8, bn .neq 7 9])) (.cond (t0 10) (.seq (.reg (sq 4 [mb false])) .ret) .skip)) (.seq (.seq (.reg (sq 11 [mv 0, ln 11, mi 0])) (.block 0 (.loop (.seq (.reg (sq 14 [bn .lss 13 12])) (.seq (.cond (t0 14) .skip (.exit 0)) (.seq (.block 1 (.seq (.reg (sq 15 [mv 13] ++ sq 5 [mv 15])) (.seq (.draw (sq 16 [mv 0, mv 5, ix 1 16 17, ld 18, mv 1, mv 5, ix 1 20 21, ld 22, bn .neq 19 23]) [[], [], [0, 1], [2], [], [], [4, 5], [6], [3, 7]]) (.cond (t0 24) (.seq (.reg (sq 4 [mb false])) .ret) .skip)))) (.reg (sq 25 [bi .add 13 1] ++ sq 13 [mv 25])))))))) (.seq (.reg (sq 4 [mb true])) .ret))))
theorem fn128 : t6 Tryz.prog 128 y3m 26 [.tmp 4] := mf Tryz.func128 Tryz.ntmps128
def k3q (s1 : q7) (s2 : q7) : Int -> Option (Int ⊕ Bool)
 | v13 =>
  if (decide (v13 < (s1.length : Int))) = true then
   if 0 <= v13 /\ v13 < (s1.length : Int) then
    if 0 <= v13 /\ v13 < (s2.length : Int) then
     if ((s1.getD v13.toNat default) != (s2.getD v13.toNat default)) = true then
      Option.map Sum.inr (
       some false)
     else
      some (.inl (IntKind.i64.wrap (v13 + 1)))
    else none
   else none
  else
   Option.map Sum.inr (
    some true)
def f7 (s1 : q7) (s2 : q7) : Option Bool :=
 if ((s1.length : Int) != (s2.length : Int)) = true then
  some false
 else
  loopC (k3q s1 s2) 0
instance k6r {s1 : q7} {s2 : q7} : y3 (f7 s1 s2) fun rr => p7 Tryz.prog 128 [(z7 1 iD) s1, (z7 1 iD) s2] (bD rr) := ⟨@fun rr h => by
 delta f7 at h
 refine fn128.pureL (q6 ?_)
 delta y3m
 refine v5 ?_
 refine iF h fun hc h => ?_
 refine s9 h [4, 5, 13, 14, 15, 16, 17, 18, 19, 20, 21, 22, 23, 24, 25] (fun pp => [(13, .d (iD pp))]) (fun pp => []) ?_
 rintro v13 t1 h hb1
 unfold k3q at h
 try dsimp only at h
 refine q6 (v5 ?_)
 exact aut⟩
def y3r : j5 :=
 (.seq (.reg (sq 4 [bo 4 43 0] ++ sq 7 [bo 7 204 3, .alloc 8 204 [.sl 0 (some true) [], .sl 0 (some true) [], .sl 0 (some true) [], .sl 0 (some true) [], .sl 0 (some true) [], .sl 0 (some true) [], .sl 0 (some true) [], .sl 0 (some true) [], .sl 0 (some true) [], .sl 0 (some true) [], .sl 0 (some true) [], .sl 0 (some true) [], .sl 0 (some true) [], .sl 0 (some true) [], .sl 0 (some true) [], .sl 0 (some true) [], .sl 0 (some true) [], .sl 0 (some true) [], .sl 0 (some true) [], .sl 0 (some true) [], .sl 0 (some true) [], .sl 0 (some true) [], .sl 0 (some true) [], .sl 0 (some true) []], mb false])) (.seq (.reg (sq 10 [mi 0])) (.seq (.seq (.reg (sq 14 [mv 1, ln 14, mi 0])) (.block 0 (.loop (.seq (.reg (sq 17 [bn .lss 16 15])) (.seq (.cond (t0 17) .skip (.exit 0)) (.seq (.block 1 (.seq (.reg (sq 18 [ix 1 14 16, ld 18] ++ sq 12 [mv 19])) (.seq (.seq (.reg (sq 20 [mv 10, mv 2, ln 21, bn .geq 20 22])) (.cond (t0 23) (.seq (.reg (sq 24 [la 24 7] ++ s0 (sr 24 8 24) ++ sq 9 [mb false])) .ret) .skip)) (.seq (.seq (.reg (sq 25 [mv 12, bi .geq 25 0])) (.cond (t0 26) (.seq (.seq (.reg (sq 27 [mv 2, mv 10, ix 1 27 28, ld 29, mv 12, bn .neq 30 31])) (.cond (t0 32) (.seq (.reg (sq 33 [la 24 7] ++ s0 (sr 24 8 33) ++ sq 9 [mb false])) .ret) .skip)) (.seq (.reg (sq 34 [mv 10, bi .add 34 1] ++ sq 10 [mv 35])) (.exit 1))) .skip)) (.seq (.reg (sq 36 [la 1 4, mv 2, mv 10, cf 159 [36, 37, 38]] ++ sq 13 [mv 39])) (.seq (.seq (.reg (sq 40 [mv 12, .bin .sub (i0 (-1)) (t0 40), .ixaA 1 24 (t0 7) (t0 41), ld 42, .eqnil false (t0 43)])) (.cond (t0 44) (.reg (sq 45 [mv 12, .bin .sub (i0 (-1)) (t0 45), mv 13, .ixaA 1 24 (t0 7) (t0 46)] ++ s0 (sr 1 48 47))) (.seq (.reg (sq 49 [mv 12, .bin .sub (i0 (-1)) (t0 49), .ixaA 1 24 (t0 7) (t0 50), ld 51, mv 13, cf 128 [52, 53], nt 54])) (.cond (t0 55) (.seq (.reg (sq 56 [la 24 7] ++ s0 (sr 24 8 56) ++ sq 9 [mb false])) .ret) .skip)))) (.reg (sq 57 [mv 10, mv 13, ln 58, bn .add 57 59] ++ sq 10 [mv 60])))))))) (.reg (sq 61 [bi .add 16 1] ++ sq 16 [mv 61])))))))) (.seq (.reg (sq 62 [la 24 7] ++ s0 (sr 24 8 62) ++ sq 9 [mb true])) .ret))))
theorem fn158 : t6 Tryz.prog 158 y3r 63 [.cell 8 24 true, .tmp 9] := mf Tryz.func158 Tryz.ntmps158
def i9q (sig : q7) (p : q7) (t : q7) : (Int × Int × Ty1) -> Option ((Int × Int × Ty1) ⊕ (Ty1 × Bool))
 | (x7, v16, b_1) =>
  if (decide (v16 < (p.length : Int))) = true then
   if 0 <= v16 /\ v16 < (p.length : Int) then
    if (decide ((t.length : Int) <= x7)) = true then
     if b_1.length = 24 then
      if b_1.length = 24 then
       Option.map Sum.inr (
        some (b_1, false))
      else none
     else none
    else
     if (decide (0 <= (p.getD v16.toNat default))) = true then
      if 0 <= x7 /\ x7 < (t.length : Int) then
       if ((t.getD x7.toNat default) != (p.getD v16.toNat default)) = true then
        if b_1.length = 24 then
         if b_1.length = 24 then
          Option.map Sum.inr (
           some (b_1, false))
         else none
        else none
       else
        some (.inl ((IntKind.i64.wrap (x7 + 1)), (IntKind.i64.wrap (v16 + 1)), b_1))
      else none
     else
      (q7q sig t x7).bind fun r =>
      if 0 <= (IntKind.i64.wrap ((-1) - (p.getD v16.toNat default))) /\ (IntKind.i64.wrap ((-1) - (p.getD v16.toNat default))) < 24 /\ (IntKind.i64.wrap ((-1) - (p.getD v16.toNat default))) < (b_1.length : Int) then
       if (b_1.getD (IntKind.i64.wrap ((-1) - (p.getD v16.toNat default))).toNat default).isEmpty = true then
        if 0 <= (IntKind.i64.wrap ((-1) - (p.getD v16.toNat default))) /\ (IntKind.i64.wrap ((-1) - (p.getD v16.toNat default))) < 24 /\ (IntKind.i64.wrap ((-1) - (p.getD v16.toNat default))) < (b_1.length : Int) then
         if 0 < r.length then
          some (.inl ((IntKind.i64.wrap (x7 + (r.length : Int))), (IntKind.i64.wrap (v16 + 1)), (b_1.set (IntKind.i64.wrap ((-1) - (p.getD v16.toNat default))).toNat r)))
         else none
        else none
       else
        if 0 <= (IntKind.i64.wrap ((-1) - (p.getD v16.toNat default))) /\ (IntKind.i64.wrap ((-1) - (p.getD v16.toNat default))) < 24 /\ (IntKind.i64.wrap ((-1) - (p.getD v16.toNat default))) < (b_1.length : Int) then
         (f7 (b_1.getD (IntKind.i64.wrap ((-1) - (p.getD v16.toNat default))).toNat default) r).bind fun r_1 =>
         if r_1 = true then
          some (.inl ((IntKind.i64.wrap (x7 + (r.length : Int))), (IntKind.i64.wrap (v16 + 1)), b_1))
         else
          if b_1.length = 24 then
           if b_1.length = 24 then
            Option.map Sum.inr (
             some (b_1, false))
           else none
          else none
        else none
      else none
   else none
  else
   Option.map Sum.inr (
    if b_1.length = 24 then
     if b_1.length = 24 then
      some (b_1, true)
     else none
    else none)
def i9 (sig : q7) (p : q7) (t : q7) (b : Ty1) : Option (Ty1 × Bool) :=
 loopC (i9q sig p t) (0, 0, b)
instance j1k {sig : q7} {p : q7} {t : q7} {b : Ty1} : y3 (i9 sig p t b) fun rr => r9 Tryz.prog 158 [u3 sig, (z7 1 iD) p, (z7 1 iD) t, (arD (nzD 1 iD)) b] [(arD (nzD 1 iD)) rr.1, bD rr.2] := ⟨@fun rr h => by
 delta i9 at h
 refine fn158.pureLN (q6 ?_)
 delta y3r
 refine v5 ?_
 refine s9 h [9, 10, 12, 13, 16, 17, 18, 19, 20, 21, 22, 23, 24, 25, 26, 27, 28, 29, 30, 31, 32, 33, 34, 35, 36, 37, 38, 39, 40, 41, 42, 43, 44, 45, 46, 47, 48, 49, 50, 51, 52, 53, 54, 55, 56, 57, 58, 59, 60, 61] (fun pp => [(10, .d (iD pp.1)), (16, .d (iD pp.2.1))]) (fun pp => [(4, .obj 43 [.d (z7 1 iD sig)]), (7, .obj 204 (List.map (aD (nzD 1 iD)) pp.2.2)), (8, .obj 204 [.d (.sl 0 (some true) []), .d (.sl 0 (some true) []), .d (.sl 0 (some true) []), .d (.sl 0 (some true) []), .d (.sl 0 (some true) []), .d (.sl 0 (some true) []), .d (.sl 0 (some true) []), .d (.sl 0 (some true) []), .d (.sl 0 (some true) []), .d (.sl 0 (some true) []), .d (.sl 0 (some true) []), .d (.sl 0 (some true) []), .d (.sl 0 (some true) []), .d (.sl 0 (some true) []), .d (.sl 0 (some true) []), .d (.sl 0 (some true) []), .d (.sl 0 (some true) []), .d (.sl 0 (some true) []), .d (.sl 0 (some true) []), .d (.sl 0 (some true) []), .d (.sl 0 (some true) []), .d (.sl 0 (some true) []), .d (.sl 0 (some true) []), .d (.sl 0 (some true) [])])]) ?_
 rintro ⟨x7, v16, b_1⟩ t1 h hb1
 unfold i9q at h
 try dsimp only at h
 refine q6 (v5 ?_)
 refine iT h fun hc h => ?_
 refine ndI h fun hp h => ?_
 refine iF h fun hc h => ?_
 refine iF h fun hc h => ?_
 refine rC h fun r hr h => ?_
 refine ndI h fun hp h => ?_
 refine iT h fun hc h => ?_
 refine ndI h fun hp h => ?_
 refine ndI h fun hp h => ?_
 cases h
 refine ⟨_, rfl, ?_⟩
 refine (y0.leS (s' := [(4, .obj 43 [.d (z7 1 iD sig)]), (7, .obj 204 (List.map (aD (nzD 1 iD)) (b_1.set (IntKind.i64.wrap ((-1) - (p.getD v16.toNat default))).toNat r))), (8, .obj 204 [.d (.sl 0 (some true) []), .d (.sl 0 (some true) []), .d (.sl 0 (some true) []), .d (.sl 0 (some true) []), .d (.sl 0 (some true) []), .d (.sl 0 (some true) []), .d (.sl 0 (some true) []), .d (.sl 0 (some true) []), .d (.sl 0 (some true) []), .d (.sl 0 (some true) []), .d (.sl 0 (some true) []), .d (.sl 0 (some true) []), .d (.sl 0 (some true) []), .d (.sl 0 (some true) []), .d (.sl 0 (some true) []), .d (.sl 0 (some true) []), .d (.sl 0 (some true) []), .d (.sl 0 (some true) []), .d (.sl 0 (some true) []), .d (.sl 0 (some true) []), .d (.sl 0 (some true) []), .d (.sl 0 (some true) []), .d (.sl 0 (some true) []), .d (.sl 0 (some true) [])])]) (w8.refl _) (by exact (j8g (k7b.refl _) (j8g ⟨rfl, x1a (by omega) (by first | exact (j4w (by omega)).2 trivial | exact (j0f (by omega)).2 trivial)⟩ (j8g (k7b.refl _) x5m))))).trans ?_
 exact wk⟩
def y3t : j5 :=
 (.seq (.reg (sq 1 [bo 1 204 0, .alloc 2 48 [.sl 0 (some true) []]])) (.seq (.reg (sq 3 [.slcA (t0 1) 1 24 none none none, .build [.sl 0 (some true) []] [(0, 1, (t0 3))]] ++ s0 (sr 1 2 4))) .ret))
theorem fn160 : t6 Tryz.prog 160 y3t 5 [.cell 2 1 true] := mf Tryz.func160 Tryz.ntmps160
def w6 (b : Ty1) : Option Ty1 :=
 if b.length = 24 then
  some b
 else none
instance z1k {b : Ty1} : y3 (w6 b) fun rr => p7 Tryz.prog 160 [(arD (nzD 1 iD)) b] (c7 rr) := ⟨@fun rr h => by
 delta w6 at h
 refine fn160.pureD (q6 ?_)
 delta y3t
 refine v5 ?_
 refine ndI h fun hp h => ?_
 cases h
 exact ⟨_, _, (x9.frzL 1 (nzD 1 iD) b (by omega) rfl), frd⟩⟩
def y6e : j5 :=
 (.seq (.reg (sq 2 [.mv (.const (.slice none 0 0))])) (.seq (.reg (sq 3 [mv 0, .bin .sub (i0 (-1)) (t0 3), .bsl 5 2 1 [(t0 4)]] ++ sq 2 [mv 5])) .ret))
theorem fn285 : t6 Tryz.prog 285 y6e 6 [.tmp 2] := mf Tryz.func285 Tryz.ntmps285
def t4q (i : Int) : Option q7 :=
 some [(IntKind.i64.wrap ((-1) - i))]
instance j2o {i : Int} : y3 (t4q i) fun rr => p7 Tryz.prog 285 [iD i] ((z7 1 iD) rr) := ⟨@fun rr h => by
 delta t4q at h
 refine fn285.pureL (q6 ?_)
 delta y6e
 refine v5 ?_
 exact aut⟩
def x8c : j5 :=
 (.seq (.reg (sq 2 [.mv (.const (.slice none 0 0))])) (.seq (.seq (.reg (sq 3 [mv 0, .eqnil false (t0 3)])) (.cond (t0 4) (.seq (.reg (sq 2 [.mv (.const (.slice none 0 0))])) .ret) .skip)) (.seq (.reg (sq 5 [.bsl 5 2 1 [], mv 0, ap 7 2 1 8 5 6] ++ sq 2 [mv 7])) .ret)))
theorem y1x : t6 Tryz.prog 121 x8c 8 [.tmp 2] := mf Tryz.func121 Tryz.ntmps121
def y7 (s : q7) : Option q7 :=
 x5v s (
  some []) (
  if (0 + s.length) * 8 <= 140737488355328 then
   some s
  else none)
instance k6p {s : q7} : y3 (y7 s) fun rr => p7 Tryz.prog 121 [(z7 1 iD) s] ((z7 1 iD) rr) := ⟨@fun rr h => by
 delta y7 at h
 refine y1x.pureL (q6 ?_)
 delta x8c
 refine v5 ?_
 have h1 := k8m h
 refine z0s.of (fun he => ?_) ?_
 ·replace h := h1.1 (by simpa using he)
  clear h1
  refine v5 ?_
  exact aut
 ·replace h := h1.2
  clear h1
  refine v5 ?_
  exact aut⟩
def y6c : j5 :=
 (.seq (.reg (sq 1 [bo 1 48 0, .alloc 2 48 [.sl 0 (some true) []]])) (.seq (.reg (sq 3 [.alloc 3 48 [.sl 0 (some true) []]])) (.seq (.seq (.reg (sq 6 [fa 0 1, ld 6, ln 7, mi 0])) (.block 0 (.loop (.seq (.reg (sq 10 [bn .lss 9 8])) (.seq (.cond (t0 10) .skip (.exit 0)) (.seq (.block 1 (.seq (.reg (sq 11 [mv 9, ix 1 7 9, ld 12] ++ sq 4 [mv 11, mv 13])) (.seq (.seq (.reg (sq 14 [mv 5, ln 14, bi .eql 15 0, mv 16] ++ sg 17 false 18 [mv 5, mv 4, cf 285 [19], cf 128 [18, 20]] ++ sq 22 [po 17 21])) (.cond (t0 22) (.exit 1) .skip)) (.seq (.block 2 (.loop (.seq (.seq (.reg (sq 23 [fa 0 3, ld 23, ln 24, mv 4, bn .lss 25 26])) (.cond (t0 27) .skip (.exit 2))) (.block 3 (.reg (sq 28 [fa 0 3, ld 28, .bsl 30 22 1 [(.const (.slice none 0 0))], ap 31 22 1 24 29 30, fa 0 3] ++ s0 (sr 1 32 31))))))) (.draw (sq 33 [fa 0 3, ld 33, mv 5, cf 121 [35], .bsl 37 22 1 [(t0 36)], ap 38 22 1 24 34 37, fa 0 3] ++ s0 (sr 1 39 38)) [[], [0], [], [2], [3], [1, 4, 3], [0, 1, 2, 3, 4, 5], [6, 5, 5, 0, 1, 2, 3, 4, 5]]))))) (.reg (sq 40 [bi .add 9 1] ++ sq 9 [mv 40])))))))) (.seq (.reg (sq 41 [la 1 3] ++ s0 (sr 1 2 41))) .ret))))
theorem fn280 : t6 Tryz.prog 280 y6c 42 [.cell 2 1 true] := mf Tryz.func280 Tryz.ntmps280
def q1v (s : Ty1) (v9 : Int) : Ty1 -> Option (Ty1 ⊕ ((Int × Ty1) ⊕ Ty1))
 | out_1 =>
  if (decide ((out_1.length : Int) < v9)) = true then
   if (out_1.length + 1) * 24 <= 140737488355328 then
    some (.inl (out_1 ++ [[]]))
   else none
  else
   Option.map Sum.inr (
    (y7 (s.getD v9.toNat default)).bind fun r_2 =>
    if (out_1.length + 1) * 24 <= 140737488355328 then
     some (.inl ((IntKind.i64.wrap (v9 + 1)), (out_1 ++ [r_2])))
    else none)
def q1u (s : Ty1) : (Int × Ty1) -> Option ((Int × Ty1) ⊕ Ty1)
 | (v9, out) =>
  if (decide (v9 < (s.length : Int))) = true then
   if 0 <= v9 /\ v9 < (s.length : Int) then
    if (((s.getD v9.toNat default).length : Int) == 0) = true then
     some (.inl ((IntKind.i64.wrap (v9 + 1)), out))
    else
     (t4q v9).bind fun r =>
     (f7 (s.getD v9.toNat default) r).bind fun r_1 =>
     if r_1 = true then
      some (.inl ((IntKind.i64.wrap (v9 + 1)), out))
     else
      loopC (q1v s v9) out
   else none
  else
   Option.map Sum.inr (
    some out)
def h7q (s : Ty1) : Option Ty1 :=
 loopC (q1u s) (0, [])
instance x3u {s : Ty1} : y3 (h7q s) fun rr => p7 Tryz.prog 280 [c7 s] (c7 rr) := ⟨@fun rr h => by
 delta h7q at h
 refine fn280.pureL (q6 ?_)
 delta y6c
 refine v5 ?_
 refine w5q h [4, 5, 9, 10, 11, 12, 13, 14, 15, 16, 17, 18, 19, 20, 21, 22, 23, 24, 25, 26, 27, 28, 29, 30, 31, 32, 33, 34, 35, 36, 37, 38, 39, 40] (fun pp => [(9, .d (iD pp.1))]) (fun pp => [(1, .obj 48 [.d (z7 1 (z7 1 iD) s)]), (2, .obj 48 [.d (.sl 0 (some true) [])]), (3, .obj 48 [.own 1 38 (List.map (z7 1 iD) pp.2)]), (38, .tok 22 1 pp.2.length)]) ?_ ?_
 ·try dsimp only
  refine (y0.thawCell 3 0 38 22 1 rfl rfl rfl).trans ?_
  exact wk
 rintro ⟨v9, out⟩ t1 h hb1
 unfold q1u at h
 try dsimp only at h
 refine q6 (v5 ?_)
 refine iT h fun hc h => ?_
 refine ndI h fun hp h => ?_
 refine iF h fun hc h => ?_
 refine rC h fun r hr h => ?_
 refine rC h fun r_1 hr_1 h => ?_
 refine iF h fun hc h => ?_
 refine s9 h [23, 24, 25, 26, 27, 28, 29, 30, 31, 32] (fun pp => []) (fun pp => [(1, .obj 48 [.d (z7 1 (z7 1 iD) s)]), (2, .obj 48 [.d (.sl 0 (some true) [])]), (3, .obj 48 [.own 1 38 (List.map (z7 1 iD) pp)]), (38, .tok 22 1 pp.length)]) ?_
 rintro out_1 t2 h hb2
 unfold q1v at h
 try dsimp only at h
 refine q6 (v5 ?_)
 refine it h (fun hc h => ?_) fun hc h => ?_
 ·refine ndI h fun hp h => ?_
  cases h
  refine ⟨_, rfl, ?_⟩
  refine (y0.drop 30 (by omega)).trans ?_
  exact wk
 replace h := u9 h hb2
 refine dC h fun r_2 hr_2 h => ?_
 refine ndI h fun hp h => ?_
 refine y7q (by kernel_rfl) (v5 ?_)
 cases h
 refine ⟨_, rfl, ?_⟩
 refine (y0.drop 37 (by omega)).trans ?_
 exact wk⟩
def y5s : j5 :=
 (.seq (.reg (sq 3 [bo 3 43 0] ++ sq 6 [.alloc 6 48 [.sl 0 (some true) []], mb false])) (.seq (.reg (sq 11 [la 1 3, mv 1, mv 2, .build [.sl 0 (some true) [], .sl 0 (some true) [], .sl 0 (some true) [], .sl 0 (some true) [], .sl 0 (some true) [], .sl 0 (some true) [], .sl 0 (some true) [], .sl 0 (some true) [], .sl 0 (some true) [], .sl 0 (some true) [], .sl 0 (some true) [], .sl 0 (some true) [], .sl 0 (some true) [], .sl 0 (some true) [], .sl 0 (some true) [], .sl 0 (some true) [], .sl 0 (some true) [], .sl 0 (some true) [], .sl 0 (some true) [], .sl 0 (some true) [], .sl 0 (some true) [], .sl 0 (some true) [], .sl 0 (some true) [], .sl 0 (some true) []] [], cf 158 [11, 12, 13, 14]] ++ sq 10 [mv 15] ++ sq 16 [ex 10 0, ex 10 1] ++ sq 8 [.alloc 8 204 [.sl 0 (some true) [], .sl 0 (some true) [], .sl 0 (some true) [], .sl 0 (some true) [], .sl 0 (some true) [], .sl 0 (some true) [], .sl 0 (some true) [], .sl 0 (some true) [], .sl 0 (some true) [], .sl 0 (some true) [], .sl 0 (some true) [], .sl 0 (some true) [], .sl 0 (some true) [], .sl 0 (some true) [], .sl 0 (some true) [], .sl 0 (some true) [], .sl 0 (some true) [], .sl 0 (some true) [], .sl 0 (some true) [], .sl 0 (some true) [], .sl 0 (some true) [], .sl 0 (some true) [], .sl 0 (some true) [], .sl 0 (some true) []]] ++ s0 (sr 24 8 16) ++ sq 9 [mv 17])) (.seq (.seq (.reg (sq 18 [mv 9, nt 18])) (.cond (t0 19) (.seq (.reg (sq 20 [.build [.sl 0 (some true) []] []] ++ s0 (sr 1 6 20) ++ sq 7 [mb false])) .ret) .skip)) (.seq (.reg (sq 21 [la 24 8, cf 160 [21], cf 280 [22]] ++ s0 (sr 1 6 23) ++ sq 7 [mb true])) .ret))))
theorem fn261 : t6 Tryz.prog 261 y5s 24 [.cell 6 1 true, .tmp 7] := mf Tryz.func261 Tryz.ntmps261
def h6q (sig : q7) (p : q7) (t : q7) : Option (Ty1 × Bool) :=
 (i9 sig p t (List.replicate 24 [])).bind fun r =>
 if r.1.length = 24 then
  if r.2 = true then
   if r.1.length = 24 then
    (w6 r.1).bind fun r_1 =>
    (h7q r_1).bind fun r_2 =>
    some (r_2, true)
   else none
  else
   some ([], false)
 else none
instance x3t {sig : q7} {p : q7} {t : q7} : y3 (h6q sig p t) fun rr => r9 Tryz.prog 261 [u3 sig, (z7 1 iD) p, (z7 1 iD) t] [c7 rr.1, bD rr.2] := ⟨@fun rr h => by
 delta h6q at h
 refine fn261.pureLN (q6 ?_)
 delta y5s
 refine v5 ?_
 exact aut⟩
def mc91 : j5 :=
 (.seq (.reg (sq 2 [.mv (.const (.slice none 0 0))])) (.seq (.reg (sq 3 [.bsl 3 2 1 [], mv 0, ap 5 2 1 8 3 4] ++ sq 2 [mv 5])) .ret))
theorem fn91 : t6 Tryz.prog 91 mc91 6 [.tmp 2] := mf Tryz.func91 Tryz.ntmps91
def d6 (l : q7) : Option q7 :=
 if (0 + l.length) * 8 <= 140737488355328 then
  some l
 else none
instance j9u {l : q7} : y3 (d6 l) fun rr => x6 Tryz.prog 91 [.d (z7 1 iD l)] [] 0 fun xx ss => xx = .own 1 3 (List.map iD rr) /\ ss = [(3, .tok 2 1 rr.length)] := ⟨@fun rr h => by
 delta d6 at h
 refine fn91.callsO (q6 ?_)
 delta mc91
 refine v5 ?_
 exact aut⟩
def y3v : j5 :=
 (.seq (.reg (sq 3 [bo 3 43 0] ++ sq 6 [.mv (.const (.slice none 0 0))])) (.seq (.reg (sq 7 [mv 1, mv 2, la 1 3, mv 1, mv 2, cf 187 [9, 10, 11], .slc (t0 7) 1 (some (t0 8)) (some (t0 12)) none, cf 91 [13]] ++ sq 6 [mv 14])) .ret))
theorem fn163 : t6 Tryz.prog 163 y3v 15 [.tmp 6] := mf Tryz.func163 Tryz.ntmps163
def x2q (sig : q7) (t : q7) (x7 : Int) : Option q7 :=
 (z6q sig t x7).bind fun r =>
 if 0 <= x7 /\ x7 <= r /\ r <= (t.length : Int) then
  (d6 ((t.take r.toNat).drop x7.toNat)).bind fun r_1 =>
  some r_1
 else none
instance x4h {sig : q7} {t : q7} {x7 : Int} : y3 (x2q sig t x7) fun rr => p7 Tryz.prog 163 [u3 sig, (z7 1 iD) t, iD x7] ((z7 1 iD) rr) := ⟨@fun rr h => by
 delta x2q at h
 refine fn163.pureL (q6 ?_)
 delta y3v
 refine v5 ?_
 refine rC h fun r hr h => ?_
 refine ndI h fun hp h => ?_
 refine rCo [] [(3, 14)] h fun r_1 hr_1 h => ?_
 exact aut⟩
def mc36 : j5 :=
 (.seq (.reg (sq 4 [mb false])) (.seq (.seq (.reg (sq 6 [mv 0, ln 6, mv 1, ln 8, bn .neq 7 9])) (.cond (t0 10) (.seq (.reg (sq 4 [mb false])) .ret) .skip)) (.seq (.seq (.reg (sq 5 [mi 0])) (.block 0 (.loop (.seq (.seq (.reg (sq 11 [mv 5, mv 0, ln 12, bn .lss 11 13])) (.cond (t0 14) .skip (.exit 0))) (.seq (.block 1 (.seq (.draw (sq 17 [mv 0, mv 5, ix 1 17 18, ld 19, mv 1, mv 5, ix 1 21 22, ld 23, bn .neq 20 24]) [[], [], [0, 1], [2], [], [], [4, 5], [6], [3, 7]]) (.cond (t0 25) (.seq (.reg (sq 4 [mb false])) .ret) .skip))) (.reg (sq 15 [mv 5, bi .add 15 1] ++ sq 5 [mv 16]))))))) (.seq (.reg (sq 4 [mb true])) .ret))))
theorem fn36 : t6 Tryz.prog 36 mc36 26 [.tmp 4] := mf Tryz.func36 Tryz.ntmps36
def p2q (a : q7) (b : q7) : Int -> Option (Int ⊕ Bool)
 | i =>
  if (decide (i < (a.length : Int))) = true then
   if 0 <= i /\ i < (a.length : Int) then
    if 0 <= i /\ i < (b.length : Int) then
     if ((a.getD i.toNat default) != (b.getD i.toNat default)) = true then
      Option.map Sum.inr (
       some false)
     else
      some (.inl (IntKind.i64.wrap (i + 1)))
    else none
   else none
  else
   Option.map Sum.inr (
    some true)
def d4q (a : q7) (b : q7) : Option Bool :=
 if ((a.length : Int) != (b.length : Int)) = true then
  some false
 else
  loopC (p2q a b) 0
instance j2t {a : q7} {b : q7} : y3 (d4q a b) fun rr => p7 Tryz.prog 36 [(z7 1 iD) a, (z7 1 iD) b] (bD rr) := ⟨@fun rr h => by
 delta d4q at h
 refine fn36.pureL (q6 ?_)
 delta mc36
 refine v5 ?_
 refine iF h fun hc h => ?_
 refine s9 h [4, 5, 11, 12, 13, 14, 15, 16, 17, 18, 19, 20, 21, 22, 23, 24, 25] (fun pp => [(5, .d (iD pp))]) (fun pp => []) ?_
 rintro i t1 h hb1
 unfold p2q at h
 try dsimp only at h
 refine q6 (v5 ?_)
 exact aut⟩
def y4m : j5 :=
 (.seq (.reg (sq 2 [bo 2 48 0] ++ sq 4 [.mv (.const (.slice none 0 0))])) (.seq (.seq (.reg (sq 5 [mv 1, fa 0 2, ld 6, ln 7, bn .lss 5 8, mv 9] ++ sg 10 true 11 [fa 0 2, ld 11, mv 1, ix 1 12 13, ld 14, ln 15, bi .gtr 16 0] ++ sq 18 [pa 10 17])) (.cond (t0 18) (.seq (.reg (sq 19 [fa 0 2, ld 19, mv 1, ix 1 20 21, ld 22, cf 91 [23]] ++ sq 4 [mv 24])) .ret) .skip)) (.seq (.reg (sq 25 [mv 1, .bin .sub (i0 (-1)) (t0 25), .bsl 27 2 1 [(t0 26)]] ++ sq 4 [mv 27])) .ret)))
theorem fn186 : t6 Tryz.prog 186 y4m 28 [.tmp 4] := mf Tryz.func186 Tryz.ntmps186
def w2q (s : Ty1) (i : Int) : Option q7 :=
 if (decide (i < (s.length : Int))) = true then
  if 0 <= i /\ i < (s.length : Int) then
   if (decide (0 < ((s.getD i.toNat default).length : Int))) = true then
    if 0 <= i /\ i < (s.length : Int) then
     (d6 (s.getD i.toNat default)).bind fun r =>
     some r
    else none
   else
    some [(IntKind.i64.wrap ((-1) - i))]
  else none
 else
  some [(IntKind.i64.wrap ((-1) - i))]
instance j8c {s : Ty1} {i : Int} : y3 (w2q s i) fun rr => p7 Tryz.prog 186 [c7 s, iD i] ((z7 1 iD) rr) := ⟨@fun rr h => by
 delta w2q at h
 refine fn186.pureL (q6 ?_)
 delta y4m
 refine v5 ?_
 refine iT h fun hc h => ?_
 refine ndI h fun hp h => ?_
 refine iT h fun hc h => ?_
 refine ndI h fun hp h => ?_
 refine rCo [] [(3, 24)] h fun r hr h => ?_
 exact aut⟩
def y5w : j5 :=
 (.seq (.reg (sq 1 [bo 1 48 0, .alloc 2 48 [.sl 0 (some true) []]])) (.seq (.reg (sq 6 [.build [.sl 0 (some true) []] []] ++ sq 3 [.alloc 3 48 [.sl 0 (some true) []]] ++ s0 (sr 1 3 6))) (.seq (.seq (.reg (sq 4 [mi 0])) (.block 0 (.loop (.seq (.seq (.reg (sq 7 [mv 4, fa 0 1, ld 8, ln 9, bn .lss 7 10])) (.cond (t0 11) .skip (.exit 0))) (.seq (.block 1 (.seq (.reg (sq 14 [la 1 1, mv 4, cf 186 [14, 15]] ++ sq 5 [mv 16])) (.seq (.seq (.reg (sq 17 [mv 5, ln 17, bi .eql 18 1, mv 19] ++ sg 20 true 21 [mv 5, .ixa 1 (t0 21) (i0 0), ld 22, mv 4, .bin .sub (i0 (-1)) (t0 24), bn .eql 23 25] ++ sq 27 [pa 20 26])) (.cond (t0 27) (.reg (sq 28 [.bsl 28 2 1 []] ++ sq 5 [mv 28])) .skip)) (.reg (sq 29 [fa 0 3, ld 29, mv 5, .bsl 32 22 1 [(t0 31)], ap 33 22 1 24 30 32, fa 0 3] ++ s0 (sr 1 34 33)))))) (.reg (sq 12 [mv 4, bi .add 12 1] ++ sq 4 [mv 13]))))))) (.seq (.block 2 (.loop (.seq (.seq (.reg (sq 35 [fa 0 3, ld 35, ln 36, bi .gtr 37 0, mv 38] ++ sg 39 true 40 [fa 0 3, ld 40, fa 0 3, ld 42, ln 43, bi .sub 44 1, ix 1 41 45, ld 46, ln 47, bi .eql 48 0] ++ sq 50 [pa 39 49])) (.cond (t0 50) .skip (.exit 2))) (.block 3 (.reg (sq 51 [fa 0 3, ld 51, fa 0 3, ld 53, ln 54, bi .sub 55 1, .slc (t0 52) 1 none (some (t0 56)) none, fa 0 3] ++ s0 (sr 1 58 57))))))) (.seq (.reg (sq 59 [la 1 3] ++ s0 (sr 1 2 59))) .ret)))))
theorem fn269 : t6 Tryz.prog 269 y5w 60 [.cell 2 1 true] := mf Tryz.func269 Tryz.ntmps269
def a1q  : Ty1 -> Option (Ty1 ⊕ Ty1)
 | out_1 =>
  if (decide (0 < (out_1.length : Int))) = true then
   if 0 <= (IntKind.i64.wrap ((out_1.length : Int) - 1)) /\ (IntKind.i64.wrap ((out_1.length : Int) - 1)) < (out_1.length : Int) then
    if (((out_1.getD (IntKind.i64.wrap ((out_1.length : Int) - 1)).toNat default).length : Int) == 0) = true then
     if 0 <= (IntKind.i64.wrap ((out_1.length : Int) - 1)) /\ (IntKind.i64.wrap ((out_1.length : Int) - 1)) <= (out_1.length : Int) then
      some (.inl (out_1.take (IntKind.i64.wrap ((out_1.length : Int) - 1)).toNat))
     else none
    else
     Option.map Sum.inr (
      some out_1)
   else none
  else
   Option.map Sum.inr (
    some out_1)
def a0q (s : Ty1) : (Int × Ty1) -> Option ((Int × Ty1) ⊕ Ty1)
 | (i, out) =>
  if (decide (i < (s.length : Int))) = true then
   (w2q s i).bind fun r =>
   if ((r.length : Int) == 1) = true then
    if 0 <= 0 /\ 0 < (r.length : Int) then
     if ((r.getD 0 default) == (IntKind.i64.wrap ((-1) - i))) = true then
      if (out.length + 1) * 24 <= 140737488355328 then
       some (.inl ((IntKind.i64.wrap (i + 1)), (out ++ [[]])))
      else none
     else
      if (out.length + 1) * 24 <= 140737488355328 then
       some (.inl ((IntKind.i64.wrap (i + 1)), (out ++ [r])))
      else none
    else none
   else
    if (out.length + 1) * 24 <= 140737488355328 then
     some (.inl ((IntKind.i64.wrap (i + 1)), (out ++ [r])))
    else none
  else
   Option.map Sum.inr (
    loopC (a1q) out)
def o2q (s : Ty1) : Option Ty1 :=
 loopC (a0q s) (0, [])
instance j8d {s : Ty1} : y3 (o2q s) fun rr => p7 Tryz.prog 269 [c7 s] (c7 rr) := ⟨@fun rr h => by
 delta o2q at h
 refine fn269.pureL (q6 ?_)
 delta y5w
 refine v5 ?_
 refine w5q h [4, 5, 7, 8, 9, 10, 11, 12, 13, 14, 15, 16, 17, 18, 19, 20, 21, 22, 23, 24, 25, 26, 27, 28, 29, 30, 31, 32, 33, 34] (fun pp => [(4, .d (iD pp.1))]) (fun pp => [(1, .obj 48 [.d (z7 1 (z7 1 iD) s)]), (2, .obj 48 [.d (.sl 0 (some true) [])]), (3, .obj 48 [.own 1 33 (List.map (z7 1 iD) pp.2)]), (33, .tok 22 1 pp.2.length)]) ?_ ?_
 ·try dsimp only
  refine (y0.thawCell 3 0 33 22 1 rfl rfl rfl).trans ?_
  exact wk
 rintro ⟨i, out⟩ t1 h hb1
 unfold a0q at h
 try dsimp only at h
 refine q6 (v5 ?_)
 refine it h (fun hc h => ?_) fun hc h => ?_
 ·refine rC h fun r hr h => ?_
  refine it h (fun hc h => ?_) fun hc h => ?_
  ·refine ndI h fun hp h => ?_
   refine it h (fun hc h => ?_) fun hc h => ?_
   ·refine ndI h fun hp h => ?_
    cases h
    refine ⟨_, rfl, ?_⟩
    refine (y0.drop 28 (by omega)).trans ?_
    refine (y0.drop 32 (by omega)).trans ?_
    exact wk
   refine ndI h fun hp h => ?_
   cases h
   refine ⟨_, rfl, ?_⟩
   refine (y0.drop 32 (by omega)).trans ?_
   exact wk
  refine ndI h fun hp h => ?_
  cases h
  refine ⟨_, rfl, ?_⟩
  refine (y0.drop 32 (by omega)).trans ?_
  exact wk
 replace h := u9 h hb1
 refine w5q h [35, 36, 37, 38, 39, 40, 41, 42, 43, 44, 45, 46, 47, 48, 49, 50, 51, 52, 53, 54, 55, 56, 57, 58] (fun pp => []) (fun pp => [(1, .obj 48 [.d (z7 1 (z7 1 iD) s)]), (2, .obj 48 [.d (.sl 0 (some true) [])]), (3, .obj 48 [.d (z7 1 (z7 1 iD) pp)])]) ?_ ?_
 ·try dsimp only
  refine (y0.drop 33 (by omega)).trans ?_
  exact wk
 rintro out_1 t1 h hb1
 unfold a1q at h
 try dsimp only at h
 refine q6 (v5 ?_)
 exact aut⟩
def y5j : j5 :=
 (.seq (.reg (sq 3 [bo 3 43 0] ++ sq 6 [.alloc 6 48 [.sl 0 (some true) []], mb false])) (.seq (.reg (sq 13 [.mksl 13 22 1 24 [.sl 0 (some true) []] false (i0 24) (i0 24), .build [.sl 0 (some true) []] [(0, 1, (t0 13))]] ++ sq 8 [.alloc 8 48 [.sl 0 (some true) []]] ++ s0 (sr 1 8 14))) (.seq (.reg (sq 9 [mi 0])) (.seq (.seq (.reg (sq 10 [mi 0])) (.block 0 (.loop (.seq (.seq (.reg (sq 15 [mv 10, mv 1, ln 16, bn .lss 15 17])) (.cond (t0 18) .skip (.exit 0))) (.seq (.block 1 (.seq (.seq (.reg (sq 21 [mv 9, mv 2, ln 22, bn .geq 21 23])) (.cond (t0 24) (.seq (.reg (sq 25 [.build [.sl 0 (some true) []] []] ++ s0 (sr 1 6 25) ++ sq 7 [mb false])) .ret) .skip)) (.seq (.seq (.reg (sq 26 [mv 1, mv 10, ix 1 26 27, ld 28, bi .geq 29 0])) (.cond (t0 30) (.seq (.seq (.draw (sq 31 [mv 1, mv 10, ix 1 31 32, ld 33, mv 2, mv 9, ix 1 35 36, ld 37, bn .neq 34 38]) [[], [], [0, 1], [2], [], [], [4, 5], [6], [3, 7]]) (.cond (t0 39) (.seq (.reg (sq 40 [.build [.sl 0 (some true) []] []] ++ s0 (sr 1 6 40) ++ sq 7 [mb false])) .ret) .skip)) (.seq (.reg (sq 41 [mv 9, bi .add 41 1] ++ sq 9 [mv 42])) (.exit 1))) .skip)) (.seq (.reg (sq 43 [la 1 3, mv 2, mv 9, cf 163 [43, 44, 45]] ++ sq 11 [mv 46])) (.seq (.draw (sq 47 [fa 0 8, ld 47, mv 1, mv 10, ix 1 49 50, ld 51, .bin .sub (i0 (-1)) (t0 52), ix 1 48 53, ld 54] ++ sq 12 [mv 55]) [[], [0], [], [], [2, 3], [4], [5], [1, 6], [7], [8, 0, 1, 2, 3, 4, 5, 6, 7, 8]]) (.seq (.seq (.reg (sq 56 [mv 12, ln 56, bi .gtr 57 0, mv 58] ++ sg 59 true 60 [mv 12, mv 11, cf 36 [60, 61], nt 62] ++ sq 64 [pa 59 63])) (.cond (t0 64) (.seq (.reg (sq 65 [.build [.sl 0 (some true) []] []] ++ s0 (sr 1 6 65) ++ sq 7 [mb false])) .ret) .skip)) (.seq (.draw (sq 66 [fa 0 8, ld 66, mv 1, mv 10, ix 1 68 69, ld 70, .bin .sub (i0 (-1)) (t0 71), mv 11, ix 1 67 72] ++ s0 (sr 1 74 73)) [[], [0], [], [], [2, 3], [4], [5], [], [1, 6, 0, 1, 2, 3, 4, 5, 6, 7], [8, 7, 0, 1, 2, 3, 4, 5, 6, 7]]) (.reg (sq 75 [mv 9, mv 11, ln 76, bn .add 75 77] ++ sq 9 [mv 78]))))))))) (.reg (sq 19 [mv 10, bi .add 19 1] ++ sq 10 [mv 20]))))))) (.seq (.reg (sq 79 [la 1 8, cf 269 [79]] ++ s0 (sr 1 6 80) ++ sq 7 [mb true])) .ret)))))
theorem fn236 : t6 Tryz.prog 236 y5j 81 [.cell 6 1 true, .tmp 7] := mf Tryz.func236 Tryz.ntmps236
def a2q (sig : q7) (p : q7) (t : q7) : (Int × Int × Ty1) -> Option ((Int × Int × Ty1) ⊕ (Ty1 × Bool))
 | (k, i, l13) =>
  if (decide (i < (p.length : Int))) = true then
   if (decide ((t.length : Int) <= k)) = true then
    Option.map Sum.inr (
     some ([], false))
   else
    if 0 <= i /\ i < (p.length : Int) then
     if (decide (0 <= (p.getD i.toNat default))) = true then
      if 0 <= i /\ i < (p.length : Int) then
       if 0 <= k /\ k < (t.length : Int) then
        if ((p.getD i.toNat default) != (t.getD k.toNat default)) = true then
         Option.map Sum.inr (
          some ([], false))
        else
         some (.inl ((IntKind.i64.wrap (k + 1)), (IntKind.i64.wrap (i + 1)), l13))
       else none
      else none
     else
      (x2q sig t k).bind fun r =>
      if 0 <= i /\ i < (p.length : Int) then
       if 0 <= (IntKind.i64.wrap ((-1) - (p.getD i.toNat default))) /\ (IntKind.i64.wrap ((-1) - (p.getD i.toNat default))) < (24 : Int) /\ (IntKind.i64.wrap ((-1) - (p.getD i.toNat default))) < (l13.length : Int) then
        if (decide (0 < ((l13.getD (IntKind.i64.wrap ((-1) - (p.getD i.toNat default))).toNat default).length : Int))) = true then
         (d4q (l13.getD (IntKind.i64.wrap ((-1) - (p.getD i.toNat default))).toNat default) r).bind fun r_1 =>
         if r_1 = true then
          if 0 <= i /\ i < (p.length : Int) then
           if 0 <= (IntKind.i64.wrap ((-1) - (p.getD i.toNat default))) /\ (IntKind.i64.wrap ((-1) - (p.getD i.toNat default))) < (24 : Int) /\ (IntKind.i64.wrap ((-1) - (p.getD i.toNat default))) < (l13.length : Int) then
            some (.inl ((IntKind.i64.wrap (k + (r.length : Int))), (IntKind.i64.wrap (i + 1)), (l13.set (IntKind.i64.wrap ((-1) - (p.getD i.toNat default))).toNat r)))
           else none
          else none
         else
          Option.map Sum.inr (
           some ([], false))
        else
         if 0 <= i /\ i < (p.length : Int) then
          if 0 <= (IntKind.i64.wrap ((-1) - (p.getD i.toNat default))) /\ (IntKind.i64.wrap ((-1) - (p.getD i.toNat default))) < (24 : Int) /\ (IntKind.i64.wrap ((-1) - (p.getD i.toNat default))) < (l13.length : Int) then
           some (.inl ((IntKind.i64.wrap (k + (r.length : Int))), (IntKind.i64.wrap (i + 1)), (l13.set (IntKind.i64.wrap ((-1) - (p.getD i.toNat default))).toNat r)))
          else none
         else none
       else none
      else none
    else none
  else
   Option.map Sum.inr (
    if l13.length = 24 then
     (o2q l13).bind fun r_2 =>
     some (r_2, true)
    else none)
def o3q (sig : q7) (p : q7) (t : q7) : Option (Ty1 × Bool) :=
 loopC (a2q sig p t) (0, 0, (List.replicate 24 []))
instance j8e {sig : q7} {p : q7} {t : q7} : y3 (o3q sig p t) fun rr => r9 Tryz.prog 236 [u3 sig, (z7 1 iD) p, (z7 1 iD) t] [c7 rr.1, bD rr.2] := ⟨@fun rr h => by
 delta o3q at h
 refine fn236.pureLN (q6 ?_)
 delta y5j
 refine v5 ?_
 refine nds ?_
 refine s9 h [7, 9, 10, 11, 12, 15, 16, 17, 18, 19, 20, 21, 22, 23, 24, 25, 26, 27, 28, 29, 30, 31, 32, 33, 34, 35, 36, 37, 38, 39, 40, 41, 42, 43, 44, 45, 46, 47, 48, 49, 50, 51, 52, 53, 54, 55, 56, 57, 58, 59, 60, 61, 62, 63, 64, 65, 66, 67, 68, 69, 70, 71, 72, 73, 74, 75, 76, 77, 78] (fun pp => [(9, .d (iD pp.1)), (10, .d (iD pp.2.1))]) (fun pp => [(3, .obj 43 [.d (z7 1 iD sig)]), (6, .obj 48 [.d (.sl 0 (some true) [])]), (8, .obj 48 [.msl 1 13 0 24]), (13, .obj 22 (List.map (aD (z7 1 iD)) pp.2.2))]) ?_
 rintro ⟨k, i, l13⟩ t1 h hb1
 unfold a2q at h
 try dsimp only at h
 refine q6 (v5 ?_)
 refine iF h fun hc h => ?_
 replace h := u9 h hb1
 refine ndI h fun hp h => ?_
 refine k8u 13 (z7 1 iD) l13 (by omega) rfl (fun _ => rfl) (v5 ?_)
 refine rC h fun r_2 hr_2 h => ?_
 exact aut⟩
def y4s : j5 :=
 (.seq (.reg (sq 1 [bo 1 48 0, .mv (.const .nilFunc)])) (.seq (.reg (sq 3 [.mkfn 242 [] [(t0 1)]] ++ sq 2 [mv 3])) .ret))
theorem fn192 : t6 Tryz.prog 192 y4s 4 [.tmp 2] := mf Tryz.func192 Tryz.ntmps192
def m5q (s : Ty1) : Option Ty1 :=
 some s
instance z4g {s : Ty1} : y3 (m5q s) fun rr => x6 Tryz.prog 192 [.d (.agg [z7 1 (z7 1 iD) s])] [] 0 fun xx ss => xx = .fn 242 [] [.ptr 1 0] /\ ss = [(1, .obj 48 [.d (z7 1 (z7 1 iD) rr)])] := ⟨@fun rr h => by
 delta m5q at h
 refine fn192.callsO (q6 ?_)
 delta y4s
 refine v5 ?_
 exact aut⟩
def y4t : j5 :=
 (.seq (.reg (sq 2 [bo 2 48 0] ++ sq 4 [.mv (.const (.slice none 0 0))])) (.seq (.seq (.reg (sq 5 [mv 1, fa 0 2, ld 6, ln 7, bn .geq 5 8, mv 9] ++ sg 10 false 11 [fa 0 2, ld 11, mv 1, ix 1 12 13, ld 14, ln 15, bi .eql 16 0] ++ sq 18 [po 10 17])) (.cond (t0 18) (.seq (.reg (sq 4 [.mv (.const (.slice none 0 0))])) .ret) .skip)) (.seq (.reg (sq 19 [fa 0 2, ld 19, mv 1, ix 1 20 21, ld 22] ++ sq 4 [mv 23])) .ret)))
theorem fn193 : t6 Tryz.prog 193 y4t 24 [.tmp 4] := mf Tryz.func193 Tryz.ntmps193
def x4q (s : Ty1) (i : Int) : Option q7 :=
 if (decide ((s.length : Int) <= i)) = true then
  some []
 else
  if 0 <= i /\ i < (s.length : Int) then
   if (((s.getD i.toNat default).length : Int) == 0) = true then
    some []
   else
    if 0 <= i /\ i < (s.length : Int) then
     if 0 < (s.getD i.toNat default).length then
      some (s.getD i.toNat default)
     else none
    else none
  else none
instance z6f {s : Ty1} {i : Int} : y3 (x4q s i) fun rr => p7 Tryz.prog 193 [c7 s, iD i] ((nzD 1 iD) rr) := ⟨@fun rr h => by
 delta x4q at h
 refine fn193.pureL (q6 ?_)
 delta y4t
 refine v5 ?_
 refine iF h fun hc h => ?_
 refine ndI h fun hp h => ?_
 refine iF h fun hc h => ?_
 refine ndI h fun hp h => ?_
 refine ndI h fun hp h => ?_
 cases h
 exact (j4w (by omega)).2 trivial⟩
def y5o : j5 :=
 (.seq (.reg (sq 3 [.mv (.const (.slice none 0 0))])) (.seq (.seq (.reg (sq 4 [mv 0, bi .geq 4 0])) (.cond (t0 5) (.seq (.reg (sq 3 [.mv (.const (.slice none 0 0))])) .ret) .skip)) (.seq (.reg (sq 6 [la 1 1, mv 0, .bin .sub (i0 (-1)) (t0 7), cf 193 [6, 8]] ++ sq 3 [mv 9])) .ret)))
theorem fn242 : t6 Tryz.prog 242 y5o 10 [.tmp 3] := mf Tryz.func242 Tryz.ntmps242
def g7q (n : Int) (o0 : Ty1) : Option q7 :=
 if (decide (0 <= n)) = true then
  some []
 else
  (x4q o0 (IntKind.i64.wrap ((-1) - n))).bind fun r =>
  some r
instance z1h {n : Int} {o0 : Ty1} : y3 (g7q n o0) fun rr => x6 Tryz.prog 242 [.d (iD n), .ptr 0 0] [(0, .obj 48 [.d (z7 1 (z7 1 iD) o0)])] 1 fun xx ss => xx = .d (nzD 1 iD rr) /\ ss = [(0, .obj 48 [.d (z7 1 (z7 1 iD) o0)])] := ⟨@fun rr h => by
 delta g7q at h
 refine fn242.callsO (q6 ?_)
 delta y5o
 refine v5 ?_
 exact aut⟩
def y3j : j5 :=
 (.seq (.reg (sq 2 [bo 2 48 0] ++ sq 4 [.mv (.const (.slice none 0 0)), mb false])) (.seq (.reg (sq 11 [la 1 2, cf 192 [11]] ++ sq 6 [mv 12])) (.seq (.reg (sq 13 [mv 1, ln 13, .mksl 15 2 1 8 [.lit (.int .i64 0)] true (i0 0) (t0 14)] ++ sq 7 [mv 15])) (.seq (.seq (.reg (sq 16 [mv 1, ln 16, mi 0])) (.block 0 (.loop (.seq (.reg (sq 19 [bn .lss 18 17])) (.seq (.cond (t0 19) .skip (.exit 0)) (.seq (.block 1 (.seq (.reg (sq 20 [ix 1 16 18, ld 20] ++ sq 9 [mv 21])) (.seq (.seq (.reg (sq 22 [mv 6, mv 9, .callv (t0 22) [(t0 23)]] ++ sq 10 [mv 24])) (.seq (.reg (sq 25 [mv 10, .eqnil false (t0 25)])) (.cond (t0 26) (.reg (sq 27 [mv 7, mv 9, .bsl 29 2 1 [(t0 28)], ap 30 2 1 8 27 29] ++ sq 7 [mv 30])) (.reg (sq 31 [mv 7, mv 10, ap 33 2 1 8 31 32] ++ sq 7 [mv 33]))))) (.seq (.reg (sq 34 [mv 7, ln 34, bi .gtr 35 60])) (.cond (t0 36) (.seq (.reg (sq 4 [.mv (.const (.slice none 0 0)), mb false])) .ret) .skip))))) (.reg (sq 37 [bi .add 18 1] ++ sq 18 [mv 37])))))))) (.seq (.reg (sq 38 [mv 7] ++ sq 4 [mv 38, mb true])) .ret)))))
theorem fn125 : t6 Tryz.prog 125 y3j 39 [.tmp 4, .tmp 5] := mf Tryz.func125 Tryz.ntmps125
def q3j (t : q7) (r : Ty1) : (q7 × Int) -> Option ((q7 × Int) ⊕ (q7 × Bool))
 | (out, v18) =>
  if (decide (v18 < (t.length : Int))) = true then
   if 0 <= v18 /\ v18 < (t.length : Int) then
    (g7q (t.getD v18.toNat default) r).bind fun r_1 =>
    if r_1.isEmpty = true then
     if (out.length + 1) * 8 <= 140737488355328 then
      if (decide (60 < ((out ++ [(t.getD v18.toNat default)]).length : Int))) = true then
       Option.map Sum.inr (
        some ([], false))
      else
       some (.inl ((out ++ [(t.getD v18.toNat default)]), (IntKind.i64.wrap (v18 + 1))))
     else none
    else
     if (out.length + r_1.length) * 8 <= 140737488355328 then
      if (decide (60 < ((out ++ r_1).length : Int))) = true then
       Option.map Sum.inr (
        some ([], false))
      else
       some (.inl ((out ++ r_1), (IntKind.i64.wrap (v18 + 1))))
     else none
   else none
  else
   Option.map Sum.inr (
    some (out, true))
def k5q (s : Ty1) (t : q7) : Option (q7 × Bool) :=
 (m5q s).bind fun r =>
 if 0 <= (t.length : Int) /\ 8 * (t.length : Int) <= 281474976710656 then
  loopC (q3j t r) ([], 0)
 else none
instance x6r {s : Ty1} {t : q7} : y3 (k5q s t) fun rr => r9 Tryz.prog 125 [c7 s, (z7 1 iD) t] [(z7 1 iD) rr.1, bD rr.2] := ⟨@fun rr h => by
 delta k5q at h
 refine fn125.pureLN (q6 ?_)
 delta y3j
 refine v5 ?_
 refine rCo [] [(1, 12)] h fun r hr h => ?_
 refine ndI h fun hp h => ?_
 refine s9 h [4, 5, 7, 9, 10, 18, 19, 20, 21, 22, 23, 24, 25, 26, 27, 28, 29, 30, 31, 32, 33, 34, 35, 36, 37] (fun pp => [(7, .own 1 15 (List.map iD pp.1)), (18, .d (iD pp.2))]) (fun pp => [(2, .obj 48 [.d (z7 1 (z7 1 iD) s)]), (12, .obj 48 [.d (z7 1 (z7 1 iD) r)]), (15, .tok 2 1 pp.1.length)]) ?_
 rintro ⟨out, v18⟩ t1 h hb1
 unfold q3j at h
 try dsimp only at h
 refine q6 (v5 ?_)
 refine iT h fun hc h => ?_
 refine ndI h fun hp h => ?_
 refine z7m (by kernel_rfl) ?_
 refine rCo [(0, 12)] [] h fun r_1 hr_1 h => ?_
 refine iT h fun hc h => ?_
 refine ndI h fun hp h => ?_
 refine iF h fun hc h => ?_
 cases h
 refine ⟨_, rfl, ?_⟩
 refine (y0.drop 29 (by omega)).trans ?_
 exact wk⟩
def y3d : j5 :=
 (.seq (.reg (sq 2 [bo 2 48 0] ++ sq 4 [.mv (.const (.slice none 0 0)), mb false])) (.seq (.reg (sq 8 [.bsl 8 2 1 []] ++ sq 6 [mv 8])) (.seq (.seq (.reg (sq 7 [mi 0])) (.block 0 (.loop (.seq (.seq (.reg (sq 9 [mv 7, mv 1, ln 10, bn .lss 9 11])) (.cond (t0 12) .skip (.exit 0))) (.seq (.block 1 (.seq (.seq (.reg (sq 15 [mv 1, mv 7, ix 1 15 16, ld 17, bi .lss 18 0])) (.cond (t0 19) (.draw (sq 20 [mv 6, la 1 2, mv 1, mv 7, ix 1 22 23, ld 24, .bin .sub (i0 (-1)) (t0 25), cf 186 [21, 26], ap 28 2 1 8 20 27] ++ sq 6 [mv 28]) [[], [], [], [], [2, 3], [4], [5], [1, 6], [0, 7, 7], [8, 8, 0, 1, 2, 3, 4, 5, 6, 7, 8]]) (.reg (sq 29 [mv 6, mv 1, mv 7, ix 1 30 31, ld 32, .bsl 34 2 1 [(t0 33)], ap 35 2 1 8 29 34] ++ sq 6 [mv 35])))) (.seq (.reg (sq 36 [mv 6, ln 36, bi .gtr 37 60])) (.cond (t0 38) (.seq (.reg (sq 39 [.bsl 39 2 1 []] ++ sq 4 [mv 39, mb false])) .ret) .skip)))) (.reg (sq 13 [mv 7, bi .add 13 1] ++ sq 7 [mv 14]))))))) (.seq (.reg (sq 40 [mv 6] ++ sq 4 [mv 40, mb true])) .ret))))
theorem fn113 : t6 Tryz.prog 113 y3d 41 [.tmp 4, .tmp 5] := mf Tryz.func113 Tryz.ntmps113
def s4q (s : Ty1) (t : q7) : (q7 × Int) -> Option ((q7 × Int) ⊕ (q7 × Bool))
 | (out, i) =>
  if (decide (i < (t.length : Int))) = true then
   if 0 <= i /\ i < (t.length : Int) then
    if (decide ((t.getD i.toNat default) < 0)) = true then
     if 0 <= i /\ i < (t.length : Int) then
      (w2q s (IntKind.i64.wrap ((-1) - (t.getD i.toNat default)))).bind fun r =>
      if (out.length + r.length) * 8 <= 140737488355328 then
       if (decide (60 < ((out ++ r).length : Int))) = true then
        Option.map Sum.inr (
         some ([], false))
       else
        some (.inl ((out ++ r), (IntKind.i64.wrap (i + 1))))
      else none
     else none
    else
     if 0 <= i /\ i < (t.length : Int) then
      if (out.length + 1) * 8 <= 140737488355328 then
       if (decide (60 < ((out ++ [(t.getD i.toNat default)]).length : Int))) = true then
        Option.map Sum.inr (
         some ([], false))
       else
        some (.inl ((out ++ [(t.getD i.toNat default)]), (IntKind.i64.wrap (i + 1))))
      else none
     else none
   else none
  else
   Option.map Sum.inr (
    some (out, true))
def e8 (s : Ty1) (t : q7) : Option (q7 × Bool) :=
 loopC (s4q s t) ([], 0)
instance j2z {s : Ty1} {t : q7} : y3 (e8 s t) fun rr => r9 Tryz.prog 113 [c7 s, (z7 1 iD) t] [(z7 1 iD) rr.1, bD rr.2] := ⟨@fun rr h => by
 delta e8 at h
 refine fn113.pureLN (q6 ?_)
 delta y3d
 refine v5 ?_
 refine s9 h [4, 5, 6, 7, 9, 10, 11, 12, 13, 14, 15, 16, 17, 18, 19, 20, 21, 22, 23, 24, 25, 26, 27, 28, 29, 30, 31, 32, 33, 34, 35, 36, 37, 38, 39] (fun pp => [(6, .own 1 8 (List.map iD pp.1)), (7, .d (iD pp.2))]) (fun pp => [(2, .obj 48 [.d (z7 1 (z7 1 iD) s)]), (8, .tok 2 1 pp.1.length)]) ?_
 rintro ⟨out, i⟩ t1 h hb1
 unfold s4q at h
 try dsimp only at h
 refine q6 (v5 ?_)
 refine iT h fun hc h => ?_
 refine ndI h fun hp h => ?_
 refine iF h fun hc h => ?_
 refine ndI h fun hp h => ?_
 refine ndI h fun hp h => ?_
 refine iF h fun hc h => ?_
 cases h
 refine ⟨_, rfl, ?_⟩
 refine (y0.drop 34 (by omega)).trans ?_
 exact wk⟩
end Go.Proofs.YtklfjpilhbkekaaGreat
