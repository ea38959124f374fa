/- The law FnExactCWalkOf of the program and the equation that it computes: copies, marks, what is lent; nothing is assumed. -/
import Derived.Test.YtklfjpilhbkekaaGreatZf
import Derived.Test.YtklfjpilhbkekaaGreatZd
import Derived.Test.YtklfjpilhbkekaaGreatZg
import Derived.Test.YtklfjpilhbkekaaGreatZe
import Derived.Test.YtklfjpilhbkekaaGreatZj
set_option linter.all false
noncomputable section
namespace Go.Proofs.YtklfjpilhbkekaaGreat
open Go Abx
attribute [local irreducible] vcm vgo vdr q3o q0n MWp p5q BrC BrO BrG BrD BrH z0s a3q q3y drQ w8 e2q
set_option maxHeartbeats 4000000
def i8q (x : Ty4) : D := .agg [iD x.1, iD x.2.1, (z7 1 iD) x.2.2]
def k4c (x : Ty7) : D := .agg [(z7 1 iD) x.1, (z7 3 i8q) x.2]
def k2j (x : Ty1) : D := .agg [(z7 1 (z7 1 iD)) x]
def q7z (x : (q7 × Ty5 × Int × Ty1)) : D := .agg [(z7 1 iD) x.1, (z7 3 i8q) x.2.1, iD x.2.2.1, (z7 1 (z7 1 iD)) x.2.2.2]
instance : Cel i8q 3 := ⟨fun _ => rfl⟩
instance : Cel k4c 2 := ⟨fun _ => rfl⟩
instance : Cel k2j 1 := ⟨fun _ => rfl⟩
instance : Cel q7z 4 := ⟨fun _ => rfl⟩
attribute [go_sem] i8q k4c k2j q7z
def y4l : j5 :=
 (.seq (.reg (sq 2 [bo 2 234 0] ++ sq 4 [mi 0])) (.seq (.reg (sq 5 [fa 2 2, ld 5, mv 1, cf 105 [6, 7]] ++ sq 1 [mv 8])) (.seq (.seq (.reg (sq 9 [mv 1, bi .lss 9 0])) (.cond (t0 10) (.seq (.reg (sq 4 [mi (-1)])) .ret) .skip)) (.seq (.reg (sq 11 [mv 1] ++ sq 4 [mv 11])) .ret))))
theorem fn185 : t6 Tryz.prog 185 y4l 12 [.tmp 4] := mf Tryz.func185 Tryz.ntmps185
def q4p (a : Ty4) (left : Int) : Option Int :=
 (k2q a.2.2 left).bind fun r =>
 if (decide (r < 0)) = true then
  some (-1)
 else
  some r
instance j9o {a : Ty4} {left : Int} : y3 (q4p a left) fun rr => p7 Tryz.prog 185 [i8q a, iD left] (iD rr) := ⟨@fun rr h => by
 delta q4p at h
 refine fn185.pureL (q6 ?_)
 delta y4l
 refine v5 ?_
 exact aut⟩
def y3b : j5 :=
 (.seq (.reg (sq 4 [mi 0])) (.seq (.reg (sq 6 [mv 1, mv 0, ln 7, bn .sub 6 8] ++ sq 1 [mv 9])) (.seq (.seq (.reg (sq 10 [mv 1, bi .lss 10 0])) (.cond (t0 11) (.seq (.reg (sq 4 [mi (-1)])) .ret) .skip)) (.seq (.seq (.reg (sq 5 [mi 0])) (.block 0 (.loop (.seq (.seq (.reg (sq 12 [mv 5, mv 0, ln 13, bn .lss 12 14])) (.cond (t0 15) .skip (.exit 0))) (.seq (.block 1 (.seq (.reg (sq 18 [mv 0, mv 5, ix 3 18 19, la 3 20, mv 1, cf 185 [21, 22]] ++ sq 1 [mv 23])) (.seq (.reg (sq 24 [mv 1, bi .lss 24 0])) (.cond (t0 25) (.seq (.reg (sq 4 [mi (-1)])) .ret) .skip)))) (.reg (sq 16 [mv 5, bi .add 16 1] ++ sq 5 [mv 17]))))))) (.seq (.reg (sq 26 [mv 1] ++ sq 4 [mv 26])) .ret)))))
theorem fn107 : t6 Tryz.prog 107 y3b 27 [.tmp 4] := mf Tryz.func107 Tryz.ntmps107
def q3r (a : Ty5) : (Int × Int) -> Option ((Int × Int) ⊕ Int)
 | (left_1, i) =>
  if (decide (i < (a.length : Int))) = true then
   if 0 <= i /\ i < (a.length : Int) then
    (q4p ((a.getD i.toNat default).1, (a.getD i.toNat default).2.1, (a.getD i.toNat default).2.2) left_1).bind fun r =>
    if (decide (r < 0)) = true then
     Option.map Sum.inr (
      some (-1))
    else
     some (.inl (r, (IntKind.i64.wrap (i + 1))))
   else none
  else
   Option.map Sum.inr (
    some left_1)
def q7n (a : Ty5) (left : Int) : Option Int :=
 if (decide ((IntKind.i64.wrap (left - (a.length : Int))) < 0)) = true then
  some (-1)
 else
  loopC (q3r a) ((IntKind.i64.wrap (left - (a.length : Int))), 0)
instance j7r {a : Ty5} {left : Int} : y3 (q7n a left) fun rr => p7 Tryz.prog 107 [(z7 3 i8q) a, iD left] (iD rr) := ⟨@fun rr h => by
 delta q7n at h
 refine fn107.pureL (q6 ?_)
 delta y3b
 refine v5 ?_
 refine iF h fun hc h => ?_
 refine s9 h [1, 4, 5, 12, 13, 14, 15, 16, 17, 18, 19, 20, 21, 22, 23, 24, 25] (fun pp => [(1, .d (iD pp.1)), (5, .d (iD pp.2))]) (fun pp => []) ?_
 rintro ⟨left_1, i⟩ t1 h hb1
 unfold q3r at h
 try dsimp only at h
 refine q6 (v5 ?_)
 exact aut⟩
def y3n : j5 :=
 (.seq (.reg (sq 2 [bo 2 151 0, bo 3 151 1, mb false])) (.seq (.seq (.reg (sq 5 [fa 0 2, ld 5, fa 0 3, ld 7, bn .neq 6 8])) (.cond (t0 9) (.seq (.reg (sq 4 [mb false])) .ret) .skip)) (.seq (.seq (.reg (sq 10 [fa 1 2, ld 10, fa 1 3, ld 12, bn .neq 11 13])) (.cond (t0 14) (.seq (.reg (sq 4 [mb false])) .ret) .skip)) (.seq (.seq (.reg (sq 15 [fa 2 2, ld 15, fa 2 3, ld 17, cf 24 [16, 18], nt 19])) (.cond (t0 20) (.seq (.reg (sq 4 [mb false])) .ret) .skip)) (.seq (.reg (sq 4 [mb true])) .ret)))))
theorem fn129 : t6 Tryz.prog 129 y3n 21 [.tmp 4] := mf Tryz.func129 Tryz.ntmps129
def q1e (a : Ty4) (b : Ty4) : Option Bool :=
 if (a.1 != b.1) = true then
  some false
 else
  if (a.2.1 != b.2.1) = true then
   some false
  else
   (i6 a.2.2 b.2.2).bind fun r =>
   if r = true then
    some true
   else
    some false
instance j9n {a : Ty4} {b : Ty4} : y3 (q1e a b) fun rr => p7 Tryz.prog 129 [z5 a, z5 b] (bD rr) := ⟨@fun rr h => by
 delta q1e at h
 refine fn129.pureL (q6 ?_)
 delta y3n
 refine v5 ?_
 exact aut⟩
def mc63 : j5 :=
 (.seq (.reg (sq 4 [mb false])) (.seq (.seq (.reg (sq 6 [mv 0, ln 6, mv 1, ln 8, bn .neq 7 9])) (.cond (t0 10) (.seq (.reg (sq 4 [mb false])) .ret) .skip)) (.seq (.seq (.reg (sq 5 [mi 0])) (.block 0 (.loop (.seq (.seq (.reg (sq 11 [mv 5, mv 0, ln 12, bn .lss 11 13])) (.cond (t0 14) .skip (.exit 0))) (.seq (.block 1 (.seq (.draw (sq 17 [mv 0, mv 5, ix 3 17 18, la 3 19, mv 1, mv 5, ix 3 21 22, la 3 23, cf 129 [20, 24], nt 25]) [[], [], [0, 1], [2], [], [], [4, 5], [6], [3, 7], [8]]) (.cond (t0 26) (.seq (.reg (sq 4 [mb false])) .ret) .skip))) (.reg (sq 15 [mv 5, bi .add 15 1] ++ sq 5 [mv 16]))))))) (.seq (.reg (sq 4 [mb true])) .ret))))
theorem fn63 : t6 Tryz.prog 63 mc63 27 [.tmp 4] := mf Tryz.func63 Tryz.ntmps63
def n8q (a : Ty5) (b : Ty5) : Int -> Option (Int ⊕ Bool)
 | i =>
  if (decide (i < (a.length : Int))) = true then
   if 0 <= i /\ i < (a.length : Int) then
    if 0 <= i /\ i < (b.length : Int) then
     (q1e ((a.getD i.toNat default).1, (a.getD i.toNat default).2.1, (a.getD i.toNat default).2.2) ((b.getD i.toNat default).1, (b.getD i.toNat default).2.1, (b.getD i.toNat default).2.2)).bind fun r =>
     if r = true then
      some (.inl (IntKind.i64.wrap (i + 1)))
     else
      Option.map Sum.inr (
       some false)
    else none
   else none
  else
   Option.map Sum.inr (
    some true)
def c7q (a : Ty5) (b : Ty5) : Option Bool :=
 if ((a.length : Int) != (b.length : Int)) = true then
  some false
 else
  loopC (n8q a b) 0
instance j7o {a : Ty5} {b : Ty5} : y3 (c7q a b) fun rr => p7 Tryz.prog 63 [(z7 3 z5) a, (z7 3 z5) b] (bD rr) := ⟨@fun rr h => by
 delta c7q at h
 refine fn63.pureL (q6 ?_)
 delta mc63
 refine v5 ?_
 refine iF h fun hc h => ?_
 refine s9 h [4, 5, 11, 12, 13, 14, 15, 16, 17, 18, 19, 20, 21, 22, 23, 24, 25, 26] (fun pp => [(5, .d (iD pp))]) (fun pp => []) ?_
 rintro i t1 h hb1
 unfold n8q at h
 try dsimp only at h
 refine q6 (v5 ?_)
 exact aut⟩
def mc13 : j5 :=
 (.seq (.reg (sq 2 [bo 2 40 0, bo 3 40 1, mb false])) (.seq (.seq (.reg (sq 5 [fa 0 2, ld 5, fa 0 3, ld 7, cf 24 [6, 8], nt 9])) (.cond (t0 10) (.seq (.reg (sq 4 [mb false])) .ret) .skip)) (.seq (.seq (.reg (sq 11 [fa 1 2, ld 11, fa 1 3, ld 13, cf 63 [12, 14], nt 15])) (.cond (t0 16) (.seq (.reg (sq 4 [mb false])) .ret) .skip)) (.seq (.reg (sq 4 [mb true])) .ret))))
theorem fn13 : t6 Tryz.prog 13 mc13 17 [.tmp 4] := mf Tryz.func13 Tryz.ntmps13
def t6q (a : Ty7) (b : Ty7) : Option Bool :=
 (i6 a.1 b.1).bind fun r =>
 if r = true then
  (c7q a.2 b.2).bind fun r_1 =>
  if r_1 = true then
   some true
  else
   some false
 else
  some false
instance k8t {a : Ty7} {b : Ty7} : y3 (t6q a b) fun rr => p7 Tryz.prog 13 [u7 a, u7 b] (bD rr) := ⟨@fun rr h => by
 delta t6q at h
 refine fn13.pureL (q6 ?_)
 delta mc13
 refine v5 ?_
 exact aut⟩
def mc72 : j5 :=
 (.seq (.reg (sq 4 [mi 0])) (.seq (.seq (.reg (sq 5 [mi 0])) (.block 0 (.loop (.seq (.seq (.reg (sq 6 [mv 5, mv 0, ln 7, bn .lss 6 8])) (.cond (t0 9) .skip (.exit 0))) (.seq (.block 1 (.seq (.seq (.reg (sq 12 [mv 0, mv 5, ix 3 12 13, fa 0 14, ld 15, mv 1, bn .neq 16 17])) (.cond (t0 18) (.seq (.reg (sq 4 [mi (-1)])) .ret) .skip)) (.seq (.reg (sq 19 [mv 1, bi .add 19 1] ++ sq 1 [mv 20])) (.seq (.seq (.reg (sq 21 [mv 0, mv 5, ix 3 21 22, fa 1 23, ld 24, mv 1, bn .neq 25 26])) (.cond (t0 27) (.seq (.reg (sq 4 [mi (-1)])) .ret) .skip)) (.seq (.reg (sq 28 [mv 1, bi .add 28 1] ++ sq 1 [mv 29])) (.seq (.reg (sq 30 [mv 0, mv 5, ix 3 30 31, fa 2 32, ld 33, mv 1, cf 71 [34, 35]] ++ sq 1 [mv 36])) (.seq (.reg (sq 37 [mv 1, bi .lss 37 0])) (.cond (t0 38) (.seq (.reg (sq 4 [mi (-1)])) .ret) .skip)))))))) (.reg (sq 10 [mv 5, bi .add 10 1] ++ sq 5 [mv 11]))))))) (.seq (.reg (sq 39 [mv 1] ++ sq 4 [mv 39])) .ret)))
theorem fn72 : t6 Tryz.prog 72 mc72 40 [.tmp 4] := mf Tryz.func72 Tryz.ntmps72
def m7q (a : Ty5) : (Int × Int) -> Option ((Int × Int) ⊕ Int)
 | (k_1, i) =>
  if (decide (i < (a.length : Int))) = true then
   if 0 <= i /\ i < (a.length : Int) then
    if ((a.getD i.toNat default).1 != k_1) = true then
     Option.map Sum.inr (
      some (-1))
    else
     if 0 <= i /\ i < (a.length : Int) then
      if ((a.getD i.toNat default).2.1 != (IntKind.i64.wrap (k_1 + 1))) = true then
       Option.map Sum.inr (
        some (-1))
      else
       if 0 <= i /\ i < (a.length : Int) then
        (j2q ((a.getD i.toNat default).2.2) (IntKind.i64.wrap ((IntKind.i64.wrap (k_1 + 1)) + 1))).bind fun r =>
        if (decide (r < 0)) = true then
         Option.map Sum.inr (
          some (-1))
        else
         some (.inl (r, (IntKind.i64.wrap (i + 1))))
       else none
     else none
   else none
  else
   Option.map Sum.inr (
    some k_1)
def g5q (a : Ty5) (k : Int) : Option Int :=
 loopC (m7q a) (k, 0)
instance j1l {a : Ty5} {k : Int} : y3 (g5q a k) fun rr => p7 Tryz.prog 72 [(z7 3 z5) a, iD k] (iD rr) := ⟨@fun rr h => by
 delta g5q at h
 refine fn72.pureL (q6 ?_)
 delta mc72
 refine v5 ?_
 refine s9 h [1, 4, 5, 6, 7, 8, 9, 10, 11, 12, 13, 14, 15, 16, 17, 18, 19, 20, 21, 22, 23, 24, 25, 26, 27, 28, 29, 30, 31, 32, 33, 34, 35, 36, 37, 38] (fun pp => [(1, .d (iD pp.1)), (5, .d (iD pp.2))]) (fun pp => []) ?_
 rintro ⟨k_1, i⟩ t1 h hb1
 unfold m7q at h
 try dsimp only at h
 refine q6 (v5 ?_)
 exact aut⟩
def mc19 : j5 :=
 (.seq (.reg (sq 2 [bo 2 40 0] ++ sq 4 [mi 0])) (.seq (.reg (sq 5 [fa 0 2, ld 5, mv 1, cf 71 [6, 7]] ++ sq 1 [mv 8])) (.seq (.seq (.reg (sq 9 [mv 1, bi .lss 9 0])) (.cond (t0 10) (.seq (.reg (sq 4 [mi (-1)])) .ret) .skip)) (.seq (.reg (sq 11 [fa 1 2, ld 11, mv 1, cf 72 [12, 13]] ++ sq 1 [mv 14])) (.seq (.seq (.reg (sq 15 [mv 1, bi .lss 15 0])) (.cond (t0 16) (.seq (.reg (sq 4 [mi (-1)])) .ret) .skip)) (.seq (.reg (sq 17 [mv 1] ++ sq 4 [mv 17])) .ret))))))
theorem fn19 : t6 Tryz.prog 19 mc19 18 [.tmp 4] := mf Tryz.func19 Tryz.ntmps19
def b5q (a : Ty7) (k : Int) : Option Int :=
 (j2q a.1 k).bind fun r =>
 if (decide (r < 0)) = true then
  some (-1)
 else
  (g5q a.2 r).bind fun r_1 =>
  if (decide (r_1 < 0)) = true then
   some (-1)
  else
   some r_1
instance k4u {a : Ty7} {k : Int} : y3 (b5q a k) fun rr => p7 Tryz.prog 19 [u7 a, iD k] (iD rr) := ⟨@fun rr h => by
 delta b5q at h
 refine fn19.pureL (q6 ?_)
 delta mc19
 refine v5 ?_
 exact aut⟩
def c0q (x : Ty2) : D := .agg [(z7 1 iD) x.1, (z7 1 iD) x.2]
def z5q (x : Ty8) : D := .agg [(z7 1 iD) x.1, (z7 1 iD) x.2.1, (z7 2 c0q) x.2.2]
def y5q (x : TyA) : D := .agg [(z7 1 iD) x.1, (z7 3 z5q) x.2]
instance : Cel c0q 2 := ⟨fun _ => rfl⟩
instance : Cel z5q 3 := ⟨fun _ => rfl⟩
instance : Cel y5q 2 := ⟨fun _ => rfl⟩
attribute [go_sem] c0q z5q y5q
def y5x : j5 :=
 (.seq (.reg (sq 2 [bo 2 308 0] ++ sq 4 [mi 0])) (.seq (.reg (sq 5 [fa 0 2, ld 5, mv 1, cf 105 [6, 7]] ++ sq 1 [mv 8])) (.seq (.seq (.reg (sq 9 [mv 1, bi .lss 9 0])) (.cond (t0 10) (.seq (.reg (sq 4 [mi (-1)])) .ret) .skip)) (.seq (.reg (sq 11 [fa 1 2, ld 11, mv 1, cf 105 [12, 13]] ++ sq 1 [mv 14])) (.seq (.seq (.reg (sq 15 [mv 1, bi .lss 15 0])) (.cond (t0 16) (.seq (.reg (sq 4 [mi (-1)])) .ret) .skip)) (.seq (.reg (sq 17 [mv 1] ++ sq 4 [mv 17])) .ret))))))
theorem fn270 : t6 Tryz.prog 270 y5x 18 [.tmp 4] := mf Tryz.func270 Tryz.ntmps270
def q1z (a : Ty2) (left : Int) : Option Int :=
 (k2q a.1 left).bind fun r =>
 if (decide (r < 0)) = true then
  some (-1)
 else
  (k2q a.2 r).bind fun r_1 =>
  if (decide (r_1 < 0)) = true then
   some (-1)
  else
   some r_1
instance x6u {a : Ty2} {left : Int} : y3 (q1z a left) fun rr => p7 Tryz.prog 270 [c0q a, iD left] (iD rr) := ⟨@fun rr h => by
 delta q1z at h
 refine fn270.pureL (q6 ?_)
 delta y5x
 refine v5 ?_
 exact aut⟩
def y5k : j5 :=
 (.seq (.reg (sq 4 [mi 0])) (.seq (.reg (sq 6 [mv 1, mv 0, ln 7, bn .sub 6 8] ++ sq 1 [mv 9])) (.seq (.seq (.reg (sq 10 [mv 1, bi .lss 10 0])) (.cond (t0 11) (.seq (.reg (sq 4 [mi (-1)])) .ret) .skip)) (.seq (.seq (.reg (sq 5 [mi 0])) (.block 0 (.loop (.seq (.seq (.reg (sq 12 [mv 5, mv 0, ln 13, bn .lss 12 14])) (.cond (t0 15) .skip (.exit 0))) (.seq (.block 1 (.seq (.reg (sq 18 [mv 0, mv 5, ix 2 18 19, la 2 20, mv 1, cf 270 [21, 22]] ++ sq 1 [mv 23])) (.seq (.reg (sq 24 [mv 1, bi .lss 24 0])) (.cond (t0 25) (.seq (.reg (sq 4 [mi (-1)])) .ret) .skip)))) (.reg (sq 16 [mv 5, bi .add 16 1] ++ sq 5 [mv 17]))))))) (.seq (.reg (sq 26 [mv 1] ++ sq 4 [mv 26])) .ret)))))
theorem fn237 : t6 Tryz.prog 237 y5k 27 [.tmp 4] := mf Tryz.func237 Tryz.ntmps237
def b7q (a : Ty3) : (Int × Int) -> Option ((Int × Int) ⊕ Int)
 | (left_1, i) =>
  if (decide (i < (a.length : Int))) = true then
   if 0 <= i /\ i < (a.length : Int) then
    (q1z ((a.getD i.toNat default).1, (a.getD i.toNat default).2) left_1).bind fun r =>
    if (decide (r < 0)) = true then
     Option.map Sum.inr (
      some (-1))
    else
     some (.inl (r, (IntKind.i64.wrap (i + 1))))
   else none
  else
   Option.map Sum.inr (
    some left_1)
def q0a (a : Ty3) (left : Int) : Option Int :=
 if (decide ((IntKind.i64.wrap (left - (a.length : Int))) < 0)) = true then
  some (-1)
 else
  loopC (b7q a) ((IntKind.i64.wrap (left - (a.length : Int))), 0)
instance x4b {a : Ty3} {left : Int} : y3 (q0a a left) fun rr => p7 Tryz.prog 237 [(z7 2 c0q) a, iD left] (iD rr) := ⟨@fun rr h => by
 delta q0a at h
 refine fn237.pureL (q6 ?_)
 delta y5k
 refine v5 ?_
 refine iF h fun hc h => ?_
 refine s9 h [1, 4, 5, 12, 13, 14, 15, 16, 17, 18, 19, 20, 21, 22, 23, 24, 25] (fun pp => [(1, .d (iD pp.1)), (5, .d (iD pp.2))]) (fun pp => []) ?_
 rintro ⟨left_1, i⟩ t1 h hb1
 unfold b7q at h
 try dsimp only at h
 refine q6 (v5 ?_)
 exact aut⟩
def y4j : j5 :=
 (.seq (.reg (sq 2 [bo 2 229 0] ++ sq 4 [mi 0])) (.seq (.reg (sq 5 [fa 0 2, ld 5, mv 1, cf 105 [6, 7]] ++ sq 1 [mv 8])) (.seq (.seq (.reg (sq 9 [mv 1, bi .lss 9 0])) (.cond (t0 10) (.seq (.reg (sq 4 [mi (-1)])) .ret) .skip)) (.seq (.reg (sq 11 [fa 1 2, ld 11, mv 1, cf 105 [12, 13]] ++ sq 1 [mv 14])) (.seq (.seq (.reg (sq 15 [mv 1, bi .lss 15 0])) (.cond (t0 16) (.seq (.reg (sq 4 [mi (-1)])) .ret) .skip)) (.seq (.reg (sq 17 [fa 2 2, ld 17, mv 1, cf 237 [18, 19]] ++ sq 1 [mv 20])) (.seq (.seq (.reg (sq 21 [mv 1, bi .lss 21 0])) (.cond (t0 22) (.seq (.reg (sq 4 [mi (-1)])) .ret) .skip)) (.seq (.reg (sq 23 [mv 1] ++ sq 4 [mv 23])) .ret))))))))
theorem fn181 : t6 Tryz.prog 181 y4j 24 [.tmp 4] := mf Tryz.func181 Tryz.ntmps181
def c8q (a : Ty8) (left : Int) : Option Int :=
 (k2q a.1 left).bind fun r =>
 if (decide (r < 0)) = true then
  some (-1)
 else
  (k2q a.2.1 r).bind fun r_1 =>
  if (decide (r_1 < 0)) = true then
   some (-1)
  else
   (q0a a.2.2 r_1).bind fun r_2 =>
   if (decide (r_2 < 0)) = true then
    some (-1)
   else
    some r_2
instance j7p {a : Ty8} {left : Int} : y3 (c8q a left) fun rr => p7 Tryz.prog 181 [z5q a, iD left] (iD rr) := ⟨@fun rr h => by
 delta c8q at h
 refine fn181.pureL (q6 ?_)
 delta y4j
 refine v5 ?_
 exact aut⟩
def y2y : j5 :=
 (.seq (.reg (sq 4 [mi 0])) (.seq (.reg (sq 6 [mv 1, mv 0, ln 7, bn .sub 6 8] ++ sq 1 [mv 9])) (.seq (.seq (.reg (sq 10 [mv 1, bi .lss 10 0])) (.cond (t0 11) (.seq (.reg (sq 4 [mi (-1)])) .ret) .skip)) (.seq (.seq (.reg (sq 5 [mi 0])) (.block 0 (.loop (.seq (.seq (.reg (sq 12 [mv 5, mv 0, ln 13, bn .lss 12 14])) (.cond (t0 15) .skip (.exit 0))) (.seq (.block 1 (.seq (.reg (sq 18 [mv 0, mv 5, ix 3 18 19, la 3 20, mv 1, cf 181 [21, 22]] ++ sq 1 [mv 23])) (.seq (.reg (sq 24 [mv 1, bi .lss 24 0])) (.cond (t0 25) (.seq (.reg (sq 4 [mi (-1)])) .ret) .skip)))) (.reg (sq 16 [mv 5, bi .add 16 1] ++ sq 5 [mv 17]))))))) (.seq (.reg (sq 26 [mv 1] ++ sq 4 [mv 26])) .ret)))))
theorem fn101 : t6 Tryz.prog 101 y2y 27 [.tmp 4] := mf Tryz.func101 Tryz.ntmps101
def u2q (a : Ty9) : (Int × Int) -> Option ((Int × Int) ⊕ Int)
 | (left_1, i) =>
  if (decide (i < (a.length : Int))) = true then
   if 0 <= i /\ i < (a.length : Int) then
    (c8q ((a.getD i.toNat default).1, (a.getD i.toNat default).2.1, (a.getD i.toNat default).2.2) left_1).bind fun r =>
    if (decide (r < 0)) = true then
     Option.map Sum.inr (
      some (-1))
    else
     some (.inl (r, (IntKind.i64.wrap (i + 1))))
   else none
  else
   Option.map Sum.inr (
    some left_1)
def b6q (a : Ty9) (left : Int) : Option Int :=
 if (decide ((IntKind.i64.wrap (left - (a.length : Int))) < 0)) = true then
  some (-1)
 else
  loopC (u2q a) ((IntKind.i64.wrap (left - (a.length : Int))), 0)
instance j2r {a : Ty9} {left : Int} : y3 (b6q a left) fun rr => p7 Tryz.prog 101 [(z7 3 z5q) a, iD left] (iD rr) := ⟨@fun rr h => by
 delta b6q at h
 refine fn101.pureL (q6 ?_)
 delta y2y
 refine v5 ?_
 refine iF h fun hc h => ?_
 refine s9 h [1, 4, 5, 12, 13, 14, 15, 16, 17, 18, 19, 20, 21, 22, 23, 24, 25] (fun pp => [(1, .d (iD pp.1)), (5, .d (iD pp.2))]) (fun pp => []) ?_
 rintro ⟨left_1, i⟩ t1 h hb1
 unfold u2q at h
 try dsimp only at h
 refine q6 (v5 ?_)
 exact aut⟩
def mc40 : j5 :=
 (.seq (.reg (sq 2 [bo 2 87 0] ++ sq 4 [mi 0])) (.seq (.reg (sq 5 [fa 0 2, la 1 5, mv 1, cf 44 [6, 7]] ++ sq 1 [mv 8])) (.seq (.seq (.reg (sq 9 [mv 1, bi .lss 9 0])) (.cond (t0 10) (.seq (.reg (sq 4 [mi (-1)])) .ret) .skip)) (.seq (.reg (sq 11 [fa 1 2, ld 11, mv 1, cf 101 [12, 13]] ++ sq 1 [mv 14])) (.seq (.seq (.reg (sq 15 [mv 1, bi .lss 15 0])) (.cond (t0 16) (.seq (.reg (sq 4 [mi (-1)])) .ret) .skip)) (.seq (.reg (sq 17 [mv 1] ++ sq 4 [mv 17])) .ret))))))
theorem fn40 : t6 Tryz.prog 40 mc40 18 [.tmp 4] := mf Tryz.func40 Tryz.ntmps40
def f6q (a : TyA) (left : Int) : Option Int :=
 (q2x a.1 left).bind fun r =>
 if (decide (r < 0)) = true then
  some (-1)
 else
  (b6q a.2 r).bind fun r_1 =>
  if (decide (r_1 < 0)) = true then
   some (-1)
  else
   some r_1
instance j1m {a : TyA} {left : Int} : y3 (f6q a left) fun rr => p7 Tryz.prog 40 [y5q a, iD left] (iD rr) := ⟨@fun rr h => by
 delta f6q at h
 refine fn40.pureL (q6 ?_)
 delta mc40
 refine v5 ?_
 exact aut⟩
def y5y : j5 :=
 (.seq (.reg (sq 2 [bo 2 208 0, bo 3 208 1, mb false])) (.seq (.seq (.reg (sq 5 [fa 0 2, ld 5, fa 0 3, ld 7, cf 24 [6, 8], nt 9])) (.cond (t0 10) (.seq (.reg (sq 4 [mb false])) .ret) .skip)) (.seq (.seq (.reg (sq 11 [fa 1 2, ld 11, fa 1 3, ld 13, cf 24 [12, 14], nt 15])) (.cond (t0 16) (.seq (.reg (sq 4 [mb false])) .ret) .skip)) (.seq (.reg (sq 4 [mb true])) .ret))))
theorem fn272 : t6 Tryz.prog 272 y5y 17 [.tmp 4] := mf Tryz.func272 Tryz.ntmps272
def q1y (a : Ty2) (b : Ty2) : Option Bool :=
 (i6 a.1 b.1).bind fun r =>
 if r = true then
  (i6 a.2 b.2).bind fun r_1 =>
  if r_1 = true then
   some true
  else
   some false
 else
  some false
instance x6t {a : Ty2} {b : Ty2} : y3 (q1y a b) fun rr => p7 Tryz.prog 272 [y5 a, y5 b] (bD rr) := ⟨@fun rr h => by
 delta q1y at h
 refine fn272.pureL (q6 ?_)
 delta y5y
 refine v5 ?_
 exact aut⟩
def y5l : j5 :=
 (.seq (.reg (sq 4 [mb false])) (.seq (.seq (.reg (sq 6 [mv 0, ln 6, mv 1, ln 8, bn .neq 7 9])) (.cond (t0 10) (.seq (.reg (sq 4 [mb false])) .ret) .skip)) (.seq (.seq (.reg (sq 5 [mi 0])) (.block 0 (.loop (.seq (.seq (.reg (sq 11 [mv 5, mv 0, ln 12, bn .lss 11 13])) (.cond (t0 14) .skip (.exit 0))) (.seq (.block 1 (.seq (.draw (sq 17 [mv 0, mv 5, ix 2 17 18, la 2 19, mv 1, mv 5, ix 2 21 22, la 2 23, cf 272 [20, 24], nt 25]) [[], [], [0, 1], [2], [], [], [4, 5], [6], [3, 7], [8]]) (.cond (t0 26) (.seq (.reg (sq 4 [mb false])) .ret) .skip))) (.reg (sq 15 [mv 5, bi .add 15 1] ++ sq 5 [mv 16]))))))) (.seq (.reg (sq 4 [mb true])) .ret))))
theorem fn239 : t6 Tryz.prog 239 y5l 27 [.tmp 4] := mf Tryz.func239 Tryz.ntmps239
def t5q (a : Ty3) (b : Ty3) : Int -> Option (Int ⊕ Bool)
 | i =>
  if (decide (i < (a.length : Int))) = true then
   if 0 <= i /\ i < (a.length : Int) then
    if 0 <= i /\ i < (b.length : Int) then
     (q1y ((a.getD i.toNat default).1, (a.getD i.toNat default).2) ((b.getD i.toNat default).1, (b.getD i.toNat default).2)).bind fun r =>
     if r = true then
      some (.inl (IntKind.i64.wrap (i + 1)))
     else
      Option.map Sum.inr (
       some false)
    else none
   else none
  else
   Option.map Sum.inr (
    some true)
def h9q (a : Ty3) (b : Ty3) : Option Bool :=
 if ((a.length : Int) != (b.length : Int)) = true then
  some false
 else
  loopC (t5q a b) 0
instance x3z {a : Ty3} {b : Ty3} : y3 (h9q a b) fun rr => p7 Tryz.prog 239 [(z7 2 y5) a, (z7 2 y5) b] (bD rr) := ⟨@fun rr h => by
 delta h9q at h
 refine fn239.pureL (q6 ?_)
 delta y5l
 refine v5 ?_
 refine iF h fun hc h => ?_
 refine s9 h [4, 5, 11, 12, 13, 14, 15, 16, 17, 18, 19, 20, 21, 22, 23, 24, 25, 26] (fun pp => [(5, .d (iD pp))]) (fun pp => []) ?_
 rintro i t1 h hb1
 unfold t5q at h
 try dsimp only at h
 refine q6 (v5 ?_)
 exact aut⟩
def y4k : j5 :=
 (.seq (.reg (sq 2 [bo 2 136 0, bo 3 136 1, mb false])) (.seq (.seq (.reg (sq 5 [fa 0 2, ld 5, fa 0 3, ld 7, cf 24 [6, 8], nt 9])) (.cond (t0 10) (.seq (.reg (sq 4 [mb false])) .ret) .skip)) (.seq (.seq (.reg (sq 11 [fa 1 2, ld 11, fa 1 3, ld 13, cf 24 [12, 14], nt 15])) (.cond (t0 16) (.seq (.reg (sq 4 [mb false])) .ret) .skip)) (.seq (.seq (.reg (sq 17 [fa 2 2, ld 17, fa 2 3, ld 19, cf 239 [18, 20], nt 21])) (.cond (t0 22) (.seq (.reg (sq 4 [mb false])) .ret) .skip)) (.seq (.reg (sq 4 [mb true])) .ret)))))
theorem fn183 : t6 Tryz.prog 183 y4k 23 [.tmp 4] := mf Tryz.func183 Tryz.ntmps183
def c6q (a : Ty8) (b : Ty8) : Option Bool :=
 (i6 a.1 b.1).bind fun r =>
 if r = true then
  (i6 a.2.1 b.2.1).bind fun r_1 =>
  if r_1 = true then
   (h9q a.2.2 b.2.2).bind fun r_2 =>
   if r_2 = true then
    some true
   else
    some false
  else
   some false
 else
  some false
instance j7n {a : Ty8} {b : Ty8} : y3 (c6q a b) fun rr => p7 Tryz.prog 183 [q9 a, q9 b] (bD rr) := ⟨@fun rr h => by
 delta c6q at h
 refine fn183.pureL (q6 ?_)
 delta y4k
 refine v5 ?_
 exact aut⟩
def y2z : j5 :=
 (.seq (.reg (sq 4 [mb false])) (.seq (.seq (.reg (sq 6 [mv 0, ln 6, mv 1, ln 8, bn .neq 7 9])) (.cond (t0 10) (.seq (.reg (sq 4 [mb false])) .ret) .skip)) (.seq (.seq (.reg (sq 5 [mi 0])) (.block 0 (.loop (.seq (.seq (.reg (sq 11 [mv 5, mv 0, ln 12, bn .lss 11 13])) (.cond (t0 14) .skip (.exit 0))) (.seq (.block 1 (.seq (.draw (sq 17 [mv 0, mv 5, ix 3 17 18, la 3 19, mv 1, mv 5, ix 3 21 22, la 3 23, cf 183 [20, 24], nt 25]) [[], [], [0, 1], [2], [], [], [4, 5], [6], [3, 7], [8]]) (.cond (t0 26) (.seq (.reg (sq 4 [mb false])) .ret) .skip))) (.reg (sq 15 [mv 5, bi .add 15 1] ++ sq 5 [mv 16]))))))) (.seq (.reg (sq 4 [mb true])) .ret))))
theorem fn103 : t6 Tryz.prog 103 y2z 27 [.tmp 4] := mf Tryz.func103 Tryz.ntmps103
def p0q (a : Ty9) (b : Ty9) : Int -> Option (Int ⊕ Bool)
 | i =>
  if (decide (i < (a.length : Int))) = true then
   if 0 <= i /\ i < (a.length : Int) then
    if 0 <= i /\ i < (b.length : Int) then
     (c6q ((a.getD i.toNat default).1, (a.getD i.toNat default).2.1, (a.getD i.toNat default).2.2) ((b.getD i.toNat default).1, (b.getD i.toNat default).2.1, (b.getD i.toNat default).2.2)).bind fun r =>
     if r = true then
      some (.inl (IntKind.i64.wrap (i + 1)))
     else
      Option.map Sum.inr (
       some false)
    else none
   else none
  else
   Option.map Sum.inr (
    some true)
def b4q (a : Ty9) (b : Ty9) : Option Bool :=
 if ((a.length : Int) != (b.length : Int)) = true then
  some false
 else
  loopC (p0q a b) 0
instance j2p {a : Ty9} {b : Ty9} : y3 (b4q a b) fun rr => p7 Tryz.prog 103 [(z7 3 q9) a, (z7 3 q9) b] (bD rr) := ⟨@fun rr h => by
 delta b4q at h
 refine fn103.pureL (q6 ?_)
 delta y2z
 refine v5 ?_
 refine iF h fun hc h => ?_
 refine s9 h [4, 5, 11, 12, 13, 14, 15, 16, 17, 18, 19, 20, 21, 22, 23, 24, 25, 26] (fun pp => [(5, .d (iD pp))]) (fun pp => []) ?_
 rintro i t1 h hb1
 unfold p0q at h
 try dsimp only at h
 refine q6 (v5 ?_)
 exact aut⟩
def mc42 : j5 :=
 (.seq (.reg (sq 2 [bo 2 74 0, bo 3 74 1, mb false])) (.seq (.seq (.reg (sq 5 [fa 0 2, la 1 5, fa 0 3, la 1 7, cf 64 [6, 8], nt 9])) (.cond (t0 10) (.seq (.reg (sq 4 [mb false])) .ret) .skip)) (.seq (.seq (.reg (sq 11 [fa 1 2, ld 11, fa 1 3, ld 13, cf 103 [12, 14], nt 15])) (.cond (t0 16) (.seq (.reg (sq 4 [mb false])) .ret) .skip)) (.seq (.reg (sq 4 [mb true])) .ret))))
theorem fn42 : t6 Tryz.prog 42 mc42 17 [.tmp 4] := mf Tryz.func42 Tryz.ntmps42
def f5q (a : TyA) (b : TyA) : Option Bool :=
 (q2w a.1 b.1).bind fun r =>
 if r = true then
  (b4q a.2 b.2).bind fun r_1 =>
  if r_1 = true then
   some true
  else
   some false
 else
  some false
instance k2x {a : TyA} {b : TyA} : y3 (f5q a b) fun rr => p7 Tryz.prog 42 [j6 a, j6 b] (bD rr) := ⟨@fun rr h => by
 delta f5q at h
 refine fn42.pureL (q6 ?_)
 delta mc42
 refine v5 ?_
 exact aut⟩
instance : Cl q4l := Cl.agg _ (fun _ => rfl) (fun _ => rfl)
instance : Cl q4m := Cl.agg _ (fun _ => rfl) (fun _ => rfl)
def y6k : j5 :=
 (.seq (.reg (sq 2 [.mv (.const (.slice none 0 0))])) (.seq (.reg (sq 5 [mv 0, ln 5, .mkslp 7 2 1 8 [.lit (.int .i64 0)] false (t0 6) (t0 6)] ++ sq 3 [mv 7])) (.seq (.seq (.reg (sq 4 [mi 0])) (.block 0 (.loop (.seq (.seq (.reg (sq 8 [mv 4, mv 0, ln 9, bn .lss 8 10])) (.cond (t0 11) .skip (.exit 0))) (.seq (.block 1 (.reg (sq 14 [mv 3, mv 4, mv 0, mv 4, ix 1 16 17, ld 18, ix 1 14 15] ++ s0 (sr 1 20 19)))) (.reg (sq 12 [mv 4, bi .add 12 1] ++ sq 4 [mv 13]))))))) (.seq (.reg (sq 21 [mv 3] ++ sq 2 [mv 21])) .ret))))
theorem fnT21 : t6 Tryz.prog 21 y6k 22 [.tmp 2] := mf Tryz.func21 Tryz.ntmps21
def q9i (a : q7) : (Int × q7) -> Option ((Int × q7) ⊕ q7)
 | (i, out) =>
  if (decide (i < (a.length : Int))) = true then
   if 0 <= i /\ i < (a.length : Int) /\ i < (out.length : Int) then
    some (.inl ((IntKind.i64.wrap (i + 1)), out.set i.toNat (a.getD i.toNat default)))
   else none
  else
   Option.map Sum.inr (some out)
def q3w (a : q7) : Option q7 :=
 if 0 <= (a.length : Int) /\ 8 * (a.length : Int) <= 281474976710656 /\ (a.length : Int) < 4611686018427387904 then
  loopC (q9i a) (0, List.replicate a.length 0)
 else none
instance y1p {a : q7} : y3 (q3w a) fun rr => x6 Tryz.prog 21 [.d ((z7 1 iD) a)] [] 0 fun xx ss => xx = .gow 1 900000 a.length /\ ss = [(900000, .prv 1 a.length (j7 (List.map iD rr)))] := ⟨@fun rr h => by
 delta q3w at h
 refine fnT21.callsD (q6 ?_)
 delta y6k
 refine v5 ?_
 refine ndI h fun hp h => ?_
 refine w5q h [4, 8, 9, 10, 11, 12, 13, 14, 15, 16, 17, 18, 19, 20] (fun pp => [(4, .d (iD pp.1))]) (fun pp => [(7, .prv 1 a.length (j7 (List.map iD pp.2)))]) ?_ ?_
 ·try dsimp only
  refine (y0.prvE 7 (j7 (List.map iD (List.replicate a.length 0))) rfl (z3l _)).trans ?_
  exact wk
 rintro ⟨i, out⟩ t1 h hb1
 unfold q9i at h
 try dsimp only at h
 refine q6 (v5 ?_)
 refine it h (fun hc h => ?_) fun hc h => ?_
 ·refine ndI h fun hp h => ?_
  cases h
  refine ⟨_, rfl, ?_⟩
  refine (y0.prvE 7 (j7 (List.map iD (out.set i.toNat (a.getD i.toNat default)))) rfl (by (try simp only [go_sem, k0j, k0h, m8, AV.rens, AV.ren]); exact k0p (i := i.toNat) (by omega) (by omega) (by omega) rfl)).trans ?_
  exact wk
 replace h := u9 h hb1
 cases h
 exact x9.trans (x9.move 7 900000 (ob := .prv 1 a.length (j7 (List.map iD rr))) (by omega) (by omega) (by omega) rfl (by first | rfl | (simp [sat, q0m, Ob.ren, m8]; done))) (x9.told frd don)⟩
def y6m : j5 :=
 (.seq (.reg (sq 1 [bo 1 24 0, .alloc 2 43 [.sl 0 (some true) []]])) (.seq (.reg (sq 3 [.alloc 3 43 [.sl 0 (some true) []]])) (.seq (.reg (sq 4 [fa 0 1, ld 4, cf 21 [5], fa 0 3] ++ s0 (sr 1 7 6))) (.seq (.reg (sq 8 [la 1 3] ++ s0 (sr 1 2 8))) .ret))))
theorem fnT53 : t6 Tryz.prog 53 y6m 9 [.cell 2 1 true] := mf Tryz.func53 Tryz.ntmps53
def z6a (x : q7) : Option q7 :=
 (q3w x).bind fun r0 =>
 some r0
instance c_to53 {x : q7} : y3 (z6a x) fun rr => x6 Tryz.prog 53 [.d (.agg [(z7 1 iD) x])] [] 0 fun xx ss => xx = .agg [.gow 1 900000 x.length] /\ ss = [(900000, .prv 1 x.length (j7 (List.map iD rr)))] := ⟨@fun rr h => by
 delta z6a at h
 refine fnT53.callsD (q6 ?_)
 delta y6m
 refine v5 ?_
 refine rCo [] [(900000, 6)] h fun r0 hr0 h => ?_
 refine nds ?_
 cases h
 exact x9.trans ((x9.trans (x9.move 6 900000 (ob := .prv 1 x.length (j7 (List.map iD rr))) (by omega) (by omega) (by omega) rfl (by first | rfl | (simp [sat, q0m, Ob.ren, m8]; done))) (x9.drops [1, 2, 3] (by simp)))) (x9.told frd don)⟩
def k8h (x : q7) : Option q7 := (q3w x).bind fun r => if x.length = r.length then some r else none
instance c_pub21 {x : q7} : y3 (k8h x) fun rr => p7 Tryz.prog 21 [((z7 1 iD) x)] ((z7 1 iD) rr) := ⟨@fun rr h => by
 obtain ⟨r, h1, h2⟩ := q0e h
 obtain ⟨hp, h2⟩ := f8q h2
 cases h2
 exact x6.pub (dz := [((z7 1 iD) x)]) (tl := [(900000, 1, List.map iD rr)]) ((y1p).c h1) (by simp [q5m]; try omega) (Pub.tok (f := iD) (by simp [q5m, sat]; try omega) (by omega))⟩
def q8z (n0 : Nat) (n1 : Nat) (x0 : q7) (x1 : q7) : Option Bool := if n0 = x0.length /\ n1 = x1.length then i6 x0 x1 else none
instance x6n {n0 : Nat} {n1 : Nat} {x0 : q7} {x1 : q7} : y3 (q8z n0 n1 x0 x1) fun rr => x6 Tryz.prog 24 [.gow 1 0 n0, .gow 1 1 n1] [(0, .prv 1 n0 (j7 (List.map iD x0))), (1, .prv 1 n1 (j7 (List.map iD x1)))] 2 fun xx ss => xx = .d (bD rr) /\ ss = [(0, .prv 1 n0 (j7 (List.map iD x0))), (1, .prv 1 n1 (j7 (List.map iD x1)))] := ⟨@fun rr h => by
 obtain ⟨hp, h⟩ := f8q h
 exact x6.lent ((k4t).c h) (.cons (k4p.tok (f := iD) rfl (by omega)) (.cons (k4p.tok (f := iD) rfl (by omega)) .nil))⟩
def y6g : j5 :=
 (.seq (.reg (sq 4 [mi 0])) (.seq (.seq (.reg (sq 5 [mi 0])) (.block 0 (.loop (.seq (.seq (.reg (sq 6 [mv 5, mv 0, ln 7, bn .lss 6 8])) (.cond (t0 9) .skip (.exit 0))) (.seq (.block 1 (.seq (.reg (sq 12 [mv 0, mv 5, mv 1, ix 1 12 13] ++ s0 (sr 1 15 14))) (.reg (sq 16 [mv 1, bi .add 16 1] ++ sq 1 [mv 17])))) (.reg (sq 10 [mv 5, bi .add 10 1] ++ sq 5 [mv 11]))))))) (.seq (.reg (sq 18 [mv 1] ++ sq 4 [mv 18])) .ret)))
theorem fnM25 : t6 Tryz.prog 25 y6g 19 [.tmp 4] := mf Tryz.func25 Tryz.ntmps25
def k3g (n : Nat) : Ty4 -> Option (Ty4 ⊕ (q7 × Int))
 | (k, i, b) =>
  if (decide (i < (n : Int))) = true then
   if 0 <= i /\ i < (n : Int) /\ i < (b.length : Int) then
    some (.inl ((IntKind.i64.wrap (k + 1)), (IntKind.i64.wrap (i + 1)), b.set i.toNat k))
   else none
  else
   Option.map Sum.inr (some (b, k))
def q5i (n : Nat) (a : q7) (k : Int) : Option (q7 × Int) := loopC (k3g n) (k, 0, a)
instance c_mk25 {n : Nat} {a : q7} {k : Int} : y3 (q5i n a k) fun rr => x6 Tryz.prog 25 [.gow 1 0 n, .d (iD k)] [(0, .prv 1 n (j7 (List.map iD a)))] 1 fun xx ss => xx = .d (iD rr.2) /\ ss = [(0, .prv 1 n (j7 (List.map iD rr.1)))] := ⟨@fun rr h => by
 delta q5i at h
 refine fnM25.callsD (q6 ?_)
 delta y6g
 refine v5 ?_
 refine w5q h [1, 5, 6, 7, 8, 9, 10, 11, 12, 13, 14, 15, 16, 17] (fun pp => [(1, .d (iD pp.1)), (5, .d (iD pp.2.1))]) (fun pp => [(0, .prv 1 n (j7 (List.map iD pp.2.2)))]) ?_ ?_
 ·try dsimp only
  exact wk
 rintro ⟨k, i, b⟩ t1 h hb1
 unfold k3g at h
 try dsimp only at h
 refine q6 (v5 ?_)
 refine it h (fun hc h => ?_) fun hc h => ?_
 ·refine ndI h fun hp h => ?_
  refine nds ?_
  cases h
  refine ⟨_, rfl, ?_⟩
  refine (y0.prvE 0 (j7 (List.map iD (b.set i.toNat k))) rfl (k0p (i := i.toNat) (by omega) (by omega) (by omega) rfl)).trans ?_
  exact wk
 replace h := u9 h hb1
 cases h
 exact x9.told frd don⟩
def y6i : j5 :=
 (.seq (.reg (sq 2 [.boxi 64 2 43 (t0 0)] ++ sq 4 [mi 0])) (.seq (.reg (sq 5 [fa 0 2, ld 5, mv 1, cf 25 [6, 7]] ++ sq 1 [mv 8])) (.seq (.reg (sq 9 [mv 1] ++ sq 4 [mv 9])) .ret)))
theorem fnM67 : t6 Tryz.prog 67 y6i 10 [.tmp 4] := mf Tryz.func67 Tryz.ntmps67
def z5z (n0 : Nat) (x : q7) (k : Int) : Option (q7 × Int) :=
 (q5i n0 x k).bind fun r0 =>
 some (r0.1, r0.2)
instance c_mk67 {n0 : Nat} {x : q7} {k : Int} : y3 (z5z n0 x k) fun rr => x6 Tryz.prog 67 [.agg [.gow 1 0 n0], .d (iD k)] [(0, .prv 1 n0 (j7 (List.map iD x)))] 1 fun xx ss => xx = .d (iD rr.2) /\ ss = [(0, .prv 1 n0 (j7 (List.map iD rr.1)))] := ⟨@fun rr h => by
 delta z5z at h
 refine fnM67.callsD (q6 ?_)
 delta y6i
 refine v5 ?_
 refine rCo [(0, 0)] [] h fun r0 hr0 h => ?_
 refine nds ?_
 cases h
 exact x9.trans (x9.drops [64] (by simp)) (x9.told frd don)⟩
instance : Cl i8q := Cl.agg _ (fun _ => rfl) (fun _ => rfl)
instance : Cl q7z := Cl.agg _ (fun _ => rfl) (fun _ => rfl)
def q3s (n0 : Nat) (n1 : Nat) (x0 : Ty7) (x1 : Ty7) : Option Bool := if n0 = x0.1.length /\ n1 = x0.2.length then t6q x0 x1 else none
instance x6l {n0 : Nat} {n1 : Nat} {x0 : Ty7} {x1 : Ty7} : y3 (q3s n0 n1 x0 x1) fun rr => x6 Tryz.prog 13 [.agg [.gow 1 0 n0, .gow 3 1 n1], .d (.agg [(z7 1 iD) x1.1, (z7 3 z5) x1.2])] [(0, .prv 1 n0 (j7 (List.map iD x0.1))), (1, .prv 3 n1 (j7 (List.map z5 x0.2)))] 2 fun xx ss => xx = .d (bD rr) /\ ss = [(0, .prv 1 n0 (j7 (List.map iD x0.1))), (1, .prv 3 n1 (j7 (List.map z5 x0.2)))] := ⟨@fun rr h => by
 obtain ⟨hp, h⟩ := f8q h
 exact x6.lent ((k8t).c h) (.cons (.agg (.cons (k4p.tok (f := iD) rfl (by omega)) (.cons (k4p.tok (f := z5) rfl (by omega)) .nil))) (.cons (.le (AV.le_refl _)) .nil))⟩
def y6j : j5 :=
 (.seq (.reg (sq 4 [mi 0])) (.seq (.seq (.reg (sq 5 [mi 0])) (.block 0 (.loop (.seq (.seq (.reg (sq 6 [mv 5, mv 0, ln 7, bn .lss 6 8])) (.cond (t0 9) .skip (.exit 0))) (.seq (.block 1 (.seq (.ghost (.reg (sq 12 [mv 0, mv 5, mv 1, ix 3 12 13, fa 0 15] ++ s0 (sr 1 16 14)))) (.seq (.reg (sq 17 [mv 1, bi .add 17 1] ++ sq 1 [mv 18])) (.seq (.ghost (.reg (sq 19 [mv 0, mv 5, mv 1, ix 3 19 20, fa 1 22] ++ s0 (sr 1 23 21)))) (.seq (.reg (sq 24 [mv 1, bi .add 24 1] ++ sq 1 [mv 25])) (.ghost (.reg (sq 26 [mv 0, mv 5, ix 3 26 27, fa 2 28, ld 29, mv 1, cf 25 [30, 31]] ++ sq 1 [mv 32])))))))) (.reg (sq 10 [mv 5, bi .add 10 1] ++ sq 5 [mv 11]))))))) (.seq (.reg (sq 33 [mv 1] ++ sq 4 [mv 33])) .ret)))
theorem fnM70 : t6 Tryz.prog 70 y6j 34 [.tmp 4] := mf Tryz.func70 Tryz.ntmps70
def k3h (n : Nat) : (Int × Int × Ty5) -> Option ((Int × Int × Ty5) ⊕ (Ty5 × Int))
 | (k, i, b) =>
  if (decide (i < (n : Int))) = true then
   if 0 <= i /\ i < (n : Int) /\ i < (b.length : Int) then
    (q5i ((b.getD i.toNat default).2.2).length ((b.getD i.toNat default).2.2) (IntKind.i64.wrap ((IntKind.i64.wrap (k + 1)) + 1))).bind fun r1 =>
    some (.inl (r1.2, (IntKind.i64.wrap (i + 1)), b.set i.toNat (k, (IntKind.i64.wrap (k + 1)), r1.1)))
   else none
  else
   Option.map Sum.inr (some (b, k))
def z0w (n : Nat) (a : Ty5) (k : Int) : Option (Ty5 × Int) := loopC (k3h n) (k, 0, a)
instance c_mk70 {n : Nat} {a : Ty5} {k : Int} : y3 (z0w n a k) fun rr => x6 Tryz.prog 70 [.gow 3 0 n, .d (iD k)] [(0, .prv 3 n (j7 (List.map z5 a)))] 1 fun xx ss => xx = .d (iD rr.2) /\ ss = [(0, .prv 3 n (j7 (List.map z5 rr.1)))] := ⟨@fun rr h => by
 delta z0w at h
 refine fnM70.callsD (q6 ?_)
 delta y6j
 refine v5 ?_
 refine w5q h [1, 5, 6, 7, 8, 9, 10, 11, 12, 13, 14, 15, 16, 17, 18, 19, 20, 21, 22, 23, 24, 25, 26, 27, 28, 29, 30, 31, 32] (fun pp => [(1, .d (iD pp.1)), (5, .d (iD pp.2.1))]) (fun pp => [(0, .prv 3 n (j7 (List.map z5 pp.2.2)))]) ?_ ?_
 ·try dsimp only
  exact wk
 rintro ⟨k, i, b⟩ t1 h hb1
 unfold k3h at h
 try dsimp only at h
 refine q6 (v5 ?_)
 refine it h (fun hc h => ?_) fun hc h => ?_
 ·refine ndI h fun hp h => ?_
  refine p5q.of (y0.prvE 0 (j7 (List.map z5 (b.set i.toNat ((b.getD i.toNat default).1, (b.getD i.toNat default).2.1, (b.getD i.toNat default).2.2)))) rfl (by rw [z0c (by omega)])) (nds ?_)
  refine p5q.of (y0.prvE 0 (j7 (List.map z5 (b.set i.toNat (k, (b.getD i.toNat default).2.1, (b.getD i.toNat default).2.2)))) rfl (by exact z3m (i := i.toNat) (k := 0) (by omega) (by decide) (by omega) (by omega) rfl rfl)) (nds ?_)
  refine p5q.of ((y0.prvE 0 (j7 (List.map z5 (b.set i.toNat (k, (IntKind.i64.wrap (k + 1)), (b.getD i.toNat default).2.2)))) rfl (by exact z3m (i := i.toNat) (k := 1) (by omega) (by decide) (by omega) (by omega) rfl rfl)).trans (y0.extC (f := z5) (f' := iD) (xs := b) (y := (k, (IntKind.i64.wrap (k + 1)), (b.getD i.toNat default).2.2)) (ys := ((b.getD i.toNat default).2.2)) 0 501 i.toNat 2 rfl (by omega) (by decide) (m := i.toNat * 3 + 2) (by omega) rfl rfl (by omega))) ?_
  refine v5 ?_
  refine nds ?_
  refine rCo [(0, 501)] [] h fun r1 hr1 h => ?_
  refine nds ?_
  cases h
  refine ⟨_, rfl, ?_⟩
  refine (y0.absC (f := z5) (f' := iD) (xs := b) (y := (k, (IntKind.i64.wrap (k + 1)), (b.getD i.toNat default).2.2)) (y' := (k, (IntKind.i64.wrap (k + 1)), r1.1)) (ys := r1.1) 0 501 i.toNat 2 rfl rfl rfl (by omega) (by decide) (by omega) (by decide) rfl (by omega) (by decide)).trans ?_
  exact wk
 replace h := u9 h hb1
 cases h
 exact x9.told frd don⟩
def y6f : j5 :=
 (.seq (.reg (sq 2 [.boxi 64 2 40 (t0 0)] ++ sq 4 [mi 0])) (.seq (.reg (sq 5 [fa 0 2, ld 5, mv 1, cf 25 [6, 7]] ++ sq 1 [mv 8])) (.seq (.reg (sq 9 [fa 1 2, ld 9, mv 1, cf 70 [10, 11]] ++ sq 1 [mv 12])) (.seq (.reg (sq 13 [mv 1] ++ sq 4 [mv 13])) .ret))))
theorem fnM18 : t6 Tryz.prog 18 y6f 14 [.tmp 4] := mf Tryz.func18 Tryz.ntmps18
def z0u (n0 : Nat) (n1 : Nat) (x : Ty7) (k : Int) : Option (Ty7 × Int) :=
 (q5i n0 x.1 k).bind fun r0 =>
 (z0w n1 x.2 r0.2).bind fun r1 =>
 some ((r0.1, r1.1), r1.2)
instance c_mk18 {n0 : Nat} {n1 : Nat} {x : Ty7} {k : Int} : y3 (z0u n0 n1 x k) fun rr => x6 Tryz.prog 18 [.agg [.gow 1 0 n0, .gow 3 1 n1], .d (iD k)] [(0, .prv 1 n0 (j7 (List.map iD x.1))), (1, .prv 3 n1 (j7 (List.map z5 x.2)))] 2 fun xx ss => xx = .d (iD rr.2) /\ ss = [(0, .prv 1 n0 (j7 (List.map iD rr.1.1))), (1, .prv 3 n1 (j7 (List.map z5 rr.1.2)))] := ⟨@fun rr h => by
 delta z0u at h
 refine fnM18.callsD (q6 ?_)
 delta y6f
 refine v5 ?_
 refine rCo [(0, 0)] [] h fun r0 hr0 h => ?_
 refine nds ?_
 refine rCo [(0, 1)] [] h fun r1 hr1 h => ?_
 refine nds ?_
 cases h
 exact x9.trans (x9.drops [64] (by simp)) (x9.told frd don)⟩
def q5z (n0 : Nat) (n1 : Nat) (x0 : Ty7) (x1 : Int) : Option Int := if n0 = x0.1.length /\ n1 = x0.2.length then b5q x0 x1 else none
instance x6m {n0 : Nat} {n1 : Nat} {x0 : Ty7} {x1 : Int} : y3 (q5z n0 n1 x0 x1) fun rr => x6 Tryz.prog 19 [.agg [.gow 1 0 n0, .gow 3 1 n1], .d (iD x1)] [(0, .prv 1 n0 (j7 (List.map iD x0.1))), (1, .prv 3 n1 (j7 (List.map z5 x0.2)))] 2 fun xx ss => xx = .d (iD rr) /\ ss = [(0, .prv 1 n0 (j7 (List.map iD x0.1))), (1, .prv 3 n1 (j7 (List.map z5 x0.2)))] := ⟨@fun rr h => by
 obtain ⟨hp, h⟩ := f8q h
 exact x6.lent ((k4u).c h) (.cons (.agg (.cons (k4p.tok (f := iD) rfl (by omega)) (.cons (k4p.tok (f := z5) rfl (by omega)) .nil))) (.cons (.le (AV.le_refl _)) .nil))⟩
instance : Cl c0q := Cl.agg _ (fun _ => rfl) (fun _ => rfl)
instance : Cl z5q := Cl.agg _ (fun _ => rfl) (fun _ => rfl)
instance : Cl y5q := Cl.agg _ (fun _ => rfl) (fun _ => rfl)
def x5a : j5 :=
 (.seq (.reg (sq 1 [bo 1 308 0, .alloc 2 208 [.sl 0 (some true) [], .sl 0 (some true) []]])) (.seq (.reg (sq 3 [.alloc 3 208 [.sl 0 (some true) [], .sl 0 (some true) []]])) (.seq (.reg (sq 4 [fa 0 1, ld 4, cf 21 [5], fa 0 3] ++ s0 (sr 1 7 6))) (.seq (.reg (sq 8 [fa 1 1, ld 8, cf 21 [9], fa 1 3] ++ s0 (sr 1 11 10))) (.seq (.reg (sq 12 [la 2 3] ++ s0 (sr 2 2 12))) .ret)))))
theorem y2h : t6 Tryz.prog 271 x5a 13 [.cell 2 2 true] := mf Tryz.func271 Tryz.ntmps271
def k4o (x : Ty2) : Option Ty2 :=
 (q3w x.1).bind fun r0 =>
 (q3w x.2).bind fun r1 =>
 some (r0, r1)
instance c_to271 {x : Ty2} : y3 (k4o x) fun rr => x6 Tryz.prog 271 [.d (.agg [(z7 1 iD) x.1, (z7 1 iD) x.2])] [] 0 fun xx ss => xx = .agg [.gow 1 900000 x.1.length, .gow 1 900001 x.2.length] /\ ss = [(900000, .prv 1 x.1.length (j7 (List.map iD rr.1))), (900001, .prv 1 x.2.length (j7 (List.map iD rr.2)))] := ⟨@fun rr h => by
 delta k4o at h
 refine y2h.callsD (q6 ?_)
 delta x5a
 refine v5 ?_
 refine rCo [] [(900000, 6)] h fun r0 hr0 h => ?_
 refine nds ?_
 refine rCo [] [(900000, 10)] h fun r1 hr1 h => ?_
 refine nds ?_
 cases h
 exact x9.trans ((x9.trans (x9.move 6 900000 (ob := .prv 1 x.1.length (j7 (List.map iD r0))) (by omega) (by omega) (by omega) rfl (by first | rfl | (simp [sat, q0m, Ob.ren, m8]; done))) (x9.trans (x9.move 10 900001 (ob := .prv 1 x.2.length (j7 (List.map iD r1))) (by omega) (by omega) (by omega) rfl (by first | rfl | (simp [sat, q0m, Ob.ren, m8]; done))) (x9.drops [1, 2, 3] (by simp))))) (x9.told frd don)⟩
def x4z : j5 :=
 (.seq (.reg (sq 2 [.mv (.const (.slice none 0 0))])) (.seq (.reg (sq 5 [mv 0, ln 5, .mkslp 7 208 2 48 [.sl 0 (some true) [], .sl 0 (some true) []] false (t0 6) (t0 6)] ++ sq 3 [mv 7])) (.seq (.seq (.reg (sq 4 [mi 0])) (.block 0 (.loop (.seq (.seq (.reg (sq 8 [mv 4, mv 0, ln 9, bn .lss 8 10])) (.cond (t0 11) .skip (.exit 0))) (.seq (.block 1 (.reg (sq 14 [mv 3, mv 4, mv 0, mv 4, ix 2 16 17, la 2 18, cf 271 [19], ix 2 14 15] ++ s0 (sr 2 21 20)))) (.reg (sq 12 [mv 4, bi .add 12 1] ++ sq 4 [mv 13]))))))) (.seq (.reg (sq 22 [mv 3] ++ sq 2 [mv 22])) .ret))))
theorem y2g : t6 Tryz.prog 238 x4z 23 [.tmp 2] := mf Tryz.func238 Tryz.ntmps238
def q6e (a : Ty3) : (Int × Ty3) -> Option ((Int × Ty3) ⊕ Ty3)
 | (i, out) =>
  if (decide (i < (a.length : Int))) = true then
   if 0 <= i /\ i < (a.length : Int) /\ i < (out.length : Int) then
    (k4o (a.getD i.toNat default)).bind fun r =>
    some (.inl ((IntKind.i64.wrap (i + 1)), out.set i.toNat r))
   else none
  else
   Option.map Sum.inr (some out)
def k4n (a : Ty3) : Option Ty3 :=
 if 0 <= (a.length : Int) /\ 48 * (a.length : Int) <= 281474976710656 /\ (a.length : Int) < 4611686018427387904 then
  loopC (q6e a) (0, List.replicate a.length ([], []))
 else none
instance c_to238 {a : Ty3} : y3 (k4n a) fun rr => x6 Tryz.prog 238 [.d ((z7 2 c0q) a)] [] 0 fun xx ss => xx = .gow 2 900000 a.length /\ ss = [(900000, .prv 2 a.length (j7 (List.map y5 rr)))] := ⟨@fun rr h => by
 delta k4n at h
 refine y2g.callsD (q6 ?_)
 delta x4z
 refine v5 ?_
 refine ndI h fun hp h => ?_
 refine w5q h [4, 8, 9, 10, 11, 12, 13, 14, 15, 16, 17, 18, 19, 20, 21] (fun pp => [(4, .d (iD pp.1))]) (fun pp => [(7, .prv 2 a.length (j7 (List.map y5 pp.2)))]) ?_ ?_
 ·try dsimp only
  refine (y0.prvZ (id := 7) (f := y5) ([], []) rfl (by exact ⟨NLe.nilz, ⟨NLe.nilz, trivial⟩⟩)).trans ?_
  exact wk
 rintro ⟨i, out⟩ t1 h hb1
 unfold q6e at h
 try dsimp only at h
 refine q6 (v5 ?_)
 refine it h (fun hc h => ?_) fun hc h => ?_
 ·refine ndI h fun hp h => ?_
  refine rCo [] [(900000, 20), (900001, 200001)] h fun r hr h => ?_
  refine nds ?_
  cases h
  refine ⟨_, rfl, ?_⟩
  refine (y0.absSeg (f' := iD) (ys := r.1) (m := (a.getD i.toNat default).1.length) (m' := (a.getD i.toNat default).1.length) 7 20 0 rfl rfl (by first | rfl | (simp [sat, k3f, j8, p8, Ob.kill, Ob.ren, m8]; done)) rfl (by decide) (by omega) (by decide)).trans ?_
  refine (y0.absSeg (f' := iD) (ys := r.2) (m := (a.getD i.toNat default).2.length) (m' := (a.getD i.toNat default).2.length) 7 200001 1 rfl rfl (by first | rfl | (simp [sat, k3f, j8, p8, Ob.kill, Ob.ren, m8]; done)) rfl (by decide) (by omega) (by decide)).trans ?_
  refine (y0.drop 20 (by omega)).trans ?_
  refine (y0.drop 200001 (by omega)).trans ?_
  refine (y0.prvE 7 (j7 (List.map y5 (out.set i.toNat r))) rfl (by (try simp only [go_sem, k0j, k0h, m8, AV.rens, AV.ren]); exact k0p (i := i.toNat) (by omega) (by omega) (by omega) rfl)).trans ?_
  exact wk
 replace h := u9 h hb1
 cases h
 exact x9.trans (x9.move 7 900000 (ob := .prv 2 a.length (j7 (List.map y5 rr))) (by omega) (by omega) (by omega) rfl (by first | rfl | (simp [sat, q0m, Ob.ren, m8]; done))) (x9.told frd don)⟩
def x4y : j5 :=
 (.seq (.reg (sq 1 [bo 1 229 0, .alloc 2 136 [.sl 0 (some true) [], .sl 0 (some true) [], .sl 0 (some true) []]])) (.seq (.reg (sq 3 [.alloc 3 136 [.sl 0 (some true) [], .sl 0 (some true) [], .sl 0 (some true) []]])) (.seq (.reg (sq 4 [fa 0 1, ld 4, cf 21 [5], fa 0 3] ++ s0 (sr 1 7 6))) (.seq (.reg (sq 8 [fa 1 1, ld 8, cf 21 [9], fa 1 3] ++ s0 (sr 1 11 10))) (.seq (.reg (sq 12 [fa 2 1, ld 12, cf 238 [13], fa 2 3] ++ s0 (sr 1 15 14))) (.seq (.reg (sq 16 [la 3 3] ++ s0 (sr 3 2 16))) .ret))))))
theorem y2f : t6 Tryz.prog 182 x4y 17 [.cell 2 3 true] := mf Tryz.func182 Tryz.ntmps182
def k4m (x : Ty8) : Option Ty8 :=
 (q3w x.1).bind fun r0 =>
 (q3w x.2.1).bind fun r1 =>
 (k4n x.2.2).bind fun r2 =>
 some (r0, r1, r2)
instance c_to182 {x : Ty8} : y3 (k4m x) fun rr => x6 Tryz.prog 182 [.d (.agg [(z7 1 iD) x.1, (z7 1 iD) x.2.1, (z7 2 c0q) x.2.2])] [] 0 fun xx ss => xx = .agg [.gow 1 900000 x.1.length, .gow 1 900001 x.2.1.length, .gow 2 900002 x.2.2.length] /\ ss = [(900000, .prv 1 x.1.length (j7 (List.map iD rr.1))), (900001, .prv 1 x.2.1.length (j7 (List.map iD rr.2.1))), (900002, .prv 2 x.2.2.length (j7 (List.map y5 rr.2.2)))] := ⟨@fun rr h => by
 delta k4m at h
 refine y2f.callsD (q6 ?_)
 delta x4y
 refine v5 ?_
 refine rCo [] [(900000, 6)] h fun r0 hr0 h => ?_
 refine nds ?_
 refine rCo [] [(900000, 10)] h fun r1 hr1 h => ?_
 refine nds ?_
 refine rCo [] [(900000, 14)] h fun r2 hr2 h => ?_
 refine nds ?_
 cases h
 exact x9.trans ((x9.trans (x9.move 6 900000 (ob := .prv 1 x.1.length (j7 (List.map iD r0))) (by omega) (by omega) (by omega) rfl (by first | rfl | (simp [sat, q0m, Ob.ren, m8]; done))) (x9.trans (x9.move 10 900001 (ob := .prv 1 x.2.1.length (j7 (List.map iD r1))) (by omega) (by omega) (by omega) rfl (by first | rfl | (simp [sat, q0m, Ob.ren, m8]; done))) (x9.trans (x9.move 14 900002 (ob := .prv 2 x.2.2.length (j7 (List.map y5 r2))) (by omega) (by omega) (by omega) rfl (by first | rfl | (simp [sat, q0m, Ob.ren, m8]; done))) (x9.drops [1, 2, 3] (by simp)))))) (x9.told frd don)⟩
def x4x : j5 :=
 (.seq (.reg (sq 2 [.mv (.const (.slice none 0 0))])) (.seq (.reg (sq 5 [mv 0, ln 5, .mkslp 7 136 3 72 [.sl 0 (some true) [], .sl 0 (some true) [], .sl 0 (some true) []] false (t0 6) (t0 6)] ++ sq 3 [mv 7])) (.seq (.seq (.reg (sq 4 [mi 0])) (.block 0 (.loop (.seq (.seq (.reg (sq 8 [mv 4, mv 0, ln 9, bn .lss 8 10])) (.cond (t0 11) .skip (.exit 0))) (.seq (.block 1 (.reg (sq 14 [mv 3, mv 4, mv 0, mv 4, ix 3 16 17, la 3 18, cf 182 [19], ix 3 14 15] ++ s0 (sr 3 21 20)))) (.reg (sq 12 [mv 4, bi .add 12 1] ++ sq 4 [mv 13]))))))) (.seq (.reg (sq 22 [mv 3] ++ sq 2 [mv 22])) .ret))))
theorem y2e : t6 Tryz.prog 102 x4x 23 [.tmp 2] := mf Tryz.func102 Tryz.ntmps102
def q6d (a : List Ty8) : (Int × List Ty8) -> Option ((Int × List Ty8) ⊕ List Ty8)
 | (i, out) =>
  if (decide (i < (a.length : Int))) = true then
   if 0 <= i /\ i < (a.length : Int) /\ i < (out.length : Int) then
    (k4m (a.getD i.toNat default)).bind fun r =>
    some (.inl ((IntKind.i64.wrap (i + 1)), out.set i.toNat r))
   else none
  else
   Option.map Sum.inr (some out)
def k4l (a : List Ty8) : Option Ty9 :=
 if 0 <= (a.length : Int) /\ 72 * (a.length : Int) <= 281474976710656 /\ (a.length : Int) < 4611686018427387904 then
  loopC (q6d a) (0, List.replicate a.length ([], [], []))
 else none
instance c_to102 {a : List Ty8} : y3 (k4l a) fun rr => x6 Tryz.prog 102 [.d ((z7 3 z5q) a)] [] 0 fun xx ss => xx = .gow 3 900000 a.length /\ ss = [(900000, .prv 3 a.length (j7 (List.map q9 rr)))] := ⟨@fun rr h => by
 delta k4l at h
 refine y2e.callsD (q6 ?_)
 delta x4x
 refine v5 ?_
 refine ndI h fun hp h => ?_
 refine w5q h [4, 8, 9, 10, 11, 12, 13, 14, 15, 16, 17, 18, 19, 20, 21] (fun pp => [(4, .d (iD pp.1))]) (fun pp => [(7, .prv 3 a.length (j7 (List.map q9 pp.2)))]) ?_ ?_
 ·try dsimp only
  refine (y0.prvZ (id := 7) (f := q9) ([], [], []) rfl (by exact ⟨NLe.nilz, ⟨NLe.nilz, ⟨NLe.nilz, trivial⟩⟩⟩)).trans ?_
  exact wk
 rintro ⟨i, out⟩ t1 h hb1
 unfold q6d at h
 try dsimp only at h
 refine q6 (v5 ?_)
 refine it h (fun hc h => ?_) fun hc h => ?_
 ·refine ndI h fun hp h => ?_
  refine rCo [] [(900000, 20), (900001, 200001), (900002, 200002)] h fun r hr h => ?_
  refine nds ?_
  cases h
  refine ⟨_, rfl, ?_⟩
  refine (y0.absSeg (f' := iD) (ys := r.1) (m := (a.getD i.toNat default).1.length) (m' := (a.getD i.toNat default).1.length) 7 20 0 rfl rfl (by first | rfl | (simp [sat, k3f, j8, p8, Ob.kill, Ob.ren, m8]; done)) rfl (by decide) (by omega) (by decide)).trans ?_
  refine (y0.absSeg (f' := iD) (ys := r.2.1) (m := (a.getD i.toNat default).2.1.length) (m' := (a.getD i.toNat default).2.1.length) 7 200001 1 rfl rfl (by first | rfl | (simp [sat, k3f, j8, p8, Ob.kill, Ob.ren, m8]; done)) rfl (by decide) (by omega) (by decide)).trans ?_
  refine (y0.absSeg (f' := y5) (ys := r.2.2) (m := (a.getD i.toNat default).2.2.length) (m' := (a.getD i.toNat default).2.2.length) 7 200002 2 rfl rfl (by first | rfl | (simp [sat, k3f, j8, p8, Ob.kill, Ob.ren, m8]; done)) rfl (by decide) (by omega) (by decide)).trans ?_
  refine (y0.drop 20 (by omega)).trans ?_
  refine (y0.drop 200001 (by omega)).trans ?_
  refine (y0.drop 200002 (by omega)).trans ?_
  refine (y0.prvE 7 (j7 (List.map q9 (out.set i.toNat r))) rfl (by (try simp only [go_sem, k0j, k0h, m8, AV.rens, AV.ren]); exact k0p (i := i.toNat) (by omega) (by omega) (by omega) rfl)).trans ?_
  exact wk
 replace h := u9 h hb1
 cases h
 exact x9.trans (x9.move 7 900000 (ob := .prv 3 a.length (j7 (List.map q9 rr))) (by omega) (by omega) (by omega) rfl (by first | rfl | (simp [sat, q0m, Ob.ren, m8]; done))) (x9.told frd don)⟩
def y6l : j5 :=
 (.seq (.reg (sq 1 [bo 1 87 0, .alloc 2 74 [.sl 0 (some true) [], .sl 0 (some true) []]])) (.seq (.reg (sq 3 [.alloc 3 74 [.sl 0 (some true) [], .sl 0 (some true) []]])) (.seq (.reg (sq 4 [fa 0 1, la 1 4, cf 53 [5], fa 0 3] ++ s0 (sr 1 7 6))) (.seq (.reg (sq 8 [fa 1 1, ld 8, cf 102 [9], fa 1 3] ++ s0 (sr 1 11 10))) (.seq (.reg (sq 12 [la 2 3] ++ s0 (sr 2 2 12))) .ret)))))
theorem fnT41 : t6 Tryz.prog 41 y6l 13 [.cell 2 2 true] := mf Tryz.func41 Tryz.ntmps41
def k2k (x : TyA) : Option TyA :=
 (z6a x.1).bind fun r0 =>
 (k4l x.2).bind fun r1 =>
 some (r0, r1)
instance y1r {x : TyA} : y3 (k2k x) fun rr => x6 Tryz.prog 41 [.d (.agg [(z7 1 iD) x.1, (z7 3 z5q) x.2])] [] 0 fun xx ss => xx = .agg [.gow 1 900000 x.1.length, .gow 3 900001 x.2.length] /\ ss = [(900000, .prv 1 x.1.length (j7 (List.map iD rr.1))), (900001, .prv 3 x.2.length (j7 (List.map q9 rr.2)))] := ⟨@fun rr h => by
 delta k2k at h
 refine fnT41.callsD (q6 ?_)
 delta y6l
 refine v5 ?_
 refine rCo [] [(900000, 6)] h fun r0 hr0 h => ?_
 refine nds ?_
 refine rCo [] [(900000, 10)] h fun r1 hr1 h => ?_
 refine nds ?_
 cases h
 exact x9.trans ((x9.trans (x9.move 6 900000 (ob := .prv 1 x.1.length (j7 (List.map iD r0))) (by omega) (by omega) (by omega) rfl (by first | rfl | (simp [sat, q0m, Ob.ren, m8]; done))) (x9.trans (x9.move 10 900001 (ob := .prv 3 x.2.length (j7 (List.map q9 r1))) (by omega) (by omega) (by omega) rfl (by first | rfl | (simp [sat, q0m, Ob.ren, m8]; done))) (x9.drops [1, 2, 3] (by simp))))) (x9.told frd don)⟩
def k8i (x : TyA) : Option TyA := (k2k x).bind fun r => if x.1.length = r.1.length /\ x.2.length = r.2.length then some r else none
instance c_pub41 {x : TyA} : y3 (k8i x) fun rr => p7 Tryz.prog 41 [(.agg [(z7 1 iD) x.1, (z7 3 z5q) x.2])] (.agg [(z7 1 iD) rr.1, (z7 3 q9) rr.2]) := ⟨@fun rr h => by
 obtain ⟨r, h1, h2⟩ := q0e h
 obtain ⟨hp, h2⟩ := f8q h2
 cases h2
 exact x6.pub (dz := [(.agg [(z7 1 iD) x.1, (z7 3 z5q) x.2])]) (tl := [(900000, 1, List.map iD rr.1), (900001, 3, List.map q9 rr.2)]) ((y1r).c h1) (by simp [q5m]; try omega) (.agg (.cons (Pub.tok (f := iD) (by simp [q5m, sat]; try omega) (by omega)) (.cons (Pub.tok (f := q9) (by simp [q5m, sat]; try omega) (by omega)) .nil)))⟩
def q0b (n0 : Nat) (n1 : Nat) (n2 : Nat) (x0 : TyA) (x1 : q7) (x2 : Int) (x3 : Int) (x4 : Int) : Option (q7 × Ty5 × Bool) := if n0 = x0.1.length /\ n1 = x0.2.length /\ n2 = x1.length then c4q x0 x1 x2 x3 x4 else none
instance j7h {n0 : Nat} {n1 : Nat} {n2 : Nat} {x0 : TyA} {x1 : q7} {x2 : Int} {x3 : Int} {x4 : Int} : y3 (q0b n0 n1 n2 x0 x1 x2 x3 x4) fun rr => x6 Tryz.prog 32 [.agg [.gow 1 0 n0, .gow 3 1 n1], .gow 1 2 n2, .d (iD x2), .d (iD x3), .d (iD x4)] [(0, .prv 1 n0 (j7 (List.map iD x0.1))), (1, .prv 3 n1 (j7 (List.map q9 x0.2))), (2, .prv 1 n2 (j7 (List.map iD x1)))] 3 fun xx ss => xx = .tup [.agg [.gow 1 900000 rr.1.length, .gow 3 900001 rr.2.1.length], .d (bD rr.2.2)] /\ ss = [(0, .prv 1 n0 (j7 (List.map iD x0.1))), (1, .prv 3 n1 (j7 (List.map q9 x0.2))), (2, .prv 1 n2 (j7 (List.map iD x1))), (900000, .prv 1 rr.1.length (j7 (List.map iD rr.1))), (900001, .prv 3 rr.2.1.length (j7 (List.map z5 rr.2.1)))] := ⟨@fun rr h => by
 obtain ⟨hp, h⟩ := f8q h
 have h1 := x6.prv (y := .tup [.agg [.own 1 900000 (List.map iD rr.1), .own 3 900001 (List.map z5 rr.2.1)], .d (bD rr.2.2)]) ((k6v).c h) (fun p hp => by
  simp only [l8q, q4g, List.nil_append, List.cons_append, List.append_nil, List.mem_cons, List.not_mem_nil, or_false] at hp
  rcases hp with rfl | rfl
  ·exact q6f.flat (by rfl) (by simp)
  ·exact q6f.deep (by rfl) (by simp)) rfl rfl
 refine x6.eq (x6.lentO («as» := [(.agg [(z7 1 iD) x0.1, (z7 3 q9) x0.2]), ((z7 1 iD) x1), (iD x2), (iD x3), (iD x4)]) h1 rfl (args := [.agg [.gow 1 0 n0, .gow 3 1 n1], .gow 1 2 n2, .d (iD x2), .d (iD x3), .d (iD x4)]) (s := [(0, .prv 1 n0 (j7 (List.map iD x0.1))), (1, .prv 3 n1 (j7 (List.map q9 x0.2))), (2, .prv 1 n2 (j7 (List.map iD x1)))]) (k := 3) (.cons (.agg (.cons (k4p.tok (f := iD) rfl (by omega)) (.cons (k4p.tok (f := q9) rfl (by omega)) .nil))) (.cons (k4p.tok (f := iD) rfl (by omega)) (.cons (.le (AV.le_refl _)) (.cons (.le (AV.le_refl _)) (.cons (.le (AV.le_refl _)) .nil))))) (by simp [l8q, q4g]) (fun p hp => ?_)) (by simp [cnv, x7c]) (by simp [q5m, l8q, q4g])
 simp only [l8q, q4g, List.nil_append, List.cons_append, List.append_nil, List.mem_cons, List.not_mem_nil, or_false] at hp
 rcases hp with rfl | rfl
 ·exact i2q.2
 ·exact i2q.2⟩
def q9a (n0 : Nat) (n1 : Nat) (n2 : Nat) (n3 : Nat) (x0 : TyA) (x1 : TyA) : Option Bool := if n0 = x0.1.length /\ n1 = x0.2.length /\ n2 = x1.1.length /\ n3 = x1.2.length then f5q x0 x1 else none
instance x6o {n0 : Nat} {n1 : Nat} {n2 : Nat} {n3 : Nat} {x0 : TyA} {x1 : TyA} : y3 (q9a n0 n1 n2 n3 x0 x1) fun rr => x6 Tryz.prog 42 [.agg [.gow 1 0 n0, .gow 3 1 n1], .agg [.gow 1 2 n2, .gow 3 3 n3]] [(0, .prv 1 n0 (j7 (List.map iD x0.1))), (1, .prv 3 n1 (j7 (List.map q9 x0.2))), (2, .prv 1 n2 (j7 (List.map iD x1.1))), (3, .prv 3 n3 (j7 (List.map q9 x1.2)))] 4 fun xx ss => xx = .d (bD rr) /\ ss = [(0, .prv 1 n0 (j7 (List.map iD x0.1))), (1, .prv 3 n1 (j7 (List.map q9 x0.2))), (2, .prv 1 n2 (j7 (List.map iD x1.1))), (3, .prv 3 n3 (j7 (List.map q9 x1.2)))] := ⟨@fun rr h => by
 obtain ⟨hp, h⟩ := f8q h
 exact x6.lent ((k2x).c h) (.cons (.agg (.cons (k4p.tok (f := iD) rfl (by omega)) (.cons (k4p.tok (f := q9) rfl (by omega)) .nil))) (.cons (.agg (.cons (k4p.tok (f := iD) rfl (by omega)) (.cons (k4p.tok (f := q9) rfl (by omega)) .nil))) .nil))⟩
def x4w : j5 :=
 (.seq (.reg (sq 4 [mi 0])) (.seq (.seq (.reg (sq 5 [mi 0])) (.block 0 (.loop (.seq (.seq (.reg (sq 6 [mv 5, mv 0, ln 7, bn .lss 6 8])) (.cond (t0 9) .skip (.exit 0))) (.seq (.block 1 (.seq (.ghost (.reg (sq 12 [mv 0, mv 5, ix 2 12 13, fa 0 14, ld 15, mv 1, cf 25 [16, 17]] ++ sq 1 [mv 18]))) (.ghost (.reg (sq 19 [mv 0, mv 5, ix 2 19 20, fa 1 21, ld 22, mv 1, cf 25 [23, 24]] ++ sq 1 [mv 25]))))) (.reg (sq 10 [mv 5, bi .add 10 1] ++ sq 5 [mv 11]))))))) (.seq (.reg (sq 26 [mv 1] ++ sq 4 [mv 26])) .ret)))
theorem y2d : t6 Tryz.prog 184 x4w 27 [.tmp 4] := mf Tryz.func184 Tryz.ntmps184
def q9c (n : Nat) : (Int × Int × Ty3) -> Option ((Int × Int × Ty3) ⊕ (Ty3 × Int))
 | (k, i, b) =>
  if (decide (i < (n : Int))) = true then
   if 0 <= i /\ i < (n : Int) /\ i < (b.length : Int) then
    (q5i ((b.getD i.toNat default).1).length ((b.getD i.toNat default).1) k).bind fun r1 =>
    (q5i ((b.getD i.toNat default).2).length ((b.getD i.toNat default).2) r1.2).bind fun r2 =>
    some (.inl (r2.2, (IntKind.i64.wrap (i + 1)), b.set i.toNat (r1.1, r2.1)))
   else none
  else
   Option.map Sum.inr (some (b, k))
def k4i (n : Nat) (a : Ty3) (k : Int) : Option (Ty3 × Int) := loopC (q9c n) (k, 0, a)
instance c_mk184 {n : Nat} {a : Ty3} {k : Int} : y3 (k4i n a k) fun rr => x6 Tryz.prog 184 [.gow 2 0 n, .d (iD k)] [(0, .prv 2 n (j7 (List.map y5 a)))] 1 fun xx ss => xx = .d (iD rr.2) /\ ss = [(0, .prv 2 n (j7 (List.map y5 rr.1)))] := ⟨@fun rr h => by
 delta k4i at h
 refine y2d.callsD (q6 ?_)
 delta x4w
 refine v5 ?_
 refine w5q h [1, 5, 6, 7, 8, 9, 10, 11, 12, 13, 14, 15, 16, 17, 18, 19, 20, 21, 22, 23, 24, 25] (fun pp => [(1, .d (iD pp.1)), (5, .d (iD pp.2.1))]) (fun pp => [(0, .prv 2 n (j7 (List.map y5 pp.2.2)))]) ?_ ?_
 ·try dsimp only
  exact wk
 rintro ⟨k, i, b⟩ t1 h hb1
 unfold q9c at h
 try dsimp only at h
 refine q6 (v5 ?_)
 refine it h (fun hc h => ?_) fun hc h => ?_
 ·refine ndI h fun hp h => ?_
  refine p5q.of ((y0.prvE 0 (j7 (List.map y5 (b.set i.toNat ((b.getD i.toNat default).1, (b.getD i.toNat default).2)))) rfl (by rw [z0c (by omega)])).trans (y0.extC (f := y5) (f' := iD) (xs := b) (y := ((b.getD i.toNat default).1, (b.getD i.toNat default).2)) (ys := ((b.getD i.toNat default).1)) 0 501 i.toNat 0 rfl (by omega) (by decide) (m := i.toNat * 2) (by omega) rfl rfl (by omega))) ?_
  refine v5 ?_
  refine nds ?_
  refine rCo [(0, 501)] [] h fun r1 hr1 h => ?_
  refine nds ?_
  refine p5q.of ((y0.absC (f := y5) (f' := iD) (xs := b) (y := ((b.getD i.toNat default).1, (b.getD i.toNat default).2)) (y' := (r1.1, (b.getD i.toNat default).2)) (ys := r1.1) 0 501 i.toNat 0 rfl rfl rfl (by omega) (by decide) (by omega) (by decide) rfl (by omega) (by decide)).trans (y0.extC (f := y5) (f' := iD) (xs := b) (y := (r1.1, (b.getD i.toNat default).2)) (ys := ((b.getD i.toNat default).2)) 0 502 i.toNat 1 rfl (by omega) (by decide) (m := i.toNat * 2 + 1) (by omega) rfl rfl (by omega))) ?_
  refine v5 ?_
  refine nds ?_
  refine rCo [(0, 502)] [] h fun r2 hr2 h => ?_
  refine nds ?_
  cases h
  refine ⟨_, rfl, ?_⟩
  refine (y0.absC (f := y5) (f' := iD) (xs := b) (y := (r1.1, (b.getD i.toNat default).2)) (y' := (r1.1, r2.1)) (ys := r2.1) 0 502 i.toNat 1 rfl rfl rfl (by omega) (by decide) (by omega) (by decide) rfl (by omega) (by decide)).trans ?_
  exact wk
 replace h := u9 h hb1
 cases h
 exact x9.told frd don⟩
def x4v : j5 :=
 (.seq (.reg (sq 4 [mi 0])) (.seq (.seq (.reg (sq 5 [mi 0])) (.block 0 (.loop (.seq (.seq (.reg (sq 6 [mv 5, mv 0, ln 7, bn .lss 6 8])) (.cond (t0 9) .skip (.exit 0))) (.seq (.block 1 (.seq (.ghost (.reg (sq 12 [mv 0, mv 5, ix 3 12 13, fa 0 14, ld 15, mv 1, cf 25 [16, 17]] ++ sq 1 [mv 18]))) (.seq (.ghost (.reg (sq 19 [mv 0, mv 5, ix 3 19 20, fa 1 21, ld 22, mv 1, cf 25 [23, 24]] ++ sq 1 [mv 25]))) (.ghost (.reg (sq 26 [mv 0, mv 5, ix 3 26 27, fa 2 28, ld 29, mv 1, cf 184 [30, 31]] ++ sq 1 [mv 32])))))) (.reg (sq 10 [mv 5, bi .add 10 1] ++ sq 5 [mv 11]))))))) (.seq (.reg (sq 33 [mv 1] ++ sq 4 [mv 33])) .ret)))
theorem y2c : t6 Tryz.prog 104 x4v 34 [.tmp 4] := mf Tryz.func104 Tryz.ntmps104
def q9b (n : Nat) : (Int × Int × List Ty8) -> Option ((Int × Int × List Ty8) ⊕ (List Ty8 × Int))
 | (k, i, b) =>
  if (decide (i < (n : Int))) = true then
   if 0 <= i /\ i < (n : Int) /\ i < (b.length : Int) then
    (q5i ((b.getD i.toNat default).1).length ((b.getD i.toNat default).1) k).bind fun r1 =>
    (q5i ((b.getD i.toNat default).2.1).length ((b.getD i.toNat default).2.1) r1.2).bind fun r2 =>
    (k4i ((b.getD i.toNat default).2.2).length ((b.getD i.toNat default).2.2) r2.2).bind fun r3 =>
    some (.inl (r3.2, (IntKind.i64.wrap (i + 1)), b.set i.toNat (r1.1, r2.1, r3.1)))
   else none
  else
   Option.map Sum.inr (some (b, k))
def k4h (n : Nat) (a : List Ty8) (k : Int) : Option (List Ty8 × Int) := loopC (q9b n) (k, 0, a)
instance c_mk104 {n : Nat} {a : List Ty8} {k : Int} : y3 (k4h n a k) fun rr => x6 Tryz.prog 104 [.gow 3 0 n, .d (iD k)] [(0, .prv 3 n (j7 (List.map q9 a)))] 1 fun xx ss => xx = .d (iD rr.2) /\ ss = [(0, .prv 3 n (j7 (List.map q9 rr.1)))] := ⟨@fun rr h => by
 delta k4h at h
 refine y2c.callsD (q6 ?_)
 delta x4v
 refine v5 ?_
 refine w5q h [1, 5, 6, 7, 8, 9, 10, 11, 12, 13, 14, 15, 16, 17, 18, 19, 20, 21, 22, 23, 24, 25, 26, 27, 28, 29, 30, 31, 32] (fun pp => [(1, .d (iD pp.1)), (5, .d (iD pp.2.1))]) (fun pp => [(0, .prv 3 n (j7 (List.map q9 pp.2.2)))]) ?_ ?_
 ·try dsimp only
  exact wk
 rintro ⟨k, i, b⟩ t1 h hb1
 unfold q9b at h
 try dsimp only at h
 refine q6 (v5 ?_)
 refine it h (fun hc h => ?_) fun hc h => ?_
 ·refine ndI h fun hp h => ?_
  refine p5q.of ((y0.prvE 0 (j7 (List.map q9 (b.set i.toNat ((b.getD i.toNat default).1, (b.getD i.toNat default).2.1, (b.getD i.toNat default).2.2)))) rfl (by rw [z0c (by omega)])).trans (y0.extC (f := q9) (f' := iD) (xs := b) (y := ((b.getD i.toNat default).1, (b.getD i.toNat default).2.1, (b.getD i.toNat default).2.2)) (ys := ((b.getD i.toNat default).1)) 0 501 i.toNat 0 rfl (by omega) (by decide) (m := i.toNat * 3) (by omega) rfl rfl (by omega))) ?_
  refine v5 ?_
  refine nds ?_
  refine rCo [(0, 501)] [] h fun r1 hr1 h => ?_
  refine nds ?_
  refine p5q.of ((y0.absC (f := q9) (f' := iD) (xs := b) (y := ((b.getD i.toNat default).1, (b.getD i.toNat default).2.1, (b.getD i.toNat default).2.2)) (y' := (r1.1, (b.getD i.toNat default).2.1, (b.getD i.toNat default).2.2)) (ys := r1.1) 0 501 i.toNat 0 rfl rfl rfl (by omega) (by decide) (by omega) (by decide) rfl (by omega) (by decide)).trans (y0.extC (f := q9) (f' := iD) (xs := b) (y := (r1.1, (b.getD i.toNat default).2.1, (b.getD i.toNat default).2.2)) (ys := ((b.getD i.toNat default).2.1)) 0 502 i.toNat 1 rfl (by omega) (by decide) (m := i.toNat * 3 + 1) (by omega) rfl rfl (by omega))) ?_
  refine v5 ?_
  refine nds ?_
  refine rCo [(0, 502)] [] h fun r2 hr2 h => ?_
  refine nds ?_
  refine p5q.of ((y0.absC (f := q9) (f' := iD) (xs := b) (y := (r1.1, (b.getD i.toNat default).2.1, (b.getD i.toNat default).2.2)) (y' := (r1.1, r2.1, (b.getD i.toNat default).2.2)) (ys := r2.1) 0 502 i.toNat 1 rfl rfl rfl (by omega) (by decide) (by omega) (by decide) rfl (by omega) (by decide)).trans (y0.extC (f := q9) (f' := y5) (xs := b) (y := (r1.1, r2.1, (b.getD i.toNat default).2.2)) (ys := ((b.getD i.toNat default).2.2)) 0 503 i.toNat 2 rfl (by omega) (by decide) (m := i.toNat * 3 + 2) (by omega) rfl rfl (by omega))) ?_
  refine v5 ?_
  refine nds ?_
  refine rCo [(0, 503)] [] h fun r3 hr3 h => ?_
  refine nds ?_
  cases h
  refine ⟨_, rfl, ?_⟩
  refine (y0.absC (f := q9) (f' := y5) (xs := b) (y := (r1.1, r2.1, (b.getD i.toNat default).2.2)) (y' := (r1.1, r2.1, r3.1)) (ys := r3.1) 0 503 i.toNat 2 rfl rfl rfl (by omega) (by decide) (by omega) (by decide) rfl (by omega) (by decide)).trans ?_
  exact wk
 replace h := u9 h hb1
 cases h
 exact x9.told frd don⟩
def y6h : j5 :=
 (.seq (.reg (sq 2 [.boxi 64 2 74 (t0 0)] ++ sq 4 [mi 0])) (.seq (.reg (sq 5 [fa 0 2, la 1 5, mv 1, cf 67 [6, 7]] ++ sq 1 [mv 8])) (.seq (.reg (sq 9 [fa 1 2, ld 9, mv 1, cf 104 [10, 11]] ++ sq 1 [mv 12])) (.seq (.reg (sq 13 [mv 1] ++ sq 4 [mv 13])) .ret))))
theorem fnM43 : t6 Tryz.prog 43 y6h 14 [.tmp 4] := mf Tryz.func43 Tryz.ntmps43
def z0v (n0 : Nat) (n1 : Nat) (x : TyA) (k : Int) : Option (TyA × Int) :=
 (z5z n0 x.1 k).bind fun r0 =>
 (k4h n1 x.2 r0.2).bind fun r1 =>
 some ((r0.1, r1.1), r1.2)
instance c_mk43 {n0 : Nat} {n1 : Nat} {x : TyA} {k : Int} : y3 (z0v n0 n1 x k) fun rr => x6 Tryz.prog 43 [.agg [.gow 1 0 n0, .gow 3 1 n1], .d (iD k)] [(0, .prv 1 n0 (j7 (List.map iD x.1))), (1, .prv 3 n1 (j7 (List.map q9 x.2)))] 2 fun xx ss => xx = .d (iD rr.2) /\ ss = [(0, .prv 1 n0 (j7 (List.map iD rr.1.1))), (1, .prv 3 n1 (j7 (List.map q9 rr.1.2)))] := ⟨@fun rr h => by
 delta z0v at h
 refine fnM43.callsD (q6 ?_)
 delta y6h
 refine v5 ?_
 refine rCo [(0, 0)] [] h fun r0 hr0 h => ?_
 refine nds ?_
 refine rCo [(0, 1)] [] h fun r1 hr1 h => ?_
 refine nds ?_
 cases h
 exact x9.trans (x9.drops [64] (by simp)) (x9.told frd don)⟩
set_option maxRecDepth 8000
attribute [-go_sem] sat j8
def mc6 : j5 :=
 (.seq (.reg (sq 5 [bo 5 87 0] ++ sq 10 [mb false])) (.seq (.seq (.reg (sq 23 [mv 1, ln 23, bi .gtr 24 1048576])) (.cond (t0 25) (.seq (.reg (sq 10 [mb true])) .ret) .skip)) (.seq (.reg (sq 11 [mi 1048576])) (.seq (.reg (sq 26 [la 2 5, mv 11, cf 40 [26, 27]] ++ sq 11 [mv 28])) (.seq (.seq (.reg (sq 29 [mv 11, bi .lss 29 0])) (.cond (t0 30) (.seq (.reg (sq 10 [mb true])) .ret) .skip)) (.seq (.reg (sq 32 [la 2 5, cf 41 [32], mv 1, cf 21 [34], mv 2, mv 3, mv 4, cf 33 [33, 35, 36, 37, 38]] ++ sq 31 [mv 39] ++ sq 40 [ex 31 0, ex 31 1] ++ sq 12 [.alloc 12 40 [.sl 0 (some true) [], .sl 0 (some true) []]] ++ s0 (sr 2 12 40) ++ sq 13 [mv 41])) (.seq (.reg (sq 42 [la 2 5, cf 41 [42]] ++ sq 14 [.alloc 14 74 [.sl 0 (some true) [], .sl 0 (some true) []]] ++ s0 (sr 2 14 43))) (.seq (.reg (sq 44 [mv 1, cf 21 [44]] ++ sq 15 [mv 45])) (.seq (.reg (sq 47 [la 2 14, mv 15, mv 2, mv 3, mv 4, cf 32 [47, 48, 49, 50, 51]] ++ sq 46 [mv 52] ++ sq 53 [ex 46 0, ex 46 1] ++ sq 16 [.alloc 16 40 [.sl 0 (some true) [], .sl 0 (some true) []]] ++ s0 (sr 2 16 53) ++ sq 17 [mv 54])) (.seq (.seq (.reg (sq 55 [la 2 16, la 2 12, cf 13 [55, 56], nt 57, mv 58] ++ sg 59 false 60 [mv 17, mv 13, .binb true (t0 60) (t0 61)] ++ sq 63 [po 59 62])) (.cond (t0 63) (.seq (.reg (sq 10 [mb false])) .ret) .skip)) (.seq (.seq (.draw (sq 64 [la 2 14, la 2 5, cf 41 [65], cf 42 [64, 66], nt 67]) [[], [], [1], [0, 2, 2], [3]]) (.cond (t0 68) (.seq (.reg (sq 10 [mb false])) .ret) .skip)) (.seq (.seq (.reg (sq 69 [mv 15, mv 1, cf 21 [70], cf 24 [69, 71], nt 72])) (.cond (t0 73) (.seq (.reg (sq 10 [mb false])) .ret) .skip)) (.seq (.reg (sq 18 [mi 1])) (.seq (.reg (sq 74 [la 2 14, mv 18, cf 43 [74, 75]] ++ sq 18 [mv 76])) (.seq (.reg (sq 77 [mv 15, mv 18, cf 25 [77, 78]] ++ sq 18 [mv 79])) (.seq (.seq (.reg (sq 80 [mv 18, bi .lss 80 0, mv 81] ++ sg 82 false 83 [la 2 16, la 2 12, cf 13 [83, 84], nt 85] ++ sq 87 [po 82 86, mv 87] ++ sg 88 false 89 [mv 17, mv 13, .binb true (t0 89) (t0 90)] ++ sq 92 [po 88 91])) (.cond (t0 92) (.seq (.reg (sq 10 [mb false])) .ret) .skip)) (.seq (.reg (sq 19 [mi 1])) (.seq (.reg (sq 93 [la 2 16, mv 19, cf 18 [93, 94]] ++ sq 19 [mv 95])) (.seq (.reg (sq 20 [mi 1])) (.seq (.reg (sq 96 [la 2 16, mv 20, cf 19 [96, 97]] ++ sq 20 [mv 98])) (.seq (.seq (.reg (sq 99 [mv 20, bi .lss 99 0])) (.cond (t0 100) (.seq (.reg (sq 10 [mb false])) .ret) .skip)) (.seq (.seq (.reg (sq 101 [mv 20, mv 19, bn .neq 101 102])) (.cond (t0 103) (.seq (.reg (sq 10 [mb false])) .ret) .skip)) (.seq (.reg (sq 105 [la 2 5, cf 41 [105], mv 1, cf 21 [107], mv 2, mv 3, mv 4, cf 32 [106, 108, 109, 110, 111]] ++ sq 104 [mv 112] ++ sq 113 [ex 104 0, ex 104 1] ++ sq 21 [.alloc 21 40 [.sl 0 (some true) [], .sl 0 (some true) []]] ++ s0 (sr 2 21 113) ++ sq 22 [mv 114])) (.seq (.seq (.reg (sq 115 [la 2 21, la 2 12, cf 13 [115, 116], nt 117, mv 118] ++ sg 119 false 120 [mv 22, mv 13, .binb true (t0 120) (t0 121)] ++ sq 123 [po 119 122])) (.cond (t0 123) (.seq (.reg (sq 10 [mb false])) .ret) .skip)) (.seq (.reg (sq 20 [mi 1])) (.seq (.reg (sq 124 [la 2 16, mv 20, cf 19 [124, 125]] ++ sq 20 [mv 126])) (.seq (.seq (.reg (sq 127 [mv 20, bi .lss 127 0])) (.cond (t0 128) (.seq (.reg (sq 10 [mb false])) .ret) .skip)) (.seq (.seq (.reg (sq 129 [mv 20, mv 19, bn .neq 129 130])) (.cond (t0 131) (.seq (.reg (sq 10 [mb false])) .ret) .skip)) (.seq (.reg (sq 10 [mb true])) .ret)))))))))))))))))))))))))))))
theorem fn6 : t6 Tryz.prog 6 mc6 132 [.tmp 10] := mf Tryz.func6 Tryz.ntmps6
def u1q (aCs : TyA) (aT : q7) (aAt : Int) (aRule : Int) (aDepth : Int) : Option Bool :=
 if (decide (1048576 < (aT.length : Int))) = true then
  some true
 else
  (f6q aCs 1048576).bind fun r =>
  if (decide (r < 0)) = true then
   some true
  else
   (k8i aCs).bind fun v =>
   (k8h aT).bind fun v_1 =>
   (o1q v v_1 aAt aRule aDepth).bind fun r_1 =>
   (k2k aCs).bind fun v_2 =>
   (q3w aT).bind fun v_3 =>
   (q0b aCs.1.length aCs.2.length aT.length v_2 v_3 aAt aRule aDepth).bind fun g =>
   (q3s g.1.length g.2.1.length (g.1, g.2.1) r_1.1).bind fun q =>
   if q = true then
    if (g.2.2 != r_1.2) = true then
     some false
    else
     (k2k aCs).bind fun v_4 =>
     (q9a aCs.1.length aCs.2.length aCs.1.length aCs.2.length v_2 v_4).bind fun q_1 =>
     if q_1 = true then
      (q3w aT).bind fun v_5 =>
      (q8z aT.length aT.length v_3 v_5).bind fun q_2 =>
      if q_2 = true then
       (z0v aCs.1.length aCs.2.length v_2 1).bind fun m =>
       (q5i aT.length v_3 m.2).bind fun m_1 =>
       if (decide (m_1.2 < 0)) = true then
        some false
       else
        (q3s g.1.length g.2.1.length (g.1, g.2.1) r_1.1).bind fun q_3 =>
        if q_3 = true then
         if (g.2.2 != r_1.2) = true then
          some false
         else
          (z0u g.1.length g.2.1.length (g.1, g.2.1) 1).bind fun m_2 =>
          (q5z g.1.length g.2.1.length m_2.1 1).bind fun q_4 =>
          if (decide (q_4 < 0)) = true then
           some false
          else
           if (q_4 != m_2.2) = true then
            some false
           else
            (k2k aCs).bind fun v_6 =>
            (q3w aT).bind fun v_7 =>
            (q0b aCs.1.length aCs.2.length aT.length v_6 v_7 aAt aRule aDepth).bind fun g_1 =>
            (q3s g_1.1.length g_1.2.1.length (g_1.1, g_1.2.1) r_1.1).bind fun q_5 =>
            if q_5 = true then
             if (g_1.2.2 != r_1.2) = true then
              some false
             else
              (q5z g.1.length g.2.1.length m_2.1 1).bind fun q_6 =>
              if (decide (q_6 < 0)) = true then
               some false
              else
               if (q_6 != m_2.2) = true then
                some false
               else
                some true
            else
             some false
        else
         some false
      else
       some false
     else
      some false
   else
    some false
instance q6i {aCs : TyA} {aT : q7} {aAt : Int} {aRule : Int} {aDepth : Int} : y3 (u1q aCs aT aAt aRule aDepth) fun rr => p7 Tryz.prog 6 [y5q aCs, (z7 1 iD) aT, iD aAt, iD aRule, iD aDepth] (bD rr) := ⟨@fun rr h => by
 delta u1q at h
 refine fn6.pureL (q6 ?_)
 delta mc6
 refine v5 ?_
 refine iF h fun hc h => ?_
 refine rC h fun r hr h => ?_
 refine iF h fun hc h => ?_
 refine rC h fun v hv h => ?_
 refine rC h fun v_1 hv_1 h => ?_
 refine rCN h fun r_1 hr_1 h => ?_
 refine rCo [] [(900000, 43), (900001, 200000)] h fun v_2 hv_2 h => ?_
 refine rCo [] [(900000, 45)] h fun v_3 hv_3 h => ?_
 refine rCo [(0, 43), (1, 200000), (2, 45)] [(900000, 52), (900001, 200001)] h fun g hg h => ?_
 refine rCo [(0, 52), (1, 200001)] [] h fun q hq h => ?_
 refine iT h fun hc h => ?_
 refine iF h fun hc h => ?_
 refine dCo [] [(900000, 66), (900001, 200002)] h fun v_4 hv_4 h => ?_
 refine dCo [(0, 43), (1, 200000), (2, 66), (3, 200002)] [] h fun q_1 hq_1 h => ?_
 refine y7q (by kernel_rfl) (v5 ?_)
 refine iT h fun hc h => ?_
 refine rCo [] [(900000, 71)] h fun v_5 hv_5 h => ?_
 refine rCo [(0, 45), (1, 71)] [] h fun q_2 hq_2 h => ?_
 refine iT h fun hc h => ?_
 refine rCo [(0, 43), (1, 200000)] [] h fun m hm h => ?_
 refine rCo [(0, 45)] [] h fun m_1 hm_1 h => ?_
 refine iF h fun hc h => ?_
 refine rCo [(0, 52), (1, 200001)] [] h fun q_3 hq_3 h => ?_
 refine iT h fun hc h => ?_
 refine iF h fun hc h => ?_
 refine rCo [(0, 52), (1, 200001)] [] h fun m_2 hm_2 h => ?_
 refine rCo [(0, 52), (1, 200001)] [] h fun q_4 hq_4 h => ?_
 refine iF h fun hc h => ?_
 refine iF h fun hc h => ?_
 refine rCo [] [(900000, 106), (900001, 200003)] h fun v_6 hv_6 h => ?_
 refine rCo [] [(900000, 108)] h fun v_7 hv_7 h => ?_
 refine rCo [(0, 106), (1, 200003), (2, 108)] [(900000, 112), (900001, 200004)] h fun g_1 hg_1 h => ?_
 refine rCo [(0, 112), (1, 200004)] [] h fun q_5 hq_5 h => ?_
 refine iT h fun hc h => ?_
 refine iF h fun hc h => ?_
 refine rCo [(0, 52), (1, 200001)] [] h fun q_6 hq_6 h => ?_
 exact aut⟩
end Go.Proofs.YtklfjpilhbkekaaGreat
