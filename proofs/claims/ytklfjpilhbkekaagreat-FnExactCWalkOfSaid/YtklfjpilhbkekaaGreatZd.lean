/- Functions of the program and the equations that they compute, the tests of the law; nothing is assumed. -/
import Derived.Test.YtklfjpilhbkekaaGreatZb
set_option linter.all false
noncomputable section
namespace Go.Proofs.YtklfjpilhbkekaaGreat
open Go Abx
attribute [local irreducible] vcm vgo vdr q3o q0n MWp p5q BrC BrO BrG BrD BrH z0s a3q q3y drQ w8 e2q
set_option maxHeartbeats 4000000
def q6w (x : q7) : D := .agg [(z7 1 iD) x]
def q4l (x : Ty2) : D := .agg [(z7 1 iD) x.1, (z7 1 iD) x.2]
def q4m (x : Ty6) : D := .agg [(z7 1 iD) x.1, (z7 2 q4l) x.2]
instance : Cel q6w 1 := ⟨fun _ => rfl⟩
instance : Cel q4l 2 := ⟨fun _ => rfl⟩
instance : Cel q4m 2 := ⟨fun _ => rfl⟩
attribute [go_sem] q6w q4l q4m
def y3a : j5 :=
 (.seq (.reg (sq 4 [mi 0])) (.seq (.reg (sq 5 [mv 1, mv 0, ln 6, bn .sub 5 7] ++ sq 1 [mv 8])) (.seq (.seq (.reg (sq 9 [mv 1, bi .lss 9 0])) (.cond (t0 10) (.seq (.reg (sq 4 [mi (-1)])) .ret) .skip)) (.seq (.reg (sq 11 [mv 1] ++ sq 4 [mv 11])) .ret))))
theorem fn105 : t6 Tryz.prog 105 y3a 12 [.tmp 4] := mf Tryz.func105 Tryz.ntmps105
def k2q (a : q7) (left : Int) : Option Int :=
 if (decide ((IntKind.i64.wrap (left - (a.length : Int))) < 0)) = true then
  some (-1)
 else
  some (IntKind.i64.wrap (left - (a.length : Int)))
instance j2s {a : q7} {left : Int} : y3 (k2q a left) fun rr => p7 Tryz.prog 105 [(z7 1 iD) a, iD left] (iD rr) := ⟨@fun rr h => by
 delta k2q at h
 refine fn105.pureL (q6 ?_)
 delta y3a
 refine v5 ?_
 exact aut⟩
def mc44 : j5 :=
 (.seq (.reg (sq 2 [bo 2 24 0] ++ sq 4 [mi 0])) (.seq (.reg (sq 5 [fa 0 2, ld 5, mv 1, cf 105 [6, 7]] ++ sq 1 [mv 8])) (.seq (.seq (.reg (sq 9 [mv 1, bi .lss 9 0])) (.cond (t0 10) (.seq (.reg (sq 4 [mi (-1)])) .ret) .skip)) (.seq (.reg (sq 11 [mv 1] ++ sq 4 [mv 11])) .ret))))
theorem fn44 : t6 Tryz.prog 44 mc44 12 [.tmp 4] := mf Tryz.func44 Tryz.ntmps44
def q2x (a : q7) (left : Int) : Option Int :=
 (k2q a left).bind fun r =>
 if (decide (r < 0)) = true then
  some (-1)
 else
  some r
instance x4c {a : q7} {left : Int} : y3 (q2x a left) fun rr => p7 Tryz.prog 44 [q6w a, iD left] (iD rr) := ⟨@fun rr h => by
 delta q2x at h
 refine fn44.pureL (q6 ?_)
 delta mc44
 refine v5 ?_
 exact aut⟩
def mc24 : j5 :=
 (.seq (.reg (sq 4 [mb false])) (.seq (.seq (.reg (sq 6 [mv 0, ln 6, mv 1, ln 8, bn .neq 7 9])) (.cond (t0 10) (.seq (.reg (sq 4 [mb false])) .ret) .skip)) (.seq (.seq (.reg (sq 5 [mi 0])) (.block 0 (.loop (.seq (.seq (.reg (sq 11 [mv 5, mv 0, ln 12, bn .lss 11 13])) (.cond (t0 14) .skip (.exit 0))) (.seq (.block 1 (.seq (.draw (sq 17 [mv 0, mv 5, ix 1 17 18, ld 19, mv 1, mv 5, ix 1 21 22, ld 23, bn .neq 20 24]) [[], [], [0, 1], [2], [], [], [4, 5], [6], [3, 7]]) (.cond (t0 25) (.seq (.reg (sq 4 [mb false])) .ret) .skip))) (.reg (sq 15 [mv 5, bi .add 15 1] ++ sq 5 [mv 16]))))))) (.seq (.reg (sq 4 [mb true])) .ret))))
theorem fn24 : t6 Tryz.prog 24 mc24 26 [.tmp 4] := mf Tryz.func24 Tryz.ntmps24
def p1q (a : q7) (b : q7) : Int -> Option (Int ⊕ Bool)
 | i =>
  if (decide (i < (a.length : Int))) = true then
   if 0 <= i /\ i < (a.length : Int) then
    if 0 <= i /\ i < (b.length : Int) then
     if ((a.getD i.toNat default) != (b.getD i.toNat default)) = true then
      Option.map Sum.inr (
       some false)
     else
      some (.inl (IntKind.i64.wrap (i + 1)))
    else none
   else none
  else
   Option.map Sum.inr (
    some true)
def i6 (a : q7) (b : q7) : Option Bool :=
 if ((a.length : Int) != (b.length : Int)) = true then
  some false
 else
  loopC (p1q a b) 0
instance k4t {a : q7} {b : q7} : y3 (i6 a b) fun rr => p7 Tryz.prog 24 [(z7 1 iD) a, (z7 1 iD) b] (bD rr) := ⟨@fun rr h => by
 delta i6 at h
 refine fn24.pureL (q6 ?_)
 delta mc24
 refine v5 ?_
 refine iF h fun hc h => ?_
 refine s9 h [4, 5, 11, 12, 13, 14, 15, 16, 17, 18, 19, 20, 21, 22, 23, 24, 25] (fun pp => [(5, .d (iD pp))]) (fun pp => []) ?_
 rintro i t1 h hb1
 unfold p1q at h
 try dsimp only at h
 refine q6 (v5 ?_)
 exact aut⟩
def mc64 : j5 :=
 (.seq (.reg (sq 2 [bo 2 43 0, bo 3 43 1, mb false])) (.seq (.seq (.reg (sq 5 [fa 0 2, ld 5, fa 0 3, ld 7, cf 24 [6, 8], nt 9])) (.cond (t0 10) (.seq (.reg (sq 4 [mb false])) .ret) .skip)) (.seq (.reg (sq 4 [mb true])) .ret)))
theorem fn64 : t6 Tryz.prog 64 mc64 11 [.tmp 4] := mf Tryz.func64 Tryz.ntmps64
def q2w (a : q7) (b : q7) : Option Bool :=
 (i6 a b).bind fun r =>
 if r = true then
  some true
 else
  some false
instance x4a {a : q7} {b : q7} : y3 (q2w a b) fun rr => p7 Tryz.prog 64 [u3 a, u3 b] (bD rr) := ⟨@fun rr h => by
 delta q2w at h
 refine fn64.pureL (q6 ?_)
 delta mc64
 refine v5 ?_
 exact aut⟩
def mc71 : j5 :=
 (.seq (.reg (sq 4 [mi 0])) (.seq (.seq (.reg (sq 5 [mi 0])) (.block 0 (.loop (.seq (.seq (.reg (sq 6 [mv 5, mv 0, ln 7, bn .lss 6 8])) (.cond (t0 9) .skip (.exit 0))) (.seq (.block 1 (.seq (.seq (.reg (sq 12 [mv 0, mv 5, ix 1 12 13, ld 14, mv 1, bn .neq 15 16])) (.cond (t0 17) (.seq (.reg (sq 4 [mi (-1)])) .ret) .skip)) (.reg (sq 18 [mv 1, bi .add 18 1] ++ sq 1 [mv 19])))) (.reg (sq 10 [mv 5, bi .add 10 1] ++ sq 5 [mv 11]))))))) (.seq (.reg (sq 20 [mv 1] ++ sq 4 [mv 20])) .ret)))
theorem fn71 : t6 Tryz.prog 71 mc71 21 [.tmp 4] := mf Tryz.func71 Tryz.ntmps71
def d0q (a : q7) : (Int × Int) -> Option ((Int × Int) ⊕ Int)
 | (k_1, i) =>
  if (decide (i < (a.length : Int))) = true then
   if 0 <= i /\ i < (a.length : Int) then
    if ((a.getD i.toNat default) != k_1) = true then
     Option.map Sum.inr (
      some (-1))
    else
     some (.inl ((IntKind.i64.wrap (k_1 + 1)), (IntKind.i64.wrap (i + 1))))
   else none
  else
   Option.map Sum.inr (
    some k_1)
def j2q (a : q7) (k : Int) : Option Int :=
 loopC (d0q a) (k, 0)
instance z9g {a : q7} {k : Int} : y3 (j2q a k) fun rr => p7 Tryz.prog 71 [(z7 1 iD) a, iD k] (iD rr) := ⟨@fun rr h => by
 delta j2q at h
 refine fn71.pureL (q6 ?_)
 delta mc71
 refine v5 ?_
 refine s9 h [1, 4, 5, 6, 7, 8, 9, 10, 11, 12, 13, 14, 15, 16, 17, 18, 19] (fun pp => [(1, .d (iD pp.1)), (5, .d (iD pp.2))]) (fun pp => []) ?_
 rintro ⟨k_1, i⟩ t1 h hb1
 unfold d0q at h
 try dsimp only at h
 refine q6 (v5 ?_)
 exact aut⟩
end Go.Proofs.YtklfjpilhbkekaaGreat
