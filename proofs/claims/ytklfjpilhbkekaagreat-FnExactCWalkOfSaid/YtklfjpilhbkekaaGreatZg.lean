/- Functions of the program and the equations that they compute, conditional systems, the reference; nothing is assumed. -/
import Derived.Test.YtklfjpilhbkekaaGreatZf
set_option linter.all false
noncomputable section
namespace Go.Proofs.YtklfjpilhbkekaaGreat
open Go Abx
attribute [local irreducible] vcm vgo vdr q3o q0n MWp p5q BrC BrO BrG BrD BrH z0s a3q q3y drQ w8 e2q
set_option maxHeartbeats 4000000
set_option maxRecDepth 8000
def y5 (x : Ty2) : D := .agg [(z7 1 iD) x.1, (z7 1 iD) x.2]
def q9 (x : Ty8) : D := .agg [(z7 1 iD) x.1, (z7 1 iD) x.2.1, (z7 2 y5) x.2.2]
def j6 (x : TyA) : D := .agg [(z7 1 iD) x.1, (z7 3 q9) x.2]
instance : Cel y5 2 := ⟨fun _ => rfl⟩
instance : Cel q9 3 := ⟨fun _ => rfl⟩
instance : Cel j6 2 := ⟨fun _ => rfl⟩
attribute [go_sem] y5 q9 j6
def y5i : j5 :=
 (.seq (.reg (sq 4 [.mv (.const (.slice none 0 0))])) (.seq (.reg (sq 5 [mi 0])) (.seq (.block 0 (.loop (.seq (.seq (.reg (sq 7 [mv 5, mv 0, ln 8, bn .lss 7 9, mv 10] ++ sg 11 true 12 [mv 0, mv 5, ix 1 12 13, ld 14, mv 1, bn .lss 15 16] ++ sq 18 [pa 11 17])) (.cond (t0 18) .skip (.exit 0))) (.block 1 (.reg (sq 19 [mv 5, bi .add 19 1] ++ sq 5 [mv 20])))))) (.seq (.seq (.reg (sq 21 [mv 5, mv 0, ln 22, bn .lss 21 23, mv 24] ++ sg 25 true 26 [mv 0, mv 5, ix 1 26 27, ld 28, mv 1, bn .eql 29 30] ++ sq 32 [pa 25 31])) (.cond (t0 32) (.seq (.reg (sq 33 [mv 0] ++ sq 4 [mv 33])) .ret) .skip)) (.seq (.reg (sq 34 [mv 0, mv 5, .slc (t0 34) 1 none (some (t0 35)) none, cf 91 [36], mv 1, .bsl 39 2 1 [(t0 38)], ap 40 2 1 8 37 39] ++ sq 6 [mv 40])) (.seq (.reg (sq 41 [mv 6, mv 0, mv 5, .slc (t0 42) 1 (some (t0 43)) none none, ap 45 2 1 8 41 44] ++ sq 4 [mv 45])) .ret))))))
theorem fn235 : t6 Tryz.prog 235 y5i 46 [.tmp 4] := mf Tryz.func235 Tryz.ntmps235
def y0q (list : q7) (n : Int) : Int -> Option (Int ⊕ q7)
 | k =>
  if (decide (k < (list.length : Int))) = true then
   if 0 <= k /\ k < (list.length : Int) then
    if (decide ((list.getD k.toNat default) < n)) = true then
     some (.inl (IntKind.i64.wrap (k + 1)))
    else
     Option.map Sum.inr (
      if (decide (k < (list.length : Int))) = true then
       if 0 <= k /\ k < (list.length : Int) then
        if ((list.getD k.toNat default) == n) = true then
         some list
        else
         if 0 <= k /\ k <= (list.length : Int) then
          (d6 (list.take k.toNat)).bind fun r =>
          if (r.length + 1) * 8 <= 140737488355328 then
           if 0 <= k /\ k <= (list.length : Int) then
            if ((r ++ [n]).length + (list.drop k.toNat).length) * 8 <= 140737488355328 then
             some ((r ++ [n]) ++ (list.drop k.toNat))
            else none
           else none
          else none
         else none
       else none
      else
       if 0 <= k /\ k <= (list.length : Int) then
        (d6 (list.take k.toNat)).bind fun r_1 =>
        if (r_1.length + 1) * 8 <= 140737488355328 then
         if 0 <= k /\ k <= (list.length : Int) then
          if ((r_1 ++ [n]).length + (list.drop k.toNat).length) * 8 <= 140737488355328 then
           some ((r_1 ++ [n]) ++ (list.drop k.toNat))
          else none
         else none
        else none
       else none)
   else none
  else
   Option.map Sum.inr (
    if (decide (k < (list.length : Int))) = true then
     if 0 <= k /\ k < (list.length : Int) then
      if ((list.getD k.toNat default) == n) = true then
       some list
      else
       if 0 <= k /\ k <= (list.length : Int) then
        (d6 (list.take k.toNat)).bind fun r_2 =>
        if (r_2.length + 1) * 8 <= 140737488355328 then
         if 0 <= k /\ k <= (list.length : Int) then
          if ((r_2 ++ [n]).length + (list.drop k.toNat).length) * 8 <= 140737488355328 then
           some ((r_2 ++ [n]) ++ (list.drop k.toNat))
          else none
         else none
        else none
       else none
     else none
    else
     if 0 <= k /\ k <= (list.length : Int) then
      (d6 (list.take k.toNat)).bind fun r_3 =>
      if (r_3.length + 1) * 8 <= 140737488355328 then
       if 0 <= k /\ k <= (list.length : Int) then
        if ((r_3 ++ [n]).length + (list.drop k.toNat).length) * 8 <= 140737488355328 then
         some ((r_3 ++ [n]) ++ (list.drop k.toNat))
        else none
       else none
      else none
     else none)
def s0q (list : q7) (n : Int) : Option q7 :=
 loopC (y0q list n) 0
instance j9v {list : q7} {n : Int} : y3 (s0q list n) fun rr => p7 Tryz.prog 235 [(z7 1 iD) list, iD n] ((z7 1 iD) rr) := ⟨@fun rr h => by
 delta s0q at h
 refine fn235.pureL (q6 ?_)
 delta y5i
 refine v5 ?_
 refine s9 h [5, 7, 8, 9, 10, 11, 12, 13, 14, 15, 16, 17, 18, 19, 20] (fun pp => [(5, .d (iD pp))]) (fun pp => []) ?_
 rintro k t1 h hb1
 unfold y0q at h
 try dsimp only at h
 refine q6 (v5 ?_)
 refine it h (fun hc h => ?_) fun hc h => ?_
 ·refine ndI h fun hp h => ?_
  refine iF h fun hc h => ?_
  replace h := u9 h hb1
  refine it h (fun hc h => ?_) fun hc h => ?_
  ·refine ndI h fun hp h => ?_
   refine iF h fun hc h => ?_
   refine ndI h fun hp h => ?_
   refine rCo [] [(3, 37)] h fun r hr h => ?_
   exact aut
  refine ndI h fun hp h => ?_
  refine rCo [] [(3, 37)] h fun r_1 hr_1 h => ?_
  exact aut
 replace h := u9 h hb1
 refine it h (fun hc h => ?_) fun hc h => ?_
 ·refine ndI h fun hp h => ?_
  refine iF h fun hc h => ?_
  refine ndI h fun hp h => ?_
  refine rCo [] [(3, 37)] h fun r_2 hr_2 h => ?_
  exact aut
 refine ndI h fun hp h => ?_
 refine rCo [] [(3, 37)] h fun r_3 hr_3 h => ?_
 exact aut⟩
def y4g : j5 :=
 (.seq (.reg (sq 4 [.mv (.const (.slice none 0 0))])) (.seq (.seq (.reg (sq 5 [mi 0])) (.block 0 (.loop (.seq (.seq (.reg (sq 6 [mv 5, mv 1, ln 7, bn .lss 6 8])) (.cond (t0 9) .skip (.exit 0))) (.seq (.block 1 (.seq (.reg (sq 12 [mv 1, mv 5, ix 1 12 13, ld 14, bi .lss 15 0])) (.cond (t0 16) (.reg (sq 17 [mv 0, mv 1, mv 5, ix 1 18 19, ld 20, .bin .sub (i0 (-1)) (t0 21), cf 235 [17, 22]] ++ sq 0 [mv 23])) .skip))) (.reg (sq 10 [mv 5, bi .add 10 1] ++ sq 5 [mv 11]))))))) (.seq (.reg (sq 24 [mv 0] ++ sq 4 [mv 24])) .ret)))
theorem fn178 : t6 Tryz.prog 178 y4g 25 [.tmp 4] := mf Tryz.func178 Tryz.ntmps178
def d9q (t : q7) : (q7 × Int) -> Option ((q7 × Int) ⊕ q7)
 | (vars_1, i) =>
  if (decide (i < (t.length : Int))) = true then
   if 0 <= i /\ i < (t.length : Int) then
    if (decide ((t.getD i.toNat default) < 0)) = true then
     if 0 <= i /\ i < (t.length : Int) then
      (s0q vars_1 (IntKind.i64.wrap ((-1) - (t.getD i.toNat default)))).bind fun r =>
      some (.inl (r, (IntKind.i64.wrap (i + 1))))
     else none
    else
     some (.inl (vars_1, (IntKind.i64.wrap (i + 1))))
   else none
  else
   Option.map Sum.inr (
    some vars_1)
def r4 (vars : q7) (t : q7) : Option q7 :=
 loopC (d9q t) (vars, 0)
instance j8b {vars : q7} {t : q7} : y3 (r4 vars t) fun rr => p7 Tryz.prog 178 [(z7 1 iD) vars, (z7 1 iD) t] ((z7 1 iD) rr) := ⟨@fun rr h => by
 delta r4 at h
 refine fn178.pureL (q6 ?_)
 delta y4g
 refine v5 ?_
 refine s9 h [0, 5, 6, 7, 8, 9, 10, 11, 12, 13, 14, 15, 16, 17, 18, 19, 20, 21, 22, 23] (fun pp => [(0, .d (z7 1 iD pp.1)), (5, .d (iD pp.2))]) (fun pp => []) ?_
 rintro ⟨vars_1, i⟩ t1 h hb1
 unfold d9q at h
 try dsimp only at h
 refine q6 (v5 ?_)
 exact aut⟩
def y5g : j5 :=
 (.seq (.reg (sq 2 [bo 2 43 0, bo 3 208 1, mb false])) (.seq (.reg (sq 5 [la 1 2, fa 0 3, ld 6, cf 154 [5, 7], mv 8] ++ sg 9 true 10 [la 1 2, fa 1 3, ld 11, cf 154 [10, 12]] ++ sq 14 [pa 9 13] ++ sq 4 [mv 14])) .ret))
theorem fn233 : t6 Tryz.prog 233 y5g 15 [.tmp 4] := mf Tryz.func233 Tryz.ntmps233
def e7q (sig : q7) (e : Ty2) : Option Bool :=
 (q2q sig e.1).bind fun r =>
 if r = true then
  (q2q sig e.2).bind fun r_1 =>
  some r_1
 else
  some false
instance x6v {sig : q7} {e : Ty2} : y3 (e7q sig e) fun rr => p7 Tryz.prog 233 [u3 sig, y5 e] (bD rr) := ⟨@fun rr h => by
 delta e7q at h
 refine fn233.pureL (q6 ?_)
 delta y5g
 refine v5 ?_
 exact aut⟩
def y5h : j5 :=
 (.seq (.reg (sq 4 [mb false])) (.seq (.seq (.reg (sq 5 [mi 0])) (.block 0 (.loop (.seq (.seq (.reg (sq 6 [mv 5, mv 0, ln 7, bn .lss 6 8])) (.cond (t0 9) .skip (.exit 0))) (.seq (.block 1 (.seq (.reg (sq 12 [mv 0, mv 5, ix 1 12 13, ld 14, bi .lss 15 0, mv 16] ++ sg 17 true 18 [mv 1, mv 0, mv 5, ix 1 19 20, ld 21, .bin .sub (i0 (-1)) (t0 22), cf 179 [18, 23], nt 24] ++ sq 26 [pa 17 25])) (.cond (t0 26) (.seq (.reg (sq 4 [mb false])) .ret) .skip))) (.reg (sq 10 [mv 5, bi .add 10 1] ++ sq 5 [mv 11]))))))) (.seq (.reg (sq 4 [mb true])) .ret)))
theorem fn234 : t6 Tryz.prog 234 y5h 27 [.tmp 4] := mf Tryz.func234 Tryz.ntmps234
def m9q (t : q7) (vars : q7) : Int -> Option (Int ⊕ Bool)
 | i =>
  if (decide (i < (t.length : Int))) = true then
   if 0 <= i /\ i < (t.length : Int) then
    if (decide ((t.getD i.toNat default) < 0)) = true then
     if 0 <= i /\ i < (t.length : Int) then
      (n0q vars (IntKind.i64.wrap ((-1) - (t.getD i.toNat default)))).bind fun r =>
      if r = true then
       some (.inl (IntKind.i64.wrap (i + 1)))
      else
       Option.map Sum.inr (
        some false)
     else none
    else
     some (.inl (IntKind.i64.wrap (i + 1)))
   else none
  else
   Option.map Sum.inr (
    some true)
def y1q (t : q7) (vars : q7) : Option Bool :=
 loopC (m9q t vars) 0
instance j1p {t : q7} {vars : q7} : y3 (y1q t vars) fun rr => p7 Tryz.prog 234 [(z7 1 iD) t, (z7 1 iD) vars] (bD rr) := ⟨@fun rr h => by
 delta y1q at h
 refine fn234.pureL (q6 ?_)
 delta y5h
 refine v5 ?_
 refine s9 h [4, 5, 6, 7, 8, 9, 10, 11, 12, 13, 14, 15, 16, 17, 18, 19, 20, 21, 22, 23, 24, 25, 26] (fun pp => [(5, .d (iD pp))]) (fun pp => []) ?_
 rintro i t1 h hb1
 unfold m9q at h
 try dsimp only at h
 refine q6 (v5 ?_)
 exact aut⟩
def y4e : j5 :=
 (.seq (.reg (sq 2 [bo 2 43 0, bo 3 136 1, mb false])) (.seq (.seq (.reg (sq 7 [la 1 2, fa 0 3, ld 8, cf 154 [7, 9], nt 10, mv 11] ++ sg 12 false 13 [la 1 2, fa 1 3, ld 14, cf 154 [13, 15], nt 16] ++ sq 18 [po 12 17, mv 18] ++ sg 19 false 20 [fa 0 3, ld 20, .ixa 1 (t0 21) (i0 0), ld 22, bi .lss 23 0] ++ sq 25 [po 19 24, mv 25] ++ sg 26 false 27 [fa 2 3, ld 27, ln 28, bi .gtr 29 2] ++ sq 31 [po 26 30])) (.cond (t0 31) (.seq (.reg (sq 4 [mb false])) .ret) .skip)) (.seq (.reg (sq 32 [.bsl 32 2 1 [], fa 0 3, ld 33, cf 178 [32, 34]] ++ sq 5 [mv 35])) (.seq (.seq (.reg (sq 6 [mi 0])) (.block 0 (.loop (.seq (.seq (.reg (sq 36 [mv 6, fa 2 3, ld 37, ln 38, bn .lss 36 39])) (.cond (t0 40) .skip (.exit 0))) (.seq (.block 1 (.seq (.seq (.draw (sq 43 [la 1 2, fa 2 3, ld 44, mv 6, ix 2 45 46, la 2 47, cf 233 [43, 48], nt 49, mv 50] ++ sg 51 false 52 [fa 2 3, ld 52, mv 6, ix 2 53 54, fa 0 55, ld 56, mv 5, cf 234 [57, 58], nt 59] ++ sq 61 [po 51 60]) [[], [], [1], [], [2, 3], [4], [0, 5], [6], [7, 6], [8], [9, 8], [8], [10, 11, 8], [12, 8], [13, 8], [8], [14, 15, 8, 8], [16, 8], [8, 17]]) (.cond (t0 61) (.seq (.reg (sq 4 [mb false])) .ret) .skip)) (.reg (sq 62 [mv 5, fa 2 3, ld 63, mv 6, ix 2 64 65, fa 1 66, ld 67, cf 178 [62, 68]] ++ sq 5 [mv 69])))) (.reg (sq 41 [mv 6, bi .add 41 1] ++ sq 6 [mv 42]))))))) (.seq (.reg (sq 70 [fa 1 3, ld 70, mv 5, cf 234 [71, 72]] ++ sq 4 [mv 73])) .ret)))))
theorem fn176 : t6 Tryz.prog 176 y4e 74 [.tmp 4] := mf Tryz.func176 Tryz.ntmps176
def v2q (sig : q7) (r : Ty8) : (q7 × Int) -> Option ((q7 × Int) ⊕ Bool)
 | (vars, i) =>
  if (decide (i < (r.2.2.length : Int))) = true then
   if 0 <= i /\ i < (r.2.2.length : Int) then
    (e7q sig ((r.2.2.getD i.toNat default).1, (r.2.2.getD i.toNat default).2)).bind fun r_4 =>
    if r_4 = true then
     if 0 <= i /\ i < (r.2.2.length : Int) then
      (y1q ((r.2.2.getD i.toNat default).1) vars).bind fun r_5 =>
      if r_5 = true then
       if 0 <= i /\ i < (r.2.2.length : Int) then
        (r4 vars ((r.2.2.getD i.toNat default).2)).bind fun r_6 =>
        some (.inl (r_6, (IntKind.i64.wrap (i + 1))))
       else none
      else
       Option.map Sum.inr (
        some false)
     else none
    else
     Option.map Sum.inr (
      some false)
   else none
  else
   Option.map Sum.inr (
    (y1q r.2.1 vars).bind fun r_7 =>
    some r_7)
def c9q (sig : q7) (r : Ty8) : Option Bool :=
 (q2q sig r.1).bind fun r_1 =>
 if r_1 = true then
  (q2q sig r.2.1).bind fun r_2 =>
  if r_2 = true then
   if 0 <= 0 /\ 0 < (r.1.length : Int) then
    if (decide ((r.1.getD 0 default) < 0)) = true then
     some false
    else
     if (decide (2 < (r.2.2.length : Int))) = true then
      some false
     else
      (r4 [] r.1).bind fun r_3 =>
      loopC (v2q sig r) (r_3, 0)
   else none
  else
   some false
 else
  some false
instance j7s {sig : q7} {r : Ty8} : y3 (c9q sig r) fun rr => p7 Tryz.prog 176 [u3 sig, q9 r] (bD rr) := ⟨@fun rr h => by
 delta c9q at h
 refine fn176.pureL (q6 ?_)
 delta y4e
 refine v5 ?_
 refine rC h fun r_1 hr_1 h => ?_
 refine iT h fun hc h => ?_
 refine rC h fun r_2 hr_2 h => ?_
 refine iT h fun hc h => ?_
 refine ndI h fun hp h => ?_
 refine iF h fun hc h => ?_
 refine iF h fun hc h => ?_
 refine rC h fun r_3 hr_3 h => ?_
 refine s9 h [4, 5, 6, 36, 37, 38, 39, 40, 41, 42, 43, 44, 45, 46, 47, 48, 49, 50, 51, 52, 53, 54, 55, 56, 57, 58, 59, 60, 61, 62, 63, 64, 65, 66, 67, 68, 69] (fun pp => [(5, .d (z7 1 iD pp.1)), (6, .d (iD pp.2))]) (fun pp => [(2, .obj 43 [.d (z7 1 iD sig)]), (3, .obj 136 [.d (z7 1 iD r.1), .d (z7 1 iD r.2.1), .d (z7 2 y5 r.2.2)]), (32, .tok 2 1 0)]) ?_
 rintro ⟨vars, i⟩ t1 h hb1
 unfold v2q at h
 try dsimp only at h
 refine q6 (v5 ?_)
 exact aut⟩
def mc93 : j5 :=
 (.seq (.reg (sq 1 [bo 1 74 0, mb false])) (.seq (.seq (.reg (sq 4 [fa 0 1, la 1 4, cf 96 [5], nt 6, mv 7] ++ sg 8 false 9 [fa 1 1, ld 9, ln 10, bi .gtr 11 12] ++ sq 13 [po 8 12])) (.cond (t0 13) (.seq (.reg (sq 2 [mb false])) .ret) .skip)) (.seq (.seq (.reg (sq 3 [mi 0])) (.block 0 (.loop (.seq (.seq (.reg (sq 14 [mv 3, fa 1 1, ld 15, ln 16, bn .lss 14 17])) (.cond (t0 18) .skip (.exit 0))) (.seq (.block 1 (.seq (.draw (sq 21 [fa 0 1, la 1 21, fa 1 1, ld 23, mv 3, ix 3 24 25, la 3 26, cf 176 [22, 27], nt 28]) [[], [0], [], [2], [], [3, 4], [5], [1, 6], [7]]) (.cond (t0 29) (.seq (.reg (sq 2 [mb false])) .ret) .skip))) (.reg (sq 19 [mv 3, bi .add 19 1] ++ sq 3 [mv 20]))))))) (.seq (.reg (sq 2 [mb true])) .ret))))
theorem fn93 : t6 Tryz.prog 93 mc93 30 [.tmp 2] := mf Tryz.func93 Tryz.ntmps93
def m8q (cs : TyA) : Int -> Option (Int ⊕ Bool)
 | i =>
  if (decide (i < (cs.2.length : Int))) = true then
   if 0 <= i /\ i < (cs.2.length : Int) then
    (c9q cs.1 ((cs.2.getD i.toNat default).1, (cs.2.getD i.toNat default).2.1, (cs.2.getD i.toNat default).2.2)).bind fun r_1 =>
    if r_1 = true then
     some (.inl (IntKind.i64.wrap (i + 1)))
    else
     Option.map Sum.inr (
      some false)
   else none
  else
   Option.map Sum.inr (
    some true)
def g6q (cs : TyA) : Option Bool :=
 (b8q cs.1).bind fun r =>
 if r = true then
  if (decide (12 < (cs.2.length : Int))) = true then
   some false
  else
   loopC (m8q cs) 0
 else
  some false
instance j1n {cs : TyA} : y3 (g6q cs) fun rr => p7 Tryz.prog 93 [j6 cs] (bD rr) := ⟨@fun rr h => by
 delta g6q at h
 refine fn93.pureL (q6 ?_)
 delta mc93
 refine v5 ?_
 refine rC h fun r hr h => ?_
 refine iT h fun hc h => ?_
 refine iF h fun hc h => ?_
 refine s9 h [2, 3, 14, 15, 16, 17, 18, 19, 20, 21, 22, 23, 24, 25, 26, 27, 28, 29] (fun pp => [(3, .d (iD pp))]) (fun pp => [(1, .obj 74 [.d (z7 1 iD cs.1), .d (z7 3 q9 cs.2)])]) ?_
 rintro i t1 h hb1
 unfold m8q at h
 try dsimp only at h
 refine q6 (v5 ?_)
 exact aut⟩
def mc85 : j5 :=
 (.seq (.reg (sq 3 [bo 3 74 0] ++ sq 6 [mb false])) (.seq (.reg (sq 7 [la 2 3, cf 93 [7], mv 8] ++ sg 9 true 10 [fa 0 3, la 1 10, mv 1, cf 154 [11, 12]] ++ sq 14 [pa 9 13, mv 14] ++ sg 15 true 16 [mv 2, .callf 49 [(t0 16), (i0 0), (i0 2)]] ++ sq 18 [pa 15 17] ++ sq 6 [mv 18])) .ret))
theorem fn85 : t6 Tryz.prog 85 mc85 19 [.tmp 6] := mf Tryz.func85 Tryz.ntmps85
def n3q (cs : TyA) (t : q7) (depth : Int) : Option Bool :=
 (g6q cs).bind fun r =>
 if r = true then
  (q2q cs.1 t).bind fun r_1 =>
  if r_1 = true then
   (x9q depth 0 2).bind fun r_2 =>
   some r_2
  else
   some false
 else
  some false
instance j2x {cs : TyA} {t : q7} {depth : Int} : y3 (n3q cs t depth) fun rr => p7 Tryz.prog 85 [j6 cs, (z7 1 iD) t, iD depth] (bD rr) := ⟨@fun rr h => by
 delta n3q at h
 refine fn85.pureL (q6 ?_)
 delta mc85
 refine v5 ?_
 exact aut⟩
def y5u : j5 :=
 (.seq (.reg (sq 3 [bo 3 43 0] ++ sq 6 [.mv (.const (.slice none 0 0))])) (.seq (.reg (sq 10 [.bsl 10 2 1 []] ++ sq 7 [mv 10])) (.seq (.reg (sq 11 [mv 2, bi .add 11 1] ++ sq 8 [mv 12])) (.seq (.seq (.draw (sq 13 [la 1 3, mv 1, mv 2, ix 1 14 15, ld 16, cf 240 [13, 17]] ++ sq 9 [mv 18]) [[], [], [], [1, 2], [3], [0, 4], [5, 5, 0, 1, 2, 3, 4, 5]]) (.block 0 (.loop (.seq (.seq (.reg (sq 19 [mv 9, bi .gtr 19 0])) (.cond (t0 20) .skip (.exit 0))) (.seq (.block 1 (.seq (.reg (sq 23 [mv 7, mv 8, .bsl 25 2 1 [(t0 24)], ap 26 2 1 8 23 25] ++ sq 7 [mv 26])) (.reg (sq 27 [la 1 3, mv 1, mv 8, cf 187 [27, 28, 29]] ++ sq 8 [mv 30])))) (.reg (sq 21 [mv 9, bi .sub 21 1] ++ sq 9 [mv 22]))))))) (.seq (.reg (sq 31 [mv 7] ++ sq 6 [mv 31])) .ret)))))
theorem fn267 : t6 Tryz.prog 267 y5u 32 [.tmp 6] := mf Tryz.func267 Tryz.ntmps267
def q0r (sig : q7) (t : q7) : (q7 × Int × Int) -> Option ((q7 × Int × Int) ⊕ q7)
 | (out, p, k) =>
  if (decide (0 < k)) = true then
   if (out.length + 1) * 8 <= 140737488355328 then
    (z6q sig t p).bind fun r_1 =>
    some (.inl ((out ++ [p]), r_1, (IntKind.i64.wrap (k - 1))))
   else none
  else
   Option.map Sum.inr (
    some out)
def l0q (sig : q7) (t : q7) (x7 : Int) : Option q7 :=
 if 0 <= x7 /\ x7 < (t.length : Int) then
  (w1q sig (t.getD x7.toNat default)).bind fun r =>
  loopC (q0r sig t) ([], (IntKind.i64.wrap (x7 + 1)), r)
 else none
instance j9t {sig : q7} {t : q7} {x7 : Int} : y3 (l0q sig t x7) fun rr => p7 Tryz.prog 267 [u3 sig, (z7 1 iD) t, iD x7] ((z7 1 iD) rr) := ⟨@fun rr h => by
 delta l0q at h
 refine fn267.pureL (q6 ?_)
 delta y5u
 refine v5 ?_
 refine ndI h fun hp h => ?_
 refine dC h fun r hr h => ?_
 refine y7q (by kernel_rfl) (v5 ?_)
 refine s9 h [7, 8, 9, 19, 20, 21, 22, 23, 24, 25, 26, 27, 28, 29, 30] (fun pp => [(7, .own 1 10 (List.map iD pp.1)), (8, .d (iD pp.2.1)), (9, .d (iD pp.2.2))]) (fun pp => [(3, .obj 43 [.d (z7 1 iD sig)]), (10, .tok 2 1 pp.1.length)]) ?_
 rintro ⟨out, p, k⟩ t1 h hb1
 unfold q0r at h
 try dsimp only at h
 refine q6 (v5 ?_)
 refine iT h fun hc h => ?_
 refine ndI h fun hp h => ?_
 refine rC h fun r_1 hr_1 h => ?_
 cases h
 refine ⟨_, rfl, ?_⟩
 refine (y0.drop 25 (by omega)).trans ?_
 exact wk⟩
def y5c : j5 :=
 (.seq (.reg (sq 3 [bo 3 43 0] ++ sq 6 [.mv (.const (.slice none 0 0))])) (.seq (.seq (.reg (sq 7 [la 1 3, mv 1, cf 154 [7, 8], nt 9, mv 10] ++ sg 11 false 12 [mv 1, mv 2, cf 86 [12, 13], nt 14] ++ sq 16 [po 11 15])) (.cond (t0 16) (.seq (.reg (sq 17 [.bsl 17 2 1 []] ++ sq 6 [mv 17])) .ret) .skip)) (.seq (.reg (sq 18 [la 1 3, mv 1, mv 2, cf 267 [18, 19, 20]] ++ sq 6 [mv 21])) .ret)))
theorem fn229 : t6 Tryz.prog 229 y5c 22 [.tmp 6] := mf Tryz.func229 Tryz.ntmps229
def n9q (sig : q7) (t : q7) (x7 : Int) : Option q7 :=
 (q2q sig t).bind fun r =>
 if r = true then
  (u7q t x7).bind fun r_1 =>
  if r_1 = true then
   (l0q sig t x7).bind fun r_2 =>
   some r_2
  else
   some []
 else
  some []
instance j9p {sig : q7} {t : q7} {x7 : Int} : y3 (n9q sig t x7) fun rr => p7 Tryz.prog 229 [u3 sig, (z7 1 iD) t, iD x7] ((z7 1 iD) rr) := ⟨@fun rr h => by
 delta n9q at h
 refine fn229.pureL (q6 ?_)
 delta y5c
 refine v5 ?_
 exact aut⟩
def q2p : j5 :=
 (.seq (.reg (sq 4 [bo 4 43 0] ++ sq 8 [.mv (.const (.slice none 0 0)), mb false])) (.seq (.seq (.reg (sq 17 [mv 2, ln 17, bi .eql 18 0, mv 19] ++ sg 20 false 21 [mv 3, ln 21, bi .eql 22 0] ++ sq 24 [po 20 23])) (.cond (t0 24) (.seq (.reg (sq 25 [mv 1] ++ sq 8 [mv 25, mb false])) .ret) .skip)) (.seq (.seq (.reg (sq 26 [mv 2, .ixa 1 (t0 26) (i0 0), ld 27, bi .lss 28 0])) (.cond (t0 29) (.seq (.reg (sq 30 [mv 2, .ixa 1 (t0 30) (i0 0), ld 31, .bin .sub (i0 (-1)) (t0 32)] ++ sq 10 [mv 33])) (.seq (.seq (.reg (sq 34 [mv 1, mv 10, ix 1 34 35, ld 36, ln 37, bi .gtr 38 0])) (.cond (t0 39) (.seq (.reg (sq 40 [mv 1, mv 1, mv 10, ix 1 41 42, ld 43, mv 3, cf 36 [44, 45]] ++ sq 8 [mv 40, mv 46])) .ret) .skip)) (.seq (.reg (sq 47 [.bslg 47 22 1 [], mv 1, ap 49 22 1 24 47 48] ++ sq 11 [mv 49])) (.seq (.reg (sq 50 [mv 11, mv 10, mv 3, ix 1 50 51] ++ s0 (sr 1 53 52))) (.seq (.reg (sq 54 [mv 11] ++ sq 8 [mv 54, mb true])) .ret))))) .skip)) (.seq (.seq (.draw (sq 55 [mv 2, .ixa 1 (t0 55) (i0 0), ld 56, mv 3, .ixa 1 (t0 58) (i0 0), ld 59, bn .neq 57 60]) [[], [0], [1], [], [3], [4], [2, 5]]) (.cond (t0 61) (.seq (.reg (sq 62 [mv 1] ++ sq 8 [mv 62, mb false])) .ret) .skip)) (.seq (.reg (sq 63 [la 1 4, mv 2, .callf 229 [(t0 63), (t0 64), (i0 0)]] ++ sq 12 [mv 65])) (.seq (.reg (sq 66 [la 1 4, mv 3, .callf 229 [(t0 66), (t0 67), (i0 0)]] ++ sq 13 [mv 68])) (.seq (.seq (.reg (sq 14 [mi 0])) (.block 0 (.loop (.seq (.seq (.reg (sq 69 [mv 14, mv 12, ln 70, bn .lss 69 71])) (.cond (t0 72) .skip (.exit 0))) (.seq (.block 1 (.seq (.draw (sq 76 [la 1 4, mv 1, la 1 4, mv 2, mv 12, mv 14, ix 1 80 81, ld 82, cf 111 [78, 79, 83], la 1 4, mv 3, mv 13, mv 14, ix 1 87 88, ld 89, cf 111 [85, 86, 90], cf 170 [76, 77, 84, 91]] ++ sq 75 [mv 92] ++ sq 93 [ex 75 0, ex 75 1] ++ sq 15 [mv 93, mv 94]) [[], [], [], [], [], [], [4, 5], [6], [2, 3, 7], [], [], [], [], [11, 12], [13], [9, 10, 14, 8], [0, 1, 8, 15, 15], [16], [17], [17], [18, 16, 0, 1, 2, 3, 4, 5, 6, 7, 8, 9, 10, 11, 12, 13, 14, 15, 16, 17, 18], [19, 20, 0, 1, 2, 3, 4, 5, 6, 7, 8, 9, 10, 11, 12, 13, 14, 15, 16, 17, 18, 19, 20]]) (.seq (.seq (.reg (sq 95 [mv 16, nt 95])) (.cond (t0 96) (.seq (.reg (sq 97 [mv 1] ++ sq 8 [mv 97, mb false])) .ret) .skip)) (.reg (sq 98 [mv 15] ++ sq 1 [mv 98]))))) (.reg (sq 73 [mv 14, bi .add 73 1] ++ sq 14 [mv 74]))))))) (.seq (.reg (sq 99 [mv 1] ++ sq 8 [mv 99, mb true])) .ret))))))))
theorem q8i : t6 Tryz.prog 170 q2p 100 [.tmp 8, .tmp 9] := mf Tryz.func170 Tryz.ntmps170
def s1q (rec : q7 -> Ty1 -> q7 -> q7 -> Option (Ty1 × Bool)) (sig : q7) (p : q7) (t : q7) (r_1 : q7) (r_2 : q7) : (Ty1 × Int) -> Option ((Ty1 × Int) ⊕ (Ty1 × Bool))
 | (given_1, i) =>
  if (decide (i < (r_1.length : Int))) = true then
   if 0 <= i /\ i < (r_1.length : Int) then
    (r3q sig p (r_1.getD i.toNat default)).bind fun r_3 =>
    if 0 <= i /\ i < (r_2.length : Int) then
     (r3q sig t (r_2.getD i.toNat default)).bind fun r_4 =>
     (rec sig given_1 r_3 r_4).bind fun r_5 =>
     if r_5.2 = true then
      some (.inl (r_5.1, (IntKind.i64.wrap (i + 1))))
     else
      Option.map Sum.inr (
       some (given_1, false))
    else none
   else none
  else
   Option.map Sum.inr (
    some (given_1, true))
def x3q : Nat -> q7 -> Ty1 -> q7 -> q7 -> Option (Ty1 × Bool)
 | 0, _, _, _, _ => none
 | fu + 1, sig, given, p, t =>
  if ((p.length : Int) == 0) = true then
   some (given, false)
  else
   if ((t.length : Int) == 0) = true then
    some (given, false)
   else
    if 0 <= 0 /\ 0 < (p.length : Int) then
     if (decide ((p.getD 0 default) < 0)) = true then
      if 0 <= 0 /\ 0 < (p.length : Int) then
       if 0 <= (IntKind.i64.wrap ((-1) - (p.getD 0 default))) /\ (IntKind.i64.wrap ((-1) - (p.getD 0 default))) < (given.length : Int) then
        if (decide (0 < ((given.getD (IntKind.i64.wrap ((-1) - (p.getD 0 default))).toNat default).length : Int))) = true then
         if 0 <= (IntKind.i64.wrap ((-1) - (p.getD 0 default))) /\ (IntKind.i64.wrap ((-1) - (p.getD 0 default))) < (given.length : Int) then
          (d4q (given.getD (IntKind.i64.wrap ((-1) - (p.getD 0 default))).toNat default) t).bind fun r =>
          some (given, r)
         else none
        else
         if (0 + given.length) * 24 <= 140737488355328 then
          if 0 <= (IntKind.i64.wrap ((-1) - (p.getD 0 default))) /\ (IntKind.i64.wrap ((-1) - (p.getD 0 default))) < (given.length : Int) then
           some ((given.set (IntKind.i64.wrap ((-1) - (p.getD 0 default))).toNat t), true)
          else none
         else none
       else none
      else none
     else
      if 0 <= 0 /\ 0 < (p.length : Int) then
       if 0 <= 0 /\ 0 < (t.length : Int) then
        if ((p.getD 0 default) != (t.getD 0 default)) = true then
         some (given, false)
        else
         (n9q sig p 0).bind fun r_1 =>
         (n9q sig t 0).bind fun r_2 =>
         loopC (s1q (x3q fu) sig p t r_1 r_2) (given, 0)
       else none
      else none
    else none
def m7 (sig : q7) (given : Ty1) (p : q7) (t : q7) : Option (Ty1 × Bool) := j0j fun fu => x3q fu sig given p t
theorem q6j : ∀ {fu : Nat} {sig : q7} {given : Ty1} {p : q7} {t : q7} {rr : (Ty1 × Bool)} (h : x3q fu sig given p t = some rr), r9 Tryz.prog 170 [u3 sig, (z7 1 (z7 1 iD)) given, (z7 1 iD) p, (z7 1 iD) t] [(z7 1 (z7 1 iD)) rr.1, bD rr.2]
 | 0, _, _, _, _, _, h => by cases h
 | fu + 1, sig, given, p, t, rr, h => by
  have ih : ∀ {sig : q7} {given : Ty1} {p : q7} {t : q7}, y3 (x3q fu sig given p t) fun rr => r9 Tryz.prog 170 [u3 sig, (z7 1 (z7 1 iD)) given, (z7 1 iD) p, (z7 1 iD) t] [(z7 1 (z7 1 iD)) rr.1, bD rr.2] := ⟨fun h => q6j h⟩
  unfold x3q at h
  refine q8i.pureDN (q6 ?_)
  delta q2p
  refine v5 ?_
  refine it h (fun hc h => ?_) fun hc h => ?_
  ·cases h
   exact ⟨_, _, x9.refl, frd⟩
  refine it h (fun hc h => ?_) fun hc h => ?_
  ·cases h
   exact ⟨_, _, x9.refl, frd⟩
  refine ndI h fun hp h => ?_
  refine it h (fun hc h => ?_) fun hc h => ?_
  ·refine ndI h fun hp h => ?_
   refine ndI h fun hp h => ?_
   refine it h (fun hc h => ?_) fun hc h => ?_
   ·refine ndI h fun hp h => ?_
    refine rC h fun r hr h => ?_
    cases h
    exact ⟨_, _, x9.refl, frd⟩
   refine ndI h fun hp h => ?_
   refine ndI h fun hp h => ?_
   refine nds ?_
   cases h
   exact ⟨_, _, (x9.fz 47 (z7 1 iD) rfl (given.set (IntKind.i64.wrap ((-1) - (p.getD 0 default))).toNat t)), frd⟩
  refine ndI h fun hp h => ?_
  refine ndI h fun hp h => ?_
  refine y7q (by kernel_rfl) (v5 ?_)
  refine it h (fun hc h => ?_) fun hc h => ?_
  ·cases h
   exact ⟨_, _, x9.refl, frd⟩
  refine rC h fun r_1 hr_1 h => ?_
  refine rC h fun r_2 hr_2 h => ?_
  refine s9 h [1, 8, 9, 14, 15, 16, 69, 70, 71, 72, 73, 74, 75, 76, 77, 78, 79, 80, 81, 82, 83, 84, 85, 86, 87, 88, 89, 90, 91, 92, 93, 94, 95, 96, 97, 98] (fun pp => [(1, .d (z7 1 (z7 1 iD) pp.1)), (14, .d (iD pp.2))]) (fun pp => [(4, .obj 43 [.d (z7 1 iD sig)])]) ?_
  rintro ⟨given_1, i⟩ t1 h hb1
  unfold s1q at h
  try dsimp only at h
  refine q6 (v5 ?_)
  refine it h (fun hc h => ?_) fun hc h => ?_
  ·refine ndI h fun hp h => ?_
   refine dC h fun r_3 hr_3 h => ?_
   refine ndI h fun hp h => ?_
   refine dC h fun r_4 hr_4 h => ?_
   refine dCN h fun r_5 hr_5 h => ?_
   refine y7q (by kernel_rfl) (v5 ?_)
   refine iF h fun hc h => ?_
   replace h := u9 h hb1
   cases h
   exact ⟨_, _, x9.refl, frd⟩
  replace h := u9 h hb1
  cases h
  exact ⟨_, _, x9.refl, frd⟩
instance z4h {sig : q7} {given : Ty1} {p : q7} {t : q7} : y3 (m7 sig given p t) fun rr => r9 Tryz.prog 170 [u3 sig, (z7 1 (z7 1 iD)) given, (z7 1 iD) p, (z7 1 iD) t] [(z7 1 (z7 1 iD)) rr.1, bD rr.2] := ⟨fun h => q6j (q2n h).choose_spec⟩
def x8g : j5 :=
 (.seq (.reg (sq 3 [bo 3 74 0] ++ sq 6 [.mv (.const (.slice none 0 0))])) (.seq (.reg (sq 13 [.bsl 13 2 1 []] ++ sq 7 [mv 13])) (.seq (.seq (.reg (sq 8 [mi 0])) (.block 0 (.loop (.seq (.seq (.reg (sq 14 [mv 8, mv 1, ln 15, bn .lss 14 16])) (.cond (t0 17) .skip (.exit 0))) (.seq (.block 1 (.seq (.reg (sq 9 [mi (-1)])) (.seq (.seq (.reg (sq 10 [mi 0])) (.block 2 (.loop (.seq (.seq (.reg (sq 20 [mv 10, fa 1 3, ld 21, ln 22, bn .lss 20 23, mv 24] ++ sg 25 true 26 [mv 9, bi .lss 26 0] ++ sq 28 [pa 25 27])) (.cond (t0 28) .skip (.exit 2))) (.seq (.block 3 (.seq (.reg (sq 32 [la 2 3, mv 1, mv 8, mv 10, mv 2, cf 87 [32, 33, 34, 35, 36]] ++ sq 31 [mv 37] ++ sq 38 [ex 31 0, ex 31 1] ++ sq 11 [mv 38, mv 39])) (.seq (.reg (sq 40 [mv 12])) (.cond (t0 40) (.reg (sq 41 [mv 10] ++ sq 9 [mv 41])) .skip)))) (.reg (sq 29 [mv 10, bi .add 29 1] ++ sq 10 [mv 30]))))))) (.reg (sq 42 [mv 7, mv 9, .bsl 44 2 1 [(t0 43)], ap 45 2 1 8 42 44] ++ sq 7 [mv 45]))))) (.reg (sq 18 [mv 8, bi .add 18 1] ++ sq 8 [mv 19]))))))) (.seq (.reg (sq 46 [mv 7] ++ sq 6 [mv 46])) .ret))))
theorem y2b : t6 Tryz.prog 221 x8g 47 [.tmp 6] := mf Tryz.func221 Tryz.ntmps221
def o8 (rec : TyA -> q7 -> Int -> Int -> Int -> Option (q7 × Bool)) (cs : TyA) (t : q7) (depth : Int) (out : q7) (x7 : Int) : (Int × Int) -> Option ((Int × Int) ⊕ ((q7 × Int) ⊕ q7))
 | (k, rule) =>
  if (decide (rule < (cs.2.length : Int))) = true then
   if (decide (k < 0)) = true then
    (rec cs t x7 rule depth).bind fun r =>
    if r.2 = true then
     some (.inl (rule, (IntKind.i64.wrap (rule + 1))))
    else
     some (.inl (k, (IntKind.i64.wrap (rule + 1))))
   else
    Option.map Sum.inr (
     if (out.length + 1) * 8 <= 140737488355328 then
      some (.inl ((out ++ [k]), (IntKind.i64.wrap (x7 + 1))))
     else none)
  else
   Option.map Sum.inr (
    if (out.length + 1) * 8 <= 140737488355328 then
     some (.inl ((out ++ [k]), (IntKind.i64.wrap (x7 + 1))))
    else none)
def z3q (rec : TyA -> q7 -> Int -> Int -> Int -> Option (q7 × Bool)) (cs : TyA) (t : q7) (depth : Int) : (q7 × Int) -> Option ((q7 × Int) ⊕ q7)
 | (out, x7) =>
  if (decide (x7 < (t.length : Int))) = true then
   loopC (o8 rec cs t depth out x7) ((-1), 0)
  else
   Option.map Sum.inr (
    some out)
def r7 (rec : TyA -> q7 -> Int -> Int -> Int -> Option (q7 × Bool)) (cs : TyA) (t : q7) (depth : Int) : Option q7 :=
 loopC (z3q rec cs t depth) ([], 0)
instance z9j {rec : TyA -> q7 -> Int -> Int -> Int -> Option (q7 × Bool)} [ih : ∀ {cs : TyA} {t : q7} {x7 : Int} {rule : Int} {depth : Int}, y3 (rec cs t x7 rule depth) fun rr => r9 Tryz.prog 87 [j6 cs, (z7 1 iD) t, iD x7, iD rule, iD depth] [(z7 1 iD) rr.1, bD rr.2]] {cs : TyA} {t : q7} {depth : Int} : y3 (r7 rec cs t depth) fun rr => p7 Tryz.prog 221 [j6 cs, (z7 1 iD) t, iD depth] ((z7 1 iD) rr) := ⟨@fun rr h => by
 delta r7 at h
 refine y2b.pureL (q6 ?_)
 delta x8g
 refine v5 ?_
 refine s9 h [7, 8, 9, 10, 11, 12, 14, 15, 16, 17, 18, 19, 20, 21, 22, 23, 24, 25, 26, 27, 28, 29, 30, 31, 32, 33, 34, 35, 36, 37, 38, 39, 40, 41, 42, 43, 44, 45] (fun pp => [(7, .own 1 13 (List.map iD pp.1)), (8, .d (iD pp.2))]) (fun pp => [(3, .obj 74 [.d (z7 1 iD cs.1), .d (z7 3 q9 cs.2)]), (13, .tok 2 1 pp.1.length)]) ?_
 rintro ⟨out, x7⟩ t1 h hb1
 unfold z3q at h
 try dsimp only at h
 refine q6 (v5 ?_)
 refine iT h fun hc h => ?_
 refine s9 h [9, 10, 11, 12, 20, 21, 22, 23, 24, 25, 26, 27, 28, 29, 30, 31, 32, 33, 34, 35, 36, 37, 38, 39, 40, 41] (fun pp => [(9, .d (iD pp.1)), (10, .d (iD pp.2))]) (fun pp => [(3, .obj 74 [.d (z7 1 iD cs.1), .d (z7 3 q9 cs.2)]), (13, .tok 2 1 out.length)]) ?_
 rintro ⟨k, rule⟩ t2 h hb2
 unfold o8 at h
 try dsimp only at h
 refine q6 (v5 ?_)
 refine it h (fun hc h => ?_) fun hc h => ?_
 ·refine iF h fun hc h => ?_
  replace h := u9 h hb2
  refine ndI h fun hp h => ?_
  cases h
  refine ⟨_, rfl, ?_⟩
  refine (y0.drop 44 (by omega)).trans ?_
  exact wk
 replace h := u9 h hb2
 refine ndI h fun hp h => ?_
 cases h
 refine ⟨_, rfl, ?_⟩
 refine (y0.drop 44 (by omega)).trans ?_
 exact wk⟩
def x8e : j5 :=
 (.seq (.reg (sq 3 [bo 3 74 0] ++ sq 6 [mi 0, mi 0, mb false])) (.seq (.reg (sq 13 [la 2 3, mv 1, mv 2, cf 221 [13, 14, 15]] ++ sq 9 [mv 16])) (.seq (.seq (.reg (sq 10 [mi 0])) (.block 0 (.loop (.seq (.seq (.reg (sq 17 [mv 10, mv 1, ln 18, bn .lss 17 19])) (.cond (t0 20) .skip (.exit 0))) (.seq (.block 1 (.seq (.seq (.reg (sq 23 [mv 9, mv 10, ix 1 23 24, ld 25, bi .lss 26 0])) (.cond (t0 27) (.exit 1) .skip)) (.seq (.reg (sq 11 [mb true])) (.seq (.seq (.reg (sq 28 [mv 10, bi .add 28 1] ++ sq 12 [mv 29])) (.block 2 (.loop (.seq (.seq (.reg (sq 30 [mv 12, fa 0 3, la 1 31, mv 1, mv 10, cf 187 [32, 33, 34], bn .lss 30 35])) (.cond (t0 36) .skip (.exit 2))) (.seq (.block 3 (.reg (sq 39 [mv 11, mv 39] ++ sg 40 true 41 [mv 9, mv 12, ix 1 41 42, ld 43, bi .lss 44 0] ++ sq 46 [pa 40 45] ++ sq 11 [mv 46]))) (.reg (sq 37 [mv 12, bi .add 37 1] ++ sq 12 [mv 38]))))))) (.seq (.reg (sq 47 [mv 11])) (.cond (t0 47) (.seq (.draw (sq 48 [mv 10, mv 9, mv 10, ix 1 49 50, ld 51] ++ sq 6 [mv 48, mv 52, mb true]) [[], [], [], [1, 2], [3], [0, 0], [4, 5, 0, 1, 2, 3, 4, 5], [6, 0, 1, 2, 3, 4, 5, 6]]) .ret) .skip)))))) (.reg (sq 21 [mv 10, bi .add 21 1] ++ sq 10 [mv 22]))))))) (.seq (.reg (sq 6 [mi 0, mi 0, mb false])) .ret))))
theorem y1z : t6 Tryz.prog 155 x8e 53 [.tmp 6, .tmp 7, .tmp 8] := mf Tryz.func155 Tryz.ntmps155
def v5q (cs : TyA) (t : q7) (r : q7) (x7 : Int) : (Bool × Int) -> Option ((Bool × Int) ⊕ (Int ⊕ (Int × Int × Bool)))
 | (inmost, p) =>
  (z6q cs.1 t x7).bind fun r_1 =>
  if (decide (p < r_1)) = true then
   if inmost = true then
    if 0 <= p /\ p < (r.length : Int) then
     some (.inl ((decide ((r.getD p.toNat default) < 0)), (IntKind.i64.wrap (p + 1))))
    else none
   else
    some (.inl (false, (IntKind.i64.wrap (p + 1))))
  else
   Option.map Sum.inr (
    if inmost = true then
     if 0 <= x7 /\ x7 < (r.length : Int) then
      Option.map Sum.inr (
       some (x7, (r.getD x7.toNat default), true))
     else none
    else
     some (.inl (IntKind.i64.wrap (x7 + 1))))
def q3q (cs : TyA) (t : q7) (r : q7) : Int -> Option (Int ⊕ (Int × Int × Bool))
 | x7 =>
  if (decide (x7 < (t.length : Int))) = true then
   if 0 <= x7 /\ x7 < (r.length : Int) then
    if (decide ((r.getD x7.toNat default) < 0)) = true then
     some (.inl (IntKind.i64.wrap (x7 + 1)))
    else
     loopC (v5q cs t r x7) (true, (IntKind.i64.wrap (x7 + 1)))
   else none
  else
   Option.map Sum.inr (
    some (0, 0, false))
def k8q (rec : TyA -> q7 -> Int -> Int -> Int -> Option (q7 × Bool)) (cs : TyA) (t : q7) (depth : Int) : Option (Int × Int × Bool) :=
 (r7 rec cs t depth).bind fun r =>
 loopC (q3q cs t r) 0
instance j7z {rec : TyA -> q7 -> Int -> Int -> Int -> Option (q7 × Bool)} [ih : ∀ {cs : TyA} {t : q7} {x7 : Int} {rule : Int} {depth : Int}, y3 (rec cs t x7 rule depth) fun rr => r9 Tryz.prog 87 [j6 cs, (z7 1 iD) t, iD x7, iD rule, iD depth] [(z7 1 iD) rr.1, bD rr.2]] {cs : TyA} {t : q7} {depth : Int} : y3 (k8q rec cs t depth) fun rr => r9 Tryz.prog 155 [j6 cs, (z7 1 iD) t, iD depth] [iD rr.1, iD rr.2.1, bD rr.2.2] := ⟨@fun rr h => by
 delta k8q at h
 refine y1z.pureLN (q6 ?_)
 delta x8e
 refine v5 ?_
 refine rC h fun r hr h => ?_
 refine s9 h [6, 7, 8, 10, 11, 12, 17, 18, 19, 20, 21, 22, 23, 24, 25, 26, 27, 28, 29, 30, 31, 32, 33, 34, 35, 36, 37, 38, 39, 40, 41, 42, 43, 44, 45, 46, 47, 48, 49, 50, 51, 52] (fun pp => [(10, .d (iD pp))]) (fun pp => [(3, .obj 74 [.d (z7 1 iD cs.1), .d (z7 3 q9 cs.2)])]) ?_
 rintro x7 t1 h hb1
 unfold q3q at h
 try dsimp only at h
 refine q6 (v5 ?_)
 refine iT h fun hc h => ?_
 refine ndI h fun hp h => ?_
 refine iF h fun hc h => ?_
 refine s9 h [11, 12, 30, 31, 32, 33, 34, 35, 36, 37, 38, 39, 40, 41, 42, 43, 44, 45, 46] (fun pp => [(11, .d (bD pp.1)), (12, .d (iD pp.2))]) (fun pp => [(3, .obj 74 [.d (z7 1 iD cs.1), .d (z7 3 q9 cs.2)])]) ?_
 rintro ⟨inmost, p⟩ t2 h hb2
 unfold v5q at h
 try dsimp only at h
 refine q6 (v5 ?_)
 exact aut⟩
def y4z : j5 :=
 (.seq (.reg (sq 3 [bo 3 74 0] ++ sq 6 [.mv (.const (.slice none 0 0)), mb false])) (.seq (.reg (sq 13 [mv 1, cf 91 [13]] ++ sq 8 [mv 14])) (.seq (.reg (sq 9 [mi 0])) (.block 0 (.loop (.seq (.block 1 (.seq (.reg (sq 18 [la 2 3, mv 8, mv 2, cf 155 [18, 19, 20]] ++ sq 17 [mv 21] ++ sq 22 [ex 17 0, ex 17 1, ex 17 2] ++ sq 10 [mv 22, mv 23, mv 24])) (.seq (.seq (.reg (sq 25 [mv 12, nt 25])) (.cond (t0 26) (.seq (.reg (sq 27 [mv 8] ++ sq 6 [mv 27, mb true])) .ret) .skip)) (.seq (.seq (.reg (sq 28 [mv 9, bi .eql 28 8])) (.cond (t0 29) (.seq (.reg (sq 30 [.bsl 30 2 1 []] ++ sq 6 [mv 30, mb false])) .ret) .skip)) (.reg (sq 32 [la 2 3, mv 8, mv 10, mv 11, mv 2, cf 87 [32, 33, 34, 35, 36]] ++ sq 31 [mv 37] ++ sq 38 [ex 31 0, ex 31 1] ++ sq 8 [mv 38])))))) (.reg (sq 15 [mv 9, bi .add 15 1] ++ sq 9 [mv 16]))))))))
theorem fn226 : t6 Tryz.prog 226 y4z 40 [.tmp 6, .tmp 7] := mf Tryz.func226 Tryz.ntmps226
def q1q (rec : TyA -> q7 -> Int -> Int -> Int -> Option (q7 × Bool)) (cs : TyA) (depth : Int) : (q7 × Int) -> Option ((q7 × Int) ⊕ (q7 × Bool))
 | (now, k) =>
  (k8q rec cs now depth).bind fun r_1 =>
  if r_1.2.2 = true then
   if (k == 8) = true then
    Option.map Sum.inr (
     some ([], false))
   else
    (rec cs now r_1.1 r_1.2.1 depth).bind fun r_2 =>
    some (.inl (r_2.1, (IntKind.i64.wrap (k + 1))))
  else
   Option.map Sum.inr (
    some (now, true))
def c6 (rec : TyA -> q7 -> Int -> Int -> Int -> Option (q7 × Bool)) (cs : TyA) (t : q7) (depth : Int) : Option (q7 × Bool) :=
 (d6 t).bind fun r =>
 loopC (q1q rec cs depth) (r, 0)
instance j1o {rec : TyA -> q7 -> Int -> Int -> Int -> Option (q7 × Bool)} [ih : ∀ {cs : TyA} {t : q7} {x7 : Int} {rule : Int} {depth : Int}, y3 (rec cs t x7 rule depth) fun rr => r9 Tryz.prog 87 [j6 cs, (z7 1 iD) t, iD x7, iD rule, iD depth] [(z7 1 iD) rr.1, bD rr.2]] {cs : TyA} {t : q7} {depth : Int} : y3 (c6 rec cs t depth) fun rr => r9 Tryz.prog 226 [j6 cs, (z7 1 iD) t, iD depth] [(z7 1 iD) rr.1, bD rr.2] := ⟨@fun rr h => by
 delta c6 at h
 refine fn226.pureLN (q6 ?_)
 delta y4z
 refine v5 ?_
 refine rCo [] [(3, 14)] h fun r hr h => ?_
 refine s9 h [6, 7, 8, 9, 10, 11, 12, 15, 16, 17, 18, 19, 20, 21, 22, 23, 24, 25, 26, 27, 28, 29, 30, 31, 32, 33, 34, 35, 36, 37, 38, 39] (fun pp => [(8, .d (z7 1 iD pp.1)), (9, .d (iD pp.2))]) (fun pp => [(3, .obj 74 [.d (z7 1 iD cs.1), .d (z7 3 q9 cs.2)]), (14, .tok 2 1 r.length)]) ?_
 rintro ⟨now, k⟩ t1 h hb1
 unfold q1q at h
 try dsimp only at h
 refine q6 (v5 ?_)
 exact aut⟩
def q2o : j5 :=
 (.seq (.reg (sq 4 [bo 4 74 0] ++ sq 6 [bo 6 136 2] ++ sq 8 [.mv (.const (.slice none 0 0)), mb false])) (.seq (.draw (sq 18 [fa 0 4, la 1 18, .mksld 20 22 1 24 [.sl 0 (some true) []] false (i0 24) (i0 24), fa 0 6, ld 21, mv 1, cf 170 [19, 20, 22, 23]] ++ sq 17 [mv 24] ++ sq 25 [ex 17 0, ex 17 1] ++ sq 10 [mv 25, mv 26]) [[], [0], [], [], [3], [], [1, 2, 4, 5], [6], [7], [7], [8, 6, 0, 1, 2, 3, 4, 5, 6, 7, 8], [9, 10, 0, 1, 2, 3, 4, 5, 6, 7, 8, 9, 10]]) (.seq (.seq (.reg (sq 12 [mi 0])) (.block 0 (.loop (.seq (.seq (.reg (sq 27 [mv 12, fa 2 6, ld 28, ln 29, bn .lss 27 30, mv 31] ++ sg 32 true 33 [mv 11] ++ sq 34 [pa 32 33])) (.cond (t0 34) .skip (.exit 0))) (.seq (.block 1 (.seq (.seq (.reg (sq 37 [mv 3, bi .eql 37 0])) (.cond (t0 38) (.seq (.reg (sq 39 [mv 10] ++ sq 8 [mv 39, mb false])) .ret) .skip)) (.seq (.reg (sq 41 [mv 10, .build [.sl 0 (some true) []] [(0, 1, (t0 41))], fa 2 6, ld 43, mv 12, ix 2 44 45, fa 0 46, ld 47, cf 113 [42, 48]] ++ sq 40 [mv 49] ++ sq 50 [ex 40 0, ex 40 1] ++ sq 13 [mv 50, mv 51])) (.seq (.seq (.reg (sq 52 [mv 14, nt 52])) (.cond (t0 53) (.seq (.reg (sq 54 [mv 10] ++ sq 8 [mv 54, mb false])) .ret) .skip)) (.seq (.reg (sq 56 [la 2 4, mv 13, mv 3, bi .sub 58 1, cf 226 [56, 57, 59]] ++ sq 55 [mv 60] ++ sq 61 [ex 55 0, ex 55 1] ++ sq 15 [mv 61, mv 62])) (.seq (.seq (.reg (sq 63 [mv 16, nt 63])) (.cond (t0 64) (.seq (.reg (sq 65 [mv 10] ++ sq 8 [mv 65, mb false])) .ret) .skip)) (.draw (sq 67 [fa 0 4, la 1 67, mv 10, fa 2 6, ld 70, mv 12, ix 2 71 72, fa 1 73, ld 74, mv 15, cf 170 [68, 69, 75, 76]] ++ sq 66 [mv 77] ++ sq 78 [ex 66 0, ex 66 1] ++ sq 10 [mv 78, mv 79]) [[], [0], [], [], [3], [], [4, 5], [6], [7], [], [1, 2, 8, 9], [10], [11], [11], [12, 10, 0, 1, 2, 3, 4, 5, 6, 7, 8, 9, 10, 11, 12], [13, 14, 0, 1, 2, 3, 4, 5, 6, 7, 8, 9, 10, 11, 12, 13, 14]]))))))) (.reg (sq 35 [mv 12, bi .add 35 1] ++ sq 12 [mv 36]))))))) (.seq (.reg (sq 80 [mv 10, mv 11] ++ sq 8 [mv 80, mv 81])) .ret))))
theorem q8h : t6 Tryz.prog 162 q2o 82 [.tmp 8, .tmp 9] := mf Tryz.func162 Tryz.ntmps162
def n5 (rec : TyA -> q7 -> Int -> Int -> Int -> Option (q7 × Bool)) (cs : TyA) (r : Ty8) (depth : Int) : (Ty1 × Bool × Int) -> Option ((Ty1 × Bool × Int) ⊕ (Ty1 × Bool))
 | (given, ok, i) =>
  if (decide (i < (r.2.2.length : Int))) = true then
   if ok = true then
    if (depth == 0) = true then
     Option.map Sum.inr (
      some (given, false))
    else
     if 0 <= i /\ i < (r.2.2.length : Int) then
      (e8 given ((r.2.2.getD i.toNat default).1)).bind fun r_2 =>
      if r_2.2 = true then
       (c6 rec cs r_2.1 (IntKind.i64.wrap (depth - 1))).bind fun r_3 =>
       if r_3.2 = true then
        if 0 <= i /\ i < (r.2.2.length : Int) then
         (m7 cs.1 given ((r.2.2.getD i.toNat default).2) r_3.1).bind fun r_4 =>
         some (.inl (r_4.1, r_4.2, (IntKind.i64.wrap (i + 1))))
        else none
       else
        Option.map Sum.inr (
         some (given, false))
      else
       Option.map Sum.inr (
        some (given, false))
     else none
   else
    Option.map Sum.inr (
     some (given, false))
  else
   Option.map Sum.inr (
    some (given, ok))
def k9q (rec : TyA -> q7 -> Int -> Int -> Int -> Option (q7 × Bool)) (cs : TyA) (u : q7) (r : Ty8) (depth : Int) : Option (Ty1 × Bool) :=
 (m7 cs.1 (List.replicate 24 []) r.1 u).bind fun r_1 =>
 loopC (n5 rec cs r depth) (r_1.1, r_1.2, 0)
instance j2w {rec : TyA -> q7 -> Int -> Int -> Int -> Option (q7 × Bool)} [ih : ∀ {cs : TyA} {t : q7} {x7 : Int} {rule : Int} {depth : Int}, y3 (rec cs t x7 rule depth) fun rr => r9 Tryz.prog 87 [j6 cs, (z7 1 iD) t, iD x7, iD rule, iD depth] [(z7 1 iD) rr.1, bD rr.2]] {cs : TyA} {u : q7} {r : Ty8} {depth : Int} : y3 (k9q rec cs u r depth) fun rr => r9 Tryz.prog 162 [j6 cs, (z7 1 iD) u, q9 r, iD depth] [(z7 1 (z7 1 iD)) rr.1, bD rr.2] := ⟨@fun rr h => by
 delta k9q at h
 refine q8h.pureLN (q6 ?_)
 delta q2o
 refine v5 ?_
 refine nds ?_
 refine dCN h fun r_1 hr_1 h => ?_
 refine y7q (by kernel_rfl) (v5 ?_)
 refine s9 h [8, 9, 10, 11, 12, 13, 14, 15, 16, 27, 28, 29, 30, 31, 32, 33, 34, 35, 36, 37, 38, 39, 40, 41, 42, 43, 44, 45, 46, 47, 48, 49, 50, 51, 52, 53, 54, 55, 56, 57, 58, 59, 60, 61, 62, 63, 64, 65, 66, 67, 68, 69, 70, 71, 72, 73, 74, 75, 76, 77, 78, 79] (fun pp => [(10, .d (z7 1 (z7 1 iD) pp.1)), (11, .d (bD pp.2.1)), (12, .d (iD pp.2.2))]) (fun pp => [(4, .obj 74 [.d (z7 1 iD cs.1), .d (z7 3 q9 cs.2)]), (6, .obj 136 [.d (z7 1 iD r.1), .d (z7 1 iD r.2.1), .d (z7 2 y5 r.2.2)])]) ?_
 rintro ⟨given, ok, i⟩ t1 h hb1
 unfold n5 at h
 try dsimp only at h
 refine q6 (v5 ?_)
 exact aut⟩
def mc87 : j5 :=
 (.seq (.reg (sq 5 [bo 5 74 0] ++ sq 10 [.mv (.const (.slice none 0 0)), mb false])) (.seq (.draw (sq 17 [la 2 5, fa 0 5, la 1 18, mv 1, mv 2, cf 163 [19, 20, 21], fa 1 5, ld 23, mv 3, ix 3 24 25, la 3 26, mv 4, cf 162 [17, 22, 27, 28]] ++ sq 16 [mv 29] ++ sq 30 [ex 16 0, ex 16 1] ++ sq 12 [mv 30, mv 31]) [[], [], [1], [], [], [2, 3, 4], [], [6], [], [7, 8], [9], [], [0, 5, 10, 11, 5], [12], [13], [13], [14, 12, 0, 1, 2, 3, 4, 5, 6, 7, 8, 9, 10, 11, 12, 13, 14], [15, 16, 0, 1, 2, 3, 4, 5, 6, 7, 8, 9, 10, 11, 12, 13, 14, 15, 16]]) (.seq (.seq (.reg (sq 32 [mv 13, nt 32])) (.cond (t0 33) (.seq (.reg (sq 34 [.bsl 34 2 1 []] ++ sq 10 [mv 34, mb false])) .ret) .skip)) (.seq (.reg (sq 36 [mv 12, .build [.sl 0 (some true) []] [(0, 1, (t0 36))], fa 1 5, ld 38, mv 3, ix 3 39 40, fa 1 41, ld 42, cf 113 [37, 43]] ++ sq 35 [mv 44] ++ sq 45 [ex 35 0, ex 35 1] ++ sq 14 [mv 45, mv 46])) (.seq (.seq (.reg (sq 47 [mv 15, nt 47])) (.cond (t0 48) (.seq (.reg (sq 49 [.bsl 49 2 1 []] ++ sq 10 [mv 49, mb false])) .ret) .skip)) (.seq (.reg (sq 50 [fa 0 5, la 1 50, mv 1, mv 2, mv 14, cf 115 [51, 52, 53, 54], ex 55 0, ex 55 1] ++ sq 10 [mv 56, mv 57])) .ret))))))
theorem fn87 : t6 Tryz.prog 87 mc87 58 [.tmp 10, .tmp 11] := mf Tryz.func87 Tryz.ntmps87
def p6 : Nat -> TyA -> q7 -> Int -> Int -> Int -> Option (q7 × Bool)
 | 0, _, _, _, _, _ => none
 | fu + 1, cs, t, x7, rule, depth =>
  (x2q cs.1 t x7).bind fun r =>
  if 0 <= rule /\ rule < (cs.2.length : Int) then
   (k9q (p6 fu) cs r ((cs.2.getD rule.toNat default).1, (cs.2.getD rule.toNat default).2.1, (cs.2.getD rule.toNat default).2.2) depth).bind fun r_1 =>
   if r_1.2 = true then
    if 0 <= rule /\ rule < (cs.2.length : Int) then
     (e8 r_1.1 ((cs.2.getD rule.toNat default).2.1)).bind fun r_2 =>
     if r_2.2 = true then
      (n4q cs.1 t x7 r_2.1).bind fun r_3 =>
      some r_3
     else
      some ([], false)
    else none
   else
    some ([], false)
  else none
def s7 (cs : TyA) (t : q7) (x7 : Int) (rule : Int) (depth : Int) : Option (q7 × Bool) := j0j fun fu => p6 fu cs t x7 rule depth
theorem q7p : ∀ {fu : Nat} {cs : TyA} {t : q7} {x7 : Int} {rule : Int} {depth : Int} {rr : (q7 × Bool)} (h : p6 fu cs t x7 rule depth = some rr), r9 Tryz.prog 87 [j6 cs, (z7 1 iD) t, iD x7, iD rule, iD depth] [(z7 1 iD) rr.1, bD rr.2]
 | 0, _, _, _, _, _, _, h => by cases h
 | fu + 1, cs, t, x7, rule, depth, rr, h => by
  have ih : ∀ {cs : TyA} {t : q7} {x7 : Int} {rule : Int} {depth : Int}, y3 (p6 fu cs t x7 rule depth) fun rr => r9 Tryz.prog 87 [j6 cs, (z7 1 iD) t, iD x7, iD rule, iD depth] [(z7 1 iD) rr.1, bD rr.2] := ⟨fun h => q7p h⟩
  unfold p6 at h
  refine fn87.pureLN (q6 ?_)
  delta mc87
  refine v5 ?_
  exact aut
instance z6l {cs : TyA} {t : q7} {x7 : Int} {rule : Int} {depth : Int} : y3 (s7 cs t x7 rule depth) fun rr => r9 Tryz.prog 87 [j6 cs, (z7 1 iD) t, iD x7, iD rule, iD depth] [(z7 1 iD) rr.1, bD rr.2] := ⟨fun h => q7p (q2n h).choose_spec⟩
def mc31 : j5 :=
 (.seq (.reg (sq 5 [bo 5 74 0] ++ sq 10 [.mv (.const (.slice none 0 0)), mb false])) (.seq (.seq (.reg (sq 14 [la 2 5, mv 1, mv 4, cf 85 [14, 15, 16], nt 17, mv 18] ++ sg 19 false 20 [mv 1, mv 2, cf 86 [20, 21], nt 22] ++ sq 24 [po 19 23, mv 24] ++ sg 25 false 26 [mv 3, fa 1 5, ld 27, ln 28, bi .sub 29 1, .callf 49 [(t0 26), (i0 0), (t0 30)], nt 31] ++ sq 33 [po 25 32])) (.cond (t0 33) (.seq (.reg (sq 34 [.bsl 34 2 1 []] ++ sq 10 [mv 34, mb false])) .ret) .skip)) (.seq (.reg (sq 36 [la 2 5, mv 1, mv 2, mv 3, mv 4, cf 87 [36, 37, 38, 39, 40]] ++ sq 35 [mv 41] ++ sq 42 [ex 35 0, ex 35 1] ++ sq 12 [mv 42, mv 43])) (.seq (.seq (.reg (sq 44 [mv 13, nt 44])) (.cond (t0 45) (.seq (.reg (sq 46 [.bsl 46 2 1 []] ++ sq 10 [mv 46, mb false])) .ret) .skip)) (.seq (.reg (sq 47 [mv 12] ++ sq 10 [mv 47, mb true])) .ret)))))
theorem fn31 : t6 Tryz.prog 31 mc31 48 [.tmp 10, .tmp 11] := mf Tryz.func31 Tryz.ntmps31
def o0q (cs : TyA) (t : q7) (x7 : Int) (rule : Int) (depth : Int) : Option (q7 × Bool) :=
 (n3q cs t depth).bind fun r =>
 if r = true then
  (u7q t x7).bind fun r_1 =>
  if r_1 = true then
   (x9q rule 0 (IntKind.i64.wrap ((cs.2.length : Int) - 1))).bind fun r_2 =>
   if r_2 = true then
    (s7 cs t x7 rule depth).bind fun r_3 =>
    if r_3.2 = true then
     some (r_3.1, true)
    else
     some ([], false)
   else
    some ([], false)
  else
   some ([], false)
 else
  some ([], false)
instance j7t {cs : TyA} {t : q7} {x7 : Int} {rule : Int} {depth : Int} : y3 (o0q cs t x7 rule depth) fun rr => r9 Tryz.prog 31 [j6 cs, (z7 1 iD) t, iD x7, iD rule, iD depth] [(z7 1 iD) rr.1, bD rr.2] := ⟨@fun rr h => by
 delta o0q at h
 refine fn31.pureLN (q6 ?_)
 delta mc31
 refine v5 ?_
 exact aut⟩
def mc95 : j5 :=
 (.seq (.reg (sq 2 [bo 2 136 0] ++ sq 4 [.mv (.const (.slice none 0 0))])) (.seq (.reg (sq 11 [.bsl 11 2 1 [], fa 0 2, ld 12, cf 178 [11, 13]] ++ sq 5 [mv 14])) (.seq (.seq (.reg (sq 6 [mi 0])) (.block 0 (.loop (.seq (.seq (.reg (sq 15 [mv 6, mv 1, bn .lss 15 16])) (.cond (t0 17) .skip (.exit 0))) (.seq (.block 1 (.reg (sq 20 [mv 5, fa 2 2, ld 21, mv 6, ix 2 22 23, fa 1 24, ld 25, cf 178 [20, 26]] ++ sq 5 [mv 27]))) (.reg (sq 18 [mv 6, bi .add 18 1] ++ sq 6 [mv 19]))))))) (.seq (.draw (sq 28 [.bsl 28 2 1 [], fa 1 2, ld 29, cf 178 [28, 30], fa 2 2, ld 32, mv 1, ix 2 33 34, fa 1 35, ld 36, cf 178 [31, 37]] ++ sq 7 [mv 38]) [[], [], [1], [0, 2], [], [4], [], [5, 6], [7], [8], [3, 9, 3], [10, 10, 0, 1, 2, 3, 4, 5, 6, 7, 8, 9, 10]]) (.seq (.seq (.reg (sq 39 [mv 1, bi .add 39 1] ++ sq 8 [mv 40])) (.block 2 (.loop (.seq (.seq (.reg (sq 41 [mv 8, fa 2 2, ld 42, ln 43, bn .lss 41 44])) (.cond (t0 45) .skip (.exit 2))) (.seq (.block 3 (.draw (sq 48 [mv 7, fa 2 2, ld 49, mv 8, ix 2 50 51, fa 0 52, ld 53, cf 178 [48, 54], fa 2 2, ld 56, mv 8, ix 2 57 58, fa 1 59, ld 60, cf 178 [55, 61]] ++ sq 7 [mv 62]) [[], [], [1], [], [2, 3], [4], [5], [0, 6], [], [8], [], [9, 10], [11], [12], [7, 13, 7], [14, 14, 0, 1, 2, 3, 4, 5, 6, 7, 8, 9, 10, 11, 12, 13, 14]])) (.reg (sq 46 [mv 8, bi .add 46 1] ++ sq 8 [mv 47]))))))) (.seq (.reg (sq 63 [.bsl 63 2 1 []] ++ sq 9 [mv 63])) (.seq (.seq (.reg (sq 10 [mi 0])) (.block 4 (.loop (.seq (.seq (.reg (sq 64 [mv 10, mv 5, ln 65, bn .lss 64 66])) (.cond (t0 67) .skip (.exit 4))) (.seq (.block 5 (.seq (.reg (sq 70 [mv 7, mv 5, mv 10, ix 1 71 72, ld 73, cf 179 [70, 74]])) (.cond (t0 75) (.reg (sq 76 [mv 9, mv 5, mv 10, ix 1 77 78, ld 79, .bsl 81 2 1 [(t0 80)], ap 82 2 1 8 76 81] ++ sq 9 [mv 82])) .skip))) (.reg (sq 68 [mv 10, bi .add 68 1] ++ sq 10 [mv 69]))))))) (.seq (.reg (sq 83 [mv 9] ++ sq 4 [mv 83])) .ret))))))))
theorem fn95 : t6 Tryz.prog 95 mc95 84 [.tmp 4] := mf Tryz.func95 Tryz.ntmps95
def v4q (known : q7) (needed : q7) : (q7 × Int) -> Option ((q7 × Int) ⊕ q7)
 | (out, i_2) =>
  if (decide (i_2 < (known.length : Int))) = true then
   if 0 <= i_2 /\ i_2 < (known.length : Int) then
    (n0q needed (known.getD i_2.toNat default)).bind fun r_7 =>
    if r_7 = true then
     if 0 <= i_2 /\ i_2 < (known.length : Int) then
      if (out.length + 1) * 8 <= 140737488355328 then
       some (.inl ((out ++ [(known.getD i_2.toNat default)]), (IntKind.i64.wrap (i_2 + 1))))
      else none
     else none
    else
     some (.inl (out, (IntKind.i64.wrap (i_2 + 1))))
   else none
  else
   Option.map Sum.inr (
    some out)
def v3q (r : Ty8) (known : q7) : (q7 × Int) -> Option ((q7 × Int) ⊕ q7)
 | (needed, i_1) =>
  if (decide (i_1 < (r.2.2.length : Int))) = true then
   if 0 <= i_1 /\ i_1 < (r.2.2.length : Int) then
    (r4 needed ((r.2.2.getD i_1.toNat default).1)).bind fun r_5 =>
    if 0 <= i_1 /\ i_1 < (r.2.2.length : Int) then
     (r4 r_5 ((r.2.2.getD i_1.toNat default).2)).bind fun r_6 =>
     some (.inl (r_6, (IntKind.i64.wrap (i_1 + 1))))
    else none
   else none
  else
   Option.map Sum.inr (
    loopC (v4q known needed) ([], 0))
def d7q (r : Ty8) (cond : Int) : (q7 × Int) -> Option ((q7 × Int) ⊕ q7)
 | (known, i) =>
  if (decide (i < cond)) = true then
   if 0 <= i /\ i < (r.2.2.length : Int) then
    (r4 known ((r.2.2.getD i.toNat default).2)).bind fun r_2 =>
    some (.inl (r_2, (IntKind.i64.wrap (i + 1))))
   else none
  else
   Option.map Sum.inr (
    (r4 [] r.2.1).bind fun r_3 =>
    if 0 <= cond /\ cond < (r.2.2.length : Int) then
     (r4 r_3 ((r.2.2.getD cond.toNat default).2)).bind fun r_4 =>
     loopC (v3q r known) (r_4, (IntKind.i64.wrap (cond + 1)))
    else none)
def j8q (r : Ty8) (cond : Int) : Option q7 :=
 (r4 [] r.1).bind fun r_1 =>
 loopC (d7q r cond) (r_1, 0)
instance j7x {r : Ty8} {cond : Int} : y3 (j8q r cond) fun rr => p7 Tryz.prog 95 [q9 r, iD cond] ((z7 1 iD) rr) := ⟨@fun rr h => by
 delta j8q at h
 refine fn95.pureL (q6 ?_)
 delta mc95
 refine v5 ?_
 refine rC h fun r_1 hr_1 h => ?_
 refine s9 h [5, 6, 15, 16, 17, 18, 19, 20, 21, 22, 23, 24, 25, 26, 27] (fun pp => [(5, .d (z7 1 iD pp.1)), (6, .d (iD pp.2))]) (fun pp => [(2, .obj 136 [.d (z7 1 iD r.1), .d (z7 1 iD r.2.1), .d (z7 2 y5 r.2.2)]), (11, .tok 2 1 0)]) ?_
 rintro ⟨known, i⟩ t1 h hb1
 unfold d7q at h
 try dsimp only at h
 refine q6 (v5 ?_)
 refine iF h fun hc h => ?_
 replace h := u9 h hb1
 refine dC h fun r_3 hr_3 h => ?_
 refine ndI h fun hp h => ?_
 refine dC h fun r_4 hr_4 h => ?_
 refine y7q (by kernel_rfl) (v5 ?_)
 refine s9 h [7, 8, 41, 42, 43, 44, 45, 46, 47, 48, 49, 50, 51, 52, 53, 54, 55, 56, 57, 58, 59, 60, 61, 62] (fun pp => [(7, .d (z7 1 iD pp.1)), (8, .d (iD pp.2))]) (fun pp => [(2, .obj 136 [.d (z7 1 iD r.1), .d (z7 1 iD r.2.1), .d (z7 2 y5 r.2.2)]), (11, .tok 2 1 0), (28, .tok 2 1 0)]) ?_
 rintro ⟨needed, i_1⟩ t1 h hb1
 unfold v3q at h
 try dsimp only at h
 refine q6 (v5 ?_)
 refine iF h fun hc h => ?_
 replace h := u9 h hb1
 refine s9 h [9, 10, 64, 65, 66, 67, 68, 69, 70, 71, 72, 73, 74, 75, 76, 77, 78, 79, 80, 81, 82] (fun pp => [(9, .own 1 63 (List.map iD pp.1)), (10, .d (iD pp.2))]) (fun pp => [(2, .obj 136 [.d (z7 1 iD r.1), .d (z7 1 iD r.2.1), .d (z7 2 y5 r.2.2)]), (11, .tok 2 1 0), (28, .tok 2 1 0), (63, .tok 2 1 pp.1.length)]) ?_
 rintro ⟨out, i_2⟩ t1 h hb1
 unfold v4q at h
 try dsimp only at h
 refine q6 (v5 ?_)
 refine iT h fun hc h => ?_
 refine ndI h fun hp h => ?_
 refine rC h fun r_7 hr_7 h => ?_
 refine iT h fun hc h => ?_
 refine ndI h fun hp h => ?_
 refine ndI h fun hp h => ?_
 cases h
 refine ⟨_, rfl, ?_⟩
 refine (y0.drop 81 (by omega)).trans ?_
 exact wk⟩
def y4f : j5 :=
 (.seq (.reg (sq 6 [.mv (.const (.slice none 0 0))])) (.seq (.reg (sq 9 [mv 0, .bsl 10 2 1 [(t0 9)], mv 1, ap 12 2 1 8 10 11] ++ sq 7 [mv 12])) (.seq (.seq (.reg (sq 8 [mi 0])) (.block 0 (.loop (.seq (.seq (.reg (sq 13 [mv 8, mv 2, ln 14, bn .lss 13 15])) (.cond (t0 16) .skip (.exit 0))) (.seq (.block 1 (.reg (sq 19 [mv 7, mv 2, mv 8, ix 1 20 21, ld 22, .bin .sub (i0 (-1)) (t0 23), .bsl 25 2 1 [(t0 24)], ap 26 2 1 8 19 25] ++ sq 7 [mv 26]))) (.reg (sq 17 [mv 8, bi .add 17 1] ++ sq 8 [mv 18]))))))) (.seq (.reg (sq 27 [mv 7] ++ sq 6 [mv 27])) .ret))))
theorem fn177 : t6 Tryz.prog 177 y4f 28 [.tmp 6] := mf Tryz.func177 Tryz.ntmps177
def l2q (vars : q7) : (q7 × Int) -> Option ((q7 × Int) ⊕ q7)
 | (out, i) =>
  if (decide (i < (vars.length : Int))) = true then
   if 0 <= i /\ i < (vars.length : Int) then
    if (out.length + 1) * 8 <= 140737488355328 then
     some (.inl ((out ++ [(IntKind.i64.wrap ((-1) - (vars.getD i.toNat default)))]), (IntKind.i64.wrap (i + 1))))
    else none
   else none
  else
   Option.map Sum.inr (
    some out)
def u8q (sym : Int) (t : q7) (vars : q7) : Option q7 :=
 if (1 + t.length) * 8 <= 140737488355328 then
  loopC (l2q vars) (([sym] ++ t), 0)
 else none
instance j8a {sym : Int} {t : q7} {vars : q7} : y3 (u8q sym t vars) fun rr => p7 Tryz.prog 177 [iD sym, (z7 1 iD) t, (z7 1 iD) vars] ((z7 1 iD) rr) := ⟨@fun rr h => by
 delta u8q at h
 refine fn177.pureL (q6 ?_)
 delta y4f
 refine v5 ?_
 refine ndI h fun hp h => ?_
 refine s9 h [7, 8, 13, 14, 15, 16, 17, 18, 19, 20, 21, 22, 23, 24, 25, 26] (fun pp => [(7, .own 1 10 (List.map iD pp.1)), (8, .d (iD pp.2))]) (fun pp => [(10, .tok 2 1 pp.1.length)]) ?_
 rintro ⟨out, i⟩ t1 h hb1
 unfold l2q at h
 try dsimp only at h
 refine q6 (v5 ?_)
 refine iT h fun hc h => ?_
 refine ndI h fun hp h => ?_
 refine ndI h fun hp h => ?_
 cases h
 refine ⟨_, rfl, ?_⟩
 refine (y0.drop 25 (by omega)).trans ?_
 exact wk⟩
def mc94 : j5 :=
 (.seq (.reg (sq 2 [bo 2 136 0] ++ sq 4 [.mv (.const (.slice none 0 0))])) (.seq (.seq (.reg (sq 9 [fa 2 2, ld 9, ln 10, bi .eql 11 0])) (.cond (t0 12) (.seq (.draw (sq 13 [fa 0 2, ld 13, cf 91 [14], fa 1 2, ld 16, cf 91 [17], .build [.sl 0 (some true) [], .sl 0 (some true) []] [(0, 1, (t0 15)), (1, 1, (t0 18))], .bsl 20 147 2 [(t0 19)]] ++ sq 4 [mv 20]) [[], [0], [1], [], [3], [4, 2], [2, 5], [6], [7, 5, 0, 1, 2, 3, 4, 5, 6, 7]]) .ret) .skip)) (.seq (.draw (sq 21 [fa 0 2, ld 21, cf 91 [22], mv 1, fa 2 2, ld 25, .ixa 2 (t0 26) (i0 0), fa 0 27, ld 28, la 3 2, .callf 95 [(t0 30), (i0 0)], cf 177 [24, 29, 31], .build [.sl 0 (some true) [], .sl 0 (some true) []] [(0, 1, (t0 23)), (1, 1, (t0 32))], .bsl 34 147 2 [(t0 33)]] ++ sq 5 [mv 34]) [[], [0], [1], [], [], [4], [5], [6], [7], [], [9, 2], [3, 8, 10, 10], [2, 11], [12], [13, 11, 0, 1, 2, 3, 4, 5, 6, 7, 8, 9, 10, 11, 12, 13]]) (.seq (.seq (.reg (sq 6 [mi 0])) (.block 0 (.loop (.seq (.seq (.reg (sq 35 [mv 6, fa 2 2, ld 36, ln 37, bn .lss 35 38])) (.cond (t0 39) .skip (.exit 0))) (.seq (.block 1 (.seq (.draw (sq 42 [mv 1, mv 6, bn .add 42 43, fa 2 2, ld 45, mv 6, ix 2 46 47, fa 1 48, ld 49, la 3 2, mv 6, cf 95 [51, 52], cf 177 [44, 50, 53]] ++ sq 7 [mv 54]) [[], [], [0, 1], [], [3], [], [4, 5], [6], [7], [], [], [9, 10], [2, 8, 11, 11], [12, 12, 0, 1, 2, 3, 4, 5, 6, 7, 8, 9, 10, 11, 12]]) (.seq (.reg (sq 55 [fa 1 2, ld 55, cf 91 [56]] ++ sq 8 [mv 57])) (.seq (.seq (.reg (sq 58 [mv 6, bi .add 58 1, fa 2 2, ld 60, ln 61, bn .lss 59 62])) (.cond (t0 63) (.draw (sq 64 [mv 1, mv 6, bn .add 64 65, bi .add 66 1, fa 2 2, ld 68, mv 6, bi .add 70 1, ix 2 69 71, fa 0 72, ld 73, la 3 2, mv 6, bi .add 76 1, cf 95 [75, 77], cf 177 [67, 74, 78]] ++ sq 8 [mv 79]) [[], [], [0, 1], [2], [], [4], [], [6], [5, 7], [8], [9], [], [], [12], [11, 13], [3, 10, 14, 14], [15, 15, 0, 1, 2, 3, 4, 5, 6, 7, 8, 9, 10, 11, 12, 13, 14, 15]]) .skip)) (.reg (sq 80 [mv 5, mv 7, mv 8, .build [.sl 0 (some true) [], .sl 0 (some true) []] [(0, 1, (t0 81)), (1, 1, (t0 82))], .bsl 84 147 2 [(t0 83)], ap 85 147 2 48 80 84] ++ sq 5 [mv 85])))))) (.reg (sq 40 [mv 6, bi .add 40 1] ++ sq 6 [mv 41]))))))) (.seq (.reg (sq 86 [mv 5] ++ sq 4 [mv 86])) .ret)))))
theorem fn94 : t6 Tryz.prog 94 mc94 87 [.tmp 4] := mf Tryz.func94 Tryz.ntmps94
def u4q (r : Ty8) (sym : Int) : (Ty3 × Int) -> Option ((Ty3 × Int) ⊕ Ty3)
 | (out, i) =>
  if (decide (i < (r.2.2.length : Int))) = true then
   if 0 <= i /\ i < (r.2.2.length : Int) then
    (j8q r i).bind fun r_6 =>
    (u8q (IntKind.i64.wrap (sym + i)) ((r.2.2.getD i.toNat default).2) r_6).bind fun r_7 =>
    (d6 r.2.1).bind fun r_8 =>
    if (decide ((IntKind.i64.wrap (i + 1)) < (r.2.2.length : Int))) = true then
     if 0 <= (IntKind.i64.wrap (i + 1)) /\ (IntKind.i64.wrap (i + 1)) < (r.2.2.length : Int) then
      (j8q r (IntKind.i64.wrap (i + 1))).bind fun r_9 =>
      (u8q (IntKind.i64.wrap ((IntKind.i64.wrap (sym + i)) + 1)) ((r.2.2.getD (IntKind.i64.wrap (i + 1)).toNat default).1) r_9).bind fun r_10 =>
      if (out.length + 1) * 48 <= 140737488355328 then
       some (.inl ((out ++ [(r_7, r_10)]), (IntKind.i64.wrap (i + 1))))
      else none
     else none
    else
     if (out.length + 1) * 48 <= 140737488355328 then
      some (.inl ((out ++ [(r_7, r_8)]), (IntKind.i64.wrap (i + 1))))
     else none
   else none
  else
   Option.map Sum.inr (
    some out)
def d8q (r : Ty8) (sym : Int) : Option Ty3 :=
 if ((r.2.2.length : Int) == 0) = true then
  (d6 r.1).bind fun r_1 =>
  (d6 r.2.1).bind fun r_2 =>
  some [(r_1, r_2)]
 else
  (d6 r.1).bind fun r_3 =>
  if 0 <= 0 /\ 0 < (r.2.2.length : Int) then
   (j8q r 0).bind fun r_4 =>
   (u8q sym ((r.2.2.getD 0 default).1) r_4).bind fun r_5 =>
   loopC (u4q r sym) ([(r_3, r_5)], 0)
  else none
instance j2y {r : Ty8} {sym : Int} : y3 (d8q r sym) fun rr => p7 Tryz.prog 94 [q9 r, iD sym] ((z7 2 v7) rr) := ⟨@fun rr h => by
 delta d8q at h
 refine fn94.pureL (q6 ?_)
 delta mc94
 refine v5 ?_
 refine it h (fun hc h => ?_) fun hc h => ?_
 ·refine dCo [] [(3, 15)] h fun r_1 hr_1 h => ?_
  refine dCo [] [(3, 18)] h fun r_2 hr_2 h => ?_
  exact aut
 refine dCo [] [(3, 23)] h fun r_3 hr_3 h => ?_
 refine ndI h fun hp h => ?_
 refine dC h fun r_4 hr_4 h => ?_
 refine dC h fun r_5 hr_5 h => ?_
 refine y7q (by kernel_rfl) (v5 ?_)
 refine s9 h [5, 6, 7, 8, 35, 36, 37, 38, 39, 40, 41, 42, 43, 44, 45, 46, 47, 48, 49, 50, 51, 52, 53, 54, 55, 56, 57, 58, 59, 60, 61, 62, 63, 64, 65, 66, 67, 68, 69, 70, 71, 72, 73, 74, 75, 76, 77, 78, 79, 80, 81, 82, 83, 84, 85] (fun pp => [(5, .own 2 34 (List.map v7 pp.1)), (6, .d (iD pp.2))]) (fun pp => [(2, .obj 136 [.d (z7 1 iD r.1), .d (z7 1 iD r.2.1), .d (z7 2 y5 r.2.2)]), (23, .tok 2 1 r_3.length), (34, .tok 147 2 pp.1.length)]) ?_
 rintro ⟨out, i⟩ t1 h hb1
 unfold u4q at h
 try dsimp only at h
 refine q6 (v5 ?_)
 refine iT h fun hc h => ?_
 refine ndI h fun hp h => ?_
 refine dC h fun r_6 hr_6 h => ?_
 refine dC h fun r_7 hr_7 h => ?_
 refine y7q (by kernel_rfl) (v5 ?_)
 refine rCo [] [(3, 57)] h fun r_8 hr_8 h => ?_
 refine it h (fun hc h => ?_) fun hc h => ?_
 ·refine ndI h fun hp h => ?_
  refine dC h fun r_9 hr_9 h => ?_
  refine dC h fun r_10 hr_10 h => ?_
  refine y7q (by kernel_rfl) (v5 ?_)
  refine ndI h fun hp h => ?_
  cases h
  refine ⟨_, rfl, ?_⟩
  refine (y0.drop 57 (by omega)).trans ?_
  refine (y0.drop 84 (by omega)).trans ?_
  exact wk
 refine ndI h fun hp h => ?_
 cases h
 refine ⟨_, rfl, ?_⟩
 refine (y0.drop 57 (by omega)).trans ?_
 refine (y0.drop 84 (by omega)).trans ?_
 exact wk⟩
def mc35 : j5 :=
 (.seq (.reg (sq 1 [bo 1 74 0, .alloc 2 46 [.sl 0 (some true) [], .sl 0 (some true) []], mb false])) (.seq (.seq (.reg (sq 8 [la 2 1, cf 93 [8], nt 9])) (.cond (t0 10) (.seq (.reg (sq 11 [.build [.sl 0 (some true) [], .sl 0 (some true) []] []] ++ s0 (sr 2 2 11) ++ sq 3 [mb false])) .ret) .skip)) (.seq (.reg (sq 12 [fa 0 1, fa 0 12, ld 13, cf 91 [14], .build [.sl 0 (some true) []] [(0, 1, (t0 15))], .build [.sl 0 (some true) [], .sl 0 (some true) []] [(0, 1, (t0 16))]] ++ sq 4 [.alloc 4 46 [.sl 0 (some true) [], .sl 0 (some true) []]] ++ s0 (sr 2 4 17))) (.seq (.seq (.reg (sq 5 [mi 0])) (.block 0 (.loop (.seq (.seq (.reg (sq 18 [mv 5, fa 1 1, ld 19, ln 20, bn .lss 18 21])) (.cond (t0 22) .skip (.exit 0))) (.seq (.block 1 (.seq (.reg (sq 25 [fa 1 1, ld 25, mv 5, ix 3 26 27, la 3 28] ++ sq 6 [.alloc 6 136 [.sl 0 (some true) [], .sl 0 (some true) [], .sl 0 (some true) []]] ++ s0 (sr 3 6 29))) (.seq (.draw (sq 30 [fa 1 4, ld 30, la 3 6, fa 0 4, fa 0 33, ld 34, ln 35, cf 94 [32, 36], ap 38 147 2 48 31 37, fa 1 4] ++ s0 (sr 1 39 38)) [[], [0], [], [], [3], [4], [5], [2, 6], [1, 7, 7], [0, 1, 2, 3, 4, 5, 6, 7, 8], [9, 8, 8, 0, 1, 2, 3, 4, 5, 6, 7, 8]]) (.seq (.reg (sq 7 [mi 0])) (.block 2 (.loop (.seq (.seq (.reg (sq 40 [mv 7, fa 2 6, ld 41, ln 42, bn .lss 40 43])) (.cond (t0 44) .skip (.exit 2))) (.seq (.block 3 (.draw (sq 47 [fa 0 4, fa 0 47, ld 48, la 3 6, mv 7, cf 95 [50, 51], ln 52, .bin .add (i0 1) (t0 53), .bsl 55 2 1 [(t0 54)], ap 56 2 1 8 49 55, fa 0 4, fa 0 57] ++ s0 (sr 1 58 56)) [[], [0], [1], [], [], [3, 4], [5], [6], [7], [2, 8, 5], [0, 1, 2, 3, 4, 5, 6, 7, 8, 9], [10, 0, 1, 2, 3, 4, 5, 6, 7, 8, 9], [11, 9, 9, 0, 1, 2, 3, 4, 5, 6, 7, 8, 9]])) (.reg (sq 45 [mv 7, bi .add 45 1] ++ sq 7 [mv 46])))))))))) (.reg (sq 23 [mv 5, bi .add 23 1] ++ sq 5 [mv 24]))))))) (.seq (.seq (.reg (sq 59 [la 2 4, cf 37 [59], nt 60])) (.cond (t0 61) (.seq (.reg (sq 62 [.build [.sl 0 (some true) [], .sl 0 (some true) []] []] ++ s0 (sr 2 2 62) ++ sq 3 [mb false])) .ret) .skip)) (.seq (.reg (sq 63 [la 2 4] ++ s0 (sr 2 2 63) ++ sq 3 [mb true])) .ret))))))
theorem fn35 : t6 Tryz.prog 35 mc35 64 [.cell 2 2 true, .tmp 3] := mf Tryz.func35 Tryz.ntmps35
def z2q (cs : TyA) (i : Int) (out_1 : Ty3) (r_2 : Ty3) : (Int × q7) -> Option ((Int × q7) ⊕ ((Int × q7 × Ty3) ⊕ (Ty6 × Bool)))
 | (k, out_2) =>
  if (decide (k < (((cs.2.getD i.toNat default).2.2).length : Int))) = true then
   (j8q ((cs.2.getD i.toNat default).1, (cs.2.getD i.toNat default).2.1, (cs.2.getD i.toNat default).2.2) k).bind fun r_3 =>
   if (out_2.length + 1) * 8 <= 140737488355328 then
    some (.inl ((IntKind.i64.wrap (k + 1)), (out_2 ++ [(IntKind.i64.wrap (1 + (r_3.length : Int)))])))
   else none
  else
   Option.map Sum.inr (
    some (.inl ((IntKind.i64.wrap (i + 1)), out_2, (out_1 ++ r_2))))
def y2q (cs : TyA) : (Int × q7 × Ty3) -> Option ((Int × q7 × Ty3) ⊕ (Ty6 × Bool))
 | (i, out, out_1) =>
  if (decide (i < (cs.2.length : Int))) = true then
   if 0 <= i /\ i < (cs.2.length : Int) then
    (d8q ((cs.2.getD i.toNat default).1, (cs.2.getD i.toNat default).2.1, (cs.2.getD i.toNat default).2.2) (out.length : Int)).bind fun r_2 =>
    if (out_1.length + r_2.length) * 48 <= 140737488355328 then
     loopC (z2q cs i out_1 r_2) (0, out)
    else none
   else none
  else
   Option.map Sum.inr (
    (d5q (out, out_1)).bind fun r_4 =>
    if r_4 = true then
     some ((out, out_1), true)
    else
     some (([], []), false))
def d6q (cs : TyA) : Option (Ty6 × Bool) :=
 (g6q cs).bind fun r =>
 if r = true then
  (d6 cs.1).bind fun r_1 =>
  loopC (y2q cs) (0, r_1, [])
 else
  some (([], []), false)
instance z9h {cs : TyA} : y3 (d6q cs) fun rr => r9 Tryz.prog 35 [j6 cs] [d5 rr.1, bD rr.2] := ⟨@fun rr h => by
 delta d6q at h
 refine fn35.pureLN (q6 ?_)
 delta mc35
 refine v5 ?_
 refine rC h fun r hr h => ?_
 refine iT h fun hc h => ?_
 refine rCo [] [(3, 15)] h fun r_1 hr_1 h => ?_
 refine w5q h [5, 6, 7, 18, 19, 20, 21, 22, 23, 24, 25, 26, 27, 28, 29, 30, 31, 32, 33, 34, 35, 36, 37, 38, 39, 40, 41, 42, 43, 44, 45, 46, 47, 48, 49, 50, 51, 52, 53, 54, 55, 56, 57, 58] (fun pp => [(5, .d (iD pp.1))]) (fun pp => [(1, .obj 74 [.d (z7 1 iD cs.1), .d (z7 3 q9 cs.2)]), (2, .obj 46 [.d (.sl 0 (some true) []), .d (.sl 0 (some true) [])]), (4, .obj 46 [.own 1 15 (List.map iD pp.2.1), .own 2 38 (List.map v7 pp.2.2)]), (15, .tok 2 1 pp.2.1.length), (38, .tok 147 2 pp.2.2.length)]) ?_ ?_
 ·try dsimp only
  refine (y0.thawCell 4 1 38 147 2 rfl rfl rfl).trans ?_
  exact wk
 rintro ⟨i, out, out_1⟩ t1 h hb1
 unfold y2q at h
 try dsimp only at h
 refine q6 (v5 ?_)
 refine iT h fun hc h => ?_
 refine ndI h fun hp h => ?_
 refine dC h fun r_2 hr_2 h => ?_
 refine ndI h fun hp h => ?_
 refine y7q (by kernel_rfl) (v5 ?_)
 refine s9 h [7, 40, 41, 42, 43, 44, 45, 46, 47, 48, 49, 50, 51, 52, 53, 54, 55, 56, 57, 58] (fun pp => [(7, .d (iD pp.1))]) (fun pp => [(1, .obj 74 [.d (z7 1 iD cs.1), .d (z7 3 q9 cs.2)]), (2, .obj 46 [.d (.sl 0 (some true) []), .d (.sl 0 (some true) [])]), (4, .obj 46 [.own 1 15 (List.map iD pp.2), .own 2 38 (List.map v7 (out_1 ++ r_2))]), (6, .obj 136 [.d (z7 1 iD ((cs.2.getD i.toNat default).1)), .d (z7 1 iD ((cs.2.getD i.toNat default).2.1)), .d (z7 2 y5 ((cs.2.getD i.toNat default).2.2))]), (15, .tok 2 1 pp.2.length), (38, .tok 147 2 ((out_1 ++ r_2).length))]) ?_
 rintro ⟨k, out_2⟩ t2 h hb2
 unfold z2q at h
 try dsimp only at h
 refine q6 (v5 ?_)
 refine it h (fun hc h => ?_) fun hc h => ?_
 ·refine dC h fun r_3 hr_3 h => ?_
  refine ndI h fun hp h => ?_
  refine y7q (by kernel_rfl) (v5 ?_)
  cases h
  refine ⟨_, rfl, ?_⟩
  refine (y0.drop 55 (by omega)).trans ?_
  exact wk
 replace h := u9 h hb2
 cases h
 refine ⟨_, rfl, ?_⟩
 refine (y0.drop 6 (by omega)).trans ?_
 exact wk⟩
def y3y : j5 :=
 (.seq (.reg (sq 2 [bo 2 74 0] ++ sq 4 [mi 0])) (.seq (.reg (sq 5 [mi 0])) (.seq (.seq (.reg (sq 6 [mi 0])) (.block 0 (.loop (.seq (.seq (.reg (sq 7 [mv 6, mv 1, bn .lss 7 8])) (.cond (t0 9) .skip (.exit 0))) (.seq (.block 1 (.reg (sq 12 [mv 5, bi .add 12 1, fa 1 2, ld 14, mv 6, ix 3 15 16, fa 2 17, ld 18, ln 19, bn .add 13 20] ++ sq 5 [mv 21]))) (.reg (sq 10 [mv 6, bi .add 10 1] ++ sq 6 [mv 11]))))))) (.seq (.reg (sq 22 [mv 5] ++ sq 4 [mv 22])) .ret))))
theorem fn169 : t6 Tryz.prog 169 y3y 23 [.tmp 4] := mf Tryz.func169 Tryz.ntmps169
def u3q (cs : TyA) (rule : Int) : (Int × Int) -> Option ((Int × Int) ⊕ Int)
 | (n, i) =>
  if (decide (i < rule)) = true then
   if 0 <= i /\ i < (cs.2.length : Int) then
    some (.inl ((IntKind.i64.wrap ((IntKind.i64.wrap (n + 1)) + (((cs.2.getD i.toNat default).2.2).length : Int))), (IntKind.i64.wrap (i + 1))))
   else none
  else
   Option.map Sum.inr (
    some n)
def n2q (cs : TyA) (rule : Int) : Option Int :=
 loopC (u3q cs rule) (0, 0)
instance j2v {cs : TyA} {rule : Int} : y3 (n2q cs rule) fun rr => p7 Tryz.prog 169 [j6 cs, iD rule] (iD rr) := ⟨@fun rr h => by
 delta n2q at h
 refine fn169.pureL (q6 ?_)
 delta y3y
 refine v5 ?_
 refine s9 h [5, 6, 7, 8, 9, 10, 11, 12, 13, 14, 15, 16, 17, 18, 19, 20, 21] (fun pp => [(5, .d (iD pp.1)), (6, .d (iD pp.2))]) (fun pp => [(2, .obj 74 [.d (z7 1 iD cs.1), .d (z7 3 q9 cs.2)])]) ?_
 rintro ⟨n, i⟩ t1 h hb1
 unfold u3q at h
 try dsimp only at h
 refine q6 (v5 ?_)
 exact aut⟩
def y3z : j5 :=
 (.seq (.reg (sq 4 [bo 4 46 0, bo 5 40 1] ++ sq 8 [.alloc 8 40 [.sl 0 (some true) [], .sl 0 (some true) []], mb false])) (.seq (.seq (.reg (sq 13 [fa 1 5, ld 13, ln 14, bi .geq 15 60])) (.cond (t0 16) (.seq (.reg (sq 17 [la 2 5] ++ s0 (sr 2 8 17) ++ sq 9 [mb false])) .ret) .skip)) (.seq (.draw (sq 19 [la 2 4, la 2 5, cf 100 [20], mv 2, mv 3, cf 180 [19, 21, 22, 23]] ++ sq 18 [mv 24] ++ sq 25 [ex 18 0, ex 18 1] ++ sq 10 [mv 25, mv 26]) [[], [], [1], [], [], [0, 2, 3, 4, 2], [5], [6], [6], [7, 5, 0, 1, 2, 3, 4, 5, 6, 7], [8, 9, 0, 1, 2, 3, 4, 5, 6, 7, 8, 9]]) (.seq (.seq (.reg (sq 27 [mv 11, nt 27])) (.cond (t0 28) (.seq (.reg (sq 29 [la 2 5] ++ s0 (sr 2 8 29) ++ sq 9 [mb false])) .ret) .skip)) (.seq (.draw (sq 30 [fa 0 5, ld 30, .bsl 32 151 3 [], fa 1 5, ld 33, ap 35 151 3 40 32 34, .build [.sl 0 (some true) [], .sl 0 (some true) []] [(0, 1, (t0 31)), (1, 1, (t0 35))]] ++ sq 12 [.alloc 12 40 [.sl 0 (some true) [], .sl 0 (some true) []]] ++ s0 (sr 2 12 36)) [[], [0], [], [], [3], [2, 4], [1, 5], [], [7, 6, 5, 0, 1, 2, 3, 4, 5, 6, 7]]) (.seq (.reg (sq 37 [fa 1 12, ld 37, mv 2, mv 3, mv 10, .build [.lit (.int .i64 0), .lit (.int .i64 0), .sl 0 (some true) []] [(0, 1, (t0 39)), (1, 1, (t0 40)), (2, 1, (t0 41))], .bsl 43 151 3 [(t0 42)], ap 44 151 3 40 38 43, fa 1 12] ++ s0 (sr 1 45 44))) (.seq (.reg (sq 46 [la 2 12] ++ s0 (sr 2 8 46) ++ sq 9 [mb true])) .ret)))))))
theorem fn171 : t6 Tryz.prog 171 y3z 47 [.cell 8 2 true, .tmp 9] := mf Tryz.func171 Tryz.ntmps171
def j9q (sys : Ty6) (w : Ty7) (x7 : Int) (rule : Int) : Option (Ty7 × Bool) :=
 if (decide (60 <= (w.2.length : Int))) = true then
  some (w, false)
 else
  (r4q w).bind fun r =>
  (s5q sys r x7 rule).bind fun r_1 =>
  if r_1.2 = true then
   if (0 + w.2.length) * 40 <= 140737488355328 then
    if (w.2.length + 1) * 40 <= 140737488355328 then
     some ((w.1, (w.2 ++ [(x7, rule, r_1.1)])), true)
    else none
   else none
  else
   some (w, false)
instance j7y {sys : Ty6} {w : Ty7} {x7 : Int} {rule : Int} : y3 (j9q sys w x7 rule) fun rr => r9 Tryz.prog 171 [d5 sys, u7 w, iD x7, iD rule] [u7 rr.1, bD rr.2] := ⟨@fun rr h => by
 delta j9q at h
 refine fn171.pureLN (q6 ?_)
 delta y3z
 refine v5 ?_
 exact aut⟩
def s3q (cs : TyA) (t : q7) (depth : Int) (out : q7) (x7 : Int) : (Int × Int) -> Option ((Int × Int) ⊕ ((q7 × Int) ⊕ q7))
 | (k, rule) =>
  if (decide (rule < (cs.2.length : Int))) = true then
   if (decide (k < 0)) = true then
    (s7 cs t x7 rule depth).bind fun r =>
    if r.2 = true then
     some (.inl (rule, (IntKind.i64.wrap (rule + 1))))
    else
     some (.inl (k, (IntKind.i64.wrap (rule + 1))))
   else
    Option.map Sum.inr (
     if (out.length + 1) * 8 <= 140737488355328 then
      some (.inl ((out ++ [k]), (IntKind.i64.wrap (x7 + 1))))
     else none)
  else
   Option.map Sum.inr (
    if (out.length + 1) * 8 <= 140737488355328 then
     some (.inl ((out ++ [k]), (IntKind.i64.wrap (x7 + 1))))
    else none)
def s2q (cs : TyA) (t : q7) (depth : Int) : (q7 × Int) -> Option ((q7 × Int) ⊕ q7)
 | (out, x7) =>
  if (decide (x7 < (t.length : Int))) = true then
   loopC (s3q cs t depth out x7) ((-1), 0)
  else
   Option.map Sum.inr (
    some out)
def y3q (cs : TyA) (t : q7) (depth : Int) : Option q7 :=
 loopC (s2q cs t depth) ([], 0)
instance z3y {cs : TyA} {t : q7} {depth : Int} : y3 (y3q cs t depth) fun rr => p7 Tryz.prog 221 [j6 cs, (z7 1 iD) t, iD depth] ((z7 1 iD) rr) := ⟨@fun rr h => by
 delta y3q at h
 refine y2b.pureL (q6 ?_)
 delta x8g
 refine v5 ?_
 refine s9 h [7, 8, 9, 10, 11, 12, 14, 15, 16, 17, 18, 19, 20, 21, 22, 23, 24, 25, 26, 27, 28, 29, 30, 31, 32, 33, 34, 35, 36, 37, 38, 39, 40, 41, 42, 43, 44, 45] (fun pp => [(7, .own 1 13 (List.map iD pp.1)), (8, .d (iD pp.2))]) (fun pp => [(3, .obj 74 [.d (z7 1 iD cs.1), .d (z7 3 q9 cs.2)]), (13, .tok 2 1 pp.1.length)]) ?_
 rintro ⟨out, x7⟩ t1 h hb1
 unfold s2q at h
 try dsimp only at h
 refine q6 (v5 ?_)
 refine iT h fun hc h => ?_
 refine s9 h [9, 10, 11, 12, 20, 21, 22, 23, 24, 25, 26, 27, 28, 29, 30, 31, 32, 33, 34, 35, 36, 37, 38, 39, 40, 41] (fun pp => [(9, .d (iD pp.1)), (10, .d (iD pp.2))]) (fun pp => [(3, .obj 74 [.d (z7 1 iD cs.1), .d (z7 3 q9 cs.2)]), (13, .tok 2 1 out.length)]) ?_
 rintro ⟨k, rule⟩ t2 h hb2
 unfold s3q at h
 try dsimp only at h
 refine q6 (v5 ?_)
 refine it h (fun hc h => ?_) fun hc h => ?_
 ·refine iF h fun hc h => ?_
  replace h := u9 h hb2
  refine ndI h fun hp h => ?_
  cases h
  refine ⟨_, rfl, ?_⟩
  refine (y0.drop 44 (by omega)).trans ?_
  exact wk
 replace h := u9 h hb2
 refine ndI h fun hp h => ?_
 cases h
 refine ⟨_, rfl, ?_⟩
 refine (y0.drop 44 (by omega)).trans ?_
 exact wk⟩
def q1a (cs : TyA) (t : q7) (r : q7) (x7 : Int) : (Bool × Int) -> Option ((Bool × Int) ⊕ (Int ⊕ (Int × Int × Bool)))
 | (inmost, p) =>
  (z6q cs.1 t x7).bind fun r_1 =>
  if (decide (p < r_1)) = true then
   if inmost = true then
    if 0 <= p /\ p < (r.length : Int) then
     some (.inl ((decide ((r.getD p.toNat default) < 0)), (IntKind.i64.wrap (p + 1))))
    else none
   else
    some (.inl (false, (IntKind.i64.wrap (p + 1))))
  else
   Option.map Sum.inr (
    if inmost = true then
     if 0 <= x7 /\ x7 < (r.length : Int) then
      Option.map Sum.inr (
       some (x7, (r.getD x7.toNat default), true))
     else none
    else
     some (.inl (IntKind.i64.wrap (x7 + 1))))
def q0z (cs : TyA) (t : q7) (r : q7) : Int -> Option (Int ⊕ (Int × Int × Bool))
 | x7 =>
  if (decide (x7 < (t.length : Int))) = true then
   if 0 <= x7 /\ x7 < (r.length : Int) then
    if (decide ((r.getD x7.toNat default) < 0)) = true then
     some (.inl (IntKind.i64.wrap (x7 + 1)))
    else
     loopC (q1a cs t r x7) (true, (IntKind.i64.wrap (x7 + 1)))
   else none
  else
   Option.map Sum.inr (
    some (0, 0, false))
def j4q (cs : TyA) (t : q7) (depth : Int) : Option (Int × Int × Bool) :=
 (y3q cs t depth).bind fun r =>
 loopC (q0z cs t r) 0
instance z9i {cs : TyA} {t : q7} {depth : Int} : y3 (j4q cs t depth) fun rr => r9 Tryz.prog 155 [j6 cs, (z7 1 iD) t, iD depth] [iD rr.1, iD rr.2.1, bD rr.2.2] := ⟨@fun rr h => by
 delta j4q at h
 refine y1z.pureLN (q6 ?_)
 delta x8e
 refine v5 ?_
 refine rC h fun r hr h => ?_
 refine s9 h [6, 7, 8, 10, 11, 12, 17, 18, 19, 20, 21, 22, 23, 24, 25, 26, 27, 28, 29, 30, 31, 32, 33, 34, 35, 36, 37, 38, 39, 40, 41, 42, 43, 44, 45, 46, 47, 48, 49, 50, 51, 52] (fun pp => [(10, .d (iD pp))]) (fun pp => [(3, .obj 74 [.d (z7 1 iD cs.1), .d (z7 3 q9 cs.2)])]) ?_
 rintro x7 t1 h hb1
 unfold q0z at h
 try dsimp only at h
 refine q6 (v5 ?_)
 refine iT h fun hc h => ?_
 refine ndI h fun hp h => ?_
 refine iF h fun hc h => ?_
 refine s9 h [11, 12, 30, 31, 32, 33, 34, 35, 36, 37, 38, 39, 40, 41, 42, 43, 44, 45, 46] (fun pp => [(11, .d (bD pp.1)), (12, .d (iD pp.2))]) (fun pp => [(3, .obj 74 [.d (z7 1 iD cs.1), .d (z7 3 q9 cs.2)])]) ?_
 rintro ⟨inmost, p⟩ t2 h hb2
 unfold q1a at h
 try dsimp only at h
 refine q6 (v5 ?_)
 exact aut⟩
def q4e : j5 :=
 (.seq (.reg (sq 6 [bo 6 74 0, bo 7 46 1, bo 8 40 2] ++ sq 12 [.alloc 12 40 [.sl 0 (some true) [], .sl 0 (some true) []], mb false])) (.seq (.reg (sq 26 [fa 1 6, ld 26, mv 4, ix 3 27 28, la 3 29] ++ sq 14 [.alloc 14 136 [.sl 0 (some true) [], .sl 0 (some true) [], .sl 0 (some true) []]] ++ s0 (sr 3 14 30))) (.seq (.reg (sq 31 [la 2 6, mv 4, cf 169 [31, 32]] ++ sq 15 [mv 33])) (.seq (.draw (sq 35 [fa 0 6, la 1 35, .mksld 37 22 1 24 [.sl 0 (some true) []] false (i0 24) (i0 24), fa 0 14, ld 38, fa 0 7, la 1 40, la 2 8, cf 100 [42], mv 3, cf 163 [41, 43, 44], cf 170 [36, 37, 39, 45]] ++ sq 34 [mv 46] ++ sq 47 [ex 34 0, ex 34 1] ++ sq 16 [mv 47, mv 48]) [[], [0], [], [], [3], [], [5], [], [7], [], [6, 8, 9, 8], [1, 2, 4, 10, 10], [11], [12], [12], [13, 11, 0, 1, 2, 3, 4, 5, 6, 7, 8, 9, 10, 11, 12, 13], [14, 15, 0, 1, 2, 3, 4, 5, 6, 7, 8, 9, 10, 11, 12, 13, 14, 15]]) (.seq (.reg (sq 50 [la 2 7, la 2 8, mv 3, mv 15, cf 171 [50, 51, 52, 53]] ++ sq 49 [mv 54] ++ sq 55 [ex 49 0, ex 49 1] ++ s0 (sr 2 8 55) ++ sq 18 [mv 56])) (.seq (.seq (.reg (sq 19 [mi 0])) (.block 0 (.loop (.seq (.seq (.reg (sq 57 [mv 19, fa 2 14, ld 58, ln 59, bn .lss 57 60, mv 61] ++ sg 62 true 63 [mv 18] ++ sq 64 [pa 62 63])) (.cond (t0 64) .skip (.exit 0))) (.seq (.block 1 (.seq (.reg (sq 68 [mv 16, .build [.sl 0 (some true) []] [(0, 1, (t0 68))], fa 2 14, ld 70, mv 19, ix 2 71 72, fa 0 73, ld 74, cf 113 [69, 75]] ++ sq 67 [mv 76] ++ sq 77 [ex 67 0, ex 67 1] ++ sq 20 [mv 77, mv 78])) (.seq (.seq (.reg (sq 22 [mi 0])) (.block 2 (.loop (.seq (.seq (.reg (sq 79 [mv 22, bi .lss 79 8])) (.cond (t0 80) .skip (.exit 2))) (.seq (.block 3 (.seq (.reg (sq 84 [la 2 6, mv 20, mv 5, bi .sub 86 1, cf 155 [84, 85, 87]] ++ sq 83 [mv 88] ++ sq 89 [ex 83 0, ex 83 1, ex 83 2] ++ sq 23 [mv 89, mv 90, mv 91])) (.seq (.seq (.reg (sq 92 [mv 25, nt 92])) (.cond (t0 93) (.exit 2) .skip)) (.seq (.reg (sq 95 [la 2 6, la 2 7, la 2 8, mv 3, bi .add 98 1, mv 23, bn .add 99 100, mv 24, mv 5, bi .sub 103 1, cf 90 [95, 96, 97, 101, 102, 104]] ++ sq 94 [mv 105] ++ sq 106 [ex 94 0, ex 94 1] ++ s0 (sr 2 8 106) ++ sq 18 [mv 107])) (.seq (.seq (.reg (sq 108 [mv 18, nt 108])) (.cond (t0 109) (.seq (.reg (sq 110 [la 2 8] ++ s0 (sr 2 12 110) ++ sq 13 [mb false])) .ret) .skip)) (.reg (sq 112 [la 2 6, mv 20, mv 23, mv 24, mv 5, bi .sub 116 1, cf 87 [112, 113, 114, 115, 117]] ++ sq 111 [mv 118] ++ sq 119 [ex 111 0, ex 111 1] ++ sq 20 [mv 119]))))))) (.reg (sq 81 [mv 22, bi .add 81 1] ++ sq 22 [mv 82]))))))) (.seq (.draw (sq 122 [fa 0 6, la 1 122, mv 16, fa 2 14, ld 125, mv 19, ix 2 126 127, fa 1 128, ld 129, mv 20, cf 170 [123, 124, 130, 131]] ++ sq 121 [mv 132] ++ sq 133 [ex 121 0, ex 121 1] ++ sq 16 [mv 133]) [[], [0], [], [], [3], [], [4, 5], [6], [7], [], [1, 2, 8, 9], [10], [11], [11], [12, 10, 0, 1, 2, 3, 4, 5, 6, 7, 8, 9, 10, 11, 12]]) (.reg (sq 136 [la 2 7, la 2 8, mv 3, mv 15, mv 19, bn .add 139 140, bi .add 141 1, cf 171 [136, 137, 138, 142]] ++ sq 135 [mv 143] ++ sq 144 [ex 135 0, ex 135 1] ++ s0 (sr 2 8 144) ++ sq 18 [mv 145])))))) (.reg (sq 65 [mv 19, bi .add 65 1] ++ sq 19 [mv 66]))))))) (.seq (.reg (sq 146 [la 2 8, mv 18] ++ s0 (sr 2 12 146) ++ sq 13 [mv 147])) .ret)))))))
theorem k1r : t6 Tryz.prog 90 q4e 148 [.cell 12 2 true, .tmp 13] := mf Tryz.func90 Tryz.ntmps90
def r8 (rec : TyA -> Ty6 -> Ty7 -> Int -> Int -> Int -> Option (Ty7 × Bool)) (cs : TyA) (sys : Ty6) (x7 : Int) (rule : Int) (depth : Int) (r : Int) (given : Ty1) (i : Int) : (q7 × Int × q7 × Ty5) -> Option ((q7 × Int × q7 × Ty5) ⊕ ((Ty1 × Bool × Int × q7 × Ty5) ⊕ (Ty7 × Bool)))
 | (u, k, w_3, w_4) =>
  if (decide (k < 8)) = true then
   (j4q cs u (IntKind.i64.wrap (depth - 1))).bind fun r_6 =>
   if r_6.2.2 = true then
    (rec cs sys (w_3, w_4) (IntKind.i64.wrap ((IntKind.i64.wrap (x7 + 1)) + r_6.1)) r_6.2.1 (IntKind.i64.wrap (depth - 1))).bind fun r_7 =>
    if r_7.2 = true then
     (s7 cs u r_6.1 r_6.2.1 (IntKind.i64.wrap (depth - 1))).bind fun r_8 =>
     some (.inl (r_8.1, (IntKind.i64.wrap (k + 1)), r_7.1.1, r_7.1.2))
    else
     Option.map Sum.inr (
      Option.map Sum.inr (
       some (r_7.1, false)))
   else
    Option.map Sum.inr (
     if 0 <= i /\ i < (((cs.2.getD rule.toNat default).2.2).length : Int) then
      (m7 cs.1 given ((((cs.2.getD rule.toNat default).2.2).getD i.toNat default).2) u).bind fun r_9 =>
      (j9q sys (w_3, w_4) x7 (IntKind.i64.wrap ((IntKind.i64.wrap (r + i)) + 1))).bind fun r_10 =>
      some (.inl (r_9.1, r_10.2, (IntKind.i64.wrap (i + 1)), r_10.1.1, r_10.1.2))
     else none)
  else
   Option.map Sum.inr (
    if 0 <= i /\ i < (((cs.2.getD rule.toNat default).2.2).length : Int) then
     (m7 cs.1 given ((((cs.2.getD rule.toNat default).2.2).getD i.toNat default).2) u).bind fun r_11 =>
     (j9q sys (w_3, w_4) x7 (IntKind.i64.wrap ((IntKind.i64.wrap (r + i)) + 1))).bind fun r_12 =>
     some (.inl (r_11.1, r_12.2, (IntKind.i64.wrap (i + 1)), r_12.1.1, r_12.1.2))
    else none)
def q4q (rec : TyA -> Ty6 -> Ty7 -> Int -> Int -> Int -> Option (Ty7 × Bool)) (cs : TyA) (sys : Ty6) (x7 : Int) (rule : Int) (depth : Int) (r : Int) : (Ty1 × Bool × Int × q7 × Ty5) -> Option ((Ty1 × Bool × Int × q7 × Ty5) ⊕ (Ty7 × Bool))
 | (given, ok, i, w_1, w_2) =>
  if (decide (i < (((cs.2.getD rule.toNat default).2.2).length : Int))) = true then
   if ok = true then
    if 0 <= i /\ i < (((cs.2.getD rule.toNat default).2.2).length : Int) then
     (e8 given ((((cs.2.getD rule.toNat default).2.2).getD i.toNat default).1)).bind fun r_5 =>
     loopC (r8 rec cs sys x7 rule depth r given i) (r_5.1, 0, w_1, w_2)
    else none
   else
    Option.map Sum.inr (
     some ((w_1, w_2), false))
  else
   Option.map Sum.inr (
    some ((w_1, w_2), ok))
def o9 : Nat -> TyA -> Ty6 -> Ty7 -> Int -> Int -> Int -> Option (Ty7 × Bool)
 | 0, _, _, _, _, _, _ => none
 | fu + 1, cs, sys, w, x7, rule, depth =>
  if 0 <= rule /\ rule < (cs.2.length : Int) then
   (n2q cs rule).bind fun r =>
   (r4q w).bind fun r_1 =>
   (x2q sys.1 r_1 x7).bind fun r_2 =>
   (m7 cs.1 (List.replicate 24 []) ((cs.2.getD rule.toNat default).1) r_2).bind fun r_3 =>
   (j9q sys w x7 r).bind fun r_4 =>
   loopC (q4q (o9 fu) cs sys x7 rule depth r) (r_3.1, r_4.2, 0, r_4.1.1, r_4.1.2)
  else none
def p4q (cs : TyA) (sys : Ty6) (w : Ty7) (x7 : Int) (rule : Int) (depth : Int) : Option (Ty7 × Bool) := j0j fun fu => o9 fu cs sys w x7 rule depth
theorem q7r : ∀ {fu : Nat} {cs : TyA} {sys : Ty6} {w : Ty7} {x7 : Int} {rule : Int} {depth : Int} {rr : (Ty7 × Bool)} (h : o9 fu cs sys w x7 rule depth = some rr), r9 Tryz.prog 90 [j6 cs, d5 sys, u7 w, iD x7, iD rule, iD depth] [u7 rr.1, bD rr.2]
 | 0, _, _, _, _, _, _, _, h => by cases h
 | fu + 1, cs, sys, w, x7, rule, depth, rr, h => by
  have ih : ∀ {cs : TyA} {sys : Ty6} {w : Ty7} {x7 : Int} {rule : Int} {depth : Int}, y3 (o9 fu cs sys w x7 rule depth) fun rr => r9 Tryz.prog 90 [j6 cs, d5 sys, u7 w, iD x7, iD rule, iD depth] [u7 rr.1, bD rr.2] := ⟨fun h => q7r h⟩
  unfold o9 at h
  refine k1r.pureLN (q6 ?_)
  delta q4e
  refine v5 ?_
  refine ndI h fun hp h => ?_
  refine rC h fun r hr h => ?_
  refine nds ?_
  refine dC h fun r_1 hr_1 h => ?_
  refine dC h fun r_2 hr_2 h => ?_
  refine dCN h fun r_3 hr_3 h => ?_
  refine y7q (by kernel_rfl) (v5 ?_)
  refine rCN h fun r_4 hr_4 h => ?_
  refine s9 h [13, 16, 18, 19, 20, 21, 22, 23, 24, 25, 57, 58, 59, 60, 61, 62, 63, 64, 65, 66, 67, 68, 69, 70, 71, 72, 73, 74, 75, 76, 77, 78, 79, 80, 81, 82, 83, 84, 85, 86, 87, 88, 89, 90, 91, 92, 93, 94, 95, 96, 97, 98, 99, 100, 101, 102, 103, 104, 105, 106, 107, 108, 109, 110, 111, 112, 113, 114, 115, 116, 117, 118, 119, 120, 121, 122, 123, 124, 125, 126, 127, 128, 129, 130, 131, 132, 133, 134, 135, 136, 137, 138, 139, 140, 141, 142, 143, 144, 145] (fun pp => [(16, .d (z7 1 (z7 1 iD) pp.1)), (18, .d (bD pp.2.1)), (19, .d (iD pp.2.2.1))]) (fun pp => [(6, .obj 74 [.d (z7 1 iD cs.1), .d (z7 3 q9 cs.2)]), (7, .obj 46 [.d (z7 1 iD sys.1), .d (z7 2 v7 sys.2)]), (8, .obj 40 [.d (z7 1 iD pp.2.2.2.1), .d (z7 3 z5 pp.2.2.2.2)]), (12, .obj 40 [.d (.sl 0 (some true) []), .d (.sl 0 (some true) [])]), (14, .obj 136 [.d (z7 1 iD ((cs.2.getD rule.toNat default).1)), .d (z7 1 iD ((cs.2.getD rule.toNat default).2.1)), .d (z7 2 y5 ((cs.2.getD rule.toNat default).2.2))])]) ?_
  rintro ⟨given, ok, i, w_1, w_2⟩ t1 h hb1
  unfold q4q at h
  try dsimp only at h
  refine q6 (v5 ?_)
  refine iT h fun hc h => ?_
  refine iT h fun hc h => ?_
  refine ndI h fun hp h => ?_
  refine rCN h fun r_5 hr_5 h => ?_
  refine s9 h [13, 18, 20, 22, 23, 24, 25, 79, 80, 81, 82, 83, 84, 85, 86, 87, 88, 89, 90, 91, 92, 93, 94, 95, 96, 97, 98, 99, 100, 101, 102, 103, 104, 105, 106, 107, 108, 109, 110, 111, 112, 113, 114, 115, 116, 117, 118, 119, 120] (fun pp => [(20, .d (z7 1 iD pp.1)), (22, .d (iD pp.2.1))]) (fun pp => [(6, .obj 74 [.d (z7 1 iD cs.1), .d (z7 3 q9 cs.2)]), (7, .obj 46 [.d (z7 1 iD sys.1), .d (z7 2 v7 sys.2)]), (8, .obj 40 [.d (z7 1 iD pp.2.2.1), .d (z7 3 z5 pp.2.2.2)]), (12, .obj 40 [.d (.sl 0 (some true) []), .d (.sl 0 (some true) [])]), (14, .obj 136 [.d (z7 1 iD ((cs.2.getD rule.toNat default).1)), .d (z7 1 iD ((cs.2.getD rule.toNat default).2.1)), .d (z7 2 y5 ((cs.2.getD rule.toNat default).2.2))])]) ?_
  rintro ⟨u, k, w_3, w_4⟩ t2 h hb2
  unfold r8 at h
  try dsimp only at h
  refine q6 (v5 ?_)
  exact aut
instance z6m {cs : TyA} {sys : Ty6} {w : Ty7} {x7 : Int} {rule : Int} {depth : Int} : y3 (p4q cs sys w x7 rule depth) fun rr => r9 Tryz.prog 90 [j6 cs, d5 sys, u7 w, iD x7, iD rule, iD depth] [u7 rr.1, bD rr.2] := ⟨fun h => q7r (q2n h).choose_spec⟩
def mc33 : j5 :=
 (.seq (.reg (sq 5 [bo 5 74 0] ++ sq 10 [.alloc 10 40 [.sl 0 (some true) [], .sl 0 (some true) []], mb false])) (.seq (.reg (sq 19 [la 2 5, mv 1, mv 2, mv 3, mv 4, cf 31 [19, 20, 21, 22, 23]] ++ sq 18 [mv 24] ++ sq 25 [ex 18 0, ex 18 1] ++ sq 12 [mv 25, mv 26])) (.seq (.reg (sq 28 [la 2 5, cf 35 [28]] ++ sq 27 [mv 29] ++ sq 30 [ex 27 0, ex 27 1] ++ sq 14 [.alloc 14 46 [.sl 0 (some true) [], .sl 0 (some true) []]] ++ s0 (sr 2 14 30) ++ sq 15 [mv 31])) (.seq (.seq (.reg (sq 32 [mv 13, nt 32, mv 33] ++ sg 34 false 35 [mv 15, nt 35] ++ sq 37 [po 34 36])) (.cond (t0 37) (.seq (.reg (sq 38 [.build [.sl 0 (some true) [], .sl 0 (some true) []] []] ++ s0 (sr 2 10 38) ++ sq 11 [mb false])) .ret) .skip)) (.seq (.draw (sq 40 [la 2 5, la 2 14, mv 1, cf 91 [42], .build [.sl 0 (some true) [], .sl 0 (some true) []] [(0, 1, (t0 43))], mv 2, mv 3, mv 4, cf 90 [40, 41, 44, 45, 46, 47]] ++ sq 39 [mv 48] ++ sq 49 [ex 39 0, ex 39 1] ++ sq 16 [.alloc 16 40 [.sl 0 (some true) [], .sl 0 (some true) []]] ++ s0 (sr 2 16 49) ++ sq 17 [mv 50]) [[], [], [], [2], [3], [], [], [], [0, 1, 4, 5, 6, 7, 3], [8], [9], [9], [], [12, 10, 8, 0, 1, 2, 3, 4, 5, 6, 7, 8, 9, 10, 12], [11, 13, 0, 1, 2, 3, 4, 5, 6, 7, 8, 9, 10, 11, 12, 13]]) (.seq (.seq (.reg (sq 51 [mv 17, nt 51])) (.cond (t0 52) (.seq (.reg (sq 53 [.build [.sl 0 (some true) [], .sl 0 (some true) []] []] ++ s0 (sr 2 10 53) ++ sq 11 [mb false])) .ret) .skip)) (.seq (.reg (sq 54 [la 2 16] ++ s0 (sr 2 10 54) ++ sq 11 [mb true])) .ret)))))))
theorem fn33 : t6 Tryz.prog 33 mc33 55 [.cell 10 2 true, .tmp 11] := mf Tryz.func33 Tryz.ntmps33
def o1q (cs : TyA) (t : q7) (x7 : Int) (rule : Int) (depth : Int) : Option (Ty7 × Bool) :=
 (o0q cs t x7 rule depth).bind fun r =>
 (d6q cs).bind fun r_1 =>
 if r.2 = true then
  if r_1.2 = true then
   (d6 t).bind fun r_2 =>
   (p4q cs r_1.1 (r_2, []) x7 rule depth).bind fun r_3 =>
   if r_3.2 = true then
    some (r_3.1, true)
   else
    some (([], []), false)
  else
   some (([], []), false)
 else
  some (([], []), false)
instance j7u {cs : TyA} {t : q7} {x7 : Int} {rule : Int} {depth : Int} : y3 (o1q cs t x7 rule depth) fun rr => r9 Tryz.prog 33 [j6 cs, (z7 1 iD) t, iD x7, iD rule, iD depth] [u7 rr.1, bD rr.2] := ⟨@fun rr h => by
 delta o1q at h
 refine fn33.pureLN (q6 ?_)
 delta mc33
 refine v5 ?_
 refine rCN h fun r hr h => ?_
 refine rCN h fun r_1 hr_1 h => ?_
 refine iT h fun hc h => ?_
 refine iT h fun hc h => ?_
 refine dCo [] [(3, 43)] h fun r_2 hr_2 h => ?_
 exact aut⟩
end Go.Proofs.YtklfjpilhbkekaaGreat
