/- Functions of the program and the equations that they compute, second part; nothing is assumed. -/
import Derived.Test.YtklfjpilhbkekaaGreatZa
set_option linter.all false
noncomputable section
namespace Go.Proofs.YtklfjpilhbkekaaGreat
open Go Abx
attribute [local irreducible] vcm vgo vdr q3o q0n MWp p5q BrC BrO BrG BrD BrH z0s a3q q3y drQ w8 e2q
set_option maxHeartbeats 4000000
def z5 (x : Ty4) : D := .agg [iD x.1, iD x.2.1, (z7 1 iD) x.2.2]
def u7 (x : Ty7) : D := .agg [(z7 1 iD) x.1, (z7 3 z5) x.2]
instance : Cel z5 3 := ⟨fun _ => rfl⟩
instance : Cel u7 2 := ⟨fun _ => rfl⟩
attribute [go_sem] z5 u7
def y4r : j5 :=
 (.seq (.reg (sq 3 [bo 3 43 0] ++ sq 6 [mb false])) (.seq (.reg (sq 7 [la 1 3, mv 1, cf 157 [7, 8], mv 9] ++ sg 10 true 11 [mv 2, bi .geq 11 0] ++ sq 13 [pa 10 12, mv 13] ++ sg 14 true 15 [mv 2, mv 1, ln 16, bn .lss 15 17] ++ sq 19 [pa 14 18] ++ sq 6 [mv 19])) .ret))
theorem fn191 : t6 Tryz.prog 191 y4r 20 [.tmp 6] := mf Tryz.func191 Tryz.ntmps191
def q2v (sig : q7) (t : q7) (x7 : Int) : Option Bool :=
 (r6 sig t).bind fun r =>
 if r = true then
  if (decide (0 <= x7)) = true then
   some (decide (x7 < (t.length : Int)))
  else
   some false
 else
  some false
instance x3v {sig : q7} {t : q7} {x7 : Int} : y3 (q2v sig t x7) fun rr => p7 Tryz.prog 191 [u3 sig, (z7 1 iD) t, iD x7] (bD rr) := ⟨@fun rr h => by
 delta q2v at h
 refine fn191.pureL (q6 ?_)
 delta y4r
 refine v5 ?_
 exact aut⟩
def y5z : j5 :=
 (.seq (.reg (sq 4 [bo 4 46 0] ++ sq 8 [mb false])) (.seq (.reg (sq 9 [la 2 4, cf 119 [9], mv 10] ++ sg 11 true 12 [fa 0 4, la 1 12, mv 1, mv 2, cf 191 [13, 14, 15]] ++ sq 17 [pa 11 16, mv 17] ++ sg 18 true 19 [mv 3, bi .geq 19 0] ++ sq 21 [pa 18 20, mv 21] ++ sg 22 true 23 [mv 3, fa 1 4, ld 24, ln 25, bn .lss 23 26] ++ sq 28 [pa 22 27] ++ sq 8 [mv 28])) .ret))
theorem fn273 : t6 Tryz.prog 273 y5z 29 [.tmp 8] := mf Tryz.func273 Tryz.ntmps273
def q1x (sys : Ty6) (t : q7) (x7 : Int) (rule : Int) : Option Bool :=
 (x1q sys).bind fun r =>
 if r = true then
  (q2v sys.1 t x7).bind fun r_1 =>
  if r_1 = true then
   if (decide (0 <= rule)) = true then
    some (decide (rule < (sys.2.length : Int)))
   else
    some false
  else
   some false
 else
  some false
instance j2n {sys : Ty6} {t : q7} {x7 : Int} {rule : Int} : y3 (q1x sys t x7 rule) fun rr => p7 Tryz.prog 273 [d5 sys, (z7 1 iD) t, iD x7, iD rule] (bD rr) := ⟨@fun rr h => by
 delta q1x at h
 refine fn273.pureL (q6 ?_)
 delta y5z
 refine v5 ?_
 exact aut⟩
def j7q (n : Int) : Option q7 := if 0 <= n /\ n * 8 <= 140737488355328 then some [] else none
instance k6w {n : Int} : y3 (j7q n) fun rr => x6 Tryz.prog 243 [.d (.sl 0 (some true) []), .d (iD n)] [] 0 fun xx ss => xx = .own 1 0 (List.map iD rr) /\ ss = [(0, .tok 2 1 rr.length)] := ⟨fun h => by
 obtain ⟨hp, h⟩ := f8q h
 cases h
 exact x0p (i0 := Tryz.t2) (z := _) Tryz.grow243 (by kernel_rfl) rfl (by decide) (by decide) (by decide) (by decide) hp.1 hp.2⟩
def y4u : j5 :=
 (.seq (.reg (sq 2 [.mv (.const (.slice none 0 0))])) (.seq (.reg (sq 3 [mi 0])) (.seq (.seq (.reg (sq 9 [mv 0, ln 9, mi 0])) (.block 0 (.loop (.seq (.reg (sq 12 [bn .lss 11 10])) (.seq (.cond (t0 12) .skip (.exit 0)) (.seq (.block 1 (.seq (.reg (sq 13 [ix 1 9 11, ld 13] ++ sq 5 [mv 14])) (.seq (.reg (sq 15 [mv 3, mv 5, ln 16, bn .add 15 17] ++ sq 3 [mv 18])) (.seq (.reg (sq 19 [mv 3, bi .lss 19 0])) (.cond (t0 20) (.reg (sq 21 [.dead] ++ s0 .dead)) .skip))))) (.reg (sq 22 [bi .add 11 1] ++ sq 11 [mv 22])))))))) (.seq (.reg (sq 23 [mv 3, .callf 243 [(.const (.slice none 0 0)), (t0 23)]] ++ sq 6 [mv 24])) (.seq (.seq (.reg (sq 25 [mv 0, ln 25, mi 0])) (.block 2 (.loop (.seq (.reg (sq 28 [bn .lss 27 26])) (.seq (.cond (t0 28) .skip (.exit 2)) (.seq (.block 3 (.seq (.reg (sq 29 [ix 1 25 27, ld 29] ++ sq 8 [mv 30])) (.reg (sq 31 [mv 6, mv 8, ap 33 2 1 8 31 32] ++ sq 6 [mv 33])))) (.reg (sq 34 [bi .add 27 1] ++ sq 27 [mv 34])))))))) (.seq (.reg (sq 35 [mv 6] ++ sq 2 [mv 35])) .ret))))))
theorem fn194 : t6 Tryz.prog 194 y4u 36 [.tmp 2] := mf Tryz.func194 Tryz.ntmps194
def q9q (slices : Ty1) : (q7 × Int) -> Option ((q7 × Int) ⊕ q7)
 | (newslice, v27) =>
  if (decide (v27 < (slices.length : Int))) = true then
   if 0 <= v27 /\ v27 < (slices.length : Int) then
    if (newslice.length + (slices.getD v27.toNat default).length) * 8 <= 140737488355328 then
     some (.inl ((newslice ++ (slices.getD v27.toNat default)), (IntKind.i64.wrap (v27 + 1))))
    else none
   else none
  else
   Option.map Sum.inr (
    some newslice)
def q8q (slices : Ty1) : (Int × Int) -> Option ((Int × Int) ⊕ q7)
 | (size, v11) =>
  if (decide (v11 < (slices.length : Int))) = true then
   if 0 <= v11 /\ v11 < (slices.length : Int) then
    if (decide ((IntKind.i64.wrap (size + ((slices.getD v11.toNat default).length : Int))) < 0)) = true then
     none
    else
     some (.inl ((IntKind.i64.wrap (size + ((slices.getD v11.toNat default).length : Int))), (IntKind.i64.wrap (v11 + 1))))
   else none
  else
   Option.map Sum.inr (
    (j7q size).bind fun r =>
    loopC (q9q slices) (r, 0))
def y6 (slices : Ty1) : Option q7 :=
 loopC (q8q slices) (0, 0)
instance k4v {slices : Ty1} : y3 (y6 slices) fun rr => x6 Tryz.prog 194 [.d (z7 1 (z7 1 iD) slices)] [] 0 fun xx ss => xx = .own 1 24 (List.map iD rr) /\ ss = [(24, .tok 2 1 rr.length)] := ⟨@fun rr h => by
 delta y6 at h
 refine fn194.callsO (q6 ?_)
 delta y4u
 refine v5 ?_
 refine s9 h [3, 5, 11, 12, 13, 14, 15, 16, 17, 18, 19, 20, 21, 22] (fun pp => [(3, .d (iD pp.1)), (11, .d (iD pp.2))]) (fun pp => []) ?_
 rintro ⟨size, v11⟩ t1 h hb1
 unfold q8q at h
 try dsimp only at h
 refine q6 (v5 ?_)
 refine iF h fun hc h => ?_
 replace h := u9 h hb1
 refine rCo [] [(0, 24)] h fun r hr h => ?_
 refine s9 h [6, 8, 27, 28, 29, 30, 31, 32, 33, 34] (fun pp => [(6, .own 1 24 (List.map iD pp.1)), (27, .d (iD pp.2))]) (fun pp => [(24, .tok 2 1 pp.1.length)]) ?_
 rintro ⟨newslice, v27⟩ t1 h hb1
 unfold q9q at h
 try dsimp only at h
 refine q6 (v5 ?_)
 exact aut⟩
def y3l : j5 :=
 (.seq (.reg (sq 4 [bo 4 43 0] ++ sq 8 [.mv (.const (.slice none 0 0)), mb false])) (.seq (.draw (sq 11 [mv 1, mv 2, .slc (t0 11) 1 none (some (t0 12)) none, mv 3, mv 1, la 1 4, mv 1, mv 2, cf 195 [16, 17, 18], .slc (t0 15) 1 (some (t0 19)) none none, .bsl 21 22 1 [(t0 13), (t0 14), (t0 20)], cf 194 [21]] ++ sq 10 [mv 22]) [[], [], [0, 1], [], [], [], [], [], [5, 6, 7], [4, 8], [2, 3, 9], [10, 8], [11, 11, 0, 1, 2, 3, 4, 5, 6, 7, 8, 9, 10, 11]]) (.seq (.seq (.reg (sq 23 [mv 10, ln 23, bi .gtr 24 60])) (.cond (t0 25) (.seq (.reg (sq 8 [.mv (.const (.slice none 0 0)), mb false])) .ret) .skip)) (.seq (.reg (sq 26 [mv 10] ++ sq 8 [mv 26, mb true])) .ret))))
theorem fn127 : t6 Tryz.prog 127 y3l 27 [.tmp 8, .tmp 9] := mf Tryz.func127 Tryz.ntmps127
def g4q (sig : q7) (t : q7) (x7 : Int) (u : q7) : Option (q7 × Bool) :=
 if 0 <= x7 /\ x7 <= (t.length : Int) then
  (y6q sig t x7).bind fun r =>
  if 0 <= r /\ r <= (t.length : Int) then
   (y6 [(t.take x7.toNat), u, (t.drop r.toNat)]).bind fun r_1 =>
   if (decide (60 < (r_1.length : Int))) = true then
    some ([], false)
   else
    some (r_1, true)
  else none
 else none
instance y0g {sig : q7} {t : q7} {x7 : Int} {u : q7} : y3 (g4q sig t x7 u) fun rr => r9 Tryz.prog 127 [u3 sig, (z7 1 iD) t, iD x7, (z7 1 iD) u] [(z7 1 iD) rr.1, bD rr.2] := ⟨@fun rr h => by
 delta g4q at h
 refine fn127.pureLN (q6 ?_)
 delta y3l
 refine v5 ?_
 refine ndI h fun hp h => ?_
 refine dC h fun r hr h => ?_
 refine ndI h fun hp h => ?_
 refine dCo [] [(24, 22)] h fun r_1 hr_1 h => ?_
 exact aut⟩
def y4w : j5 :=
 (.seq (.reg (sq 4 [bo 4 46 0] ++ sq 8 [.mv (.const (.slice none 0 0)), mb false])) (.seq (.draw (sq 14 [fa 0 4, la 1 14, fa 1 4, ld 16, mv 3, ix 2 17 18, fa 0 19, ld 20, fa 0 4, la 1 22, mv 1, mv 2, cf 159 [23, 24, 25], cf 261 [15, 21, 26]] ++ sq 13 [mv 27] ++ sq 28 [ex 13 0, ex 13 1] ++ sq 10 [.alloc 10 48 [.sl 0 (some true) []]] ++ s0 (sr 1 10 28) ++ sq 11 [mv 29]) [[], [0], [], [2], [], [3, 4], [5], [6], [], [8], [], [], [9, 10, 11], [1, 7, 12, 12], [13], [14], [14], [], [17, 15, 13, 0, 1, 2, 3, 4, 5, 6, 7, 8, 9, 10, 11, 12, 13, 14, 15, 17], [16, 18, 0, 1, 2, 3, 4, 5, 6, 7, 8, 9, 10, 11, 12, 13, 14, 15, 16, 17, 18]]) (.seq (.seq (.reg (sq 30 [mv 11, nt 30])) (.cond (t0 31) (.seq (.reg (sq 8 [.mv (.const (.slice none 0 0)), mb false])) .ret) .skip)) (.seq (.draw (sq 33 [la 1 10, fa 1 4, ld 34, mv 3, ix 2 35 36, fa 1 37, ld 38, cf 125 [33, 39]] ++ sq 32 [mv 40] ++ sq 41 [ex 32 0, ex 32 1] ++ sq 12 [mv 41] ++ sq 11 [mv 42]) [[], [], [1], [], [2, 3], [4], [5], [0, 6], [7], [8], [8], [9, 7, 0, 1, 2, 3, 4, 5, 6, 7, 8, 9], [10, 11, 0, 1, 2, 3, 4, 5, 6, 7, 8, 9, 10, 11]]) (.seq (.seq (.reg (sq 43 [mv 11, nt 43])) (.cond (t0 44) (.seq (.reg (sq 8 [.mv (.const (.slice none 0 0)), mb false])) .ret) .skip)) (.seq (.reg (sq 45 [fa 0 4, la 1 45, mv 1, mv 2, mv 12, cf 127 [46, 47, 48, 49], ex 50 0, ex 50 1] ++ sq 8 [mv 51, mv 52])) .ret))))))
theorem fn212 : t6 Tryz.prog 212 y4w 53 [.tmp 8, .tmp 9] := mf Tryz.func212 Tryz.ntmps212
def m6q (sys : Ty6) (t : q7) (x7 : Int) (rule : Int) : Option (q7 × Bool) :=
 if 0 <= rule /\ rule < (sys.2.length : Int) then
  (q7q sys.1 t x7).bind fun r =>
  (h6q sys.1 ((sys.2.getD rule.toNat default).1) r).bind fun r_1 =>
  if r_1.2 = true then
   if 0 <= rule /\ rule < (sys.2.length : Int) then
    (k5q r_1.1 ((sys.2.getD rule.toNat default).2)).bind fun r_2 =>
    if r_2.2 = true then
     (g4q sys.1 t x7 r_2.1).bind fun r_3 =>
     some r_3
    else
     some ([], false)
   else none
  else
   some ([], false)
 else none
instance x6s {sys : Ty6} {t : q7} {x7 : Int} {rule : Int} : y3 (m6q sys t x7 rule) fun rr => r9 Tryz.prog 212 [d5 sys, (z7 1 iD) t, iD x7, iD rule] [(z7 1 iD) rr.1, bD rr.2] := ⟨@fun rr h => by
 delta m6q at h
 refine fn212.pureLN (q6 ?_)
 delta y4w
 refine v5 ?_
 exact aut⟩
def y5n : j5 :=
 (.seq (.reg (sq 4 [bo 4 46 0] ++ sq 8 [.mv (.const (.slice none 0 0)), mb false])) (.seq (.seq (.reg (sq 10 [la 2 4, mv 1, mv 2, mv 3, cf 273 [10, 11, 12, 13], nt 14])) (.cond (t0 15) (.seq (.reg (sq 8 [.mv (.const (.slice none 0 0)), mb false])) .ret) .skip)) (.seq (.reg (sq 16 [la 2 4, mv 1, mv 2, mv 3, cf 212 [16, 17, 18, 19], ex 20 0, ex 20 1] ++ sq 8 [mv 21, mv 22])) .ret)))
theorem fn241 : t6 Tryz.prog 241 y5n 23 [.tmp 8, .tmp 9] := mf Tryz.func241 Tryz.ntmps241
def q4n (sys : Ty6) (t : q7) (x7 : Int) (rule : Int) : Option (q7 × Bool) :=
 (q1x sys t x7 rule).bind fun r =>
 if r = true then
  (m6q sys t x7 rule).bind fun r_1 =>
  some r_1
 else
  some ([], false)
instance j9h {sys : Ty6} {t : q7} {x7 : Int} {rule : Int} : y3 (q4n sys t x7 rule) fun rr => r9 Tryz.prog 241 [d5 sys, (z7 1 iD) t, iD x7, iD rule] [(z7 1 iD) rr.1, bD rr.2] := ⟨@fun rr h => by
 delta q4n at h
 refine fn241.pureLN (q6 ?_)
 delta y5n
 refine v5 ?_
 exact aut⟩
def y4p : j5 :=
 (.seq (.reg (sq 2 [bo 2 46 0, bo 3 40 1, mb false])) (.seq (.seq (.reg (sq 10 [fa 0 2, la 1 10, fa 0 3, ld 12, cf 157 [11, 13], nt 14, mv 15] ++ sg 16 false 17 [fa 1 3, ld 17, ln 18, bi .gtr 19 60] ++ sq 21 [po 16 20])) (.cond (t0 21) (.seq (.reg (sq 4 [mb false])) .ret) .skip)) (.seq (.reg (sq 22 [fa 0 3, ld 22] ++ sq 5 [mv 23])) (.seq (.seq (.reg (sq 24 [fa 1 3, ld 24, ln 25, mi 0])) (.block 0 (.loop (.seq (.reg (sq 28 [bn .lss 27 26])) (.seq (.cond (t0 28) .skip (.exit 0)) (.seq (.block 1 (.seq (.reg (sq 29 [ix 3 25 27, la 3 29] ++ sq 7 [.alloc 7 151 [.lit (.int .i64 0), .lit (.int .i64 0), .sl 0 (some true) []]] ++ s0 (sr 3 7 30))) (.seq (.reg (sq 32 [la 2 2, mv 5, fa 0 7, ld 34, fa 1 7, ld 36, cf 241 [32, 33, 35, 37]] ++ sq 31 [mv 38] ++ sq 39 [ex 31 0, ex 31 1] ++ sq 8 [mv 39, mv 40])) (.seq (.seq (.reg (sq 41 [mv 9, nt 41, mv 42] ++ sg 43 false 44 [mv 8, fa 2 7, ld 45, cf 128 [44, 46], nt 47] ++ sq 49 [po 43 48])) (.cond (t0 49) (.seq (.reg (sq 4 [mb false])) .ret) .skip)) (.reg (sq 50 [mv 8] ++ sq 5 [mv 50])))))) (.reg (sq 51 [bi .add 27 1] ++ sq 27 [mv 51])))))))) (.seq (.reg (sq 4 [mb true])) .ret)))))
theorem fn190 : t6 Tryz.prog 190 y4p 52 [.tmp 4] := mf Tryz.func190 Tryz.ntmps190
def q5h (sys : Ty6) (w : Ty7) : (q7 × Int) -> Option ((q7 × Int) ⊕ Bool)
 | (t, v27) =>
  if (decide (v27 < (w.2.length : Int))) = true then
   if 0 <= v27 /\ v27 < (w.2.length : Int) then
    (q4n sys t ((w.2.getD v27.toNat default).1) ((w.2.getD v27.toNat default).2.1)).bind fun r_1 =>
    if r_1.2 = true then
     (f7 r_1.1 ((w.2.getD v27.toNat default).2.2)).bind fun r_2 =>
     if r_2 = true then
      some (.inl (r_1.1, (IntKind.i64.wrap (v27 + 1))))
     else
      Option.map Sum.inr (
       some false)
    else
     Option.map Sum.inr (
      some false)
   else none
  else
   Option.map Sum.inr (
    some true)
def q1d (sys : Ty6) (w : Ty7) : Option Bool :=
 (r6 sys.1 w.1).bind fun r =>
 if r = true then
  if (decide (60 < (w.2.length : Int))) = true then
   some false
  else
   loopC (q5h sys w) (w.1, 0)
 else
  some false
instance j9m {sys : Ty6} {w : Ty7} : y3 (q1d sys w) fun rr => p7 Tryz.prog 190 [d5 sys, u7 w] (bD rr) := ⟨@fun rr h => by
 delta q1d at h
 refine fn190.pureL (q6 ?_)
 delta y4p
 refine v5 ?_
 refine rC h fun r hr h => ?_
 refine iT h fun hc h => ?_
 refine iF h fun hc h => ?_
 refine s9 h [4, 5, 7, 8, 9, 27, 28, 29, 30, 31, 32, 33, 34, 35, 36, 37, 38, 39, 40, 41, 42, 43, 44, 45, 46, 47, 48, 49, 50, 51] (fun pp => [(5, .d (z7 1 iD pp.1)), (27, .d (iD pp.2))]) (fun pp => [(2, .obj 46 [.d (z7 1 iD sys.1), .d (z7 2 v7 sys.2)]), (3, .obj 40 [.d (z7 1 iD w.1), .d (z7 3 z5 w.2)])]) ?_
 rintro ⟨t, v27⟩ t1 h hb1
 unfold q5h at h
 try dsimp only at h
 refine q6 (v5 ?_)
 refine iT h fun hc h => ?_
 refine ndI h fun hp h => ?_
 refine rCN h fun r_1 hr_1 h => ?_
 refine iT h fun hc h => ?_
 refine rC h fun r_2 hr_2 h => ?_
 refine iT h fun hc h => ?_
 cases h
 refine ⟨_, rfl, ?_⟩
 refine (y0.drop 7 (by omega)).trans ?_
 exact wk⟩
def y3h : j5 :=
 (.seq (.reg (sq 2 [bo 2 46 0, bo 3 40 1, mb false])) (.seq (.reg (sq 5 [la 2 2, cf 119 [5], mv 6] ++ sg 7 true 8 [la 2 2, la 2 3, cf 190 [8, 9]] ++ sq 11 [pa 7 10] ++ sq 4 [mv 11])) .ret))
theorem fn123 : t6 Tryz.prog 123 y3h 12 [.tmp 4] := mf Tryz.func123 Tryz.ntmps123
def q4o (sys : Ty6) (w : Ty7) : Option Bool :=
 (x1q sys).bind fun r =>
 if r = true then
  (q1d sys w).bind fun r_1 =>
  some r_1
 else
  some false
instance j9j {sys : Ty6} {w : Ty7} : y3 (q4o sys w) fun rr => p7 Tryz.prog 123 [d5 sys, u7 w] (bD rr) := ⟨@fun rr h => by
 delta q4o at h
 refine fn123.pureL (q6 ?_)
 delta y3h
 refine v5 ?_
 exact aut⟩
def mc86 : j5 :=
 (.seq (.reg (sq 4 [mb false])) (.seq (.reg (sq 5 [mv 1, mv 0, ln 6, bi .sub 7 1, .callf 49 [(t0 5), (i0 0), (t0 8)]] ++ sq 4 [mv 9])) .ret))
theorem fn86 : t6 Tryz.prog 86 mc86 10 [.tmp 4] := mf Tryz.func86 Tryz.ntmps86
def u7q (t : q7) (x7 : Int) : Option Bool :=
 (x9q x7 0 (IntKind.i64.wrap ((t.length : Int) - 1))).bind fun r =>
 some r
instance j7w {t : q7} {x7 : Int} : y3 (u7q t x7) fun rr => p7 Tryz.prog 86 [(z7 1 iD) t, iD x7] (bD rr) := ⟨@fun rr h => by
 delta u7q at h
 refine fn86.pureL (q6 ?_)
 delta mc86
 refine v5 ?_
 exact aut⟩
def y3e : j5 :=
 (.seq (.reg (sq 4 [bo 4 43 0] ++ sq 8 [.mv (.const (.slice none 0 0)), mb false])) (.seq (.reg (sq 11 [mv 1, mv 2, .slc (t0 11) 1 none (some (t0 12)) none, cf 91 [13], mv 3, ap 16 2 1 8 14 15] ++ sq 10 [mv 16])) (.seq (.reg (sq 17 [mv 10, mv 1, la 1 4, mv 1, mv 2, cf 187 [19, 20, 21], .slc (t0 18) 1 (some (t0 22)) none none, ap 24 2 1 8 17 23] ++ sq 10 [mv 24])) (.seq (.seq (.reg (sq 25 [mv 10, ln 25, bi .gtr 26 60])) (.cond (t0 27) (.seq (.reg (sq 28 [.bsl 28 2 1 []] ++ sq 8 [mv 28, mb false])) .ret) .skip)) (.seq (.reg (sq 29 [mv 10] ++ sq 8 [mv 29, mb true])) .ret)))))
theorem fn115 : t6 Tryz.prog 115 y3e 30 [.tmp 8, .tmp 9] := mf Tryz.func115 Tryz.ntmps115
def n4q (sig : q7) (t : q7) (x7 : Int) (u : q7) : Option (q7 × Bool) :=
 if 0 <= x7 /\ x7 <= (t.length : Int) then
  (d6 (t.take x7.toNat)).bind fun r =>
  if (r.length + u.length) * 8 <= 140737488355328 then
   (z6q sig t x7).bind fun r_1 =>
   if 0 <= r_1 /\ r_1 <= (t.length : Int) then
    if ((r ++ u).length + (t.drop r_1.toNat).length) * 8 <= 140737488355328 then
     if (decide (60 < (((r ++ u) ++ (t.drop r_1.toNat)).length : Int))) = true then
      some ([], false)
     else
      some (((r ++ u) ++ (t.drop r_1.toNat)), true)
    else none
   else none
  else none
 else none
instance x4i {sig : q7} {t : q7} {x7 : Int} {u : q7} : y3 (n4q sig t x7 u) fun rr => r9 Tryz.prog 115 [u3 sig, (z7 1 iD) t, iD x7, (z7 1 iD) u] [(z7 1 iD) rr.1, bD rr.2] := ⟨@fun rr h => by
 delta n4q at h
 refine fn115.pureLN (q6 ?_)
 delta y3e
 refine v5 ?_
 refine ndI h fun hp h => ?_
 refine rCo [] [(3, 14)] h fun r hr h => ?_
 exact aut⟩
def y4i : j5 :=
 (.seq (.reg (sq 4 [bo 4 46 0] ++ sq 8 [.mv (.const (.slice none 0 0)), mb false])) (.seq (.reg (sq 15 [fa 1 4, ld 15, mv 3, ix 2 16 17, la 2 18] ++ sq 10 [.alloc 10 147 [.sl 0 (some true) [], .sl 0 (some true) []]] ++ s0 (sr 2 10 19))) (.seq (.draw (sq 21 [fa 0 4, la 1 21, fa 0 10, ld 23, fa 0 4, la 1 25, mv 1, mv 2, cf 163 [26, 27, 28], cf 236 [22, 24, 29]] ++ sq 20 [mv 30] ++ sq 31 [ex 20 0, ex 20 1] ++ sq 11 [.alloc 11 48 [.sl 0 (some true) []]] ++ s0 (sr 1 11 31) ++ sq 12 [mv 32]) [[], [0], [], [2], [], [4], [], [], [5, 6, 7], [1, 3, 8, 8], [9], [10], [10], [], [13, 11, 9, 0, 1, 2, 3, 4, 5, 6, 7, 8, 9, 10, 11, 13], [12, 14, 0, 1, 2, 3, 4, 5, 6, 7, 8, 9, 10, 11, 12, 13, 14]]) (.seq (.seq (.reg (sq 33 [mv 12, nt 33])) (.cond (t0 34) (.seq (.reg (sq 35 [.bsl 35 2 1 []] ++ sq 8 [mv 35, mb false])) .ret) .skip)) (.seq (.reg (sq 37 [la 1 11, fa 1 10, ld 38, cf 113 [37, 39]] ++ sq 36 [mv 40] ++ sq 41 [ex 36 0, ex 36 1] ++ sq 13 [mv 41, mv 42])) (.seq (.seq (.reg (sq 43 [mv 14, nt 43])) (.cond (t0 44) (.seq (.reg (sq 45 [.bsl 45 2 1 []] ++ sq 8 [mv 45, mb false])) .ret) .skip)) (.seq (.reg (sq 46 [fa 0 4, la 1 46, mv 1, mv 2, mv 13, cf 115 [47, 48, 49, 50], ex 51 0, ex 51 1] ++ sq 8 [mv 52, mv 53])) .ret)))))))
theorem fn180 : t6 Tryz.prog 180 y4i 54 [.tmp 8, .tmp 9] := mf Tryz.func180 Tryz.ntmps180
def s5q (sys : Ty6) (t : q7) (x7 : Int) (rule : Int) : Option (q7 × Bool) :=
 if 0 <= rule /\ rule < (sys.2.length : Int) then
  (x2q sys.1 t x7).bind fun r =>
  (o3q sys.1 ((sys.2.getD rule.toNat default).1) r).bind fun r_1 =>
  if r_1.2 = true then
   (e8 r_1.1 ((sys.2.getD rule.toNat default).2)).bind fun r_2 =>
   if r_2.2 = true then
    (n4q sys.1 t x7 r_2.1).bind fun r_3 =>
    some r_3
   else
    some ([], false)
  else
   some ([], false)
 else none
instance j9w {sys : Ty6} {t : q7} {x7 : Int} {rule : Int} : y3 (s5q sys t x7 rule) fun rr => r9 Tryz.prog 180 [d5 sys, (z7 1 iD) t, iD x7, iD rule] [(z7 1 iD) rr.1, bD rr.2] := ⟨@fun rr h => by
 delta s5q at h
 refine fn180.pureLN (q6 ?_)
 delta y4i
 refine v5 ?_
 exact aut⟩
def q4j (x : (Int × Int × Bool × q7)) : D := .agg [iD x.1, iD x.2.1, bD x.2.2.1, (z7 1 iD) x.2.2.2]
def q5u (x : (q7 × (List (Int × Int × Bool × q7)))) : D := .agg [(z7 1 iD) x.1, (z7 4 q4j) x.2]
def q8w (x : (q7 × Ty3 × q7 × q7)) : D := .agg [(z7 1 iD) x.1, (z7 2 v7) x.2.1, (z7 1 iD) x.2.2.1, (z7 1 iD) x.2.2.2]
instance : Cel q4j 4 := ⟨fun _ => rfl⟩
instance : Cel q5u 2 := ⟨fun _ => rfl⟩
instance : Cel q8w 4 := ⟨fun _ => rfl⟩
attribute [go_sem] q4j q5u q8w
def y6b : j5 :=
 (.seq (.reg (sq 4 [mi 0])) (.seq (.seq (.reg (sq 6 [mv 0, ln 6, mi 0])) (.block 0 (.loop (.seq (.reg (sq 9 [bn .lss 8 7])) (.seq (.cond (t0 9) .skip (.exit 0)) (.seq (.block 1 (.seq (.reg (sq 10 [mv 8] ++ sq 5 [mv 10])) (.seq (.reg (sq 11 [mv 1, mv 0, mv 5, ix 1 12 13, ld 14, .callv (t0 11) [(t0 15)]])) (.cond (t0 16) (.seq (.reg (sq 17 [mv 5] ++ sq 4 [mv 17])) .ret) .skip)))) (.reg (sq 18 [bi .add 8 1] ++ sq 8 [mv 18])))))))) (.seq (.reg (sq 4 [mi (-1)])) .ret)))
theorem fn277 : t6 Tryz.prog 277 y6b 19 [.tmp 4] := mf Tryz.func277 Tryz.ntmps277
def y5r : j5 :=
 (.seq (.reg (sq 4 [mb false])) (.seq (.reg (sq 5 [mv 0, mv 1, cf 277 [5, 6], bi .geq 7 0] ++ sq 4 [mv 8])) .ret))
theorem fn251 : t6 Tryz.prog 251 y5r 9 [.tmp 4] := mf Tryz.func251 Tryz.ntmps251
def mc61 : j5 :=
 (.seq (.reg (sq 1 [bo 1 40 0, .mv (.const (.slice none 0 0))])) (.seq (.seq (.reg (sq 4 [fa 1 1, ld 4, ln 5] ++ sq 3 [mv 6])) (.seq (.reg (sq 7 [mv 3, bi .gtr 7 0])) (.cond (t0 8) (.seq (.reg (sq 9 [fa 1 1, ld 9, mv 3, bi .sub 11 1, ix 3 10 12, fa 2 13, ld 14] ++ sq 2 [mv 15])) .ret) .skip))) (.seq (.reg (sq 16 [fa 0 1, ld 16] ++ sq 2 [mv 17])) .ret)))
theorem fn61 : t6 Tryz.prog 61 mc61 18 [.tmp 2] := mf Tryz.func61 Tryz.ntmps61
def b8 (w : Ty7) : Option q7 :=
 if (decide (0 < (w.2.length : Int))) = true then
  if 0 <= (IntKind.i64.wrap ((w.2.length : Int) - 1)) /\ (IntKind.i64.wrap ((w.2.length : Int) - 1)) < (w.2.length : Int) then
   some ((w.2.getD (IntKind.i64.wrap ((w.2.length : Int) - 1)).toNat default).2.2)
  else none
 else
  some w.1
instance j2m {w : Ty7} : y3 (b8 w) fun rr => p7 Tryz.prog 61 [u7 w] ((z7 1 iD) rr) := ⟨@fun rr h => by
 delta b8 at h
 refine fn61.pureL (q6 ?_)
 delta mc61
 refine v5 ?_
 exact aut⟩
def q4k (x : (Int × q7 × Ty1 × q7)) : D := .agg [iD x.1, (z7 1 iD) x.2.1, (z7 1 (z7 1 iD)) x.2.2.1, (z7 1 iD) x.2.2.2]
def k2i (x : (List (Int × q7 × Ty1 × q7))) : D := .agg [(z7 4 q4k) x]
instance : Cel q4k 4 := ⟨fun _ => rfl⟩
instance : Cel k2i 1 := ⟨fun _ => rfl⟩
attribute [go_sem] q4k k2i
def y2x : j5 :=
 (.seq (.reg (sq 1 [bo 1 40 0, .mv (.const (.slice none 0 0))])) (.seq (.seq (.reg (sq 3 [fa 1 1, ld 3, ln 4, bi .eql 5 0])) (.cond (t0 6) (.seq (.reg (sq 7 [fa 0 1, ld 7, cf 91 [8]] ++ sq 2 [mv 9])) .ret) .skip)) (.seq (.reg (sq 10 [fa 1 1, ld 10, fa 1 1, ld 12, ln 13, bi .sub 14 1, ix 3 11 15, fa 2 16, ld 17, cf 91 [18]] ++ sq 2 [mv 19])) .ret)))
theorem fn100 : t6 Tryz.prog 100 y2x 20 [.tmp 2] := mf Tryz.func100 Tryz.ntmps100
def r4q (w : Ty7) : Option q7 :=
 if ((w.2.length : Int) == 0) = true then
  (d6 w.1).bind fun r =>
  some r
 else
  if 0 <= (IntKind.i64.wrap ((w.2.length : Int) - 1)) /\ (IntKind.i64.wrap ((w.2.length : Int) - 1)) < (w.2.length : Int) then
   (d6 ((w.2.getD (IntKind.i64.wrap ((w.2.length : Int) - 1)).toNat default).2.2)).bind fun r_1 =>
   some r_1
  else none
instance x4j {w : Ty7} : y3 (r4q w) fun rr => p7 Tryz.prog 100 [u7 w] ((z7 1 iD) rr) := ⟨@fun rr h => by
 delta r4q at h
 refine fn100.pureL (q6 ?_)
 delta y2x
 refine v5 ?_
 refine it h (fun hc h => ?_) fun hc h => ?_
 ·refine rCo [] [(3, 9)] h fun r hr h => ?_
  exact aut
 refine ndI h fun hp h => ?_
 refine rCo [] [(3, 19)] h fun r_1 hr_1 h => ?_
 exact aut⟩
end Go.Proofs.YtklfjpilhbkekaaGreat
