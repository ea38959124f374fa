/- A part of the proof about FnAcMatches (D7_8, D7, D2). -/
import Derived.Test.YthdnkoejpdcnpaaGreatMam
set_option linter.all false
noncomputable section
namespace Go.Proofs.YthdnkoejpdcnpaaGreat
open Go kJ
attribute [local irreducible] sG ud tP lp kI oZ jk ya yG wF yF wv rj kR lN ym gV ki
set_option maxHeartbeats 4000000
def Uz:gB:=
 (.seq (.gv (sq 2 [.alloc 2 27 [.sl 0 (some true) []],.mv (.const (.slice none 0 0)),.mv (.const (.slice none 0 0)),.mv (.const (.slice none 0 0))])) (.seq (.gv (sq 14 [mv 0,cf 100 [14]]++sq 13 [mv 15]++sq 16 [ex 13 0,ex 13 1]++sq 6 [.alloc 6 27 [.sl 0 (some true) []]]++s0 (sr 1 6 16)++sq 7 [mv 17])) (.seq (.gv (sq 18 [mv 0,la 1 6,cf 101 [18,19]]++sq 8 [mv 20])) (.seq (.gv (sq 21 [mv 0,la 1 6,cf 101 [21,22]]++sq 9 [mv 23])) (.seq (.seq (.gv (sq 24 [la 1 6,mv 7,mv 8,cf 50 [24,25,26],mv 27]++sg 28 true 29 [mv 0,.iy 75 [(t0 29),(i0 3)],nt 30]++sq 32 [pa 28 31])) (.cond (t0 32) (.seq (.draw (sq 33 [mv 0,la 1 6,.iy 102 [(t0 33),(t0 34),(i0 2),(i0 1)],mv 0,la 1 6,.iy 102 [(t0 36),(t0 37),(i0 1),(i0 1)],.mW 39 22 1 [(t0 35),(t0 38)],.build [.sl 0 (some true) []] [(0,1,(t0 39))]]++sq 10 [.alloc 10 47 [.sl 0 (some true) []]]++s0 (sr 1 10 40)) [[],[],[0,1],[],[],[3,4,2],[2,5],[6],[],[8,7,5,0,1,2,3,4,5,6,7,8]]) (.seq (.gv (sq 42 [la 1 10,mv 8,cf 61 [42,43]]++sq 41 [mv 44]++sq 45 [ex 41 0,ex 41 1]++sq 11 [mv 45,mv 46])) (.seq (.gv (sq 47 [mv 12])) (.cond (t0 47) (.gv (sq 48 [mv 0,la 1 6,mv 7,mv 11,cf 103 [48,49,50,51]]++sq 9 [mv 52])) .skip)))) .skip)) (.seq (.gv (sq 53 [la 1 6,mv 7,mv 8,mv 9]++s0 (sr 1 2 53)++sq 3 [mv 54,mv 55,mv 56])) .ret))))))
theorem VU:kG Tryz.prog 57 Uz 57 [.cell 2 1 true,.tmp 3,.tmp 4,.tmp 5]:=mf Tryz.func57 Tryz.ntmps57
def lV(c0:fN)(c1:Int)(c2:Int):Option (fN×fN×fN×fN×Int×Int):=
 (nA c0 c1 c2).bind fun r=>
 (lq r.1 c0 r.2.2.1 r.2.2.2).bind fun r_1=>
 (lq r.1 c0 r_1.2.1 r_1.2.2).bind fun r_2=>
 (kf r.1 r.2.1 r_1.1).bind fun r_3=>
 if r_3=true then
  (gR 3 c0 r_2.2.1 r_2.2.2).bind fun r_4=>
  if r_4.1=true then
   some (r.1,r.2.1,r_1.1,r_2.1,r_4.2.1,r_4.2.2)
  else
   (jj r.1 2 1 c0 r_4.2.1 r_4.2.2).bind fun r_5=>
   (jj r.1 1 1 c0 r_5.2.1 r_5.2.2).bind fun r_6=>
   (lQ [r_5.1,r_6.1] r_1.1).bind fun r_7=>
   if r_7.2=true then
    (nH r.1 r.2.1 r_7.1 c0 r_6.2.1 r_6.2.2).bind fun r_8=>
    some (r.1,r.2.1,r_1.1,r_8.1,r_8.2.1,r_8.2.2)
   else
    some (r.1,r.2.1,r_1.1,r_2.1,r_6.2.1,r_6.2.2)
 else
  some (r.1,r.2.1,r_1.1,r_2.1,r_2.2.1,r_2.2.2)
instance FQ{c0:fN}{c1:Int}{c2:Int}:gP (lV c0 c1 c2) fun rr=>gG Tryz.prog 57 [.ptr 0 0] [(0,.obj 119 [.d (gu 1 (kD .u8) c0),.d (iD c1),.d (iD c2)])] 1 fun xx ss=>xx=.l_ [.d (.agg [gu 1 iD rr.1]),.d (gu 1 iD rr.2.1),.d (gu 1 iD rr.2.2.1),.d (gu 1 iD rr.2.2.2.1)]/\ss=[(0,.obj 119 [.d (gu 1 (kD .u8) c0),.d (iD rr.2.2.2.2.1),.d (iD rr.2.2.2.2.2)])]:=⟨@fun rr h=>by
 delta lV at h;refine VU.kS (gr ?_);delta Uz;refine gW ?_;refine oB [(0,0)] [] h fun r hr h=>?_
 refine oB [(0,0)] [] h fun r_1 hr_1 h=>?_
 refine oB [(0,0)] [] h fun r_2 hr_2 h=>?_
 refine rC h fun r_3 hr_3 h=>?_
 refine it h (fun hc h=>?_) fun hc h=>?_
 ·refine oB [(0,0)] [] h fun r_4 hr_4 h=>?_
  refine it h (fun hc h=>?_) fun hc h=>?_
  ·cases h;exact⟨[2,6],by simp,lH,lH⟩
  refine Cx [(0,0)] [] h fun r_5 hr_5 h=>?_
  refine Cx [(0,0)] [] h fun r_6 hr_6 h=>?_
  refine iY (by kernel_rfl) (gW ?_);refine SP h fun r_7 hr_7 h=>?_
  refine it h (fun hc h=>?_) fun hc h=>?_
  ·refine oB [(0,0)] [] h fun r_8 hr_8 h=>?_
   cases h;exact⟨[2,6,10,39],by simp,lH,lH⟩
  cases h;exact⟨[2,6,10,39],by simp,lH,lH⟩
 cases h;exact⟨[2,6],by simp,lH,lH⟩⟩
def Uo:gB:=
 (.seq (.gv (sq 2 [.alloc 2 27 [.sl 0 (some true) []],.mv (.const (.slice none 0 0)),.mv (.const (.slice none 0 0)),.mv (.const (.slice none 0 0))])) (.seq (.gv (sq 7 [mv 0,cf 56 [7]]++sq 6 [mv 8])) (.seq (.gv (sq 9 [mv 6,cf 57 [9],ex 10 0,ex 10 1,ex 10 2,ex 10 3]++s0 (sr 1 2 11)++sq 3 [mv 12,mv 13,mv 14])) .ret)))
theorem VJ:kG Tryz.prog 25 Uo 15 [.cell 2 1 true,.tmp 3,.tmp 4,.tmp 5]:=mf Tryz.func25 Tryz.ntmps25
def nk(code:fN):Option (fN×fN×fN×fN):=
 (rB code).bind fun r=>
 (lV r.1 r.2.1 r.2.2).bind fun r_1=>
 some (r_1.1,r_1.2.1,r_1.2.2.1,r_1.2.2.2.1)
instance EA{code:fN}:gP (nk code) fun rr=>rW Tryz.prog 25 [(gu 1 (kD .u8)) code] [gE rr.1,(gu 1 iD) rr.2.1,(gu 1 iD) rr.2.2.1,(gu 1 iD) rr.2.2.2]:=⟨@fun rr h=>by
 delta nk at h;refine VJ.uA (gr ?_);delta Uo;refine gW ?_;refine oB [] [(27,8)] h fun r hr h=>?_
 refine oB [(0,8)] [] h fun r_1 hr_1 h=>?_
 exact mj⟩
end Go.Proofs.YthdnkoejpdcnpaaGreat
namespace Go.Proofs.YthdnkoejpdcnpaaGreat
open Go kJ
attribute [local irreducible] sG ud tP lp kI oZ jk ya yG wF yF wv rj kR lN ym gV ki
set_option maxHeartbeats 4000000
set_option maxRecDepth 4000
def Un:gB:=
 (.seq (.gv (sq 2 [mb false])) (.seq (.gv (sq 3 [mv 0,ln 3,bi .gtr 4 4096]++sq 2 [mv 5])) .ret))
theorem VI:kG Tryz.prog 24 Un 6 [.tmp 2]:=mf Tryz.func24 Tryz.ntmps24
def vF(code:fN):Option Bool:=
 some (decide (4096<(code.length:Int)))
instance Ri{code:fN}:gP (vF code) fun rr=>iw Tryz.prog 24 [(gu 1 (kD .u8)) code] (bD rr):=⟨@fun rr h=>by
 delta vF at h;refine VI.iu (gr ?_);delta Un;refine gW ?_;exact mj⟩
def W4:gB:=
 (.seq (.gv (sq 2 [mb false])) (.seq (.seq (.gv (sq 14 [mv 0,cf 24 [14]])) (.cond (t0 15) (.seq (.gv (sq 2 [mb true])) .ret) .skip)) (.seq (.gv (sq 17 [mv 0,cf 25 [17]]++sq 16 [mv 18]++sq 19 [ex 16 0,ex 16 1,ex 16 2,ex 16 3]++sq 3 [.alloc 3 27 [.sl 0 (some true) []]]++s0 (sr 1 3 19)++sq 4 [mv 20,mv 21,mv 22])) (.seq (.gv (sq 24 [la 1 3,mv 4,mv 5,mv 6,cf 18 [24,25,26,27]]++sq 23 [mv 28]++sq 29 [ex 23 0,ex 23 1]++sq 7 [mv 29,mv 30])) (.seq (.gv (sq 32 [la 1 3,mv 4,mv 5,mv 6,cf 17 [32,33,34,35]]++sq 31 [mv 36]++sq 37 [ex 31 0,ex 31 1]++sq 9 [mv 37,mv 38])) (.seq (.seq (.gv (sq 39 [mv 8,mv 10,.Bh true (t0 39) (t0 40),mv 41]++sg 42 false 43 [mv 7,ln 43,mv 9,ln 45,bn .neq 44 46]++sq 48 [po 42 47,mv 48]++sg 49 false 50 [la 1 3,mv 4,mv 5,mv 6,cf 14 [50,51,52,53],mv 9,ln 55,bi .gtr 56 0,.Bh true (t0 54) (t0 57)]++sq 59 [po 49 58])) (.cond (t0 59) (.seq (.gv (sq 2 [mb false])) .ret) .skip)) (.seq (.seq (.gv (sq 11 [mi 0])) (.block 0 (.loop (.seq (.seq (.gv (sq 60 [mv 11,mv 7,ln 61,bn .lss 60 62])) (.cond (t0 63) .skip (.exit 0))) (.seq (.block 1 (.seq (.seq (.draw (sq 66 [la 1 3,mv 7,mv 11,ix 1 67 68,la 1 69,mv 9,mv 11,ix 1 71 72,la 1 73,cf 26 [66,70,74],nt 75]) [[],[],[],[1,2],[3],[],[],[5,6],[7],[0,4,8],[9]]) (.cond (t0 76) (.seq (.gv (sq 2 [mb false])) .ret) .skip)) (.seq (.draw (sq 78 [la 1 3,mv 7,mv 11,ix 1 79 80,la 1 81,mv 5,cf 27 [78,82,83]]++sq 77 [mv 84]++sq 85 [ex 77 0,ex 77 1]++sq 12 [mv 85,mv 86]) [[],[],[],[1,2],[3],[],[0,4,5],[6],[7],[7],[8,6,0,1,2,3,4,5,6,7,8],[9,10,0,1,2,3,4,5,6,7,8,9,10]]) (.seq (.gv (sq 87 [mv 13,mv 87]++sg 88 true 89 [la 1 3,mv 4,mv 12,mv 6,cf 28 [89,90,91,92],nt 93]++sq 95 [pa 88 94])) (.cond (t0 95) (.seq (.gv (sq 2 [mb false])) .ret) .skip))))) (.gv (sq 64 [mv 11,bi .add 64 1]++sq 11 [mv 65]))))))) (.seq (.gv (sq 96 [mv 10,nt 96,mv 97]++sg 98 false 99 [la 1 3,mv 5,mv 6,cf 29 [99,100,101],nt 102]++sq 104 [po 98 103,mv 104]++sg 105 false 106 [mv 9,ln 106,bi .gtr 107 0]++sq 109 [po 105 108]++sq 2 [mv 109])) .ret))))))))
theorem W8:kG Tryz.prog 5 W4 110 [.tmp 2]:=mf Tryz.func5 Tryz.ntmps5
def iA(r_1:(fN×fN×fN×fN))(r_2:gn)(r_3:gn):Int->Option fS
 |i=>
  if(decide (i<(r_2.1.length:Int)))=true then
   if 0<=i/\i<(r_2.1.length:Int)then
    if 0<=i/\i<(r_3.1.length:Int)then
     (nP r_1.1 (r_2.1.getD i.toNat default) (r_3.1.getD i.toNat default)).bind fun r_5=>
     if r_5=true then
      if 0<=i/\i<(r_2.1.length:Int)then
       (qg r_1.1 (r_2.1.getD i.toNat default) r_1.2.2.1).bind fun r_6=>
       if r_6.2=true then
        (qf r_1.1 r_1.2.1 r_6.1 r_1.2.2.2).bind fun r_7=>
        if r_7=true then
         some (.inl (IntKind.i64.wrap (i+1)))
        else
         Option.map Sum.inr (
          some false)
       else
        some (.inl (IntKind.i64.wrap (i+1)))
      else none
     else
      Option.map Sum.inr (
       some false)
    else none
   else none
  else
   Option.map Sum.inr (
    if r_3.2=true then
     (nq r_1.1 r_1.2.2.1 r_1.2.2.2).bind fun r_8=>
     if r_8=true then
      some (decide (0<(r_3.1.length:Int)))
     else
      some true
    else
     some true)
def oq(code:fN):Option Bool:=
 (vF code).bind fun r=>
 if r=true then
  some true
 else
  (nk code).bind fun r_1=>
  (iU r_1.1 r_1.2.1 r_1.2.2.1 r_1.2.2.2).bind fun r_2=>
  (jf r_1.1 r_1.2.1 r_1.2.2.1 r_1.2.2.2).bind fun r_3=>
  if(r_2.2 != r_3.2)=true then
   some false
  else
   if((r_2.1.length:Int) != (r_3.1.length:Int))=true then
    some false
   else
    (kK r_1.1 r_1.2.1 r_1.2.2.1 r_1.2.2.2).bind fun r_4=>
    if(r_4 != (decide (0<(r_3.1.length:Int))))=true then
     some false
    else
     gF (iA r_1 r_2 r_3) 0
instance yj{code:fN}:gP (oq code) fun rr=>iw Tryz.prog 5 [(gu 1 (kD .u8)) code] (bD rr):=⟨@fun rr h=>by
 delta oq at h;refine W8.iu (gr ?_);delta W4;refine gW ?_;refine rC h fun r hr h=>?_
 refine iF h fun hc h=>?_
 refine SP h fun r_1 hr_1 h=>?_
 refine SP h fun r_2 hr_2 h=>?_
 refine SP h fun r_3 hr_3 h=>?_
 refine iF h fun hc h=>?_
 refine iF h fun hc h=>?_
 refine rC h fun r_4 hr_4 h=>?_
 refine iF h fun hc h=>?_
 refine jC h [2,11,12,13,60,61,62,63,64,65,66,67,68,69,70,71,72,73,74,75,76,77,78,79,80,81,82,83,84,85,86,87,88,89,90,91,92,93,94,95] (fun pp=>[(11,.d (iD pp))]) (fun pp=>[(3,.obj 27 [.d (gu 1 iD r_1.1)])]) ?_;rintro i t1 h hb1;unfold iA at h;try dsimp only at h
 refine gr (gW ?_);exact mj⟩
end Go.Proofs.YthdnkoejpdcnpaaGreat
