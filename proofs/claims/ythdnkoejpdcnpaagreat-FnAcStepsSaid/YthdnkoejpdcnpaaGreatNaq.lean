/- A part of the proof about FnAcNormal and about FnAcSteps (R6). -/
import Derived.Test.YthdnkoejpdcnpaaGreatNan
import Derived.Test.YthdnkoejpdcnpaaGreatNap
set_option linter.all false
noncomputable section
namespace Go.Proofs.YthdnkoejpdcnpaaGreat
open Go kI
attribute [local irreducible] sO uf uc lu kf pG iV xm xQ wz xP wu pY kr lq xO ia jN
set_option maxHeartbeats 4000000
set_option maxRecDepth 4000
def XC:gH:=
 (.seq (.gD (sq 4 [mb false])) (.seq (.seq (.gD (sq 6 [mv 0,ln 6,mv 1,ln 8,bn .neq 7 9])) (.cond (t0 10) (.seq (.gD (sq 4 [mb false])) .ret) .skip)) (.seq (.seq (.gD (sq 5 [mi 0])) (.block 0 (.loop (.seq (.seq (.gD (sq 11 [mv 5,mv 0,ln 12,bn .lss 11 13])) (.cond (t0 14) .skip (.exit 0))) (.seq (.block 1 (.seq (.draw (sq 17 [mv 0,mv 5,ix 1 17 18,ld 19,mv 1,mv 5,ix 1 21 22,ld 23,bn .neq 20 24]) [[],[],[0,1],[2],[],[],[4,5],[6],[3,7]]) (.cond (t0 25) (.seq (.gD (sq 4 [mb false])) .ret) .skip))) (.gD (sq 15 [mv 5,bi .add 15 1]++sq 5 [mv 16]))))))) (.seq (.gD (sq 4 [mb true])) .ret))))
theorem Y7:jT Tryz.prog 43 XC 26 [.tmp 4]:=mf Tryz.func43 Tryz.ntmps43
def nS(a:fP)(b:fP):Int->Option fT
 |i=>
  if(decide (i<(a.length:Int)))=true then
   if 0<=i/\i<(a.length:Int)then
    if 0<=i/\i<(b.length:Int)then
     if((a.getD i.toNat default) != (b.getD i.toNat default))=true then
      Option.map Sum.inr (
       some false)
     else
      some (.inl (IntKind.i64.wrap (i+1)))
    else none
   else none
  else
   Option.map Sum.inr (
    some true)
def lB(a:fP)(b:fP):Option Bool:=
 if((a.length:Int) != (b.length:Int))=true then
  some false
 else
  gK (nS a b) 0
instance Mi{a:fP}{b:fP}:gW (lB a b) fun rr=>iC Tryz.prog 43 [(gE 1 iD) a,(gE 1 iD) b] (bD rr):=⟨@fun rr h=>by
 delta lB at h;refine Y7.iA (gC ?_);delta XC;refine g_ ?_;refine iF h fun hc h=>?_
 refine jk h [4,5,11,12,13,14,15,16,17,18,19,20,21,22,23,24,25] (fun pp=>[(5,.d (iD pp))]) (fun pp=>[]) ?_;rintro i t1 h hb1;unfold nS at h;try dsimp only at h
 refine gC (g_ ?_);exact mm⟩
def mc8:gH:=
 (.seq (.gD (sq 2 [mb false])) (.seq (.seq (.gD (sq 15 [mv 0,cf 24 [15]])) (.cond (t0 16) (.seq (.gD (sq 2 [mb true])) .ret) .skip)) (.seq (.gD (sq 18 [mv 0,cf 42 [18]]++sq 17 [mv 19]++sq 20 [ex 17 0,ex 17 1,ex 17 2,ex 17 3]++sq 3 [.alloc 3 58 [.sl 0 (some true) [],.sl 0 (some true) []]]++s0 (sr 2 3 20)++sq 4 [mv 21,mv 22,mv 23])) (.seq (.gD (sq 25 [la 2 3,mv 4,mv 5,mv 6,cf 33 [25,26,27,28]]++sq 24 [mv 29]++sq 30 [ex 24 0,ex 24 1]++sq 7 [mv 30,mv 31])) (.seq (.gD (sq 33 [la 2 3,mv 4,mv 5,mv 6,cf 31 [33,34,35,36]]++sq 32 [mv 37]++sq 38 [ex 32 0,ex 32 1]++sq 9 [mv 38,mv 39])) (.seq (.seq (.gD (sq 40 [mv 8,mv 10,.C7 true (t0 40) (t0 41),mv 42]++sg 43 false 44 [mv 7,mv 9,cf 43 [44,45],nt 46]++sq 48 [po 43 47])) (.cond (t0 48) (.seq (.gD (sq 2 [mb false])) .ret) .skip)) (.seq (.seq (.gD (sq 49 [mv 10,nt 49])) (.cond (t0 50) (.seq (.gD (sq 51 [mv 7,ln 51,bi .eql 52 0]++sq 2 [mv 53])) .ret) .skip)) (.seq (.gD (sq 55 [la 2 3,mv 4,mv 7,cf 38 [55,56,57]]++sq 54 [mv 58]++sq 59 [ex 54 0,ex 54 1]++sq 11 [mv 59,mv 60])) (.seq (.draw (sq 62 [la 2 3,mv 4,fa 0 3,la 1 64,mv 4,mv 5,cf 44 [65,66,67],mv 6,cf 33 [62,63,68,69]]++sq 61 [mv 70]++sq 71 [ex 61 0,ex 61 1]++sq 13 [mv 71,mv 72]) [[],[],[],[2],[],[],[3,4,5],[],[0,1,6,7,6],[8],[9],[9],[10,8,0,1,2,3,4,5,6,7,8,9,10],[11,12,0,1,2,3,4,5,6,7,8,9,10,11,12]]) (.seq (.gD (sq 73 [mv 12,mv 73]++sg 74 true 75 [mv 11,ln 75,bi .eql 76 0]++sq 78 [pa 74 77,mv 78]++sg 79 true 80 [mv 14]++sq 81 [pa 79 80,mv 81]++sg 82 true 83 [mv 13,mv 7,cf 43 [83,84]]++sq 86 [pa 82 85]++sq 2 [mv 86])) .ret))))))))))
theorem fn8:jT Tryz.prog 8 mc8 87 [.tmp 2]:=mf Tryz.func8 Tryz.ntmps8
def qp(code:fP):Option Bool:=
 (uq code).bind fun r=>
 if r=true then
  some true
 else
  (oc code).bind fun r_1=>
  (ji r_1.1 r_1.2.1 r_1.2.2.1 r_1.2.2.2).bind fun r_2=>
  (kT r_1.1 r_1.2.1 r_1.2.2.1 r_1.2.2.2).bind fun r_3=>
  if(r_2.2 != r_3.2)=true then
   some false
  else
   (lB r_2.1 r_3.1).bind fun r_4=>
   if r_4=true then
    if r_3.2=true then
     (jL r_1.1 r_1.2.1 r_2.1).bind fun r_5=>
     (kU r_1.1.1 r_1.2.1 r_1.2.2.1).bind fun r_6=>
     (ji r_1.1 r_1.2.1 r_6 r_1.2.2.2).bind fun r_7=>
     if r_5.2=true then
      if((r_5.1.length:Int)==0)=true then
       if r_7.2=true then
        (lB r_7.1 r_2.1).bind fun r_8=>
        some r_8
       else
        some false
      else
       some false
     else
      some false
    else
     some ((r_2.1.length:Int)==0)
   else
    some false
instance AP{code:fP}:gW (qp code) fun rr=>iC Tryz.prog 8 [(gE 1 (kD .u8)) code] (bD rr):=⟨@fun rr h=>by
 delta qp at h;refine fn8.iA (gC ?_);delta mc8;refine g_ ?_;exact mm⟩
def mc9:gH:=
 (.seq (.gD (sq 2 [mb false])) (.seq (.seq (.gD (sq 17 [mv 0,cf 24 [17]])) (.cond (t0 18) (.seq (.gD (sq 2 [mb true])) .ret) .skip)) (.seq (.gD (sq 20 [mv 0,cf 45 [20]]++sq 19 [mv 21]++sq 22 [ex 19 0,ex 19 1,ex 19 2]++sq 3 [.alloc 3 58 [.sl 0 (some true) [],.sl 0 (some true) []]]++s0 (sr 2 3 22)++sq 4 [mv 23,mv 24])) (.seq (.gD (sq 26 [la 2 3,mv 4,mv 5,cf 38 [26,27,28]]++sq 25 [mv 29]++sq 30 [ex 25 0,ex 25 1]++sq 6 [mv 30,mv 31])) (.seq (.gD (sq 33 [la 2 3,mv 4,mv 5,cf 37 [33,34,35]]++sq 32 [mv 36]++sq 37 [ex 32 0,ex 32 1]++sq 8 [mv 37,mv 38])) (.seq (.seq (.gD (sq 39 [mv 7,mv 9,.C7 true (t0 39) (t0 40),mv 41]++sg 42 false 43 [mv 6,ln 43,mv 8,ln 45,bn .neq 44 46]++sq 48 [po 42 47])) (.cond (t0 48) (.seq (.gD (sq 2 [mb false])) .ret) .skip)) (.seq (.seq (.gD (sq 10 [mi 0])) (.block 0 (.loop (.seq (.seq (.gD (sq 49 [mv 10,mv 6,ln 50,bn .lss 49 51])) (.cond (t0 52) .skip (.exit 0))) (.seq (.block 1 (.seq (.draw (sq 55 [mv 6,mv 10,ix 1 55 56,ld 57,mv 8,mv 10,ix 1 59 60,ld 61,cf 43 [58,62],nt 63,mv 64]++sg 65 false 66 [mv 10,bi .gtr 66 0,mv 67]++sg 68 true 69 [mv 8,mv 10,bi .sub 70 1,ix 1 69 71,ld 72,mv 8,mv 10,ix 1 74 75,ld 76,cf 46 [73,77],nt 78]++sg 65 false 80 [pa 68 79]++sq 81 [po 65 80]) [[],[],[0,1],[2],[],[],[4,5],[6],[3,7],[8],[9,8],[10],[11,10],[12,10,10],[13],[13],[15,13],[14,16,13],[17,13],[13],[13],[19,20,13],[21,13],[18,22,13,13],[23,13],[13,24,10],[10,25]]) (.cond (t0 81) (.seq (.gD (sq 2 [mb false])) .ret) .skip))) (.gD (sq 53 [mv 10,bi .add 53 1]++sq 10 [mv 54]))))))) (.seq (.seq (.gD (sq 82 [mv 9,nt 82])) (.cond (t0 83) (.seq (.gD (sq 2 [mb true])) .ret) .skip)) (.seq (.gD (sq 84 [fa 0 3,la 1 84,mv 4,mv 5,cf 44 [85,86,87]]++sq 11 [mv 88])) (.seq (.gD (sq 89 [la 2 3,mv 11,cf 47 [89,90]]++sq 12 [mv 91])) (.seq (.seq (.gD (sq 13 [mi 0])) (.block 2 (.loop (.seq (.seq (.gD (sq 92 [mv 13,mv 12,ln 93,bn .lss 92 94])) (.cond (t0 95) .skip (.exit 2))) (.seq (.block 3 (.seq (.draw (sq 98 [fa 0 3,la 1 98,mv 4,mv 12,mv 13,ix 3 101 102,fa 2 103,ld 104,cf 44 [99,100,105]]++sq 14 [mv 106]) [[],[0],[],[],[],[3,4],[5],[6],[1,2,7],[8,8,0,1,2,3,4,5,6,7,8]]) (.seq (.gD (sq 15 [mb false])) (.seq (.seq (.gD (sq 16 [mi 0])) (.block 4 (.loop (.seq (.seq (.gD (sq 107 [mv 16,mv 8,ln 108,bn .lss 107 109])) (.cond (t0 110) .skip (.exit 4))) (.seq (.block 5 (.gD (sq 113 [mv 15,mv 113]++sg 114 false 115 [mv 8,mv 16,ix 1 115 116,ld 117,mv 14,cf 48 [118,119]]++sq 121 [po 114 120]++sq 15 [mv 121]))) (.gD (sq 111 [mv 16,bi .add 111 1]++sq 16 [mv 112]))))))) (.seq (.gD (sq 122 [mv 15,nt 122])) (.cond (t0 123) (.seq (.gD (sq 2 [mb false])) .ret) .skip)))))) (.gD (sq 96 [mv 13,bi .add 96 1]++sq 13 [mv 97]))))))) (.seq (.gD (sq 2 [mb true])) .ret))))))))))))
theorem fn9:jT Tryz.prog 9 mc9 124 [.tmp 2]:=mf Tryz.func9 Tryz.ntmps9
def oM(r_3:gh)(i_1:Int)(r_8:fP):(Bool×Int)->Option ((Bool×Int)⊕fT)
 |(in',k)=>
  if(decide (k<(r_3.1.length:Int)))=true then
   if in'=true then
    some (.inl (true,(IntKind.i64.wrap (k+1))))
   else
    if 0<=k/\k<(r_3.1.length:Int)then
     (jM (r_3.1.getD k.toNat default) r_8).bind fun r_9=>
     some (.inl (r_9,(IntKind.i64.wrap (k+1))))
    else none
  else
   Option.map Sum.inr (
    if in'=true then
     some (.inl (IntKind.i64.wrap (i_1+1)))
    else
     Option.map Sum.inr (
      some false))
def rA(r_1:(gj×fP×fP))(r_3:gh)(r_7:(List fV)):Int->Option fT
 |i_1=>
  if(decide (i_1<(r_7.length:Int)))=true then
   if 0<=i_1/\i_1<(r_7.length:Int)then
    (kU r_1.1.1 r_1.2.1 ((r_7.getD i_1.toNat default).2.2)).bind fun r_8=>
    gK (oM r_3 i_1 r_8) (false,0)
   else none
  else
   Option.map Sum.inr (
    some true)
def nc(r_1:(gj×fP×fP))(r_2:gh)(r_3:gh):Int->Option fT
 |i=>
  if(decide (i<(r_2.1.length:Int)))=true then
   if 0<=i/\i<(r_2.1.length:Int)then
    if 0<=i/\i<(r_3.1.length:Int)then
     (lB (r_2.1.getD i.toNat default) (r_3.1.getD i.toNat default)).bind fun r_4=>
     if r_4=true then
      if(decide (0<i))=true then
       if 0<=(IntKind.i64.wrap (i-1))/\(IntKind.i64.wrap (i-1))<(r_3.1.length:Int)then
        if 0<=i/\i<(r_3.1.length:Int)then
         (mW (r_3.1.getD (IntKind.i64.wrap (i-1)).toNat default) (r_3.1.getD i.toNat default)).bind fun r_5=>
         if r_5=true then
          some (.inl (IntKind.i64.wrap (i+1)))
         else
          Option.map Sum.inr (
           some false)
        else none
       else none
      else
       some (.inl (IntKind.i64.wrap (i+1)))
     else
      Option.map Sum.inr (
       some false)
    else none
   else none
  else
   Option.map Sum.inr (
    if r_3.2=true then
     (kU r_1.1.1 r_1.2.1 r_1.2.2).bind fun r_6=>
     (qS r_1.1 r_6).bind fun r_7=>
     gK (rA r_1 r_3 r_7) 0
    else
     some true)
def qQ(code:fP):Option Bool:=
 (uq code).bind fun r=>
 if r=true then
  some true
 else
  (pM code).bind fun r_1=>
  (jL r_1.1 r_1.2.1 r_1.2.2).bind fun r_2=>
  (mQ r_1.1 r_1.2.1 r_1.2.2).bind fun r_3=>
  if(r_2.2 != r_3.2)=true then
   some false
  else
   if((r_2.1.length:Int) != (r_3.1.length:Int))=true then
    some false
   else
    gK (nc r_1 r_2 r_3) 0
instance BF{code:fP}:gW (qQ code) fun rr=>iC Tryz.prog 9 [(gE 1 (kD .u8)) code] (bD rr):=⟨@fun rr h=>by
 delta qQ at h;refine fn9.iA (gC ?_);delta mc9;refine g_ ?_;refine rC h fun r hr h=>?_
 refine iF h fun hc h=>?_
 refine TI h fun r_1 hr_1 h=>?_
 refine TI h fun r_2 hr_2 h=>?_
 refine TI h fun r_3 hr_3 h=>?_
 refine iF h fun hc h=>?_
 refine iF h fun hc h=>?_
 refine jk h [2,10,49,50,51,52,53,54,55,56,57,58,59,60,61,62,63,64,65,66,67,68,69,70,71,72,73,74,75,76,77,78,79,80,81] (fun pp=>[(10,.d (iD pp))]) (fun pp=>[(3,.obj 58 [.d (gE 1 iD r_1.1.1),.d (gE 2 ir r_1.1.2)])]) ?_;rintro i t1 h hb1;unfold nc at h;try dsimp only at h
 refine gC (g_ ?_);refine iF h fun hc h=>?_
 replace h:=gY h hb1;refine iT h fun hc h=>?_
 refine rC h fun r_6 hr_6 h=>?_
 refine rC h fun r_7 hr_7 h=>?_
 refine jk h [2,13,14,15,16,92,93,94,95,96,97,98,99,100,101,102,103,104,105,106,107,108,109,110,111,112,113,114,115,116,117,118,119,120,121,122,123] (fun pp=>[(13,.d (iD pp))]) (fun pp=>[(3,.obj 58 [.d (gE 1 iD r_1.1.1),.d (gE 2 ir r_1.1.2)])]) ?_;rintro i_1 t1 h hb1;unfold rA at h;try dsimp only at h
 refine gC (g_ ?_);refine iT h fun hc h=>?_
 refine iU h fun hp h=>?_
 refine dC h fun r_8 hr_8 h=>?_
 refine i_ (by kernel_rfl) (g_ ?_);refine jk h [15,16,107,108,109,110,111,112,113,114,115,116,117,118,119,120,121] (fun pp=>[(15,.d (bD pp.1)),(16,.d (iD pp.2))]) (fun pp=>[(3,.obj 58 [.d (gE 1 iD r_1.1.1),.d (gE 2 ir r_1.1.2)])]) ?_;rintro⟨in',k⟩ t2 h hb2;unfold oM at h;try dsimp only at h
 refine gC (g_ ?_);exact mm⟩
end Go.Proofs.YthdnkoejpdcnpaaGreat
