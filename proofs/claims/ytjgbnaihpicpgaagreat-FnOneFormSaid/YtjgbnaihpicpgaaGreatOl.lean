/- A part of the proof about FnOneForm (O1, O2, O3). -/
import Derived.Test.YtjgbnaihpicpgaaGreatOg
import Derived.Test.YtjgbnaihpicpgaaGreatOh
import Derived.Test.YtjgbnaihpicpgaaGreatOk
set_option linter.all false
noncomputable section
namespace Go.Proofs.YtjgbnaihpicpgaaGreat
open Go ng
attribute [local irreducible] uh wo vz mL mC ot kQ Be Cb zM Ca zD uj mu og BY iY lg
set_option maxHeartbeats 4000000
set_option maxRecDepth 4000
def X4:ir:=
 (.seq (.ie (sq 1 [bo 1 32 0,.mv (.const (.slice none 0 0)),mb false])) (.seq (.seq (.ie (sq 4 [la 2 1,cf 35 [4],nt 5])) (.cond (t0 6) (.seq (.ie (sq 7 [.mD 7 44 6 []]++sq 2 [mv 7,mb false])) .ret) .skip)) (.seq (.ie (sq 8 [la 2 1,cf 96 [8],ex 9 0,ex 9 1]++sq 2 [mv 10,mv 11])) .ret)))
theorem Zy:kS Tryz.prog 47 X4 12 [.tmp 2,.tmp 3]:=mf Tryz.func47 Tryz.ntmps47
def qn(sys:gR):Option (gP×Bool):=
 (mK sys).bind fun r=>
 if r=true then
  (tX sys).bind fun r_1=>
  some r_1
 else
  some ([],false)
instance M_{sys:gR}:iU (qn sys) fun rr=>qV Tryz.prog 47 [iC sys] [(iq 6 jC) rr.1,bD rr.2]:=⟨@fun rr h=>by
 delta qn at h;refine Zy.r_ (ia ?_);delta X4;refine iR ?_;exact lP⟩
def Tp:ir:=
 (.seq (.ie (sq 4 [mi 0])) (.seq (.ie (sq 5 [mi 0])) (.seq (.seq (.ie (sq 6 [mi 0])) (.block 0 (.loop (.seq (.seq (.ie (sq 7 [mv 6,mv 0,ln 8,bn .lss 7 9])) (.cond (t0 10) .skip (.exit 0))) (.seq (.block 1 (.seq (.ie (sq 13 [mv 0,mv 6,ix 1 13 14,ld 15,mv 1,bn .eql 16 17])) (.cond (t0 18) (.ie (sq 19 [mv 5,bi .add 19 1]++sq 5 [mv 20])) .skip))) (.ie (sq 11 [mv 6,bi .add 11 1]++sq 6 [mv 12]))))))) (.seq (.ie (sq 21 [mv 5]++sq 4 [mv 21])) .ret))))
theorem WV:kS Tryz.prog 161 Tp 22 [.tmp 4]:=mf Tryz.func161 Tryz.ntmps161
def qg(t:gB)(n:Int):gQ->Option (gQ⊕Int)
 |(many,i)=>
  if(decide (i<(t.length:Int)))=true then
   if 0<=i/\i<(t.length:Int)then
    if((t.getD i.toNat default)==n)=true then
     some (.inl ((IntKind.i64.wrap (many+1)),(IntKind.i64.wrap (i+1))))
    else
     some (.inl (many,(IntKind.i64.wrap (i+1))))
   else none
  else
   Option.map Sum.inr (
    some many)
def qq(t:gB)(n:Int):Option Int:=
 iB (qg t n) (0,0)
instance Nj{t:gB}{n:Int}:iU (qq t n) fun rr=>jW Tryz.prog 161 [(iq 1 iD) t,iD n] (iD rr):=⟨@fun rr h=>by
 delta qq at h;refine WV.jz (ia ?_);delta Tp;refine iR ?_;refine kA h [5,6,7,8,9,10,11,12,13,14,15,16,17,18,19,20] (fun pp=>[(5,.d (iD pp.1)),(6,.d (iD pp.2))]) (fun pp=>[]) ?_;rintro⟨many,i⟩ t1 h hb1;unfold qg at h;try dsimp only at h
 refine ia (iR ?_);exact lP⟩
def Yq:ir:=
 (.seq (.ie (sq 2 [mb false])) (.seq (.seq (.ie (sq 3 [mi 0])) (.block 0 (.loop (.seq (.seq (.ie (sq 4 [mv 3,mv 0,ln 5,bn .lss 4 6])) (.cond (t0 7) .skip (.exit 0))) (.seq (.block 1 (.seq (.ie (sq 10 [mv 0,mv 3,ix 1 10 11,ld 12,bi .lss 13 0,mv 14]++sg 15 true 16 [mv 0,mv 0,mv 3,ix 1 17 18,ld 19,cf 161 [16,20],bi .gtr 21 1]++sq 23 [pa 15 22])) (.cond (t0 23) (.seq (.ie (sq 2 [mb false])) .ret) .skip))) (.ie (sq 8 [mv 3,bi .add 8 1]++sq 3 [mv 9]))))))) (.seq (.ie (sq 2 [mb true])) .ret)))
theorem ZU:kS Tryz.prog 97 Yq 24 [.tmp 2]:=mf Tryz.func97 Tryz.ntmps97
def pG(t:gB):Int->Option gO
 |i=>
  if(decide (i<(t.length:Int)))=true then
   if 0<=i/\i<(t.length:Int)then
    if(decide ((t.getD i.toNat default)<0))=true then
     if 0<=i/\i<(t.length:Int)then
      (qq t (t.getD i.toNat default)).bind fun r=>
      if(decide (1<r))=true then
       Option.map Sum.inr (
        some false)
      else
       some (.inl (IntKind.i64.wrap (i+1)))
     else none
    else
     some (.inl (IntKind.i64.wrap (i+1)))
   else none
  else
   Option.map Sum.inr (
    some true)
def nR(t:gB):Option Bool:=
 iB (pG t) 0
instance My{t:gB}:iU (nR t) fun rr=>jW Tryz.prog 97 [(iq 1 iD) t] (bD rr):=⟨@fun rr h=>by
 delta nR at h;refine ZU.jz (ia ?_);delta Yq;refine iR ?_;refine kA h [2,3,4,5,6,7,8,9,10,11,12,13,14,15,16,17,18,19,20,21,22,23] (fun pp=>[(3,.d (iD pp))]) (fun pp=>[]) ?_;rintro i t1 h hb1;unfold pG at h;try dsimp only at h
 refine ia (iR ?_);exact lP⟩
def X6:ir:=
 (.seq (.ie (sq 1 [bo 1 32 0,mb false])) (.seq (.seq (.ie (sq 4 [la 2 1,cf 35 [4],nt 5])) (.cond (t0 6) (.seq (.ie (sq 2 [mb false])) .ret) .skip)) (.seq (.seq (.ie (sq 3 [mi 0])) (.block 0 (.loop (.seq (.seq (.ie (sq 7 [mv 3,fa 1 1,ld 8,ln 9,bn .lss 7 10])) (.cond (t0 11) .skip (.exit 0))) (.seq (.block 1 (.seq (.ie (sq 14 [fa 1 1,ld 14,mv 3,ix 2 15 16,fa 0 17,ld 18,cf 97 [19],nt 20])) (.cond (t0 21) (.seq (.ie (sq 2 [mb false])) .ret) .skip))) (.ie (sq 12 [mv 3,bi .add 12 1]++sq 3 [mv 13]))))))) (.seq (.ie (sq 2 [mb true])) .ret))))
theorem Zz:kS Tryz.prog 48 X6 22 [.tmp 2]:=mf Tryz.func48 Tryz.ntmps48
def mS(sys:gR):Int->Option gO
 |i=>
  if(decide (i<(sys.2.length:Int)))=true then
   if 0<=i/\i<(sys.2.length:Int)then
    (nR ((sys.2.getD i.toNat default).1)).bind fun r_1=>
    if r_1=true then
     some (.inl (IntKind.i64.wrap (i+1)))
    else
     Option.map Sum.inr (
      some false)
   else none
  else
   Option.map Sum.inr (
    some true)
def mN(sys:gR):Option Bool:=
 (mK sys).bind fun r=>
 if r=true then
  iB (mS sys) 0
 else
  some false
instance HK{sys:gR}:iU (mN sys) fun rr=>jW Tryz.prog 48 [iC sys] (bD rr):=⟨@fun rr h=>by
 delta mN at h;refine Zz.jz (ia ?_);delta X6;refine iR ?_;refine rC h fun r hr h=>?_
 refine iT h fun hc h=>?_
 refine kA h [2,3,7,8,9,10,11,12,13,14,15,16,17,18,19,20,21] (fun pp=>[(3,.d (iD pp))]) (fun pp=>[(1,.obj 32 [.d (iq 1 iD sys.1),.d (iq 2 ic sys.2)])]) ?_;rintro i t1 h hb1;unfold mS at h;try dsimp only at h
 refine ia (iR ?_);exact lP⟩
def Yd:ir:=
 (.seq (.ie (sq 4 [mb false])) (.seq (.ie (sq 5 [mv 1,mv 0,ln 6,bi .sub 7 1,.ke 74 [(t0 5),(i0 0),(t0 8)]]++sq 4 [mv 9])) .ret))
theorem ZH:kS Tryz.prog 73 Yd 10 [.tmp 4]:=mf Tryz.func73 Tryz.ntmps73
def sP(t:gB)(iS:Int):Option Bool:=
 (k_ iS 0 (IntKind.i64.wrap ((t.length:Int)-1))).bind fun r=>
 some r
instance Nk{t:gB}{iS:Int}:iU (sP t iS) fun rr=>jW Tryz.prog 73 [(iq 1 iD) t,iD iS] (bD rr):=⟨@fun rr h=>by
 delta sP at h;refine ZH.jz (ia ?_);delta Yd;refine iR ?_;exact lP⟩
def Yi:ir:=
 (.seq (.ie (sq 4 [bo 4 32 0]++sq 8 [.mv (.const (.slice none 0 0)),mb false])) (.seq (.seq (.ie (sq 10 [la 2 4,mv 1,cf 85 [10,11],nt 12,mv 13]++sg 14 false 15 [mv 1,mv 2,cf 73 [15,16],nt 17]++sq 19 [po 14 18,mv 19]++sg 20 false 21 [mv 3,fa 1 4,ld 22,ln 23,bi .sub 24 1,.ke 74 [(t0 21),(i0 0),(t0 25)],nt 26]++sq 28 [po 20 27])) (.cond (t0 28) (.seq (.ie (sq 29 [.mD 29 2 1 []]++sq 8 [mv 29,mb false])) .ret) .skip)) (.seq (.ie (sq 30 [la 2 4,mv 1,mv 2,mv 3,cf 152 [30,31,32,33],ex 34 0,ex 34 1]++sq 8 [mv 35,mv 36])) .ret)))
theorem ZM:kS Tryz.prog 86 Yi 37 [.tmp 8,.tmp 9]:=mf Tryz.func86 Tryz.ntmps86
def rE(sys:gR)(t:gB)(iS:Int)(rule:Int):Option g_:=
 (mq sys t).bind fun r=>
 if r=true then
  (sP t iS).bind fun r_1=>
  if r_1=true then
   (k_ rule 0 (IntKind.i64.wrap ((sys.2.length:Int)-1))).bind fun r_2=>
   if r_2=true then
    (p_ sys t iS rule).bind fun r_3=>
    some r_3
   else
    some ([],false)
  else
   some ([],false)
 else
  some ([],false)
instance PN{sys:gR}{t:gB}{iS:Int}{rule:Int}:iU (rE sys t iS rule) fun rr=>qV Tryz.prog 86 [iC sys,(iq 1 iD) t,iD iS,iD rule] [(iq 1 iD) rr.1,bD rr.2]:=⟨@fun rr h=>by
 delta rE at h;refine ZM.r_ (ia ?_);delta Yi;refine iR ?_;exact lP⟩
def Yr:ir:=
 (.seq (.ie (sq 3 [bo 3 32 0]++sq 6 [mb false])) (.seq (.seq (.ie (sq 7 [mi 0])) (.block 0 (.loop (.seq (.seq (.ie (sq 10 [mv 7,fa 1 3,ld 11,ln 12,bn .lss 10 13])) (.cond (t0 14) .skip (.exit 0))) (.seq (.block 1 (.seq (.ie (sq 18 [la 2 3,mv 1,mv 7,.ke 86 [(t0 18),(t0 19),(i0 0),(t0 20)]]++sq 17 [mv 21]++sq 22 [ex 17 0,ex 17 1]++sq 8 [mv 22,mv 23])) (.seq (.ie (sq 24 [mv 9,mv 24]++sg 25 true 26 [mv 8,mv 2,cf 34 [26,27]]++sq 29 [pa 25 28])) (.cond (t0 29) (.seq (.ie (sq 6 [mb true])) .ret) .skip)))) (.ie (sq 15 [mv 7,bi .add 15 1]++sq 7 [mv 16]))))))) (.seq (.ie (sq 6 [mb false])) .ret)))
theorem ZV:kS Tryz.prog 98 Yr 30 [.tmp 6]:=mf Tryz.func98 Tryz.ntmps98
def oa(sys:gR)(a:gB)(b:gB):Int->Option gO
 |r=>
  if(decide (r<(sys.2.length:Int)))=true then
   (rE sys a 0 r).bind fun r_1=>
   if r_1.2=true then
    (lJ r_1.1 b).bind fun r_2=>
    if r_2=true then
     Option.map Sum.inr (
      some true)
    else
     some (.inl (IntKind.i64.wrap (r+1)))
   else
    some (.inl (IntKind.i64.wrap (r+1)))
  else
   Option.map Sum.inr (
    some false)
def qo(sys:gR)(a:gB)(b:gB):Option Bool:=
 iB (oa sys a b) 0
instance Nh{sys:gR}{a:gB}{b:gB}:iU (qo sys a b) fun rr=>jW Tryz.prog 98 [iC sys,(iq 1 iD) a,(iq 1 iD) b] (bD rr):=⟨@fun rr h=>by
 delta qo at h;refine ZV.jz (ia ?_);delta Yr;refine iR ?_;refine kA h [6,7,8,9,10,11,12,13,14,15,16,17,18,19,20,21,22,23,24,25,26,27,28,29] (fun pp=>[(7,.d (iD pp))]) (fun pp=>[(3,.obj 32 [.d (iq 1 iD sys.1),.d (iq 2 ic sys.2)])]) ?_;rintro r t1 h hb1;unfold oa at h;try dsimp only at h
 refine ia (iR ?_);exact lP⟩
def X7:ir:=
 (.seq (.ie (sq 3 [bo 3 32 0]++sq 6 [mb false])) (.seq (.seq (.ie (sq 10 [mv 1,mv 2,cf 34 [10,11],mv 12]++sg 13 false 14 [la 2 3,mv 1,mv 2,cf 98 [14,15,16]]++sq 18 [po 13 17])) (.cond (t0 18) (.seq (.ie (sq 6 [mb true])) .ret) .skip)) (.seq (.seq (.draw (sq 19 [mv 1,.tG 1 (t0 19) (i0 0),ld 20,mv 2,.tG 1 (t0 22) (i0 0),ld 23,bn .neq 21 24,mv 25]++sg 26 false 27 [mv 1,.tG 1 (t0 27) (i0 0),ld 28,bi .lss 29 0]++sq 31 [po 26 30]) [[],[0],[1],[],[3],[4],[2,5],[6],[7],[8,7],[9,7],[10,7],[7,11]]) (.cond (t0 31) (.seq (.ie (sq 6 [mb false])) .ret) .skip)) (.seq (.ie (sq 32 [fa 0 3,la 1 32,mv 1,cf 99 [33,34]]++sq 7 [mv 35])) (.seq (.ie (sq 36 [fa 0 3,la 1 36,mv 2,cf 99 [37,38]]++sq 8 [mv 39])) (.seq (.seq (.ie (sq 9 [mi 0])) (.block 0 (.loop (.seq (.seq (.ie (sq 40 [mv 9,mv 7,ln 41,bn .lss 40 42])) (.cond (t0 43) .skip (.exit 0))) (.seq (.block 1 (.seq (.draw (sq 46 [la 2 3,mv 7,mv 9,ix 1 47 48,ld 49,mv 8,mv 9,ix 1 51 52,ld 53,cf 49 [46,50,54],nt 55]) [[],[],[],[1,2],[3],[],[],[5,6],[7],[0,4,8],[9]]) (.cond (t0 56) (.seq (.ie (sq 6 [mb false])) .ret) .skip))) (.ie (sq 44 [mv 9,bi .add 44 1]++sq 9 [mv 45]))))))) (.seq (.ie (sq 6 [mb true])) .ret)))))))
theorem ZA:kS Tryz.prog 49 X7 57 [.tmp 6]:=mf Tryz.func49 Tryz.ntmps49
def qc(rec:gR->gB->gB->Option Bool)(sys:gR)(r_2:gE)(r_3:gE):Int->Option gO
 |i=>
  if(decide (i<(r_2.length:Int)))=true then
   if 0<=i/\i<(r_2.length:Int)then
    if 0<=i/\i<(r_3.length:Int)then
     (rec sys (r_2.getD i.toNat default) (r_3.getD i.toNat default)).bind fun r_4=>
     if r_4=true then
      some (.inl (IntKind.i64.wrap (i+1)))
     else
      Option.map Sum.inr (
       some false)
    else none
   else none
  else
   Option.map Sum.inr (
    some true)
def kX:Nat->gR->gB->gB->Option Bool
 |0,_,_,_=>none
 |fu+1,sys,a,b=>
  (lJ a b).bind fun r=>
  if r=true then
   some true
  else
   (qo sys a b).bind fun r_1=>
   if r_1=true then
    some true
   else
    if 0<=0/\0<(a.length:Int)then
     if 0<=0/\0<(b.length:Int)then
      if((a.getD 0 default) != (b.getD 0 default))=true then
       some false
      else
       if 0<=0/\0<(a.length:Int)then
        if(decide ((a.getD 0 default)<0))=true then
         some false
        else
         (lK sys.1 a).bind fun r_2=>
         (lK sys.1 b).bind fun r_3=>
         iB (qc (kX fu) sys r_2 r_3) 0
       else none
     else none
    else none
def pE(sys:gR)(a:gB)(b:gB):Option Bool:=AL fun fu=>kX fu sys a b
theorem vg:∀{fu:Nat}{sys:gR}{a:gB}{b:gB}{rr:Bool}(h:kX fu sys a b=some rr),jW Tryz.prog 49 [iC sys,(iq 1 iD) a,(iq 1 iD) b] (bD rr)
 |0,_,_,_,_,h=>by cases h
 |fu+1,sys,a,b,rr,h=>by
  have ih:∀{sys:gR}{a:gB}{b:gB},iU (kX fu sys a b) fun rr=>jW Tryz.prog 49 [iC sys,(iq 1 iD) a,(iq 1 iD) b] (bD rr):=⟨fun h=>vg h⟩
  unfold kX at h;refine ZA.jz (ia ?_);delta X7;refine iR ?_;refine rC h fun r hr h=>?_
  refine iF h fun hc h=>?_
  refine rC h fun r_1 hr_1 h=>?_
  refine iF h fun hc h=>?_
  refine kz h fun hp h=>?_
  refine kz h fun hp h=>?_
  refine iF h fun hc h=>?_
  refine kz h fun hp h=>?_
  refine jM (by kernel_rfl) (iR ?_);refine iF h fun hc h=>?_
  refine rC h fun r_2 hr_2 h=>?_
  refine rC h fun r_3 hr_3 h=>?_
  refine kA h [6,9,40,41,42,43,44,45,46,47,48,49,50,51,52,53,54,55,56] (fun pp=>[(9,.d (iD pp))]) (fun pp=>[(3,.obj 32 [.d (iq 1 iD sys.1),.d (iq 2 ic sys.2)])]) ?_;rintro i t1 h hb1;unfold qc at h;try dsimp only at h
  refine ia (iR ?_);exact lP
instance E0{sys:gR}{a:gB}{b:gB}:iU (pE sys a b) fun rr=>jW Tryz.prog 49 [iC sys,(iq 1 iD) a,(iq 1 iD) b] (bD rr):=⟨fun h=>vg (qO h).choose_spec⟩
def XR:ir:=
 (.seq (.ie (sq 1 [bo 1 32 0,mb false])) (.seq (.ie (sq 7 [la 2 1,cf 47 [7]]++sq 6 [mv 8]++sq 9 [ex 6 0,ex 6 1]++sq 3 [mv 9,mv 10])) (.seq (.seq (.ie (sq 11 [mv 4,nt 11,mv 12]++sg 13 false 14 [la 2 1,cf 48 [14],nt 15]++sq 17 [po 13 16])) (.cond (t0 17) (.seq (.ie (sq 2 [mb false])) .ret) .skip)) (.seq (.seq (.ie (sq 5 [mi 0])) (.block 0 (.loop (.seq (.seq (.ie (sq 18 [mv 5,mv 3,ln 19,bn .lss 18 20])) (.cond (t0 21) .skip (.exit 0))) (.seq (.block 1 (.seq (.draw (sq 24 [la 2 1,mv 3,mv 5,ix 6 25 26,fa 1 27,ld 28,mv 3,mv 5,ix 6 30 31,fa 2 32,ld 33,cf 49 [24,29,34],nt 35]) [[],[],[],[1,2],[3],[4],[],[],[6,7],[8],[9],[0,5,10],[11]]) (.cond (t0 36) (.seq (.ie (sq 2 [mb false])) .ret) .skip))) (.ie (sq 22 [mv 5,bi .add 22 1]++sq 5 [mv 23]))))))) (.seq (.ie (sq 2 [mb true])) .ret)))))
theorem Zl:kS Tryz.prog 12 XR 37 [.tmp 2]:=mf Tryz.func12 Tryz.ntmps12
def oZ(sys:gR)(r:(gP×Bool)):Int->Option gO
 |i=>
  if(decide (i<(r.1.length:Int)))=true then
   if 0<=i/\i<(r.1.length:Int)then
    if 0<=i/\i<(r.1.length:Int)then
     (pE sys ((r.1.getD i.toNat default).2.1) ((r.1.getD i.toNat default).2.2.1)).bind fun r_2=>
     if r_2=true then
      some (.inl (IntKind.i64.wrap (i+1)))
     else
      Option.map Sum.inr (
       some false)
    else none
   else none
  else
   Option.map Sum.inr (
    some true)
def lI(sys:gR):Option Bool:=
 (qn sys).bind fun r=>
 if r.2=true then
  (mN sys).bind fun r_1=>
  if r_1=true then
   iB (oZ sys r) 0
  else
   some false
 else
  some false
instance Mq{sys:gR}:iU (lI sys) fun rr=>jW Tryz.prog 12 [iC sys] (bD rr):=⟨@fun rr h=>by
 delta lI at h;refine Zl.jz (ia ?_);delta XR;refine iR ?_;refine T7 h fun r hr h=>?_
 refine iT h fun hc h=>?_
 refine rC h fun r_1 hr_1 h=>?_
 refine iT h fun hc h=>?_
 refine kA h [2,5,18,19,20,21,22,23,24,25,26,27,28,29,30,31,32,33,34,35,36] (fun pp=>[(5,.d (iD pp))]) (fun pp=>[(1,.obj 32 [.d (iq 1 iD sys.1),.d (iq 2 ic sys.2)])]) ?_;rintro i t1 h hb1;unfold oZ at h;try dsimp only at h
 refine ia (iR ?_);exact lP⟩
def TD:ir:=
 (.seq (.ie (sq 2 [mb false])) (.seq (.seq (.ie (sq 5 [mv 0,ln 5,mi 0])) (.block 0 (.loop (.seq (.ie (sq 8 [bn .lss 7 6])) (.seq (.cond (t0 8) .skip (.exit 0)) (.seq (.block 1 (.seq (.ie (sq 9 [mv 7,ix 1 5 7,ld 10]++sq 3 [mv 9,mv 11])) (.seq (.ie (sq 12 [mv 4,bi .lss 12 0,mv 13]++sg 14 true 15 [mv 0,mv 3,.slc (t0 15) 1 none (some (t0 16)) none,mv 4,cf 164 [17,18]]++sq 20 [pa 14 19])) (.cond (t0 20) (.seq (.ie (sq 2 [mb false])) .ret) .skip)))) (.ie (sq 21 [bi .add 7 1]++sq 7 [mv 21])))))))) (.seq (.ie (sq 2 [mb true])) .ret)))
theorem Xg:kS Tryz.prog 198 TD 22 [.tmp 2]:=mf Tryz.func198 Tryz.ntmps198
def qF(t:gB):Int->Option gO
 |v7=>
  if(decide (v7<(t.length:Int)))=true then
   if 0<=v7/\v7<(t.length:Int)then
    if(decide ((t.getD v7.toNat default)<0))=true then
     if 0<=v7/\v7<=(t.length:Int)then
      (jJ (t.take v7.toNat) (t.getD v7.toNat default)).bind fun r=>
      if r=true then
       Option.map Sum.inr (
        some false)
      else
       some (.inl (IntKind.i64.wrap (v7+1)))
     else none
    else
     some (.inl (IntKind.i64.wrap (v7+1)))
   else none
  else
   Option.map Sum.inr (
    some true)
def rA(t:gB):Option Bool:=
 iB (qF t) 0
instance PJ{t:gB}:iU (rA t) fun rr=>jW Tryz.prog 198 [(iq 1 iD) t] (bD rr):=⟨@fun rr h=>by
 delta rA at h;refine Xg.jz (ia ?_);delta TD;refine iR ?_;refine kA h [2,3,4,7,8,9,10,11,12,13,14,15,16,17,18,19,20,21] (fun pp=>[(7,.d (iD pp))]) (fun pp=>[]) ?_;rintro v7 t1 h hb1;unfold qF at h;try dsimp only at h
 refine ia (iR ?_);exact lP⟩
def Ti:ir:=
 (.seq (.ie (sq 2 [mb false])) (.seq (.seq (.ie (sq 5 [mv 0,ln 5,mi 0])) (.block 0 (.loop (.seq (.ie (sq 8 [bn .lss 7 6])) (.seq (.cond (t0 8) .skip (.exit 0)) (.seq (.block 1 (.seq (.ie (sq 9 [ix 2 5 7,la 2 9]++sq 4 [.alloc 4 77 [.sl 0 (some true) [],.sl 0 (some true) []]]++s0 (sr 2 4 10))) (.seq (.ie (sq 11 [fa 0 4,ld 11,cf 198 [12],nt 13])) (.cond (t0 14) (.seq (.ie (sq 2 [mb false])) .ret) .skip)))) (.ie (sq 15 [bi .add 7 1]++sq 7 [mv 15])))))))) (.seq (.ie (sq 2 [mb true])) .ret)))
theorem WO:kS Tryz.prog 154 Ti 16 [.tmp 2]:=mf Tryz.func154 Tryz.ntmps154
def nX(rules:gI):Int->Option gO
 |v7=>
  if(decide (v7<(rules.length:Int)))=true then
   if 0<=v7/\v7<(rules.length:Int)then
    (rA ((rules.getD v7.toNat default).1)).bind fun r=>
    if r=true then
     some (.inl (IntKind.i64.wrap (v7+1)))
    else
     Option.map Sum.inr (
      some false)
   else none
  else
   Option.map Sum.inr (
    some true)
def nW(rules:gI):Option Bool:=
 iB (nX rules) 0
instance JI{rules:gI}:iU (nW rules) fun rr=>jW Tryz.prog 154 [(iq 2 ic) rules] (bD rr):=⟨@fun rr h=>by
 delta nW at h;refine WO.jz (ia ?_);delta Ti;refine iR ?_;refine kA h [2,4,7,8,9,10,11,12,13,14,15] (fun pp=>[(7,.d (iD pp))]) (fun pp=>[]) ?_;rintro v7 t1 h hb1;unfold nX at h;try dsimp only at h
 refine ia (iR ?_);refine iT h fun hc h=>?_
 refine kz h fun hp h=>?_
 refine rC h fun r hr h=>?_
 refine iT h fun hc h=>?_
 cases h;refine⟨_,rfl,?_⟩;refine(iV.drop 4 h_).trans ?_;exact wk⟩
def Yk:ir:=
 (.seq (.ie (sq 1 [bo 1 32 0,mb false])) (.seq (.ie (sq 3 [la 2 1,cf 59 [3],mv 4]++sg 5 true 6 [fa 1 1,ld 6,cf 154 [7]]++sq 9 [pa 5 8]++sq 2 [mv 9])) .ret))
theorem ZO:kS Tryz.prog 89 Yk 10 [.tmp 2]:=mf Tryz.func89 Tryz.ntmps89
def kP(sys:gR):Option Bool:=
 (pM sys).bind fun r=>
 if r=true then
  (nW sys.2).bind fun r_1=>
  some r_1
 else
  some false
instance HF{sys:gR}:iU (kP sys) fun rr=>jW Tryz.prog 89 [iC sys] (bD rr):=⟨@fun rr h=>by
 delta kP at h;refine ZO.jz (ia ?_);delta Yk;refine iR ?_;exact lP⟩
def X3:ir:=
 (.seq (.ie (sq 3 [bo 3 32 0]++sq 6 [mb false])) (.seq (.seq (.ie (sq 13 [mv 1,mv 2,cf 92 [13,14]])) (.cond (t0 15) (.seq (.ie (sq 6 [mb true])) .ret) .skip)) (.seq (.seq (.ie (sq 16 [mv 1,.tG 1 (t0 16) (i0 0),ld 17,bi .lss 18 0])) (.cond (t0 19) (.seq (.ie (sq 6 [mb false])) .ret) .skip)) (.seq (.seq (.ie (sq 20 [fa 1 3,ld 20,ln 21,mi 0])) (.block 0 (.loop (.seq (.ie (sq 24 [bn .lss 23 22])) (.seq (.cond (t0 24) .skip (.exit 0)) (.seq (.block 1 (.seq (.ie (sq 25 [mv 23]++sq 7 [mv 25])) (.seq (.ie (sq 27 [la 2 3,mv 1,mv 7,.ke 93 [(t0 27),(t0 28),(i0 0),(t0 29)]]++sq 26 [mv 30]++sq 31 [ex 26 0,ex 26 1]++sq 8 [mv 31,mv 32])) (.seq (.ie (sq 33 [mv 9,mv 33]++sg 34 true 35 [mv 8,mv 2,cf 92 [35,36]]++sq 38 [pa 34 37])) (.cond (t0 38) (.seq (.ie (sq 6 [mb true])) .ret) .skip))))) (.ie (sq 39 [bi .add 23 1]++sq 23 [mv 39])))))))) (.seq (.seq (.draw (sq 40 [mv 1,.tG 1 (t0 40) (i0 0),ld 41,mv 2,.tG 1 (t0 43) (i0 0),ld 44,bn .neq 42 45]) [[],[0],[1],[],[3],[4],[2,5]]) (.cond (t0 46) (.seq (.ie (sq 6 [mb false])) .ret) .skip)) (.seq (.draw (sq 47 [fa 0 3,la 1 47,mv 1,.ke 94 [(t0 48),(t0 49),(i0 0)],fa 0 3,la 1 51,mv 2,.ke 94 [(t0 52),(t0 53),(i0 0)]]++sq 10 [mv 50,mv 54]) [[],[0],[],[1,2],[],[4],[],[5,6,3],[3,7,0,1,2,3],[7,8,0,1,2,3,4,5,6,7,8]]) (.seq (.seq (.ie (sq 55 [mv 10,ln 55,mi 0])) (.block 2 (.loop (.seq (.ie (sq 58 [bn .lss 57 56])) (.seq (.cond (t0 58) .skip (.exit 2)) (.seq (.block 3 (.seq (.ie (sq 59 [mv 57]++sq 12 [mv 59])) (.seq (.draw (sq 60 [la 2 3,fa 0 3,la 1 61,mv 1,mv 10,mv 12,ix 1 64 65,ld 66,cf 95 [62,63,67],fa 0 3,la 1 69,mv 2,mv 11,mv 12,ix 1 72 73,ld 74,cf 95 [70,71,75],cf 46 [60,68,76],nt 77]) [[],[],[1],[],[],[],[4,5],[6],[2,3,7],[],[9],[],[],[],[12,13],[14],[10,11,15,8],[0,8,16,16],[17]]) (.cond (t0 78) (.seq (.ie (sq 6 [mb false])) .ret) .skip)))) (.ie (sq 79 [bi .add 57 1]++sq 57 [mv 79])))))))) (.seq (.ie (sq 6 [mb true])) .ret))))))))
theorem Zx:kS Tryz.prog 46 X3 80 [.tmp 6]:=mf Tryz.func46 Tryz.ntmps46
def rW(rec:gR->gB->gB->Option Bool)(sys:gR)(a:gB)(b:gB)(r_3:gB)(r_4:gB):Int->Option gO
 |v57=>
  if(decide (v57<(r_3.length:Int)))=true then
   if 0<=v57/\v57<(r_3.length:Int)then
    (jX sys.1 a (r_3.getD v57.toNat default)).bind fun r_5=>
    if 0<=v57/\v57<(r_4.length:Int)then
     (jX sys.1 b (r_4.getD v57.toNat default)).bind fun r_6=>
     (rec sys r_5 r_6).bind fun r_7=>
     if r_7=true then
      some (.inl (IntKind.i64.wrap (v57+1)))
     else
      Option.map Sum.inr (
       some false)
    else none
   else none
  else
   Option.map Sum.inr (
    some true)
def rV(rec:gR->gB->gB->Option Bool)(sys:gR)(a:gB)(b:gB):Int->Option gO
 |v23=>
  if(decide (v23<(sys.2.length:Int)))=true then
   (su sys a 0 v23).bind fun r_1=>
   if r_1.2=true then
    (iX r_1.1 b).bind fun r_2=>
    if r_2=true then
     Option.map Sum.inr (
      some true)
    else
     some (.inl (IntKind.i64.wrap (v23+1)))
   else
    some (.inl (IntKind.i64.wrap (v23+1)))
  else
   Option.map Sum.inr (
    if 0<=0/\0<(a.length:Int)then
     if 0<=0/\0<(b.length:Int)then
      if((a.getD 0 default) != (b.getD 0 default))=true then
       some false
      else
       (mU sys.1 a 0).bind fun r_3=>
       (mU sys.1 b 0).bind fun r_4=>
       iB (rW rec sys a b r_3 r_4) 0
     else none
    else none)
def mI:Nat->gR->gB->gB->Option Bool
 |0,_,_,_=>none
 |fu+1,sys,a,b=>
  (iX a b).bind fun r=>
  if r=true then
   some true
  else
   if 0<=0/\0<(a.length:Int)then
    if(decide ((a.getD 0 default)<0))=true then
     some false
    else
     iB (rV (mI fu) sys a b) 0
   else none
def oB(sys:gR)(a:gB)(b:gB):Option Bool:=AL fun fu=>mI fu sys a b
theorem xO:∀{fu:Nat}{sys:gR}{a:gB}{b:gB}{rr:Bool}(h:mI fu sys a b=some rr),jW Tryz.prog 46 [iC sys,(iq 1 iD) a,(iq 1 iD) b] (bD rr)
 |0,_,_,_,_,h=>by cases h
 |fu+1,sys,a,b,rr,h=>by
  have ih:∀{sys:gR}{a:gB}{b:gB},iU (mI fu sys a b) fun rr=>jW Tryz.prog 46 [iC sys,(iq 1 iD) a,(iq 1 iD) b] (bD rr):=⟨fun h=>xO h⟩
  unfold mI at h;refine Zx.jz (ia ?_);delta X3;refine iR ?_;refine rC h fun r hr h=>?_
  refine iF h fun hc h=>?_
  refine kz h fun hp h=>?_
  refine iF h fun hc h=>?_
  refine kA h [6,7,8,9,23,24,25,26,27,28,29,30,31,32,33,34,35,36,37,38,39] (fun pp=>[(23,.d (iD pp))]) (fun pp=>[(3,.obj 32 [.d (iq 1 iD sys.1),.d (iq 2 ic sys.2)])]) ?_;rintro v23 t1 h hb1;unfold rV at h;try dsimp only at h
  refine ia (iR ?_);refine iF h fun hc h=>?_
  replace h:=jf h hb1;refine kz h fun hp h=>?_
  refine kz h fun hp h=>?_
  refine jM (by kernel_rfl) (iR ?_);refine iF h fun hc h=>?_
  refine dC h fun r_3 hr_3 h=>?_
  refine dC h fun r_4 hr_4 h=>?_
  refine jM (by kernel_rfl) (iR ?_);refine kA h [6,12,57,58,59,60,61,62,63,64,65,66,67,68,69,70,71,72,73,74,75,76,77,78,79] (fun pp=>[(57,.d (iD pp))]) (fun pp=>[(3,.obj 32 [.d (iq 1 iD sys.1),.d (iq 2 ic sys.2)])]) ?_;rintro v57 t1 h hb1;unfold rW at h;try dsimp only at h
  refine ia (iR ?_);exact lP
instance HI{sys:gR}{a:gB}{b:gB}:iU (oB sys a b) fun rr=>jW Tryz.prog 46 [iC sys,(iq 1 iD) a,(iq 1 iD) b] (bD rr):=⟨fun h=>xO (qO h).choose_spec⟩
def X1:ir:=
 (.seq (.ie (sq 1 [bo 1 44 0,mb false])) (.seq (.ie (sq 3 [fa 1 1,ld 3,fa 2 1,ld 5,cf 92 [4,6]]++sq 2 [mv 7])) .ret))
theorem Zv:kS Tryz.prog 44 X1 8 [.tmp 2]:=mf Tryz.func44 Tryz.ntmps44
def lQ(p:gC):Option Bool:=
 (iX p.2.1 p.2.2.1).bind fun r=>
 some r
instance H6{p:gC}:iU (lQ p) fun rr=>jW Tryz.prog 44 [jC p] (bD rr):=⟨@fun rr h=>by
 delta lQ at h;refine Zv.jz (ia ?_);delta X1;refine iR ?_;exact lP⟩
def X0:ir:=
 (.seq (.ie (sq 1 [bo 1 44 0,mb false])) (.seq (.ie (sq 2 [mb false])) .ret))
theorem Zu:kS Tryz.prog 43 X0 3 [.tmp 2]:=mf Tryz.func43 Tryz.ntmps43
def qb(a0:gC):Option Bool:=
 some false
instance FL{a0:gC}:iU (qb a0) fun rr=>jW Tryz.prog 43 [jC a0] (bD rr):=⟨@fun rr h=>by
 delta qb at h;refine Zu.jz (ia ?_);delta X0;refine iR ?_;exact lP⟩
def Ro:ir:=
 (.seq (.ie (sq 2 [bo 2 44 0,mb false])) (.seq (.ie (sq 4 [ld 1,la 6 2,.qW (t0 4) [(t0 5)],nt 6]++sq 3 [mv 7])) .ret))
theorem UQ:kS Tryz.prog 91 Ro 8 [.tmp 3]:=mf Tryz.func91 Tryz.ntmps91
def sI(p:gC):Option Bool:=
 (qb p).bind fun r=>
 some (!r)
instance JH{p:gC}:iU (sI p) fun rr=>iH Tryz.prog 91 [.d (.agg [iq 1 iD p.1,iq 1 iD p.2.1,iq 1 iD p.2.2.1,iD p.2.2.2.1,iD p.2.2.2.2.1,iD p.2.2.2.2.2]),.ptr 0 0] [(0,.obj 80 [.fn 43 [] []])] 1 fun xx ss=>xx=.d (bD rr)/\ss=[(0,.obj 80 [.fn 43 [] []])]:=⟨@fun rr h=>by
 delta sI at h;refine UQ.kL (ia ?_);delta Ro;refine iR ?_;refine wj (by kernel_rfl) ?_;refine rC h fun r hr h=>?_
 cases h;exact⟨[2],by simp,lM,lM⟩⟩
def J5:ir:=
 (.seq (.ie (sq 4 [mi 0])) (.seq (.seq (.ie (sq 6 [mv 0,ln 6,mi 0])) (.block 0 (.loop (.seq (.ie (sq 9 [bn .lss 8 7])) (.seq (.cond (t0 9) .skip (.exit 0)) (.seq (.block 1 (.seq (.ie (sq 10 [mv 8]++sq 5 [mv 10])) (.seq (.ie (sq 11 [mv 1,mv 0,mv 5,ix 6 12 13,la 6 14,.qW (t0 11) [(t0 15)]])) (.cond (t0 16) (.seq (.ie (sq 17 [mv 5]++sq 4 [mv 17])) .ret) .skip)))) (.ie (sq 18 [bi .add 8 1]++sq 8 [mv 18])))))))) (.seq (.ie (sq 4 [mi (-1)])) .ret)))
theorem NM:kS Tryz.prog 155 J5 19 [.tmp 4]:=mf Tryz.func155 Tryz.ntmps155
def jH(s:gP):Int->Option (Int⊕Int)
 |v8=>
  if(decide (v8<(s.length:Int)))=true then
   if 0<=v8/\v8<(s.length:Int)then
    (sI ((s.getD v8.toNat default).1,(s.getD v8.toNat default).2.1,(s.getD v8.toNat default).2.2.1,(s.getD v8.toNat default).2.2.2.1,(s.getD v8.toNat default).2.2.2.2.1,(s.getD v8.toNat default).2.2.2.2.2)).bind fun r=>
    if r=true then
     Option.map Sum.inr (
      some v8)
    else
     some (.inl (IntKind.i64.wrap (v8+1)))
   else none
  else
   Option.map Sum.inr (
    some (-1))
def jr(s:gP):Option Int:=
 iB (jH s) 0
instance yf{s:gP}:iU (jr s) fun rr=>iH Tryz.prog 155 [.d (iq 6 jC s),.fn 91 [] [.ptr 0 0]] [(0,.obj 80 [.fn 43 [] []])] 1 fun xx ss=>xx=.d (iD rr)/\ss=[(0,.obj 80 [.fn 43 [] []])]:=⟨@fun rr h=>by
 delta jr at h;refine NM.kL (ia ?_);delta J5;refine iR ?_;refine kA h [4,5,8,9,10,11,12,13,14,15,16,17,18] (fun pp=>[(8,.d (iD pp))]) (fun pp=>[(0,.obj 80 [.fn 43 [] []])]) ?_;rintro v8 t1 h hb1;unfold jH at h;try dsimp only at h
 refine ia (iR ?_);refine iT h fun hc h=>?_
 refine kz h fun hp h=>?_
 refine wj (by kernel_rfl) ?_;refine qC [(0,0)] [] h fun r hr h=>?_
 exact lP⟩
def Rn:ir:=
 (.seq (.ie (sq 4 [mb false])) (.seq (.ie (sq 5 [mv 0,mv 1,cf 155 [5,6],bi .geq 7 0]++sq 4 [mv 8])) .ret))
theorem UP:kS Tryz.prog 90 Rn 9 [.tmp 4]:=mf Tryz.func90 Tryz.ntmps90
def jG(s:gP):Option Bool:=
 (jr s).bind fun r=>
 some (decide (0<=r))
instance xP{s:gP}:iU (jG s) fun rr=>iH Tryz.prog 90 [.d (iq 6 jC s),.fn 91 [] [.ptr 0 0]] [(0,.obj 80 [.fn 43 [] []])] 1 fun xx ss=>xx=.d (bD rr)/\ss=[(0,.obj 80 [.fn 43 [] []])]:=⟨@fun rr h=>by
 delta jG at h;refine UP.kL (ia ?_);delta Rn;refine iR ?_;refine qC [(0,0)] [] h fun r hr h=>?_
 exact lP⟩
def Rm:ir:=
 (.seq (.ie (sq 2 [bo 2 32 0,bo 3 80 1,mb false])) (.seq (.seq (.ie (sq 7 [la 2 2,cf 89 [7],nt 8])) (.cond (t0 9) (.seq (.ie (sq 4 [mb false])) .ret) .skip)) (.seq (.ie (sq 11 [la 2 2,cf 61 [11]]++sq 10 [mv 12]++sq 13 [ex 10 0,ex 10 1]++sq 5 [mv 13,mv 14])) (.seq (.ie (sq 15 [mv 6,mv 15]++sg 16 true 17 [mv 5,.Cj 91 [] [(t0 3)],cf 90 [17,18],nt 19]++sq 21 [pa 16 20]++sq 4 [mv 21])) .ret))))
theorem UO:kS Tryz.prog 42 Rm 22 [.tmp 4]:=mf Tryz.func42 Tryz.ntmps42
def rN(sys:gR):Option Bool:=
 (kP sys).bind fun r=>
 if r=true then
  (oY sys).bind fun r_1=>
  if r_1.2=true then
   (jG r_1.1).bind fun r_2=>
   some (!r_2)
  else
   some false
 else
  some false
instance Mk{sys:gR}:iU (rN sys) fun rr=>iH Tryz.prog 42 [.d (.agg [iq 1 iD sys.1,iq 2 ic sys.2]),.fn 43 [] []] [] 0 fun xx ss=>xx=.d (bD rr)/\ss=[]:=⟨@fun rr h=>by
 delta rN at h;refine UO.kL (ia ?_);delta Rm;refine iR ?_;refine rC h fun r hr h=>?_
 refine it h (fun hc h=>?_) fun hc h=>?_
 ·refine T7 h fun r_1 hr_1 h=>?_
  refine it h (fun hc h=>?_) fun hc h=>?_
  ·refine qC [(0,3)] [] h fun r_2 hr_2 h=>?_
   cases h;exact⟨[2,3],by simp,lM,lM⟩
  cases h;exact⟨[2,3],by simp,lM,lM⟩
 cases h;exact⟨[2,3],by simp,lM,lM⟩⟩
def mc9:ir:=
 (.seq (.ie (sq 1 [bo 1 32 0,mb false])) (.seq (.ie (sq 3 [la 2 1,.ke 42 [(t0 3),(.func 43)]]++sq 2 [mv 4])) .ret))
theorem fn9:kS Tryz.prog 9 mc9 5 [.tmp 2]:=mf Tryz.func9 Tryz.ntmps9
def mM(sys:gR):Option Bool:=
 (rN sys).bind fun r=>
 some r
instance HG{sys:gR}:iU (mM sys) fun rr=>jW Tryz.prog 9 [iC sys] (bD rr):=⟨@fun rr h=>by
 delta mM at h;refine fn9.jz (ia ?_);delta mc9;refine iR ?_;refine qC [] [] h fun r hr h=>?_
 exact lP⟩
def nU(p:gC):Option Bool:=
 (lQ p).bind fun r=>
 some (!r)
instance F_{p:gC}:iU (nU p) fun rr=>iH Tryz.prog 91 [.d (.agg [iq 1 iD p.1,iq 1 iD p.2.1,iq 1 iD p.2.2.1,iD p.2.2.2.1,iD p.2.2.2.2.1,iD p.2.2.2.2.2]),.ptr 0 0] [(0,.obj 80 [.fn 44 [] []])] 1 fun xx ss=>xx=.d (bD rr)/\ss=[(0,.obj 80 [.fn 44 [] []])]:=⟨@fun rr h=>by
 delta nU at h;refine UQ.kL (ia ?_);delta Ro;refine iR ?_;refine wj (by kernel_rfl) ?_;refine rC h fun r hr h=>?_
 cases h;exact⟨[2],by simp,lM,lM⟩⟩
def jv(s:gP):Int->Option (Int⊕Int)
 |v8=>
  if(decide (v8<(s.length:Int)))=true then
   if 0<=v8/\v8<(s.length:Int)then
    (nU ((s.getD v8.toNat default).1,(s.getD v8.toNat default).2.1,(s.getD v8.toNat default).2.2.1,(s.getD v8.toNat default).2.2.2.1,(s.getD v8.toNat default).2.2.2.2.1,(s.getD v8.toNat default).2.2.2.2.2)).bind fun r=>
    if r=true then
     Option.map Sum.inr (
      some v8)
    else
     some (.inl (IntKind.i64.wrap (v8+1)))
   else none
  else
   Option.map Sum.inr (
    some (-1))
def jg(s:gP):Option Int:=
 iB (jv s) 0
instance xQ{s:gP}:iU (jg s) fun rr=>iH Tryz.prog 155 [.d (iq 6 jC s),.fn 91 [] [.ptr 0 0]] [(0,.obj 80 [.fn 44 [] []])] 1 fun xx ss=>xx=.d (iD rr)/\ss=[(0,.obj 80 [.fn 44 [] []])]:=⟨@fun rr h=>by
 delta jg at h;refine NM.kL (ia ?_);delta J5;refine iR ?_;refine kA h [4,5,8,9,10,11,12,13,14,15,16,17,18] (fun pp=>[(8,.d (iD pp))]) (fun pp=>[(0,.obj 80 [.fn 44 [] []])]) ?_;rintro v8 t1 h hb1;unfold jv at h;try dsimp only at h
 refine ia (iR ?_);refine iT h fun hc h=>?_
 refine kz h fun hp h=>?_
 refine wj (by kernel_rfl) ?_;refine qC [(0,0)] [] h fun r hr h=>?_
 exact lP⟩
def jt(s:gP):Option Bool:=
 (jg s).bind fun r=>
 some (decide (0<=r))
instance wF{s:gP}:iU (jt s) fun rr=>iH Tryz.prog 90 [.d (iq 6 jC s),.fn 91 [] [.ptr 0 0]] [(0,.obj 80 [.fn 44 [] []])] 1 fun xx ss=>xx=.d (bD rr)/\ss=[(0,.obj 80 [.fn 44 [] []])]:=⟨@fun rr h=>by
 delta jt at h;refine UP.kL (ia ?_);delta Rn;refine iR ?_;refine qC [(0,0)] [] h fun r hr h=>?_
 exact lP⟩
def oW(sys:gR):Option Bool:=
 (kP sys).bind fun r=>
 if r=true then
  (oY sys).bind fun r_1=>
  if r_1.2=true then
   (jt r_1.1).bind fun r_2=>
   some (!r_2)
  else
   some false
 else
  some false
instance H7{sys:gR}:iU (oW sys) fun rr=>iH Tryz.prog 42 [.d (.agg [iq 1 iD sys.1,iq 2 ic sys.2]),.fn 44 [] []] [] 0 fun xx ss=>xx=.d (bD rr)/\ss=[]:=⟨@fun rr h=>by
 delta oW at h;refine UO.kL (ia ?_);delta Rm;refine iR ?_;refine rC h fun r hr h=>?_
 refine it h (fun hc h=>?_) fun hc h=>?_
 ·refine T7 h fun r_1 hr_1 h=>?_
  refine it h (fun hc h=>?_) fun hc h=>?_
  ·refine qC [(0,3)] [] h fun r_2 hr_2 h=>?_
   cases h;exact⟨[2,3],by simp,lM,lM⟩
  cases h;exact⟨[2,3],by simp,lM,lM⟩
 cases h;exact⟨[2,3],by simp,lM,lM⟩⟩
def XP:ir:=
 (.seq (.ie (sq 1 [bo 1 32 0,mb false])) (.seq (.ie (sq 3 [la 2 1,.ke 42 [(t0 3),(.func 44)]]++sq 2 [mv 4])) .ret))
theorem Zj:kS Tryz.prog 10 XP 5 [.tmp 2]:=mf Tryz.func10 Tryz.ntmps10
def mH(sys:gR):Option Bool:=
 (oW sys).bind fun r=>
 some r
instance Mj{sys:gR}:iU (mH sys) fun rr=>jW Tryz.prog 10 [iC sys] (bD rr):=⟨@fun rr h=>by
 delta mH at h;refine Zj.jz (ia ?_);delta XP;refine iR ?_;refine qC [] [] h fun r hr h=>?_
 exact lP⟩
def X2:ir:=
 (.seq (.ie (sq 2 [bo 2 44 0,mb false])) (.seq (.ie (sq 4 [la 2 1,fa 1 2,ld 5,fa 2 2,ld 7,cf 46 [4,6,8]]++sq 3 [mv 9])) .ret))
theorem Zw:kS Tryz.prog 45 X2 10 [.tmp 3]:=mf Tryz.func45 Tryz.ntmps45
def qe(p:gC)(o00:gB)(o01:gI):Option Bool:=
 (oB (o00,o01) p.2.1 p.2.2.1).bind fun r=>
 some r
instance JG{p:gC}{o00:gB}{o01:gI}:iU (qe p o00 o01) fun rr=>iH Tryz.prog 45 [.d (.agg [iq 1 iD p.1,iq 1 iD p.2.1,iq 1 iD p.2.2.1,iD p.2.2.2.1,iD p.2.2.2.2.1,iD p.2.2.2.2.2]),.ptr 0 0] [(0,.obj 32 [.d (iq 1 iD o00),.d (iq 2 ic o01)])] 1 fun xx ss=>xx=.d (bD rr)/\ss=[(0,.obj 32 [.d (iq 1 iD o00),.d (iq 2 ic o01)])]:=⟨@fun rr h=>by
 delta qe at h;refine Zw.kL (ia ?_);delta X2;refine iR ?_;refine rC h fun r hr h=>?_
 cases h;exact⟨[2],by simp,lM,lM⟩⟩
def nV(p:gC)(o10:gB)(o11:gI):Option Bool:=
 (qe p o10 o11).bind fun r=>
 some (!r)
instance Ga{p:gC}{o10:gB}{o11:gI}:iU (nV p o10 o11) fun rr=>iH Tryz.prog 91 [.d (.agg [iq 1 iD p.1,iq 1 iD p.2.1,iq 1 iD p.2.2.1,iD p.2.2.2.1,iD p.2.2.2.2.1,iD p.2.2.2.2.2]),.ptr 0 0] [(0,.obj 80 [.fn 45 [] [.ptr 1 0]]),(1,.obj 32 [.d (iq 1 iD o10),.d (iq 2 ic o11)])] 2 fun xx ss=>xx=.d (bD rr)/\ss=[(0,.obj 80 [.fn 45 [] [.ptr 1 0]]),(1,.obj 32 [.d (iq 1 iD o10),.d (iq 2 ic o11)])]:=⟨@fun rr h=>by
 delta nV at h;refine UQ.kL (ia ?_);delta Ro;refine iR ?_;refine wj (by kernel_rfl) ?_;refine qC [(0,1)] [] h fun r hr h=>?_
 cases h;exact⟨[2],by simp,lM,lM⟩⟩
def jw(s:gP)(o10:gB)(o11:gI):Int->Option (Int⊕Int)
 |v8=>
  if(decide (v8<(s.length:Int)))=true then
   if 0<=v8/\v8<(s.length:Int)then
    (nV ((s.getD v8.toNat default).1,(s.getD v8.toNat default).2.1,(s.getD v8.toNat default).2.2.1,(s.getD v8.toNat default).2.2.2.1,(s.getD v8.toNat default).2.2.2.2.1,(s.getD v8.toNat default).2.2.2.2.2) o10 o11).bind fun r=>
    if r=true then
     Option.map Sum.inr (
      some v8)
    else
     some (.inl (IntKind.i64.wrap (v8+1)))
   else none
  else
   Option.map Sum.inr (
    some (-1))
def ji(s:gP)(o10:gB)(o11:gI):Option Int:=
 iB (jw s o10 o11) 0
instance xR{s:gP}{o10:gB}{o11:gI}:iU (ji s o10 o11) fun rr=>iH Tryz.prog 155 [.d (iq 6 jC s),.fn 91 [] [.ptr 0 0]] [(0,.obj 80 [.fn 45 [] [.ptr 1 0]]),(1,.obj 32 [.d (iq 1 iD o10),.d (iq 2 ic o11)])] 2 fun xx ss=>xx=.d (iD rr)/\ss=[(0,.obj 80 [.fn 45 [] [.ptr 1 0]]),(1,.obj 32 [.d (iq 1 iD o10),.d (iq 2 ic o11)])]:=⟨@fun rr h=>by
 delta ji at h;refine NM.kL (ia ?_);delta J5;refine iR ?_;refine kA h [4,5,8,9,10,11,12,13,14,15,16,17,18] (fun pp=>[(8,.d (iD pp))]) (fun pp=>[(0,.obj 80 [.fn 45 [] [.ptr 1 0]]),(1,.obj 32 [.d (iq 1 iD o10),.d (iq 2 ic o11)])]) ?_;rintro v8 t1 h hb1;unfold jw at h;try dsimp only at h
 refine ia (iR ?_);refine iT h fun hc h=>?_
 refine kz h fun hp h=>?_
 refine wj (by kernel_rfl) ?_;refine qC [(0,0),(1,1)] [] h fun r hr h=>?_
 exact lP⟩
def ju(s:gP)(o10:gB)(o11:gI):Option Bool:=
 (ji s o10 o11).bind fun r=>
 some (decide (0<=r))
instance wG{s:gP}{o10:gB}{o11:gI}:iU (ju s o10 o11) fun rr=>iH Tryz.prog 90 [.d (iq 6 jC s),.fn 91 [] [.ptr 0 0]] [(0,.obj 80 [.fn 45 [] [.ptr 1 0]]),(1,.obj 32 [.d (iq 1 iD o10),.d (iq 2 ic o11)])] 2 fun xx ss=>xx=.d (bD rr)/\ss=[(0,.obj 80 [.fn 45 [] [.ptr 1 0]]),(1,.obj 32 [.d (iq 1 iD o10),.d (iq 2 ic o11)])]:=⟨@fun rr h=>by
 delta ju at h;refine UP.kL (ia ?_);delta Rn;refine iR ?_;refine qC [(0,0),(1,1)] [] h fun r hr h=>?_
 exact lP⟩
def oX(sys:gR)(o00:gB)(o01:gI):Option Bool:=
 (kP sys).bind fun r=>
 if r=true then
  (oY sys).bind fun r_1=>
  if r_1.2=true then
   (ju r_1.1 o00 o01).bind fun r_2=>
   some (!r_2)
  else
   some false
 else
  some false
instance H8{sys:gR}{o00:gB}{o01:gI}:iU (oX sys o00 o01) fun rr=>iH Tryz.prog 42 [.d (.agg [iq 1 iD sys.1,iq 2 ic sys.2]),.fn 45 [] [.ptr 0 0]] [(0,.obj 32 [.d (iq 1 iD o00),.d (iq 2 ic o01)])] 1 fun xx ss=>xx=.d (bD rr)/\ss=[(0,.obj 32 [.d (iq 1 iD o00),.d (iq 2 ic o01)])]:=⟨@fun rr h=>by
 delta oX at h;refine UO.kL (ia ?_);delta Rm;refine iR ?_;refine rC h fun r hr h=>?_
 refine it h (fun hc h=>?_) fun hc h=>?_
 ·refine T7 h fun r_1 hr_1 h=>?_
  refine it h (fun hc h=>?_) fun hc h=>?_
  ·refine qC [(0,3),(1,0)] [] h fun r_2 hr_2 h=>?_
   cases h;exact⟨[2,3],by simp,lM,lM⟩
  cases h;exact⟨[2,3],by simp,lM,lM⟩
 cases h;exact⟨[2,3],by simp,lM,lM⟩⟩
def XQ:ir:=
 (.seq (.ie (sq 1 [bo 1 32 0,mb false])) (.seq (.ie (sq 3 [la 2 1,.Cj 45 [] [(t0 1)],cf 42 [3,4]]++sq 2 [mv 5])) .ret))
theorem Zk:kS Tryz.prog 11 XQ 6 [.tmp 2]:=mf Tryz.func11 Tryz.ntmps11
def jE(sys:gR):Option Bool:=
 (oX sys sys.1 sys.2).bind fun r=>
 some r
instance Mh{sys:gR}:iU (jE sys) fun rr=>jW Tryz.prog 11 [iC sys] (bD rr):=⟨@fun rr h=>by
 delta jE at h;refine Zk.jz (ia ?_);delta XQ;refine iR ?_;refine qC [(0,1)] [] h fun r hr h=>?_
 exact lP⟩
end Go.Proofs.YtjgbnaihpicpgaaGreat
