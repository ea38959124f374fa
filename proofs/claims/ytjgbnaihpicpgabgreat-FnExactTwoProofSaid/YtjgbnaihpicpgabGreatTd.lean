/- A part of the proof about FnExactTwoProof (Lay, G0, G1, G2, Jx). -/
import Derived.Test.YtjgbnaihpicpgabGreatTa
import Derived.Test.YtjgbnaihpicpgabGreatTc
import Derived.Shelf.Spec.SlicesGrow
import Derived.Test.YtjgbnaihpicpgabGreatProg
import Derived.KernelRfl
import Derived.ProofKit
import Derived.OpenShut
import Derived.Below
set_option linter.all false
noncomputable section
namespace Go.Proofs
open Go.Shelf
def Tryz.Kv:Go.Shelf.Ren:=⟨fun|4=>167|n=>n,fun|22=>22|25=>2|3=>3|4=>4|9=>9|20=>20|0=>0|n=>n,fun|n=>n⟩
theorem Tryz.Wi:Go.Proofs.Lays8.n4 Tryz.prog Tryz.Kv:={
 mixed:=by kernel_rfl
 f4:=⟨Tryz.f167.name,by decide,Tryz.func167.trans (bP some (by kernel_rfl))⟩
 t0:=Tryz.underlying0
 a0:=Tryz.isAgg0
 z0:=Tryz.sizeOf0
 v0:=Tryz.zeroValue0
 t3:=Tryz.underlying3
 a3:=Tryz.isAgg3
 z3:=Tryz.sizeOf3
 v3:=Tryz.zeroValue3
 t4:=Tryz.underlying4
 a4:=Tryz.isAgg4
 z4:=Tryz.sizeOf4
 v4:=Tryz.zeroValue4
 t9:=Tryz.underlying9
 a9:=Tryz.isAgg9
 z9:=Tryz.sizeOf9
 v9:=Tryz.zeroValue9
 t20:=Tryz.underlying20
 a20:=Tryz.isAgg20
 z20:=Tryz.sizeOf20
 v20:=Tryz.zeroValue20
 t22:=Tryz.underlying22
 a22:=Tryz.isAgg22
 z22:=Tryz.sizeOf22
 v22:=Tryz.zeroValue22}
end Go.Proofs
namespace Go.Proofs.YtjgbnaihpicpgabGreat
open Go oq
theorem aaM:(Tryz.prog.follows .mixedOrders=true)=True:=eq_true (by kernel_rfl)
attribute [go_sem] aaM
instance:Inhabited ByteArray:=⟨ByteArray.empty⟩
end Go.Proofs.YtjgbnaihpicpgabGreat
namespace Go.Proofs.YtjgbnaihpicpgabGreat
open Go oq
attribute [local irreducible] uy zk yt nN mY oR kj C7 D_ BZ D9 Be vL mA oG Dk ju lM
set_option maxHeartbeats 4000000
set_option maxRecDepth 4000
def jw(x:gI):D:=.agg [(iH 1 iD) x]
def iC(x:gM):D:=.agg [(iH 1 iD) x.1,(iH 1 iD) x.2]
def iU(x:gW):D:=.agg [(iH 1 iD) x.1,(iH 2 iC) x.2]
instance:sW jw 1:=⟨fun _=>rfl⟩
instance:sW iC 2:=⟨fun _=>rfl⟩
instance:sW iU 2:=⟨fun _=>rfl⟩
attribute [go_sem] jw iC iU
def ae1:iJ:=
 (.seq (.iE (sq 1 [bo 1 34 0,mb false])) (.seq (.seq (.iE (sq 5 [fa 0 1,ld 5,ln 6,bi .lss 7 1,mv 8]++sg 9 false 10 [fa 0 1,ld 10,ln 11,bi .gtr 12 8]++sq 14 [po 9 13])) (.cond (t0 14) (.seq (.iE (sq 2 [mb false])) .ret) .skip)) (.seq (.seq (.iE (sq 15 [fa 0 1,ld 15,ln 16,mi 0])) (.block 0 (.loop (.seq (.iE (sq 19 [bn .lss 18 17])) (.seq (.cond (t0 19) .skip (.exit 0)) (.seq (.block 1 (.seq (.iE (sq 20 [ix 1 16 18,ld 20]++sq 4 [mv 21])) (.seq (.iE (sq 22 [mv 4,bi .lss 22 0,mv 23]++sg 24 false 25 [mv 4,bi .gtr 25 3]++sq 27 [po 24 26])) (.cond (t0 27) (.seq (.iE (sq 2 [mb false])) .ret) .skip)))) (.iE (sq 28 [bi .add 18 1]++sq 18 [mv 28])))))))) (.seq (.iE (sq 2 [mb true])) .ret))))
theorem agu:jV Tryz.prog 99 ae1 29 [.tmp 2]:=mf Tryz.func99 Tryz.ntmps99
def va(sig:gI):Int->Option gV
 |v18=>
  if(decide (v18<(sig.length:Int)))=true then
   if 0<=v18/\v18<(sig.length:Int)then
    if(decide ((sig.getD v18.toNat default)<0))=true then
     Option.map Sum.inr (
      some false)
    else
     if(decide (3<(sig.getD v18.toNat default)))=true then
      Option.map Sum.inr (
       some false)
     else
      some (.inl (IntKind.i64.wrap (v18+1)))
   else none
  else
   Option.map Sum.inr (
    some true)
def tZ(sig:gI):Option Bool:=
 if(decide ((sig.length:Int)<1))=true then
  some false
 else
  if(decide (8<(sig.length:Int)))=true then
   some false
  else
   iL (va sig) 0
instance VE{sig:gI}:jf (tZ sig) fun rr=>jK Tryz.prog 99 [jw sig] (bD rr):=⟨@fun rr h=>by
 delta tZ at h;refine agu.jv (iB ?_);delta ae1;refine jd ?_;refine iF h fun hc h=>?_
 refine iF h fun hc h=>?_
 refine kH h [2,4,18,19,20,21,22,23,24,25,26,27,28] (fun pp=>[(18,.d (iD pp))]) (fun pp=>[(1,.obj 34 [.d (iH 1 iD sig)])]) ?_;rintro v18 t1 h hb1;unfold va at h;try dsimp only at h
 refine iB (jd ?_);exact lW⟩
def Yx:iJ:=
 (.seq (.iE (sq 2 [mi 0])) (.seq (.seq (.iE (sq 5 [mv 0,ln 5,bi .lss 6 1])) (.cond (t0 7) (.iE (sq 8 [.DG 9 (.const (.string {data:=#[115,108,105,99,101,115,46,77,105,110,58,32,101,109,112,116,121,32,108,105,115,116]}))]++s0 (.Hz (t0 8)))) .skip)) (.seq (.iE (sq 9 [mv 0,.xR 1 (t0 9) (i0 0),ld 10]++sq 3 [mv 11])) (.seq (.seq (.iE (sq 4 [mi 1])) (.block 0 (.loop (.seq (.seq (.iE (sq 12 [mv 4,mv 0,ln 13,bn .lss 12 14])) (.cond (t0 15) .skip (.exit 0))) (.seq (.block 1 (.iE (sq 18 [mv 3,mv 0,mv 4,ix 1 19 20,ld 21,.min (t0 18) (t0 22)]++sq 3 [mv 23]))) (.iE (sq 16 [mv 4,bi .add 16 1]++sq 4 [mv 17]))))))) (.seq (.iE (sq 24 [mv 3]++sq 2 [mv 24])) .ret)))))
theorem abD:jV Tryz.prog 107 Yx 25 [.tmp 2]:=mf Tryz.func107 Tryz.ntmps107
def oz(x:gI):gP->Option ie
 |(m,i)=>
  if(decide (i<(x.length:Int)))=true then
   if 0<=i/\i<(x.length:Int)then
    some (.inl ((if(x.getD i.toNat default)<m then(x.getD i.toNat default)else m),(IntKind.i64.wrap (i+1))))
   else none
  else
   Option.map Sum.inr (
    some m)
def ki(x:gI):Option Int:=
 if(decide ((x.length:Int)<1))=true then
  none
 else
  if 0<=0/\0<(x.length:Int)then
   iL (oz x) ((x.getD 0 default),1)
  else none
instance HG{x:gI}:jf (ki x) fun rr=>jK Tryz.prog 107 [(iH 1 iD) x] (iD rr):=⟨@fun rr h=>by
 delta ki at h;refine abD.jv (iB ?_);delta Yx;refine jd ?_;refine iF h fun hc h=>?_
 refine jZ h fun hp h=>?_
 refine kH h [3,4,12,13,14,15,16,17,18,19,20,21,22,23] (fun pp=>[(3,.d (iD pp.1)),(4,.d (iD pp.2))]) (fun pp=>[]) ?_;rintro⟨m,i⟩ t1 h hb1;unfold oz at h;try dsimp only at h
 refine iB (jd ?_);exact lW⟩
def Yz:iJ:=
 (.seq (.iE (sq 2 [bo 2 34 0]++sq 4 [mi 0])) (.seq (.seq (.iE (sq 5 [mv 1,bi .lss 5 0])) (.cond (t0 6) (.seq (.iE (sq 4 [mi 0])) .ret) .skip)) (.seq (.iE (sq 7 [fa 0 2,ld 7,mv 1,ix 1 8 9,ld 10]++sq 4 [mv 11])) .ret)))
theorem abF:jV Tryz.prog 109 Yz 12 [.tmp 4]:=mf Tryz.func109 Tryz.ntmps109
def oV(sig:gI)(n:Int):Option Int:=
 if(decide (n<0))=true then
  some 0
 else
  if 0<=n/\n<(sig.length:Int)then
   some (sig.getD n.toNat default)
  else none
instance R4{sig:gI}{n:Int}:jf (oV sig n) fun rr=>jK Tryz.prog 109 [jw sig,iD n] (iD rr):=⟨@fun rr h=>by
 delta oV at h;refine abF.jv (iB ?_);delta Yz;refine jd ?_;exact lW⟩
def Zg:iJ:=
 (.seq (.iE (sq 2 [mi 0])) (.seq (.seq (.draw (sq 3 [mv 0,.pY (t0 3),fa 2 4,ld 5,mv 0,.pY (t0 7),fa 1 8,ld 9,ln 10,bn .geq 6 11,mv 12]++sg 13 false 14 [mv 0,.pY (t0 14),fa 1 15,ld 16,mv 0,.pY (t0 18),fa 2 19,ld 20,ix 1 17 21,ld 22,mv 0,.pY (t0 24),fa 0 25,fa 0 26,ld 27,ln 28,bn .geq 23 29]++sq 31 [po 13 30]) [[],[0],[1],[2],[],[4],[5],[6],[7],[3,8],[9],[10],[11,10],[12,10],[13,10],[10],[15,10],[16,10],[17,10],[14,18,10],[19,10],[10],[21,10],[22,10],[23,10],[24,10],[25,10],[20,26,10],[10,27]]) (.cond (t0 31) (.seq (.iE (sq 2 [mi (-1)])) .ret) .skip)) (.seq (.iE (sq 32 [mv 0,.pY (t0 32),fa 2 33,ld 34,bi .add 35 1,.pY (t0 32),fa 2 37]++s0 (sr 1 38 36))) (.seq (.draw (sq 39 [mv 0,.pY (t0 39),fa 0 40,la 1 41,mv 0,.pY (t0 43),fa 1 44,ld 45,mv 0,.pY (t0 47),fa 2 48,ld 49,bi .sub 50 1,ix 1 46 51,ld 52,cf 109 [42,53]]++sq 2 [mv 54]) [[],[0],[1],[2],[],[4],[5],[6],[],[8],[9],[10],[11],[7,12],[13],[3,14],[15,15,0,1,2,3,4,5,6,7,8,9,10,11,12,13,14,15]]) .ret))))
theorem acq:jV Tryz.prog 158 Zg 55 [.tmp 2]:=mf Tryz.func158 Tryz.ntmps158
def oW(c0:gI)(c1:gI)(c2:Int):Option gP:=
 if(decide ((c1.length:Int)<=c2))=true then
  some ((-1),c2)
 else
  if 0<=c2/\c2<(c1.length:Int)then
   if(decide ((c0.length:Int)<=(c1.getD c2.toNat default)))=true then
    some ((-1),c2)
   else
    if 0<=(IntKind.i64.wrap ((IntKind.i64.wrap (c2+1))-1))/\(IntKind.i64.wrap ((IntKind.i64.wrap (c2+1))-1))<(c1.length:Int)then
     (oV c0 (c1.getD (IntKind.i64.wrap ((IntKind.i64.wrap (c2+1))-1)).toNat default)).bind fun r=>
     some (r,(IntKind.i64.wrap (c2+1)))
    else none
  else none
instance LZ{c0:gI}{c1:gI}{c2:Int}:jf (oW c0 c1 c2) fun rr=>iR Tryz.prog 158 [.ptr 0 0] [(0,.obj 176 [.d (iH 1 iD c0),.d (iH 1 iD c1),.d (iD c2)])] 1 fun xx ss=>xx=.d (iD rr.1)/\ss=[(0,.obj 176 [.d (iH 1 iD c0),.d (iH 1 iD c1),.d (iD rr.2)])]:=⟨@fun rr h=>by
 delta oW at h;refine acq.oo (iB ?_);delta Zg;refine jd ?_;exact lW⟩
def YY:iJ:=
 (.seq (.iE (sq 2 [mb false])) (.seq (.seq (.iE (sq 3 [mi 1])) (.block 0 (.loop (.seq (.seq (.iE (sq 5 [mv 3,bi .gtr 5 0])) (.cond (t0 6) .skip (.exit 0))) (.seq (.block 1 (.seq (.iE (sq 9 [mv 0,cf 158 [9]]++sq 4 [mv 10])) (.seq (.seq (.iE (sq 11 [mv 4,bi .lss 11 0])) (.cond (t0 12) (.seq (.iE (sq 2 [mb false])) .ret) .skip)) (.iE (sq 13 [mv 3,mv 4,bn .add 13 14]++sq 3 [mv 15]))))) (.iE (sq 7 [mv 3,bi .sub 7 1]++sq 3 [mv 8]))))))) (.seq (.iE (sq 2 [mb true])) .ret)))
theorem ab4:jV Tryz.prog 137 YY 16 [.tmp 2]:=mf Tryz.func137 Tryz.ntmps137
def pO(c0:gI)(c1:gI):gP->Option (gP⊕(Bool×Int))
 |(need,c)=>
  if(decide (0<need))=true then
   (oW c0 c1 c).bind fun r=>
   if(decide (r.1<0))=true then
    Option.map Sum.inr (
     some (false,r.2))
   else
    some (.inl ((IntKind.i64.wrap ((IntKind.i64.wrap (need+r.1))-1)),r.2))
  else
   Option.map Sum.inr (
    some (true,c))
def lV(c0:gI)(c1:gI)(c2:Int):Option (Bool×Int):=
 iL (pO c0 c1) (1,c2)
instance L0{c0:gI}{c1:gI}{c2:Int}:jf (lV c0 c1 c2) fun rr=>iR Tryz.prog 137 [.ptr 0 0] [(0,.obj 176 [.d (iH 1 iD c0),.d (iH 1 iD c1),.d (iD c2)])] 1 fun xx ss=>xx=.d (bD rr.1)/\ss=[(0,.obj 176 [.d (iH 1 iD c0),.d (iH 1 iD c1),.d (iD rr.2)])]:=⟨@fun rr h=>by
 delta lV at h;refine ab4.oo (iB ?_);delta YY;refine jd ?_;refine kH h [2,3,4,5,6,7,8,9,10,11,12,13,14,15] (fun pp=>[(3,.d (iD pp.1))]) (fun pp=>[(0,.obj 176 [.d (iH 1 iD c0),.d (iH 1 iD c1),.d (iD pp.2)])]) ?_;rintro⟨need,c⟩ t1 h hb1;unfold pO at h;try dsimp only at h
 refine iB (jd ?_);refine iT h fun hc h=>?_
 refine tg [(0,0)] [] h fun r hr h=>?_
 exact lW⟩
def Yy:iJ:=
 (.seq (.iE (sq 3 [bo 3 34 0]++sq 6 [mi 0])) (.seq (.iE (sq 8 [la 1 3,mv 1,mv 2,.build [.sl 0 (some true) [],.sl 0 (some true) [],.lit (.int .i64 0)] [(0,1,(t0 8)),(1,1,(t0 9)),(2,1,(t0 10))]]++sq 7 [.alloc 7 176 [.sl 0 (some true) [],.sl 0 (some true) [],.lit (.int .i64 0)]]++s0 (sr 3 7 11))) (.seq (.seq (.iE (sq 12 [cf 137 [7],nt 12])) (.cond (t0 13) (.seq (.iE (sq 6 [mi (-1)])) .ret) .skip)) (.seq (.iE (sq 14 [fa 2 7,ld 14]++sq 6 [mv 15])) .ret))))
theorem abE:jV Tryz.prog 108 Yy 16 [.tmp 6]:=mf Tryz.func108 Tryz.ntmps108
def mF(sig:gI)(t:gI)(iY:Int):Option Int:=
 (lV sig t iY).bind fun r=>
 if r.1=true then
  some r.2
 else
  some (-1)
instance VF{sig:gI}{t:gI}{iY:Int}:jf (mF sig t iY) fun rr=>jK Tryz.prog 108 [jw sig,(iH 1 iD) t,iD iY] (iD rr):=⟨@fun rr h=>by
 delta mF at h;refine abE.jv (iB ?_);delta Yy;refine jd ?_;refine tg [(0,7)] [] h fun r hr h=>?_
 exact lW⟩
def aes:iJ:=
 (.seq (.iE (sq 2 [bo 2 34 0]++sq 4 [mb false])) (.seq (.iE (sq 5 [la 1 2,cf 99 [5],mv 6]++sg 7 true 8 [mv 1,ln 8,bi .gtr 9 0]++sq 11 [pa 7 10,mv 11]++sg 12 true 13 [mv 1,ln 13,bi .leq 14 60]++sq 16 [pa 12 15,mv 16]++sg 17 true 18 [mv 1,cf 107 [18],bi .geq 19 (-24)]++sq 21 [pa 17 20,mv 21]++sg 22 true 23 [la 1 2,mv 1,.mB 108 [(t0 23),(t0 24),(i0 0)],mv 1,ln 26,bn .eql 25 27]++sq 29 [pa 22 28]++sq 4 [mv 29])) .ret))
theorem afV:jV Tryz.prog 61 aes 30 [.tmp 4]:=mf Tryz.func61 Tryz.ntmps61
def oC(sig:gI)(t:gI):Option Bool:=
 (tZ sig).bind fun r=>
 if r=true then
  if(decide (0<(t.length:Int)))=true then
   if(decide ((t.length:Int)<=60))=true then
    (ki t).bind fun r_1=>
    if(decide ((-24)<=r_1))=true then
     (mF sig t 0).bind fun r_2=>
     some (r_2==(t.length:Int))
    else
     some false
   else
    some false
  else
   some false
 else
  some false
instance UK{sig:gI}{t:gI}:jf (oC sig t) fun rr=>jK Tryz.prog 61 [jw sig,(iH 1 iD) t] (bD rr):=⟨@fun rr h=>by
 delta oC at h;refine afV.jv (iB ?_);delta aes;refine jd ?_;exact lW⟩
def aed:iJ:=
 (.seq (.iE (sq 6 [mb false])) (.seq (.iE (sq 7 [mv 0,mv 1,bn .geq 7 8,mv 9]++sg 10 true 11 [mv 0,mv 2,bn .leq 11 12]++sq 14 [pa 10 13]++sq 6 [mv 14])) .ret))
theorem afG:jV Tryz.prog 44 aed 15 [.tmp 6]:=mf Tryz.func44 Tryz.ntmps44
def kF(x:Int)(lo:Int)(hi:Int):Option Bool:=
 if(decide (lo<=x))=true then
  some (decide (x<=hi))
 else
  some false
instance X_{x:Int}{lo:Int}{hi:Int}:jf (kF x lo hi) fun rr=>jK Tryz.prog 44 [iD x,iD lo,iD hi] (bD rr):=⟨@fun rr h=>by
 delta kF at h;refine afG.jv (iB ?_);delta aed;refine jd ?_;exact lW⟩
def ad_:iJ:=
 (.seq (.iE (sq 1 [bo 1 34 0,mb false])) (.seq (.seq (.iE (sq 4 [fa 0 1,ld 4,ln 5,.mB 44 [(t0 6),(i0 1),(i0 8)],nt 7])) (.cond (t0 8) (.seq (.iE (sq 2 [mb false])) .ret) .skip)) (.seq (.seq (.iE (sq 3 [mi 0])) (.block 0 (.loop (.seq (.seq (.iE (sq 9 [mv 3,fa 0 1,ld 10,ln 11,bn .lss 9 12])) (.cond (t0 13) .skip (.exit 0))) (.seq (.block 1 (.seq (.iE (sq 16 [fa 0 1,ld 16,mv 3,ix 1 17 18,ld 19,.mB 44 [(t0 20),(i0 0),(i0 3)],nt 21])) (.cond (t0 22) (.seq (.iE (sq 2 [mb false])) .ret) .skip))) (.iE (sq 14 [mv 3,bi .add 14 1]++sq 3 [mv 15]))))))) (.seq (.iE (sq 2 [mb true])) .ret))))
theorem afC:jV Tryz.prog 40 ad_ 23 [.tmp 2]:=mf Tryz.func40 Tryz.ntmps40
def vf(sig:gI):Int->Option gV
 |f=>
  if(decide (f<(sig.length:Int)))=true then
   if 0<=f/\f<(sig.length:Int)then
    (kF (sig.getD f.toNat default) 0 3).bind fun r_1=>
    if r_1=true then
     some (.inl (IntKind.i64.wrap (f+1)))
    else
     Option.map Sum.inr (
      some false)
   else none
  else
   Option.map Sum.inr (
    some true)
def uh(sig:gI):Option Bool:=
 (kF (sig.length:Int) 1 8).bind fun r=>
 if r=true then
  iL (vf sig) 0
 else
  some false
instance VS{sig:gI}:jf (uh sig) fun rr=>jK Tryz.prog 40 [jw sig] (bD rr):=⟨@fun rr h=>by
 delta uh at h;refine afC.jv (iB ?_);delta ad_;refine jd ?_;refine rC h fun r hr h=>?_
 refine iT h fun hc h=>?_
 refine kH h [2,3,9,10,11,12,13,14,15,16,17,18,19,20,21,22] (fun pp=>[(3,.d (iD pp))]) (fun pp=>[(1,.obj 34 [.d (iH 1 iD sig)])]) ?_;rintro f t1 h hb1;unfold vf at h;try dsimp only at h
 refine iB (jd ?_);exact lW⟩
def aeM:iJ:=
 (.seq (.iE (sq 2 [bo 2 34 0]++sq 4 [mi 0])) (.seq (.block 0 (.seq (.iE (sq 6 [mv 1,.mB 44 [(t0 6),(i0 (-24)),(i0 (-1))]]++sq 5 [mv 7])) (.cond (t0 5) (.seq (.iE (sq 4 [mi 0])) .ret) (.seq (.iE (sq 9 [mv 1,fa 0 2,ld 10,ln 11,bi .sub 12 1,.mB 44 [(t0 9),(i0 0),(t0 13)]]++sq 8 [mv 14])) (.cond (t0 8) (.seq (.iE (sq 15 [fa 0 2,ld 15,mv 1,ix 1 16 17,ld 18]++sq 4 [mv 19])) .ret) .skip))))) (.seq (.iE (sq 4 [mi (-1)])) .ret)))
theorem age:jV Tryz.prog 84 aeM 20 [.tmp 4]:=mf Tryz.func84 Tryz.ntmps84
def rA(sig:gI)(n:Int):Option Int:=
 (kF n (-24) (-1)).bind fun r=>
 if r=true then
  some 0
 else
  (kF n 0 (IntKind.i64.wrap ((sig.length:Int)-1))).bind fun r_1=>
  if r_1=true then
   if 0<=n/\n<(sig.length:Int)then
    some (sig.getD n.toNat default)
   else none
  else
   some (-1)
instance Sk{sig:gI}{n:Int}:jf (rA sig n) fun rr=>jK Tryz.prog 84 [jw sig,iD n] (iD rr):=⟨@fun rr h=>by
 delta rA at h;refine age.jv (iB ?_);delta aeM;refine jd ?_;exact lW⟩
def aeL:iJ:=
 (.seq (.iE (sq 3 [bo 3 34 0]++sq 6 [mi 0])) (.seq (.iE (sq 7 [mi 1])) (.seq (.seq (.iE (sq 10 [mv 2]++sq 8 [mv 10])) (.block 0 (.loop (.seq (.seq (.iE (sq 11 [mv 8,mv 1,ln 12,bn .lss 11 13])) (.cond (t0 14) .skip (.exit 0))) (.seq (.block 1 (.seq (.draw (sq 17 [la 1 3,mv 1,mv 8,ix 1 18 19,ld 20,cf 84 [17,21]]++sq 9 [mv 22]) [[],[],[],[1,2],[3],[0,4],[5,5,0,1,2,3,4,5]]) (.seq (.seq (.iE (sq 23 [mv 9,bi .lss 23 0])) (.cond (t0 24) (.seq (.iE (sq 6 [mi (-1)])) .ret) .skip)) (.seq (.iE (sq 25 [mv 7,mv 9,bn .add 25 26,bi .sub 27 1]++sq 7 [mv 28])) (.seq (.iE (sq 29 [mv 7,bi .eql 29 0])) (.cond (t0 30) (.seq (.iE (sq 31 [mv 8,bi .add 31 1]++sq 6 [mv 32])) .ret) .skip)))))) (.iE (sq 15 [mv 8,bi .add 15 1]++sq 8 [mv 16]))))))) (.seq (.iE (sq 6 [mi (-1)])) .ret))))
theorem agd:jV Tryz.prog 83 aeL 33 [.tmp 6]:=mf Tryz.func83 Tryz.ntmps83
def x_(sig:gI)(t:gI):gP->Option ie
 |(need,i)=>
  if(decide (i<(t.length:Int)))=true then
   if 0<=i/\i<(t.length:Int)then
    (rA sig (t.getD i.toNat default)).bind fun r=>
    if(decide (r<0))=true then
     Option.map Sum.inr (
      some (-1))
    else
     if((IntKind.i64.wrap ((IntKind.i64.wrap (need+r))-1))==0)=true then
      Option.map Sum.inr (
       some (IntKind.i64.wrap (i+1)))
     else
      some (.inl ((IntKind.i64.wrap ((IntKind.i64.wrap (need+r))-1)),(IntKind.i64.wrap (i+1))))
   else none
  else
   Option.map Sum.inr (
    some (-1))
def nK(sig:gI)(t:gI)(iY:Int):Option Int:=
 iL (x_ sig t) (1,iY)
instance VT{sig:gI}{t:gI}{iY:Int}:jf (nK sig t iY) fun rr=>jK Tryz.prog 83 [jw sig,(iH 1 iD) t,iD iY] (iD rr):=⟨@fun rr h=>by
 delta nK at h;refine agd.jv (iB ?_);delta aeL;refine jd ?_;refine kH h [6,7,8,9,11,12,13,14,15,16,17,18,19,20,21,22,23,24,25,26,27,28,29,30,31,32] (fun pp=>[(7,.d (iD pp.1)),(8,.d (iD pp.2))]) (fun pp=>[(3,.obj 34 [.d (iH 1 iD sig)])]) ?_;rintro⟨need,i⟩ t1 h hb1;unfold x_ at h;try dsimp only at h
 refine iB (jd ?_);exact lW⟩
def aeb:iJ:=
 (.seq (.iE (sq 2 [bo 2 34 0]++sq 4 [mb false])) (.seq (.iE (sq 5 [la 1 2,cf 40 [5],mv 6]++sg 7 true 8 [mv 1,ln 8,.mB 44 [(t0 9),(i0 1),(i0 60)]]++sq 11 [pa 7 10,mv 11]++sg 12 true 13 [la 1 2,mv 1,.mB 83 [(t0 13),(t0 14),(i0 0)],mv 1,ln 16,bn .eql 15 17]++sq 19 [pa 12 18]++sq 4 [mv 19])) .ret))
theorem afE:jV Tryz.prog 42 aeb 20 [.tmp 4]:=mf Tryz.func42 Tryz.ntmps42
def nH(sig:gI)(t:gI):Option Bool:=
 (uh sig).bind fun r=>
 if r=true then
  (kF (t.length:Int) 1 60).bind fun r_1=>
  if r_1=true then
   (nK sig t 0).bind fun r_2=>
   some (r_2==(t.length:Int))
  else
   some false
 else
  some false
instance U2{sig:gI}{t:gI}:jf (nH sig t) fun rr=>jK Tryz.prog 42 [jw sig,(iH 1 iD) t] (bD rr):=⟨@fun rr h=>by
 delta nH at h;refine afE.jv (iB ?_);delta aeb;refine jd ?_;exact lW⟩
def Za:iJ:=
 (.seq (.iE (sq 4 [mi 0])) (.seq (.seq (.iE (sq 6 [mv 0,ln 6,mi 0])) (.block 0 (.loop (.seq (.iE (sq 9 [bn .lss 8 7])) (.seq (.cond (t0 9) .skip (.exit 0)) (.seq (.block 1 (.seq (.iE (sq 10 [mv 8]++sq 5 [mv 10])) (.seq (.iE (sq 11 [mv 1,mv 0,mv 5,ix 1 12 13,ld 14,bn .eql 11 15])) (.cond (t0 16) (.seq (.iE (sq 17 [mv 5]++sq 4 [mv 17])) .ret) .skip)))) (.iE (sq 18 [bi .add 8 1]++sq 8 [mv 18])))))))) (.seq (.iE (sq 4 [mi (-1)])) .ret)))
theorem acj:jV Tryz.prog 151 Za 19 [.tmp 4]:=mf Tryz.func151 Tryz.ntmps151
def kQ(s:gI)(v:Int):Int->Option (Int⊕Int)
 |v8=>
  if(decide (v8<(s.length:Int)))=true then
   if 0<=v8/\v8<(s.length:Int)then
    if(v==(s.getD v8.toNat default))=true then
     Option.map Sum.inr (
      some v8)
    else
     some (.inl (IntKind.i64.wrap (v8+1)))
   else none
  else
   Option.map Sum.inr (
    some (-1))
def jH(s:gI)(v:Int):Option Int:=
 iL (kQ s v) 0
instance Gj{s:gI}{v:Int}:jf (jH s v) fun rr=>jK Tryz.prog 151 [(iH 1 iD) s,iD v] (iD rr):=⟨@fun rr h=>by
 delta jH at h;refine acj.jv (iB ?_);delta Za;refine jd ?_;refine kH h [4,5,8,9,10,11,12,13,14,15,16,17,18] (fun pp=>[(8,.d (iD pp))]) (fun pp=>[]) ?_;rintro v8 t1 h hb1;unfold kQ at h;try dsimp only at h
 refine iB (jd ?_);exact lW⟩
def YP:iJ:=
 (.seq (.iE (sq 4 [mb false])) (.seq (.iE (sq 5 [mv 0,mv 1,cf 151 [5,6],bi .geq 7 0]++sq 4 [mv 8])) .ret))
theorem abV:jV Tryz.prog 126 YP 9 [.tmp 4]:=mf Tryz.func126 Tryz.ntmps126
def kP(s:gI)(v:Int):Option Bool:=
 (jH s v).bind fun r=>
 some (decide (0<=r))
instance E2{s:gI}{v:Int}:jf (kP s v) fun rr=>jK Tryz.prog 126 [(iH 1 iD) s,iD v] (bD rr):=⟨@fun rr h=>by
 delta kP at h;refine abV.jv (iB ?_);delta YP;refine jd ?_;exact lW⟩
def Yq:iJ:=
 (.seq (.iE (sq 2 [bo 2 34 0,bo 3 54 1,mb false])) (.seq (.seq (.iE (sq 7 [la 1 2,fa 0 3,ld 8,cf 61 [7,9],nt 10,mv 11]++sg 12 false 13 [la 1 2,fa 1 3,ld 14,cf 61 [13,15],nt 16]++sq 18 [po 12 17,mv 18]++sg 19 false 20 [fa 0 3,ld 20,.xR 1 (t0 21) (i0 0),ld 22,bi .lss 23 0]++sq 25 [po 19 24])) (.cond (t0 25) (.seq (.iE (sq 4 [mb false])) .ret) .skip)) (.seq (.seq (.iE (sq 26 [fa 1 3,ld 26,ln 27,mi 0])) (.block 0 (.loop (.seq (.iE (sq 30 [bn .lss 29 28])) (.seq (.cond (t0 30) .skip (.exit 0)) (.seq (.block 1 (.seq (.iE (sq 31 [ix 1 27 29,ld 31]++sq 6 [mv 32])) (.seq (.iE (sq 33 [mv 6,bi .lss 33 0,mv 34]++sg 35 true 36 [fa 0 3,ld 36,mv 6,cf 126 [37,38],nt 39]++sq 41 [pa 35 40])) (.cond (t0 41) (.seq (.iE (sq 4 [mb false])) .ret) .skip)))) (.iE (sq 42 [bi .add 29 1]++sq 29 [mv 42])))))))) (.seq (.iE (sq 4 [mb true])) .ret))))
theorem abw:jV Tryz.prog 100 Yq 43 [.tmp 4]:=mf Tryz.func100 Tryz.ntmps100
def tY(r:gM):Int->Option gV
 |v29=>
  if(decide (v29<(r.2.length:Int)))=true then
   if 0<=v29/\v29<(r.2.length:Int)then
    if(decide ((r.2.getD v29.toNat default)<0))=true then
     (kP r.1 (r.2.getD v29.toNat default)).bind fun r_3=>
     if r_3=true then
      some (.inl (IntKind.i64.wrap (v29+1)))
     else
      Option.map Sum.inr (
       some false)
    else
     some (.inl (IntKind.i64.wrap (v29+1)))
   else none
  else
   Option.map Sum.inr (
    some true)
def uJ(sig:gI)(r:gM):Option Bool:=
 (oC sig r.1).bind fun r_1=>
 if r_1=true then
  (oC sig r.2).bind fun r_2=>
  if r_2=true then
   if 0<=0/\0<(r.1.length:Int)then
    if(decide ((r.1.getD 0 default)<0))=true then
     some false
    else
     iL (tY r) 0
   else none
  else
   some false
 else
  some false
instance UJ{sig:gI}{r:gM}:jf (uJ sig r) fun rr=>jK Tryz.prog 100 [jw sig,iC r] (bD rr):=⟨@fun rr h=>by
 delta uJ at h;refine abw.jv (iB ?_);delta Yq;refine jd ?_;refine rC h fun r_1 hr_1 h=>?_
 refine iT h fun hc h=>?_
 refine rC h fun r_2 hr_2 h=>?_
 refine iT h fun hc h=>?_
 refine jZ h fun hp h=>?_
 refine iF h fun hc h=>?_
 refine kH h [4,6,29,30,31,32,33,34,35,36,37,38,39,40,41,42] (fun pp=>[(29,.d (iD pp))]) (fun pp=>[(2,.obj 34 [.d (iH 1 iD sig)]),(3,.obj 54 [.d (iH 1 iD r.1),.d (iH 1 iD r.2)])]) ?_;rintro v29 t1 h hb1;unfold tY at h;try dsimp only at h
 refine iB (jd ?_);exact lW⟩
def aen:iJ:=
 (.seq (.iE (sq 1 [bo 1 37 0,mb false])) (.seq (.seq (.iE (sq 5 [fa 0 1,la 1 5,cf 99 [6],nt 7,mv 8]++sg 9 false 10 [fa 1 1,ld 10,ln 11,bi .gtr 12 12]++sq 14 [po 9 13])) (.cond (t0 14) (.seq (.iE (sq 2 [mb false])) .ret) .skip)) (.seq (.seq (.iE (sq 15 [fa 1 1,ld 15,ln 16,mi 0])) (.block 0 (.loop (.seq (.iE (sq 19 [bn .lss 18 17])) (.seq (.cond (t0 19) .skip (.exit 0)) (.seq (.block 1 (.seq (.iE (sq 20 [ix 2 16 18,la 2 20]++sq 4 [.alloc 4 54 [.sl 0 (some true) [],.sl 0 (some true) []]]++s0 (sr 2 4 21))) (.seq (.iE (sq 22 [fa 0 1,la 1 22,la 2 4,cf 100 [23,24],nt 25])) (.cond (t0 26) (.seq (.iE (sq 2 [mb false])) .ret) .skip)))) (.iE (sq 27 [bi .add 18 1]++sq 18 [mv 27])))))))) (.seq (.iE (sq 2 [mb true])) .ret))))
theorem afQ:jV Tryz.prog 56 aen 28 [.tmp 2]:=mf Tryz.func56 Tryz.ntmps56
def rV(sys:gW):Int->Option gV
 |v18=>
  if(decide (v18<(sys.2.length:Int)))=true then
   if 0<=v18/\v18<(sys.2.length:Int)then
    (uJ sys.1 ((sys.2.getD v18.toNat default).1,(sys.2.getD v18.toNat default).2)).bind fun r_1=>
    if r_1=true then
     some (.inl (IntKind.i64.wrap (v18+1)))
    else
     Option.map Sum.inr (
      some false)
   else none
  else
   Option.map Sum.inr (
    some true)
def pZ(sys:gW):Option Bool:=
 (tZ sys.1).bind fun r=>
 if r=true then
  if(decide (12<(sys.2.length:Int)))=true then
   some false
  else
   iL (rV sys) 0
 else
  some false
instance Q6{sys:gW}:jf (pZ sys) fun rr=>jK Tryz.prog 56 [iU sys] (bD rr):=⟨@fun rr h=>by
 delta pZ at h;refine afQ.jv (iB ?_);delta aen;refine jd ?_;refine rC h fun r hr h=>?_
 refine iT h fun hc h=>?_
 refine iF h fun hc h=>?_
 refine kH h [2,4,18,19,20,21,22,23,24,25,26,27] (fun pp=>[(18,.d (iD pp))]) (fun pp=>[(1,.obj 37 [.d (iH 1 iD sys.1),.d (iH 2 iC sys.2)])]) ?_;rintro v18 t1 h hb1;unfold rV at h;try dsimp only at h
 refine iB (jd ?_);refine iT h fun hc h=>?_
 refine jZ h fun hp h=>?_
 refine rC h fun r_1 hr_1 h=>?_
 refine iT h fun hc h=>?_
 cases h;refine⟨_,rfl,?_⟩;refine(iW.drop 4 iA).trans ?_;exact wk⟩
def aeK:iJ:=
 (.seq (.iE (sq 4 [mb false])) (.seq (.seq (.iE (sq 5 [mi 0])) (.block 0 (.loop (.seq (.seq (.iE (sq 6 [mv 5,mv 0,ln 7,bn .lss 6 8])) (.cond (t0 9) .skip (.exit 0))) (.seq (.block 1 (.seq (.iE (sq 12 [mv 0,mv 5,ix 1 12 13,ld 14,mv 1,bn .eql 15 16])) (.cond (t0 17) (.seq (.iE (sq 4 [mb true])) .ret) .skip))) (.iE (sq 10 [mv 5,bi .add 10 1]++sq 5 [mv 11]))))))) (.seq (.iE (sq 4 [mb false])) .ret)))
theorem agc:jV Tryz.prog 82 aeK 18 [.tmp 4]:=mf Tryz.func82 Tryz.ntmps82
def vg(s:gI)(n:Int):Int->Option gV
 |i=>
  if(decide (i<(s.length:Int)))=true then
   if 0<=i/\i<(s.length:Int)then
    if((s.getD i.toNat default)==n)=true then
     Option.map Sum.inr (
      some true)
    else
     some (.inl (IntKind.i64.wrap (i+1)))
   else none
  else
   Option.map Sum.inr (
    some false)
def um(s:gI)(n:Int):Option Bool:=
 iL (vg s n) 0
instance VU{s:gI}{n:Int}:jf (um s n) fun rr=>jK Tryz.prog 82 [(iH 1 iD) s,iD n] (bD rr):=⟨@fun rr h=>by
 delta um at h;refine agc.jv (iB ?_);delta aeK;refine jd ?_;refine kH h [4,5,6,7,8,9,10,11,12,13,14,15,16,17] (fun pp=>[(5,.d (iD pp))]) (fun pp=>[]) ?_;rintro i t1 h hb1;unfold vg at h;try dsimp only at h
 refine iB (jd ?_);exact lW⟩
def aea:iJ:=
 (.seq (.iE (sq 2 [bo 2 34 0,bo 3 54 1,mb false])) (.seq (.seq (.iE (sq 6 [la 1 2,fa 0 3,ld 7,cf 42 [6,8],nt 9,mv 10]++sg 11 false 12 [la 1 2,fa 1 3,ld 13,cf 42 [12,14],nt 15]++sq 17 [po 11 16,mv 17]++sg 18 false 19 [fa 0 3,ld 19,.xR 1 (t0 20) (i0 0),ld 21,bi .lss 22 0]++sq 24 [po 18 23])) (.cond (t0 24) (.seq (.iE (sq 4 [mb false])) .ret) .skip)) (.seq (.seq (.iE (sq 5 [mi 0])) (.block 0 (.loop (.seq (.seq (.iE (sq 25 [mv 5,fa 1 3,ld 26,ln 27,bn .lss 25 28])) (.cond (t0 29) .skip (.exit 0))) (.seq (.block 1 (.seq (.draw (sq 32 [fa 1 3,ld 32,mv 5,ix 1 33 34,ld 35,bi .lss 36 0,mv 37]++sg 38 true 39 [fa 0 3,ld 39,fa 1 3,ld 41,mv 5,ix 1 42 43,ld 44,cf 82 [40,45],nt 46]++sq 48 [pa 38 47]) [[],[0],[],[1,2],[3],[4],[5],[6],[7,6],[6],[9,6],[6],[10,11,6],[12,6],[8,13,6,6],[14,6],[6,15]]) (.cond (t0 48) (.seq (.iE (sq 4 [mb false])) .ret) .skip))) (.iE (sq 30 [mv 5,bi .add 30 1]++sq 5 [mv 31]))))))) (.seq (.iE (sq 4 [mb true])) .ret))))
theorem afD:jV Tryz.prog 41 aea 49 [.tmp 4]:=mf Tryz.func41 Tryz.ntmps41
def ug(r:gM):Int->Option gV
 |i=>
  if(decide (i<(r.2.length:Int)))=true then
   if 0<=i/\i<(r.2.length:Int)then
    if(decide ((r.2.getD i.toNat default)<0))=true then
     if 0<=i/\i<(r.2.length:Int)then
      (um r.1 (r.2.getD i.toNat default)).bind fun r_3=>
      if r_3=true then
       some (.inl (IntKind.i64.wrap (i+1)))
      else
       Option.map Sum.inr (
        some false)
     else none
    else
     some (.inl (IntKind.i64.wrap (i+1)))
   else none
  else
   Option.map Sum.inr (
    some true)
def uS(sig:gI)(r:gM):Option Bool:=
 (nH sig r.1).bind fun r_1=>
 if r_1=true then
  (nH sig r.2).bind fun r_2=>
  if r_2=true then
   if 0<=0/\0<(r.1.length:Int)then
    if(decide ((r.1.getD 0 default)<0))=true then
     some false
    else
     iL (ug r) 0
   else none
  else
   some false
 else
  some false
instance U0{sig:gI}{r:gM}:jf (uS sig r) fun rr=>jK Tryz.prog 41 [jw sig,iC r] (bD rr):=⟨@fun rr h=>by
 delta uS at h;refine afD.jv (iB ?_);delta aea;refine jd ?_;refine rC h fun r_1 hr_1 h=>?_
 refine iT h fun hc h=>?_
 refine rC h fun r_2 hr_2 h=>?_
 refine iT h fun hc h=>?_
 refine jZ h fun hp h=>?_
 refine iF h fun hc h=>?_
 refine kH h [4,5,25,26,27,28,29,30,31,32,33,34,35,36,37,38,39,40,41,42,43,44,45,46,47,48] (fun pp=>[(5,.d (iD pp))]) (fun pp=>[(2,.obj 34 [.d (iH 1 iD sig)]),(3,.obj 54 [.d (iH 1 iD r.1),.d (iH 1 iD r.2)])]) ?_;rintro i t1 h hb1;unfold ug at h;try dsimp only at h
 refine iB (jd ?_);exact lW⟩
def adS:iJ:=
 (.seq (.iE (sq 1 [bo 1 37 0,mb false])) (.seq (.seq (.iE (sq 4 [fa 0 1,la 1 4,cf 40 [5],nt 6,mv 7]++sg 8 false 9 [fa 1 1,ld 9,ln 10,bi .gtr 11 12]++sq 13 [po 8 12])) (.cond (t0 13) (.seq (.iE (sq 2 [mb false])) .ret) .skip)) (.seq (.seq (.iE (sq 3 [mi 0])) (.block 0 (.loop (.seq (.seq (.iE (sq 14 [mv 3,fa 1 1,ld 15,ln 16,bn .lss 14 17])) (.cond (t0 18) .skip (.exit 0))) (.seq (.block 1 (.seq (.draw (sq 21 [fa 0 1,la 1 21,fa 1 1,ld 23,mv 3,ix 2 24 25,la 2 26,cf 41 [22,27],nt 28]) [[],[0],[],[2],[],[3,4],[5],[1,6],[7]]) (.cond (t0 29) (.seq (.iE (sq 2 [mb false])) .ret) .skip))) (.iE (sq 19 [mv 3,bi .add 19 1]++sq 3 [mv 20]))))))) (.seq (.iE (sq 2 [mb true])) .ret))))
theorem afk:jV Tryz.prog 16 adS 30 [.tmp 2]:=mf Tryz.func16 Tryz.ntmps16
def r_(sys:gW):Int->Option gV
 |i=>
  if(decide (i<(sys.2.length:Int)))=true then
   if 0<=i/\i<(sys.2.length:Int)then
    (uS sys.1 ((sys.2.getD i.toNat default).1,(sys.2.getD i.toNat default).2)).bind fun r_1=>
    if r_1=true then
     some (.inl (IntKind.i64.wrap (i+1)))
    else
     Option.map Sum.inr (
      some false)
   else none
  else
   Option.map Sum.inr (
    some true)
def om(sys:gW):Option Bool:=
 (uh sys.1).bind fun r=>
 if r=true then
  if(decide (12<(sys.2.length:Int)))=true then
   some false
  else
   iL (r_ sys) 0
 else
  some false
instance Rj{sys:gW}:jf (om sys) fun rr=>jK Tryz.prog 16 [iU sys] (bD rr):=⟨@fun rr h=>by
 delta om at h;refine afk.jv (iB ?_);delta adS;refine jd ?_;refine rC h fun r hr h=>?_
 refine iT h fun hc h=>?_
 refine iF h fun hc h=>?_
 refine kH h [2,3,14,15,16,17,18,19,20,21,22,23,24,25,26,27,28,29] (fun pp=>[(3,.d (iD pp))]) (fun pp=>[(1,.obj 37 [.d (iH 1 iD sys.1),.d (iH 2 iC sys.2)])]) ?_;rintro i t1 h hb1;unfold r_ at h;try dsimp only at h
 refine iB (jd ?_);exact lW⟩
def lD(x:gJ):D:=.agg [(iH 1 (iH 1 iD)) x]
instance:sW lD 1:=⟨fun _=>rfl⟩
attribute [go_sem] lD
def Y0:iJ:=
 (.seq (.iE (sq 3 [bo 3 34 0]++sq 6 [.mv (.const (.slice none 0 0))])) (.seq (.iE (sq 7 [mv 1,mv 2,la 1 3,mv 1,mv 2,cf 108 [9,10,11],.slc (t0 7) 1 (some (t0 8)) (some (t0 12)) none]++sq 6 [mv 13])) .ret))
theorem ab6:jV Tryz.prog 139 Y0 14 [.tmp 6]:=mf Tryz.func139 Tryz.ntmps139
def kX(sig:gI)(t:gI)(iY:Int):Option gI:=
 (mF sig t iY).bind fun r=>
 if 0<=iY/\iY<=r/\r<=(t.length:Int)then
  some ((t.take r.toNat).drop iY.toNat)
 else none
instance VN{sig:gI}{t:gI}{iY:Int}:jf (kX sig t iY) fun rr=>jK Tryz.prog 139 [jw sig,(iH 1 iD) t,iD iY] ((iH 1 iD) rr):=⟨@fun rr h=>by
 delta kX at h;refine ab6.jv (iB ?_);delta Y0;refine jd ?_;exact lW⟩
def Yw:iJ:=
 (.seq (.iE (sq 4 [mb false])) (.seq (.seq (.iE (sq 6 [mv 0,ln 6,mv 1,ln 8,bn .neq 7 9])) (.cond (t0 10) (.seq (.iE (sq 4 [mb false])) .ret) .skip)) (.seq (.seq (.iE (sq 11 [mv 0,ln 11,mi 0])) (.block 0 (.loop (.seq (.iE (sq 14 [bn .lss 13 12])) (.seq (.cond (t0 14) .skip (.exit 0)) (.seq (.block 1 (.seq (.iE (sq 15 [mv 13]++sq 5 [mv 15])) (.seq (.draw (sq 16 [mv 0,mv 5,ix 1 16 17,ld 18,mv 1,mv 5,ix 1 20 21,ld 22,bn .neq 19 23]) [[],[],[0,1],[2],[],[],[4,5],[6],[3,7]]) (.cond (t0 24) (.seq (.iE (sq 4 [mb false])) .ret) .skip)))) (.iE (sq 25 [bi .add 13 1]++sq 13 [mv 25])))))))) (.seq (.iE (sq 4 [mb true])) .ret))))
theorem abC:jV Tryz.prog 106 Yw 26 [.tmp 4]:=mf Tryz.func106 Tryz.ntmps106
def lJ(s1:gI)(s2:gI):Int->Option gV
 |v13=>
  if(decide (v13<(s1.length:Int)))=true then
   if 0<=v13/\v13<(s1.length:Int)then
    if 0<=v13/\v13<(s2.length:Int)then
     if((s1.getD v13.toNat default) != (s2.getD v13.toNat default))=true then
      Option.map Sum.inr (
       some false)
     else
      some (.inl (IntKind.i64.wrap (v13+1)))
    else none
   else none
  else
   Option.map Sum.inr (
    some true)
def jG(s1:gI)(s2:gI):Option Bool:=
 if((s1.length:Int) != (s2.length:Int))=true then
  some false
 else
  iL (lJ s1 s2) 0
instance Gi{s1:gI}{s2:gI}:jf (jG s1 s2) fun rr=>jK Tryz.prog 106 [(iH 1 iD) s1,(iH 1 iD) s2] (bD rr):=⟨@fun rr h=>by
 delta jG at h;refine abC.jv (iB ?_);delta Yw;refine jd ?_;refine iF h fun hc h=>?_
 refine kH h [4,5,13,14,15,16,17,18,19,20,21,22,23,24,25] (fun pp=>[(13,.d (iD pp))]) (fun pp=>[]) ?_;rintro v13 t1 h hb1;unfold lJ at h;try dsimp only at h
 refine iB (jd ?_);exact lW⟩
def Zh:iJ:=
 (.seq (.iE (sq 4 [bo 4 34 0]++sq 7 [bo 7 200 3,.alloc 8 200 [.sl 0 (some true) [],.sl 0 (some true) [],.sl 0 (some true) [],.sl 0 (some true) [],.sl 0 (some true) [],.sl 0 (some true) [],.sl 0 (some true) [],.sl 0 (some true) [],.sl 0 (some true) [],.sl 0 (some true) [],.sl 0 (some true) [],.sl 0 (some true) [],.sl 0 (some true) [],.sl 0 (some true) [],.sl 0 (some true) [],.sl 0 (some true) [],.sl 0 (some true) [],.sl 0 (some true) [],.sl 0 (some true) [],.sl 0 (some true) [],.sl 0 (some true) [],.sl 0 (some true) [],.sl 0 (some true) [],.sl 0 (some true) []],mb false])) (.seq (.iE (sq 10 [mi 0])) (.seq (.seq (.iE (sq 14 [mv 1,ln 14,mi 0])) (.block 0 (.loop (.seq (.iE (sq 17 [bn .lss 16 15])) (.seq (.cond (t0 17) .skip (.exit 0)) (.seq (.block 1 (.seq (.iE (sq 18 [ix 1 14 16,ld 18]++sq 12 [mv 19])) (.seq (.seq (.iE (sq 20 [mv 10,mv 2,ln 21,bn .geq 20 22])) (.cond (t0 23) (.seq (.iE (sq 24 [la 24 7]++s0 (sr 24 8 24)++sq 9 [mb false])) .ret) .skip)) (.seq (.seq (.iE (sq 25 [mv 12,bi .geq 25 0])) (.cond (t0 26) (.seq (.seq (.iE (sq 27 [mv 2,mv 10,ix 1 27 28,ld 29,mv 12,bn .neq 30 31])) (.cond (t0 32) (.seq (.iE (sq 33 [la 24 7]++s0 (sr 24 8 33)++sq 9 [mb false])) .ret) .skip)) (.seq (.iE (sq 34 [mv 10,bi .add 34 1]++sq 10 [mv 35])) (.exit 1))) .skip)) (.seq (.iE (sq 36 [la 1 4,mv 2,mv 10,cf 139 [36,37,38]]++sq 13 [mv 39])) (.seq (.seq (.iE (sq 40 [mv 12,.bin .sub (i0 (-1)) (t0 40),.AO 1 24 (t0 7) (t0 41),ld 42,.yo false (t0 43)])) (.cond (t0 44) (.iE (sq 45 [mv 12,.bin .sub (i0 (-1)) (t0 45),mv 13,.AO 1 24 (t0 7) (t0 46)]++s0 (sr 1 48 47))) (.seq (.iE (sq 49 [mv 12,.bin .sub (i0 (-1)) (t0 49),.AO 1 24 (t0 7) (t0 50),ld 51,mv 13,cf 106 [52,53],nt 54])) (.cond (t0 55) (.seq (.iE (sq 56 [la 24 7]++s0 (sr 24 8 56)++sq 9 [mb false])) .ret) .skip)))) (.iE (sq 57 [mv 10,mv 13,ln 58,bn .add 57 59]++sq 10 [mv 60])))))))) (.iE (sq 61 [bi .add 16 1]++sq 16 [mv 61])))))))) (.seq (.iE (sq 62 [la 24 7]++s0 (sr 24 8 62)++sq 9 [mb true])) .ret))))
theorem acr:jV Tryz.prog 159 Zh 63 [.cell 8 24 true,.tmp 9]:=mf Tryz.func159 Tryz.ntmps159
def uA(sig:gI)(p:gI)(t:gI):(Int×Int×gJ)->Option ((Int×Int×gJ)⊕(gJ×Bool))
 |(iY,v16,b_1)=>
  if(decide (v16<(p.length:Int)))=true then
   if 0<=v16/\v16<(p.length:Int)then
    if(decide ((t.length:Int)<=iY))=true then
     if b_1.length=24 then
      if b_1.length=24 then
       Option.map Sum.inr (
        some (b_1,false))
      else none
     else none
    else
     if(decide (0<=(p.getD v16.toNat default)))=true then
      if 0<=iY/\iY<(t.length:Int)then
       if((t.getD iY.toNat default) != (p.getD v16.toNat default))=true then
        if b_1.length=24 then
         if b_1.length=24 then
          Option.map Sum.inr (
           some (b_1,false))
         else none
        else none
       else
        some (.inl ((IntKind.i64.wrap (iY+1)),(IntKind.i64.wrap (v16+1)),b_1))
      else none
     else
      (kX sig t iY).bind fun r=>
      if 0<=(IntKind.i64.wrap ((-1)-(p.getD v16.toNat default)))/\(IntKind.i64.wrap ((-1)-(p.getD v16.toNat default)))<24/\(IntKind.i64.wrap ((-1)-(p.getD v16.toNat default)))<(b_1.length:Int)then
       if(b_1.getD (IntKind.i64.wrap ((-1)-(p.getD v16.toNat default))).toNat default).isEmpty=true then
        if 0<=(IntKind.i64.wrap ((-1)-(p.getD v16.toNat default)))/\(IntKind.i64.wrap ((-1)-(p.getD v16.toNat default)))<24/\(IntKind.i64.wrap ((-1)-(p.getD v16.toNat default)))<(b_1.length:Int)then
         if 0<r.length then
          some (.inl ((IntKind.i64.wrap (iY+(r.length:Int))),(IntKind.i64.wrap (v16+1)),(b_1.set (IntKind.i64.wrap ((-1)-(p.getD v16.toNat default))).toNat r)))
         else none
        else none
       else
        if 0<=(IntKind.i64.wrap ((-1)-(p.getD v16.toNat default)))/\(IntKind.i64.wrap ((-1)-(p.getD v16.toNat default)))<24/\(IntKind.i64.wrap ((-1)-(p.getD v16.toNat default)))<(b_1.length:Int)then
         (jG (b_1.getD (IntKind.i64.wrap ((-1)-(p.getD v16.toNat default))).toNat default) r).bind fun r_1=>
         if r_1=true then
          some (.inl ((IntKind.i64.wrap (iY+(r.length:Int))),(IntKind.i64.wrap (v16+1)),b_1))
         else
          if b_1.length=24 then
           if b_1.length=24 then
            Option.map Sum.inr (
             some (b_1,false))
           else none
          else none
        else none
      else none
   else none
  else
   Option.map Sum.inr (
    if b_1.length=24 then
     if b_1.length=24 then
      some (b_1,true)
     else none
    else none)
def qU(sig:gI)(p:gI)(t:gI)(b:gJ):Option (gJ×Bool):=
 iL (uA sig p t) (0,0,b)
instance Po{sig:gI}{p:gI}{t:gI}{b:gJ}:jf (qU sig p t b) fun rr=>mO Tryz.prog 159 [jw sig,(iH 1 iD) p,(iH 1 iD) t,(arD (qJ 1 iD)) b] [(arD (qJ 1 iD)) rr.1,bD rr.2]:=⟨@fun rr h=>by
 delta qU at h;refine acr.mz (iB ?_);delta Zh;refine jd ?_;refine kH h [9,10,12,13,16,17,18,19,20,21,22,23,24,25,26,27,28,29,30,31,32,33,34,35,36,37,38,39,40,41,42,43,44,45,46,47,48,49,50,51,52,53,54,55,56,57,58,59,60,61] (fun pp=>[(10,.d (iD pp.1)),(16,.d (iD pp.2.1))]) (fun pp=>[(4,.obj 34 [.d (iH 1 iD sig)]),(7,.obj 200 (List.map (aD (qJ 1 iD)) pp.2.2)),(8,.obj 200 [.d (.sl 0 (some true) []),.d (.sl 0 (some true) []),.d (.sl 0 (some true) []),.d (.sl 0 (some true) []),.d (.sl 0 (some true) []),.d (.sl 0 (some true) []),.d (.sl 0 (some true) []),.d (.sl 0 (some true) []),.d (.sl 0 (some true) []),.d (.sl 0 (some true) []),.d (.sl 0 (some true) []),.d (.sl 0 (some true) []),.d (.sl 0 (some true) []),.d (.sl 0 (some true) []),.d (.sl 0 (some true) []),.d (.sl 0 (some true) []),.d (.sl 0 (some true) []),.d (.sl 0 (some true) []),.d (.sl 0 (some true) []),.d (.sl 0 (some true) []),.d (.sl 0 (some true) []),.d (.sl 0 (some true) []),.d (.sl 0 (some true) []),.d (.sl 0 (some true) [])])]) ?_;rintro⟨iY,v16,b_1⟩ t1 h hb1;unfold uA at h;try dsimp only at h
 refine iB (jd ?_);refine iT h fun hc h=>?_
 refine jZ h fun hp h=>?_
 refine iF h fun hc h=>?_
 refine iF h fun hc h=>?_
 refine rC h fun r hr h=>?_
 refine jZ h fun hp h=>?_
 refine iT h fun hc h=>?_
 refine jZ h fun hp h=>?_
 refine jZ h fun hp h=>?_
 cases h;refine⟨_,rfl,?_⟩;refine(iW.leS (s':=[(4,.obj 34 [.d (iH 1 iD sig)]),(7,.obj 200 (List.map (aD (qJ 1 iD)) (b_1.set (IntKind.i64.wrap ((-1)-(p.getD v16.toNat default))).toNat r))),(8,.obj 200 [.d (.sl 0 (some true) []),.d (.sl 0 (some true) []),.d (.sl 0 (some true) []),.d (.sl 0 (some true) []),.d (.sl 0 (some true) []),.d (.sl 0 (some true) []),.d (.sl 0 (some true) []),.d (.sl 0 (some true) []),.d (.sl 0 (some true) []),.d (.sl 0 (some true) []),.d (.sl 0 (some true) []),.d (.sl 0 (some true) []),.d (.sl 0 (some true) []),.d (.sl 0 (some true) []),.d (.sl 0 (some true) []),.d (.sl 0 (some true) []),.d (.sl 0 (some true) []),.d (.sl 0 (some true) []),.d (.sl 0 (some true) []),.d (.sl 0 (some true) []),.d (.sl 0 (some true) []),.d (.sl 0 (some true) []),.d (.sl 0 (some true) []),.d (.sl 0 (some true) [])])]) (ju.refl _) (by exact(xy (vl.refl _) (xy ⟨rfl,KJ iA (by first|exact(B_ iA).2 trivial|exact(y_ iA).2 trivial)⟩ (xy (vl.refl _) D1))))).trans ?_;exact wk⟩
def Zj:iJ:=
 (.seq (.iE (sq 1 [bo 1 200 0,.alloc 2 158 [.sl 0 (some true) []]])) (.seq (.iE (sq 3 [.Jt (t0 1) 1 24 none none none,.build [.sl 0 (some true) []] [(0,1,(t0 3))]]++s0 (sr 1 2 4))) .ret))
theorem acu:jV Tryz.prog 161 Zj 5 [.cell 2 1 true]:=mf Tryz.func161 Tryz.ntmps161
def pN(b:gJ):Option gJ:=
 if b.length=24 then
  some b
 else none
instance JG{b:gJ}:jf (pN b) fun rr=>jK Tryz.prog 161 [(arD (qJ 1 iD)) b] (lD rr):=⟨@fun rr h=>by
 delta pN at h;refine acu.ZL (iB ?_);delta Zj;refine jd ?_;refine jZ h fun hp h=>?_
 cases h;exact⟨_,_,(iV.agx 1 (qJ 1 iD) b iA rfl),zP⟩⟩
def Zn:iJ:=
 (.seq (.iE (sq 2 [.mv (.const (.slice none 0 0))])) (.seq (.iE (sq 3 [mv 0,.bin .sub (i0 (-1)) (t0 3),.nY 5 2 1 [(t0 4)]]++sq 2 [mv 5])) .ret))
theorem acA:jV Tryz.prog 170 Zn 6 [.tmp 2]:=mf Tryz.func170 Tryz.ntmps170
def ve(i:Int):Option gI:=
 some [(IntKind.i64.wrap ((-1)-i))]
instance Rb{i:Int}:jf (ve i) fun rr=>jK Tryz.prog 170 [iD i] ((iH 1 iD) rr):=⟨@fun rr h=>by
 delta ve at h;refine acA.jv (iB ?_);delta Zn;refine jd ?_;exact lW⟩
def ac8:iJ:=
 (.seq (.iE (sq 2 [.mv (.const (.slice none 0 0))])) (.seq (.seq (.iE (sq 3 [mv 0,.yo false (t0 3)])) (.cond (t0 4) (.seq (.iE (sq 2 [.mv (.const (.slice none 0 0))])) .ret) .skip)) (.seq (.iE (sq 5 [.nY 5 2 1 [],mv 0,ap 7 2 1 8 5 6]++sq 2 [mv 7])) .ret)))
theorem adK:jV Tryz.prog 64 ac8 8 [.tmp 2]:=mf Tryz.func64 Tryz.ntmps64
def jr(s:gI):Option gI:=
 LK s (
  some []) (
  if(0+s.length)*8<=140737488355328 then
   some s
  else none)
instance Gh{s:gI}:jf (jr s) fun rr=>jK Tryz.prog 64 [(iH 1 iD) s] ((iH 1 iD) rr):=⟨@fun rr h=>by
 delta jr at h;refine adK.jv (iB ?_);delta ac8;refine jd ?_;have h1:=F5 h;refine vL.of (fun he=>?_) ?_
 ·replace h:=h1.1 (by simpa using he);clear h1;refine jd ?_;exact lW
 ·replace h:=h1.2;clear h1;refine jd ?_;exact lW⟩
def Zi:iJ:=
 (.seq (.iE (sq 1 [bo 1 158 0,.alloc 2 158 [.sl 0 (some true) []]])) (.seq (.iE (sq 3 [.alloc 3 158 [.sl 0 (some true) []]])) (.seq (.seq (.iE (sq 6 [fa 0 1,ld 6,ln 7,mi 0])) (.block 0 (.loop (.seq (.iE (sq 10 [bn .lss 9 8])) (.seq (.cond (t0 10) .skip (.exit 0)) (.seq (.block 1 (.seq (.iE (sq 11 [mv 9,ix 1 7 9,ld 12]++sq 4 [mv 11,mv 13])) (.seq (.seq (.iE (sq 14 [mv 5,ln 14,bi .eql 15 0,mv 16]++sg 17 false 18 [mv 5,mv 4,cf 170 [19],cf 106 [18,20]]++sq 22 [po 17 21])) (.cond (t0 22) (.exit 1) .skip)) (.seq (.block 2 (.loop (.seq (.seq (.iE (sq 23 [fa 0 3,ld 23,ln 24,mv 4,bn .lss 25 26])) (.cond (t0 27) .skip (.exit 2))) (.block 3 (.iE (sq 28 [fa 0 3,ld 28,.nY 30 22 1 [(.const (.slice none 0 0))],ap 31 22 1 24 29 30,fa 0 3]++s0 (sr 1 32 31))))))) (.draw (sq 33 [fa 0 3,ld 33,mv 5,cf 64 [35],.nY 37 22 1 [(t0 36)],ap 38 22 1 24 34 37,fa 0 3]++s0 (sr 1 39 38)) [[],[0],[],[2],[3],[1,4,3],[0,1,2,3,4,5],[6,5,5,0,1,2,3,4,5]]))))) (.iE (sq 40 [bi .add 9 1]++sq 9 [mv 40])))))))) (.seq (.iE (sq 41 [la 1 3]++s0 (sr 1 2 41))) .ret))))
theorem acs:jV Tryz.prog 160 Zi 42 [.cell 2 1 true]:=mf Tryz.func160 Tryz.ntmps160
def xZ(s:gJ)(v9:Int):gJ->Option (gJ⊕((Int×gJ)⊕gJ))
 |out_1=>
  if(decide ((out_1.length:Int)<v9))=true then
   if(out_1.length+1)*24<=140737488355328 then
    some (.inl (out_1++[[]]))
   else none
  else
   Option.map Sum.inr (
    (jr (s.getD v9.toNat default)).bind fun r_2=>
    if(out_1.length+1)*24<=140737488355328 then
     some (.inl ((IntKind.i64.wrap (v9+1)),(out_1++[r_2])))
    else none)
def xY(s:gJ):(Int×gJ)->Option ((Int×gJ)⊕gJ)
 |(v9,out)=>
  if(decide (v9<(s.length:Int)))=true then
   if 0<=v9/\v9<(s.length:Int)then
    if(((s.getD v9.toNat default).length:Int)==0)=true then
     some (.inl ((IntKind.i64.wrap (v9+1)),out))
    else
     (ve v9).bind fun r=>
     (jG (s.getD v9.toNat default) r).bind fun r_1=>
     if r_1=true then
      some (.inl ((IntKind.i64.wrap (v9+1)),out))
     else
      iL (xZ s v9) out
   else none
  else
   Option.map Sum.inr (
    some out)
def vR(s:gJ):Option gJ:=
 iL (xY s) (0,[])
instance VJ{s:gJ}:jf (vR s) fun rr=>jK Tryz.prog 160 [lD s] (lD rr):=⟨@fun rr h=>by
 delta vR at h;refine acs.jv (iB ?_);delta Zi;refine jd ?_;refine nL h [4,5,9,10,11,12,13,14,15,16,17,18,19,20,21,22,23,24,25,26,27,28,29,30,31,32,33,34,35,36,37,38,39,40] (fun pp=>[(9,.d (iD pp.1))]) (fun pp=>[(1,.obj 158 [.d (iH 1 (iH 1 iD) s)]),(2,.obj 158 [.d (.sl 0 (some true) [])]),(3,.obj 158 [.own 1 38 (List.map (iH 1 iD) pp.2)]),(38,.tok 22 1 pp.2.length)]) ?_ ?_
 ·try dsimp only
  refine(iW.wT 3 0 38 22 1 rfl rfl rfl).trans ?_;exact wk
 rintro⟨v9,out⟩ t1 h hb1;unfold xY at h;try dsimp only at h
 refine iB (jd ?_);refine iT h fun hc h=>?_
 refine jZ h fun hp h=>?_
 refine iF h fun hc h=>?_
 refine rC h fun r hr h=>?_
 refine rC h fun r_1 hr_1 h=>?_
 refine iF h fun hc h=>?_
 refine kH h [23,24,25,26,27,28,29,30,31,32] (fun pp=>[]) (fun pp=>[(1,.obj 158 [.d (iH 1 (iH 1 iD) s)]),(2,.obj 158 [.d (.sl 0 (some true) [])]),(3,.obj 158 [.own 1 38 (List.map (iH 1 iD) pp)]),(38,.tok 22 1 pp.length)]) ?_;rintro out_1 t2 h hb2;unfold xZ at h;try dsimp only at h
 refine iB (jd ?_);refine it h (fun hc h=>?_) fun hc h=>?_
 ·refine jZ h fun hp h=>?_
  cases h;refine⟨_,rfl,?_⟩;refine(iW.drop 30 iA).trans ?_;exact wk
 replace h:=jD h hb2;refine dC h fun r_2 hr_2 h=>?_
 refine jZ h fun hp h=>?_
 refine jM (by kernel_rfl) (jd ?_);cases h;refine⟨_,rfl,?_⟩;refine(iW.drop 37 iA).trans ?_;exact wk⟩
def YZ:iJ:=
 (.seq (.iE (sq 3 [bo 3 34 0]++sq 6 [.alloc 6 158 [.sl 0 (some true) []],mb false])) (.seq (.iE (sq 11 [la 1 3,mv 1,mv 2,.build [.sl 0 (some true) [],.sl 0 (some true) [],.sl 0 (some true) [],.sl 0 (some true) [],.sl 0 (some true) [],.sl 0 (some true) [],.sl 0 (some true) [],.sl 0 (some true) [],.sl 0 (some true) [],.sl 0 (some true) [],.sl 0 (some true) [],.sl 0 (some true) [],.sl 0 (some true) [],.sl 0 (some true) [],.sl 0 (some true) [],.sl 0 (some true) [],.sl 0 (some true) [],.sl 0 (some true) [],.sl 0 (some true) [],.sl 0 (some true) [],.sl 0 (some true) [],.sl 0 (some true) [],.sl 0 (some true) [],.sl 0 (some true) []] [],cf 159 [11,12,13,14]]++sq 10 [mv 15]++sq 16 [ex 10 0,ex 10 1]++sq 8 [.alloc 8 200 [.sl 0 (some true) [],.sl 0 (some true) [],.sl 0 (some true) [],.sl 0 (some true) [],.sl 0 (some true) [],.sl 0 (some true) [],.sl 0 (some true) [],.sl 0 (some true) [],.sl 0 (some true) [],.sl 0 (some true) [],.sl 0 (some true) [],.sl 0 (some true) [],.sl 0 (some true) [],.sl 0 (some true) [],.sl 0 (some true) [],.sl 0 (some true) [],.sl 0 (some true) [],.sl 0 (some true) [],.sl 0 (some true) [],.sl 0 (some true) [],.sl 0 (some true) [],.sl 0 (some true) [],.sl 0 (some true) [],.sl 0 (some true) []]]++s0 (sr 24 8 16)++sq 9 [mv 17])) (.seq (.seq (.iE (sq 18 [mv 9,nt 18])) (.cond (t0 19) (.seq (.iE (sq 20 [.build [.sl 0 (some true) []] []]++s0 (sr 1 6 20)++sq 7 [mb false])) .ret) .skip)) (.seq (.iE (sq 21 [la 24 8,cf 161 [21],cf 160 [22]]++s0 (sr 1 6 23)++sq 7 [mb true])) .ret))))
theorem ab5:jV Tryz.prog 138 YZ 24 [.cell 6 1 true,.tmp 7]:=mf Tryz.func138 Tryz.ntmps138
def uc(sig:gI)(p:gI)(t:gI):Option (gJ×Bool):=
 (qU sig p t (List.replicate 24 [])).bind fun r=>
 if r.1.length=24 then
  if r.2=true then
   if r.1.length=24 then
    (pN r.1).bind fun r_1=>
    (vR r_1).bind fun r_2=>
    some (r_2,true)
   else none
  else
   some ([],false)
 else none
instance VH{sig:gI}{p:gI}{t:gI}:jf (uc sig p t) fun rr=>mO Tryz.prog 138 [jw sig,(iH 1 iD) p,(iH 1 iD) t] [lD rr.1,bD rr.2]:=⟨@fun rr h=>by
 delta uc at h;refine ab5.mz (iB ?_);delta YZ;refine jd ?_;exact lW⟩
def aem:iJ:=
 (.seq (.iE (sq 2 [.mv (.const (.slice none 0 0))])) (.seq (.iE (sq 3 [.nY 3 2 1 [],mv 0,ap 5 2 1 8 3 4]++sq 2 [mv 5])) .ret))
theorem afP:jV Tryz.prog 53 aem 6 [.tmp 2]:=mf Tryz.func53 Tryz.ntmps53
def jQ(l:gI):Option gI:=
 if(0+l.length)*8<=140737488355328 then
  some l
 else none
instance U9{l:gI}:jf (jQ l) fun rr=>iR Tryz.prog 53 [.d (iH 1 iD l)] [] 0 fun xx ss=>xx=.own 1 3 (List.map iD rr)/\ss=[(3,.tok 2 1 rr.length)]:=⟨@fun rr h=>by
 delta jQ at h;refine afP.oo (iB ?_);delta aem;refine jd ?_;exact lW⟩
def YL:iJ:=
 (.seq (.iE (sq 3 [bo 3 34 0]++sq 6 [.mv (.const (.slice none 0 0))])) (.seq (.iE (sq 7 [mv 1,mv 2,la 1 3,mv 1,mv 2,cf 83 [9,10,11],.slc (t0 7) 1 (some (t0 8)) (some (t0 12)) none,cf 53 [13]]++sq 6 [mv 14])) .ret))
theorem abR:jV Tryz.prog 122 YL 15 [.tmp 6]:=mf Tryz.func122 Tryz.ntmps122
def sd(sig:gI)(t:gI)(iY:Int):Option gI:=
 (nK sig t iY).bind fun r=>
 if 0<=iY/\iY<=r/\r<=(t.length:Int)then
  (jQ ((t.take r.toNat).drop iY.toNat)).bind fun r_1=>
  some r_1
 else none
instance VV{sig:gI}{t:gI}{iY:Int}:jf (sd sig t iY) fun rr=>jK Tryz.prog 122 [jw sig,(iH 1 iD) t,iD iY] ((iH 1 iD) rr):=⟨@fun rr h=>by
 delta sd at h;refine abR.jv (iB ?_);delta YL;refine jd ?_;refine rC h fun r hr h=>?_
 refine jZ h fun hp h=>?_
 refine tg [] [(3,14)] h fun r_1 hr_1 h=>?_
 exact lW⟩
def aeG:iJ:=
 (.seq (.iE (sq 4 [mb false])) (.seq (.seq (.iE (sq 6 [mv 0,ln 6,mv 1,ln 8,bn .neq 7 9])) (.cond (t0 10) (.seq (.iE (sq 4 [mb false])) .ret) .skip)) (.seq (.seq (.iE (sq 5 [mi 0])) (.block 0 (.loop (.seq (.seq (.iE (sq 11 [mv 5,mv 0,ln 12,bn .lss 11 13])) (.cond (t0 14) .skip (.exit 0))) (.seq (.block 1 (.seq (.draw (sq 17 [mv 0,mv 5,ix 1 17 18,ld 19,mv 1,mv 5,ix 1 21 22,ld 23,bn .neq 20 24]) [[],[],[0,1],[2],[],[],[4,5],[6],[3,7]]) (.cond (t0 25) (.seq (.iE (sq 4 [mb false])) .ret) .skip))) (.iE (sq 15 [mv 5,bi .add 15 1]++sq 5 [mv 16]))))))) (.seq (.iE (sq 4 [mb true])) .ret))))
theorem af9:jV Tryz.prog 78 aeG 26 [.tmp 4]:=mf Tryz.func78 Tryz.ntmps78
def rY(a:gI)(b:gI):Int->Option gV
 |i=>
  if(decide (i<(a.length:Int)))=true then
   if 0<=i/\i<(a.length:Int)then
    if 0<=i/\i<(b.length:Int)then
     if((a.getD i.toNat default) != (b.getD i.toNat default))=true then
      Option.map Sum.inr (
       some false)
     else
      some (.inl (IntKind.i64.wrap (i+1)))
    else none
   else none
  else
   Option.map Sum.inr (
    some true)
def lT(a:gI)(b:gI):Option Bool:=
 if((a.length:Int) != (b.length:Int))=true then
  some false
 else
  iL (rY a b) 0
instance Ri{a:gI}{b:gI}:jf (lT a b) fun rr=>jK Tryz.prog 78 [(iH 1 iD) a,(iH 1 iD) b] (bD rr):=⟨@fun rr h=>by
 delta lT at h;refine af9.jv (iB ?_);delta aeG;refine jd ?_;refine iF h fun hc h=>?_
 refine kH h [4,5,11,12,13,14,15,16,17,18,19,20,21,22,23,24,25] (fun pp=>[(5,.d (iD pp))]) (fun pp=>[]) ?_;rintro i t1 h hb1;unfold rY at h;try dsimp only at h
 refine iB (jd ?_);exact lW⟩
def Y_:iJ:=
 (.seq (.iE (sq 2 [bo 2 158 0]++sq 4 [.mv (.const (.slice none 0 0))])) (.seq (.seq (.iE (sq 5 [mv 1,fa 0 2,ld 6,ln 7,bn .lss 5 8,mv 9]++sg 10 true 11 [fa 0 2,ld 11,mv 1,ix 1 12 13,ld 14,ln 15,bi .gtr 16 0]++sq 18 [pa 10 17])) (.cond (t0 18) (.seq (.iE (sq 19 [fa 0 2,ld 19,mv 1,ix 1 20 21,ld 22,cf 53 [23]]++sq 4 [mv 24])) .ret) .skip)) (.seq (.iE (sq 25 [mv 1,.bin .sub (i0 (-1)) (t0 25),.nY 27 2 1 [(t0 26)]]++sq 4 [mv 27])) .ret)))
theorem aci:jV Tryz.prog 150 Y_ 28 [.tmp 4]:=mf Tryz.func150 Tryz.ntmps150
def rF(s:gJ)(i:Int):Option gI:=
 if(decide (i<(s.length:Int)))=true then
  if 0<=i/\i<(s.length:Int)then
   if(decide (0<((s.getD i.toNat default).length:Int)))=true then
    if 0<=i/\i<(s.length:Int)then
     (jQ (s.getD i.toNat default)).bind fun r=>
     some r
    else none
   else
    some [(IntKind.i64.wrap ((-1)-i))]
  else none
 else
  some [(IntKind.i64.wrap ((-1)-i))]
instance Sr{s:gJ}{i:Int}:jf (rF s i) fun rr=>jK Tryz.prog 150 [lD s,iD i] ((iH 1 iD) rr):=⟨@fun rr h=>by
 delta rF at h;refine aci.jv (iB ?_);delta Y_;refine jd ?_;refine iT h fun hc h=>?_
 refine jZ h fun hp h=>?_
 refine iT h fun hc h=>?_
 refine jZ h fun hp h=>?_
 refine tg [] [(3,24)] h fun r hr h=>?_
 exact lW⟩
def Y9:iJ:=
 (.seq (.iE (sq 1 [bo 1 158 0,.alloc 2 158 [.sl 0 (some true) []]])) (.seq (.iE (sq 6 [.build [.sl 0 (some true) []] []]++sq 3 [.alloc 3 158 [.sl 0 (some true) []]]++s0 (sr 1 3 6))) (.seq (.seq (.iE (sq 4 [mi 0])) (.block 0 (.loop (.seq (.seq (.iE (sq 7 [mv 4,fa 0 1,ld 8,ln 9,bn .lss 7 10])) (.cond (t0 11) .skip (.exit 0))) (.seq (.block 1 (.seq (.iE (sq 14 [la 1 1,mv 4,cf 150 [14,15]]++sq 5 [mv 16])) (.seq (.seq (.iE (sq 17 [mv 5,ln 17,bi .eql 18 1,mv 19]++sg 20 true 21 [mv 5,.xR 1 (t0 21) (i0 0),ld 22,mv 4,.bin .sub (i0 (-1)) (t0 24),bn .eql 23 25]++sq 27 [pa 20 26])) (.cond (t0 27) (.iE (sq 28 [.nY 28 2 1 []]++sq 5 [mv 28])) .skip)) (.iE (sq 29 [fa 0 3,ld 29,mv 5,.nY 32 22 1 [(t0 31)],ap 33 22 1 24 30 32,fa 0 3]++s0 (sr 1 34 33)))))) (.iE (sq 12 [mv 4,bi .add 12 1]++sq 4 [mv 13]))))))) (.seq (.block 2 (.loop (.seq (.seq (.iE (sq 35 [fa 0 3,ld 35,ln 36,bi .gtr 37 0,mv 38]++sg 39 true 40 [fa 0 3,ld 40,fa 0 3,ld 42,ln 43,bi .sub 44 1,ix 1 41 45,ld 46,ln 47,bi .eql 48 0]++sq 50 [pa 39 49])) (.cond (t0 50) .skip (.exit 2))) (.block 3 (.iE (sq 51 [fa 0 3,ld 51,fa 0 3,ld 53,ln 54,bi .sub 55 1,.slc (t0 52) 1 none (some (t0 56)) none,fa 0 3]++s0 (sr 1 58 57))))))) (.seq (.iE (sq 59 [la 1 3]++s0 (sr 1 2 59))) .ret)))))
theorem ach:jV Tryz.prog 149 Y9 60 [.cell 2 1 true]:=mf Tryz.func149 Tryz.ntmps149
def v_:gJ->Option (gJ⊕gJ)
 |out_1=>
  if(decide (0<(out_1.length:Int)))=true then
   if 0<=(IntKind.i64.wrap ((out_1.length:Int)-1))/\(IntKind.i64.wrap ((out_1.length:Int)-1))<(out_1.length:Int)then
    if(((out_1.getD (IntKind.i64.wrap ((out_1.length:Int)-1)).toNat default).length:Int)==0)=true then
     if 0<=(IntKind.i64.wrap ((out_1.length:Int)-1))/\(IntKind.i64.wrap ((out_1.length:Int)-1))<=(out_1.length:Int)then
      some (.inl (out_1.take (IntKind.i64.wrap ((out_1.length:Int)-1)).toNat))
     else none
    else
     Option.map Sum.inr (
      some out_1)
   else none
  else
   Option.map Sum.inr (
    some out_1)
def vZ(s:gJ):(Int×gJ)->Option ((Int×gJ)⊕gJ)
 |(i,out)=>
  if(decide (i<(s.length:Int)))=true then
   (rF s i).bind fun r=>
   if((r.length:Int)==1)=true then
    if 0<=0/\0<(r.length:Int)then
     if((r.getD 0 default)==(IntKind.i64.wrap ((-1)-i)))=true then
      if(out.length+1)*24<=140737488355328 then
       some (.inl ((IntKind.i64.wrap (i+1)),(out++[[]])))
      else none
     else
      if(out.length+1)*24<=140737488355328 then
       some (.inl ((IntKind.i64.wrap (i+1)),(out++[r])))
      else none
    else none
   else
    if(out.length+1)*24<=140737488355328 then
     some (.inl ((IntKind.i64.wrap (i+1)),(out++[r])))
    else none
  else
   Option.map Sum.inr (
    iL (v_) out)
def tK(s:gJ):Option gJ:=
 iL (vZ s) (0,[])
instance Su{s:gJ}:jf (tK s) fun rr=>jK Tryz.prog 149 [lD s] (lD rr):=⟨@fun rr h=>by
 delta tK at h;refine ach.jv (iB ?_);delta Y9;refine jd ?_;refine nL h [4,5,7,8,9,10,11,12,13,14,15,16,17,18,19,20,21,22,23,24,25,26,27,28,29,30,31,32,33,34] (fun pp=>[(4,.d (iD pp.1))]) (fun pp=>[(1,.obj 158 [.d (iH 1 (iH 1 iD) s)]),(2,.obj 158 [.d (.sl 0 (some true) [])]),(3,.obj 158 [.own 1 33 (List.map (iH 1 iD) pp.2)]),(33,.tok 22 1 pp.2.length)]) ?_ ?_
 ·try dsimp only
  refine(iW.wT 3 0 33 22 1 rfl rfl rfl).trans ?_;exact wk
 rintro⟨i,out⟩ t1 h hb1;unfold vZ at h;try dsimp only at h
 refine iB (jd ?_);refine it h (fun hc h=>?_) fun hc h=>?_
 ·refine rC h fun r hr h=>?_
  refine it h (fun hc h=>?_) fun hc h=>?_
  ·refine jZ h fun hp h=>?_
   refine it h (fun hc h=>?_) fun hc h=>?_
   ·refine jZ h fun hp h=>?_
    cases h;refine⟨_,rfl,?_⟩;refine(iW.drop 28 iA).trans ?_;refine(iW.drop 32 iA).trans ?_;exact wk
   refine jZ h fun hp h=>?_
   cases h;refine⟨_,rfl,?_⟩;refine(iW.drop 32 iA).trans ?_;exact wk
  refine jZ h fun hp h=>?_
  cases h;refine⟨_,rfl,?_⟩;refine(iW.drop 32 iA).trans ?_;exact wk
 replace h:=jD h hb1;refine nL h [35,36,37,38,39,40,41,42,43,44,45,46,47,48,49,50,51,52,53,54,55,56,57,58] (fun pp=>[]) (fun pp=>[(1,.obj 158 [.d (iH 1 (iH 1 iD) s)]),(2,.obj 158 [.d (.sl 0 (some true) [])]),(3,.obj 158 [.d (iH 1 (iH 1 iD) pp)])]) ?_ ?_
 ·try dsimp only
  refine(iW.drop 33 iA).trans ?_;exact wk
 rintro out_1 t1 h hb1;unfold v_ at h;try dsimp only at h
 refine iB (jd ?_);exact lW⟩
def YK:iJ:=
 (.seq (.iE (sq 3 [bo 3 34 0]++sq 6 [.alloc 6 158 [.sl 0 (some true) []],mb false])) (.seq (.iE (sq 13 [.Cr 13 22 1 24 [.sl 0 (some true) []] false (i0 24) (i0 24),.build [.sl 0 (some true) []] [(0,1,(t0 13))]]++sq 8 [.alloc 8 158 [.sl 0 (some true) []]]++s0 (sr 1 8 14))) (.seq (.iE (sq 9 [mi 0])) (.seq (.seq (.iE (sq 10 [mi 0])) (.block 0 (.loop (.seq (.seq (.iE (sq 15 [mv 10,mv 1,ln 16,bn .lss 15 17])) (.cond (t0 18) .skip (.exit 0))) (.seq (.block 1 (.seq (.seq (.iE (sq 21 [mv 9,mv 2,ln 22,bn .geq 21 23])) (.cond (t0 24) (.seq (.iE (sq 25 [.build [.sl 0 (some true) []] []]++s0 (sr 1 6 25)++sq 7 [mb false])) .ret) .skip)) (.seq (.seq (.iE (sq 26 [mv 1,mv 10,ix 1 26 27,ld 28,bi .geq 29 0])) (.cond (t0 30) (.seq (.seq (.draw (sq 31 [mv 1,mv 10,ix 1 31 32,ld 33,mv 2,mv 9,ix 1 35 36,ld 37,bn .neq 34 38]) [[],[],[0,1],[2],[],[],[4,5],[6],[3,7]]) (.cond (t0 39) (.seq (.iE (sq 40 [.build [.sl 0 (some true) []] []]++s0 (sr 1 6 40)++sq 7 [mb false])) .ret) .skip)) (.seq (.iE (sq 41 [mv 9,bi .add 41 1]++sq 9 [mv 42])) (.exit 1))) .skip)) (.seq (.iE (sq 43 [la 1 3,mv 2,mv 9,cf 122 [43,44,45]]++sq 11 [mv 46])) (.seq (.draw (sq 47 [fa 0 8,ld 47,mv 1,mv 10,ix 1 49 50,ld 51,.bin .sub (i0 (-1)) (t0 52),ix 1 48 53,ld 54]++sq 12 [mv 55]) [[],[0],[],[],[2,3],[4],[5],[1,6],[7],[8,0,1,2,3,4,5,6,7,8]]) (.seq (.seq (.iE (sq 56 [mv 12,ln 56,bi .gtr 57 0,mv 58]++sg 59 true 60 [mv 12,mv 11,cf 78 [60,61],nt 62]++sq 64 [pa 59 63])) (.cond (t0 64) (.seq (.iE (sq 65 [.build [.sl 0 (some true) []] []]++s0 (sr 1 6 65)++sq 7 [mb false])) .ret) .skip)) (.seq (.draw (sq 66 [fa 0 8,ld 66,mv 1,mv 10,ix 1 68 69,ld 70,.bin .sub (i0 (-1)) (t0 71),mv 11,ix 1 67 72]++s0 (sr 1 74 73)) [[],[0],[],[],[2,3],[4],[5],[],[1,6,0,1,2,3,4,5,6,7],[8,7,0,1,2,3,4,5,6,7]]) (.iE (sq 75 [mv 9,mv 11,ln 76,bn .add 75 77]++sq 9 [mv 78]))))))))) (.iE (sq 19 [mv 10,bi .add 19 1]++sq 10 [mv 20]))))))) (.seq (.iE (sq 79 [la 1 8,cf 149 [79]]++s0 (sr 1 6 80)++sq 7 [mb true])) .ret)))))
theorem abQ:jV Tryz.prog 121 YK 81 [.cell 6 1 true,.tmp 7]:=mf Tryz.func121 Tryz.ntmps121
def wh(sig:gI)(p:gI)(t:gI):(Int×Int×gJ)->Option ((Int×Int×gJ)⊕(gJ×Bool))
 |(k,i,l13)=>
  if(decide (i<(p.length:Int)))=true then
   if(decide ((t.length:Int)<=k))=true then
    Option.map Sum.inr (
     some ([],false))
   else
    if 0<=i/\i<(p.length:Int)then
     if(decide (0<=(p.getD i.toNat default)))=true then
      if 0<=i/\i<(p.length:Int)then
       if 0<=k/\k<(t.length:Int)then
        if((p.getD i.toNat default) != (t.getD k.toNat default))=true then
         Option.map Sum.inr (
          some ([],false))
        else
         some (.inl ((IntKind.i64.wrap (k+1)),(IntKind.i64.wrap (i+1)),l13))
       else none
      else none
     else
      (sd sig t k).bind fun r=>
      if 0<=i/\i<(p.length:Int)then
       if 0<=(IntKind.i64.wrap ((-1)-(p.getD i.toNat default)))/\(IntKind.i64.wrap ((-1)-(p.getD i.toNat default)))<(24:Int)/\(IntKind.i64.wrap ((-1)-(p.getD i.toNat default)))<(l13.length:Int)then
        if(decide (0<((l13.getD (IntKind.i64.wrap ((-1)-(p.getD i.toNat default))).toNat default).length:Int)))=true then
         (lT (l13.getD (IntKind.i64.wrap ((-1)-(p.getD i.toNat default))).toNat default) r).bind fun r_1=>
         if r_1=true then
          if 0<=i/\i<(p.length:Int)then
           if 0<=(IntKind.i64.wrap ((-1)-(p.getD i.toNat default)))/\(IntKind.i64.wrap ((-1)-(p.getD i.toNat default)))<(24:Int)/\(IntKind.i64.wrap ((-1)-(p.getD i.toNat default)))<(l13.length:Int)then
            some (.inl ((IntKind.i64.wrap (k+(r.length:Int))),(IntKind.i64.wrap (i+1)),(l13.set (IntKind.i64.wrap ((-1)-(p.getD i.toNat default))).toNat r)))
           else none
          else none
         else
          Option.map Sum.inr (
           some ([],false))
        else
         if 0<=i/\i<(p.length:Int)then
          if 0<=(IntKind.i64.wrap ((-1)-(p.getD i.toNat default)))/\(IntKind.i64.wrap ((-1)-(p.getD i.toNat default)))<(24:Int)/\(IntKind.i64.wrap ((-1)-(p.getD i.toNat default)))<(l13.length:Int)then
           some (.inl ((IntKind.i64.wrap (k+(r.length:Int))),(IntKind.i64.wrap (i+1)),(l13.set (IntKind.i64.wrap ((-1)-(p.getD i.toNat default))).toNat r)))
          else none
         else none
       else none
      else none
    else none
  else
   Option.map Sum.inr (
    if l13.length=24 then
     (tK l13).bind fun r_2=>
     some (r_2,true)
    else none)
def rK(sig:gI)(p:gI)(t:gI):Option (gJ×Bool):=
 iL (wh sig p t) (0,0,(List.replicate 24 []))
instance Sx{sig:gI}{p:gI}{t:gI}:jf (rK sig p t) fun rr=>mO Tryz.prog 121 [jw sig,(iH 1 iD) p,(iH 1 iD) t] [lD rr.1,bD rr.2]:=⟨@fun rr h=>by
 delta rK at h;refine abQ.mz (iB ?_);delta YK;refine jd ?_;refine oS ?_;refine kH h [7,9,10,11,12,15,16,17,18,19,20,21,22,23,24,25,26,27,28,29,30,31,32,33,34,35,36,37,38,39,40,41,42,43,44,45,46,47,48,49,50,51,52,53,54,55,56,57,58,59,60,61,62,63,64,65,66,67,68,69,70,71,72,73,74,75,76,77,78] (fun pp=>[(9,.d (iD pp.1)),(10,.d (iD pp.2.1))]) (fun pp=>[(3,.obj 34 [.d (iH 1 iD sig)]),(6,.obj 158 [.d (.sl 0 (some true) [])]),(8,.obj 158 [.su 1 13 0 24]),(13,.obj 22 (List.map (aD (iH 1 iD)) pp.2.2))]) ?_;rintro⟨k,i,l13⟩ t1 h hb1;unfold wh at h;try dsimp only at h
 refine iB (jd ?_);refine iF h fun hc h=>?_
 replace h:=jD h hb1;refine jZ h fun hp h=>?_
 refine HH 13 (iH 1 iD) l13 iA rfl (fun _=>rfl) (jd ?_);refine rC h fun r_2 hr_2 h=>?_
 exact lW⟩
def Zk:iJ:=
 (.seq (.iE (sq 1 [bo 1 158 0,.mv (.const .nilFunc)])) (.seq (.iE (sq 3 [.EI 171 [] [(t0 1)]]++sq 2 [mv 3])) .ret))
theorem acv:jV Tryz.prog 162 Zk 4 [.tmp 2]:=mf Tryz.func162 Tryz.ntmps162
def qL(s:gJ):Option gJ:=
 some s
instance Lv{s:gJ}:jf (qL s) fun rr=>iR Tryz.prog 162 [.d (.agg [iH 1 (iH 1 iD) s])] [] 0 fun xx ss=>xx=.fn 171 [] [.ptr 1 0]/\ss=[(1,.obj 158 [.d (iH 1 (iH 1 iD) rr)])]:=⟨@fun rr h=>by
 delta qL at h;refine acv.oo (iB ?_);delta Zk;refine jd ?_;exact lW⟩
def Zp:iJ:=
 (.seq (.iE (sq 2 [bo 2 158 0]++sq 4 [.mv (.const (.slice none 0 0))])) (.seq (.seq (.iE (sq 5 [mv 1,fa 0 2,ld 6,ln 7,bn .geq 5 8,mv 9]++sg 10 false 11 [fa 0 2,ld 11,mv 1,ix 1 12 13,ld 14,ln 15,bi .eql 16 0]++sq 18 [po 10 17])) (.cond (t0 18) (.seq (.iE (sq 4 [.mv (.const (.slice none 0 0))])) .ret) .skip)) (.seq (.iE (sq 19 [fa 0 2,ld 19,mv 1,ix 1 20 21,ld 22]++sq 4 [mv 23])) .ret)))
theorem acC:jV Tryz.prog 172 Zp 24 [.tmp 4]:=mf Tryz.func172 Tryz.ntmps172
def oT(s:gJ)(i:Int):Option gI:=
 if(decide ((s.length:Int)<=i))=true then
  some []
 else
  if 0<=i/\i<(s.length:Int)then
   if(((s.getD i.toNat default).length:Int)==0)=true then
    some []
   else
    if 0<=i/\i<(s.length:Int)then
     if 0<(s.getD i.toNat default).length then
      some (s.getD i.toNat default)
     else none
    else none
  else none
instance LX{s:gJ}{i:Int}:jf (oT s i) fun rr=>jK Tryz.prog 172 [lD s,iD i] ((qJ 1 iD) rr):=⟨@fun rr h=>by
 delta oT at h;refine acC.jv (iB ?_);delta Zp;refine jd ?_;refine iF h fun hc h=>?_
 refine jZ h fun hp h=>?_
 refine iF h fun hc h=>?_
 refine jZ h fun hp h=>?_
 refine jZ h fun hp h=>?_
 cases h;exact(B_ iA).2 trivial⟩
def Zo:iJ:=
 (.seq (.iE (sq 3 [.mv (.const (.slice none 0 0))])) (.seq (.seq (.iE (sq 4 [mv 0,bi .geq 4 0])) (.cond (t0 5) (.seq (.iE (sq 3 [.mv (.const (.slice none 0 0))])) .ret) .skip)) (.seq (.iE (sq 6 [la 1 1,mv 0,.bin .sub (i0 (-1)) (t0 7),cf 172 [6,8]]++sq 3 [mv 9])) .ret)))
theorem acB:jV Tryz.prog 171 Zo 10 [.tmp 3]:=mf Tryz.func171 Tryz.ntmps171
def pM(n:Int)(o0:gJ):Option gI:=
 if(decide (0<=n))=true then
  some []
 else
  (oT o0 (IntKind.i64.wrap ((-1)-n))).bind fun r=>
  some r
instance JF{n:Int}{o0:gJ}:jf (pM n o0) fun rr=>iR Tryz.prog 171 [.d (iD n),.ptr 0 0] [(0,.obj 158 [.d (iH 1 (iH 1 iD) o0)])] 1 fun xx ss=>xx=.d (qJ 1 iD rr)/\ss=[(0,.obj 158 [.d (iH 1 (iH 1 iD) o0)])]:=⟨@fun rr h=>by
 delta pM at h;refine acB.oo (iB ?_);delta Zo;refine jd ?_;exact lW⟩
def Y1:iJ:=
 (.seq (.iE (sq 2 [bo 2 158 0]++sq 4 [.mv (.const (.slice none 0 0)),mb false])) (.seq (.iE (sq 11 [la 1 2,cf 162 [11]]++sq 6 [mv 12])) (.seq (.iE (sq 13 [mv 1,ln 13,.Cr 15 2 1 8 [.lit (.int .i64 0)] true (i0 0) (t0 14)]++sq 7 [mv 15])) (.seq (.seq (.iE (sq 16 [mv 1,ln 16,mi 0])) (.block 0 (.loop (.seq (.iE (sq 19 [bn .lss 18 17])) (.seq (.cond (t0 19) .skip (.exit 0)) (.seq (.block 1 (.seq (.iE (sq 20 [ix 1 16 18,ld 20]++sq 9 [mv 21])) (.seq (.seq (.iE (sq 22 [mv 6,mv 9,.pJ (t0 22) [(t0 23)]]++sq 10 [mv 24])) (.seq (.iE (sq 25 [mv 10,.yo false (t0 25)])) (.cond (t0 26) (.iE (sq 27 [mv 7,mv 9,.nY 29 2 1 [(t0 28)],ap 30 2 1 8 27 29]++sq 7 [mv 30])) (.iE (sq 31 [mv 7,mv 10,ap 33 2 1 8 31 32]++sq 7 [mv 33]))))) (.seq (.iE (sq 34 [mv 7,ln 34,bi .gtr 35 60])) (.cond (t0 36) (.seq (.iE (sq 4 [.mv (.const (.slice none 0 0)),mb false])) .ret) .skip))))) (.iE (sq 37 [bi .add 18 1]++sq 18 [mv 37])))))))) (.seq (.iE (sq 38 [mv 7]++sq 4 [mv 38,mb true])) .ret)))))
theorem ab7:jV Tryz.prog 140 Y1 39 [.tmp 4,.tmp 5]:=mf Tryz.func140 Tryz.ntmps140
def yP(t:gI)(r:gJ):gT->Option (gT⊕ir)
 |(out,v18)=>
  if(decide (v18<(t.length:Int)))=true then
   if 0<=v18/\v18<(t.length:Int)then
    (pM (t.getD v18.toNat default) r).bind fun r_1=>
    if r_1.isEmpty=true then
     if(out.length+1)*8<=140737488355328 then
      if(decide (60<((out++[(t.getD v18.toNat default)]).length:Int)))=true then
       Option.map Sum.inr (
        some ([],false))
      else
       some (.inl ((out++[(t.getD v18.toNat default)]),(IntKind.i64.wrap (v18+1))))
     else none
    else
     if(out.length+r_1.length)*8<=140737488355328 then
      if(decide (60<((out++r_1).length:Int)))=true then
       Option.map Sum.inr (
        some ([],false))
      else
       some (.inl ((out++r_1),(IntKind.i64.wrap (v18+1))))
     else none
   else none
  else
   Option.map Sum.inr (
    some (out,true))
def vt(s:gJ)(t:gI):Option ir:=
 (qL s).bind fun r=>
 if 0<=(t.length:Int)/\8*(t.length:Int)<=281474976710656 then
  iL (yP t r) ([],0)
 else none
instance X6{s:gJ}{t:gI}:jf (vt s t) fun rr=>mO Tryz.prog 140 [lD s,(iH 1 iD) t] [(iH 1 iD) rr.1,bD rr.2]:=⟨@fun rr h=>by
 delta vt at h;refine ab7.mz (iB ?_);delta Y1;refine jd ?_;refine tg [] [(1,12)] h fun r hr h=>?_
 refine jZ h fun hp h=>?_
 refine kH h [4,5,7,9,10,18,19,20,21,22,23,24,25,26,27,28,29,30,31,32,33,34,35,36,37] (fun pp=>[(7,.own 1 15 (List.map iD pp.1)),(18,.d (iD pp.2))]) (fun pp=>[(2,.obj 158 [.d (iH 1 (iH 1 iD) s)]),(12,.obj 158 [.d (iH 1 (iH 1 iD) r)]),(15,.tok 2 1 pp.1.length)]) ?_;rintro⟨out,v18⟩ t1 h hb1;unfold yP at h;try dsimp only at h
 refine iB (jd ?_);refine iT h fun hc h=>?_
 refine jZ h fun hp h=>?_
 refine CQ (by kernel_rfl) ?_;refine tg [(0,12)] [] h fun r_1 hr_1 h=>?_
 refine iT h fun hc h=>?_
 refine jZ h fun hp h=>?_
 refine iF h fun hc h=>?_
 cases h;refine⟨_,rfl,?_⟩;refine(iW.drop 29 iA).trans ?_;exact wk⟩
def YM:iJ:=
 (.seq (.iE (sq 2 [bo 2 158 0]++sq 4 [.mv (.const (.slice none 0 0)),mb false])) (.seq (.iE (sq 8 [.nY 8 2 1 []]++sq 6 [mv 8])) (.seq (.seq (.iE (sq 7 [mi 0])) (.block 0 (.loop (.seq (.seq (.iE (sq 9 [mv 7,mv 1,ln 10,bn .lss 9 11])) (.cond (t0 12) .skip (.exit 0))) (.seq (.block 1 (.seq (.seq (.iE (sq 15 [mv 1,mv 7,ix 1 15 16,ld 17,bi .lss 18 0])) (.cond (t0 19) (.draw (sq 20 [mv 6,la 1 2,mv 1,mv 7,ix 1 22 23,ld 24,.bin .sub (i0 (-1)) (t0 25),cf 150 [21,26],ap 28 2 1 8 20 27]++sq 6 [mv 28]) [[],[],[],[],[2,3],[4],[5],[1,6],[0,7,7],[8,8,0,1,2,3,4,5,6,7,8]]) (.iE (sq 29 [mv 6,mv 1,mv 7,ix 1 30 31,ld 32,.nY 34 2 1 [(t0 33)],ap 35 2 1 8 29 34]++sq 6 [mv 35])))) (.seq (.iE (sq 36 [mv 6,ln 36,bi .gtr 37 60])) (.cond (t0 38) (.seq (.iE (sq 39 [.nY 39 2 1 []]++sq 4 [mv 39,mb false])) .ret) .skip)))) (.iE (sq 13 [mv 7,bi .add 13 1]++sq 7 [mv 14]))))))) (.seq (.iE (sq 40 [mv 6]++sq 4 [mv 40,mb true])) .ret))))
theorem abS:jV Tryz.prog 123 YM 41 [.tmp 4,.tmp 5]:=mf Tryz.func123 Tryz.ntmps123
def vk(s:gJ)(t:gI):gT->Option (gT⊕ir)
 |(out,i)=>
  if(decide (i<(t.length:Int)))=true then
   if 0<=i/\i<(t.length:Int)then
    if(decide ((t.getD i.toNat default)<0))=true then
     if 0<=i/\i<(t.length:Int)then
      (rF s (IntKind.i64.wrap ((-1)-(t.getD i.toNat default)))).bind fun r=>
      if(out.length+r.length)*8<=140737488355328 then
       if(decide (60<((out++r).length:Int)))=true then
        Option.map Sum.inr (
         some ([],false))
       else
        some (.inl ((out++r),(IntKind.i64.wrap (i+1))))
      else none
     else none
    else
     if 0<=i/\i<(t.length:Int)then
      if(out.length+1)*8<=140737488355328 then
       if(decide (60<((out++[(t.getD i.toNat default)]).length:Int)))=true then
        Option.map Sum.inr (
         some ([],false))
       else
        some (.inl ((out++[(t.getD i.toNat default)]),(IntKind.i64.wrap (i+1))))
      else none
     else none
   else none
  else
   Option.map Sum.inr (
    some (out,true))
def qb(s:gJ)(t:gI):Option ir:=
 iL (vk s t) ([],0)
instance Ro{s:gJ}{t:gI}:jf (qb s t) fun rr=>mO Tryz.prog 123 [lD s,(iH 1 iD) t] [(iH 1 iD) rr.1,bD rr.2]:=⟨@fun rr h=>by
 delta qb at h;refine abS.mz (iB ?_);delta YM;refine jd ?_;refine kH h [4,5,6,7,9,10,11,12,13,14,15,16,17,18,19,20,21,22,23,24,25,26,27,28,29,30,31,32,33,34,35,36,37,38,39] (fun pp=>[(6,.own 1 8 (List.map iD pp.1)),(7,.d (iD pp.2))]) (fun pp=>[(2,.obj 158 [.d (iH 1 (iH 1 iD) s)]),(8,.tok 2 1 pp.1.length)]) ?_;rintro⟨out,i⟩ t1 h hb1;unfold vk at h;try dsimp only at h
 refine iB (jd ?_);refine iT h fun hc h=>?_
 refine jZ h fun hp h=>?_
 refine iF h fun hc h=>?_
 refine jZ h fun hp h=>?_
 refine jZ h fun hp h=>?_
 refine iF h fun hc h=>?_
 cases h;refine⟨_,rfl,?_⟩;refine(iW.drop 34 iA).trans ?_;exact wk⟩
end Go.Proofs.YtjgbnaihpicpgabGreat
namespace Go.Proofs.YtjgbnaihpicpgabGreat
open Go oq Go.ChangeShapes Go.WideShapes Go.ChangeAt Go.RowKit
abbrev RC:oq.Own:=fun _ _=>False
theorem KX{P:Program}{f:Nat}{ds:List D}{r:D}(h:jK P f ds r){W:World}{vs:Array Value}(h1:∀v∈vs.toList,True)(hd:AV.jk (fun _=>.no) RC W (ds.map .d) vs.toList):
 Calls P f vs W fun e W'=>(∃u,e=.returned u/\D.ok RC W' r u)/\Below W.heap.size W W':=by
 have no:∀(b o:Nat),¬({O:=fun _ _=>False,β:=fun _=>.no,s:=[],w:=W,k:=0}:Ctx).iN (fun _=>.no) [] b o:=fun b o h=>by
  rcases h with h|⟨i,h⟩
  ·exact h
  ·exact h
 have hI:Inv {O:=fun _ _=>False,β:=fun _=>.no,s:=[],w:=W,k:=0} (fun _=>.no) [] W:=
  ⟨aC _,rfl,fun _ _ _ h _=>h,fun _ _ _=>rfl,fun _ _ h=>.inl h,fun id b h=>.inl ⟨id,h⟩,fun _ h=>absurd h (Nat.not_lt_zero _),fun _ _ h=>h.elim,fun _=>rfl,fun _ _ _ h=>h.elim⟩
 have ha:AV.jk (fun _=>.no) (({O:=fun _ _=>False,β:=fun _=>.no,s:=[],w:=W,k:=0}:Ctx).iN (fun _=>.no) []) W (ds.map .d) vs.toList:=by
  have e:(({O:=fun _ _=>False,β:=fun _=>.no,s:=[],w:=W,k:=0}:Ctx).iN (fun _=>.no) [])=RC:=by
   funext b o;exact propext ⟨fun h=>no b o h,fun h=>h.elim⟩
  rw[e];exact hd
 refine(h {O:=fun _ _=>False,β:=fun _=>.no,s:=[],w:=W,k:=0} vs rfl rfl hI ha).mono fun e W' hq=>?_
 obtain⟨u,x,β',s',rfl,hi,hx,rfl⟩:=hq;simp only[AV.ok]at hx;refine⟨⟨u,rfl,D.kA (fun b o v hc _=>⟨hc,fun h=>h⟩) _ _ hx⟩,?_⟩;have hio:=hi.io;simp only[Cv,dY]at hio;exact⟨hio.1,hio.2.2,hio.2.1,hi.size,fun k hk=>hi.pU k hk fun id h=>h⟩
theorem JS{b o i:Nat}:Addr.add ⟨b,o,none⟩ i=⟨b,o+i,none⟩:=by
 by_cases h:i=0
 ·simp[Addr.add,h]
 ·simp[Addr.add,h]
def Rd(P:Program)(t:TypeId)(e:Nat){α:Type}(f:α->D)(G:α->Prop):Prop:=
 P.cellsOf t=e/\∀{H:Type}{enc:TypeId×Value->H}{w:World}{spare:Nat->Bool}{held:Bool}{n:Nat}{cs:List Value}{x:DataW H×List MemPlace},
  DataW.trod enc P w 0 spare held n t cs=some x->∃y,G y/\cs.length=e/\(∀v∈cs,oq.one v=true)/\D.jk RC w (iI (f y)) cs
def Nt(P:Program)(fs:List Field)(o m:Nat){α:Type}(F:α->List D)(G:α->Prop):Prop:=
 ∀⦃H:Type⦄ ⦃enc:TypeId×Value->H⦄ ⦃w:World⦄ ⦃spare:Nat->Bool⦄ ⦃held:Bool⦄ ⦃n:Nat⦄ ⦃cs:List Value⦄,cs.length=m->
  (∀f∈fs,∃z:DataW H×List MemPlace,DataW.trod enc P w 0 spare held n f.type ((cs.drop f.offset).take (P.cellsOf f.type))=some z)->
  ∃y,G y/\(∀v∈cs.drop o,oq.one v=true)/\D.jk RC w (F y) (cs.drop o)
theorem pL{O:oq.Own}{w:World}:∀{xs ys:List D}{us vs:List Value},D.jk O w xs us->D.jk O w ys vs->D.jk O w (xs++ys) (us++vs)
 |[],_,us,_,h,h2=>by simp only[D.jk]at h;subst h;exact h2
 |x::xs,_,us,_,h,h2=>by
  simp only[D.jk]at h;obtain⟨v,r,rfl,h1,h3,h4⟩:=h;simp only[bz,D.jk];exact⟨v,_,rfl,h1,h3,pL h4 h2⟩
theorem Nt.nil{P:Program}{m:Nat}:Nt P [] m m (fun _:Unit=>[]) (fun _=>True):=fun H enc w spare held n cs hl _=>by
 rw[bE iA];exact⟨(),trivial,fun v hv=>(ei hv).elim,rfl⟩
theorem Nt.cons{P:Program}{f:Field}{fs:List Field}{o o' m e:Nat}{α β:Type}{g:α->D}{F:β->List D}{G:α->Prop}{G':β->Prop}(ho:f.offset=o)(h:Rd P f.type e g G)(ho':o'=o+e)(hs:Nt P fs o' m F G'):
 Nt P (f::fs) o m (fun y:α×β=>iI (g y.1)++F y.2) (fun y=>G y.1/\G' y.2):=fun H enc w spare held n cs hl hf=>by
 subst ho;subst ho';obtain⟨z,hz⟩:=hf f (by simp);obtain⟨y,g1,g2,g3,g4⟩:=h.2 hz;obtain⟨y',k1,k2,k3⟩:=hs hl (fun f' hf'=>hf f' (by simp[hf']));have e1:cs.drop f.offset=(cs.drop f.offset).take (P.cellsOf f.type)++cs.drop (f.offset+e):=by rw[h.1,<-List.drop_drop,bL]
 refine⟨(y,y'),⟨g1,k1⟩,?_,?_⟩
 ·rw[e1];intro v hv;rcases aG.1 hv with hv|hv
  ·exact g3 v hv
  ·exact k2 v hv
 ·rw[e1];exact pL g4 k3
theorem Rd.struct{P:Program}{t:TypeId}{fs:Array Field}{m:Nat}{α β:Type}{F:α->List D}{G:α->Prop}{f:β->D}{G':β->Prop}(j:α->β)(ht:P.underlying t=some (.struct fs))(hm:P.cellsOf t=m)
 (h:Nt P fs.toList 0 m F G) (hj:∀y,iI (f (j y))=F y) (hG:∀y,G y->G' (j y)):Rd P t m f G':=⟨hm,fun{H enc w spare held n cs x} hx=>by
 obtain⟨xs,n',rfl,_,hl,hxl,hall⟩:=DataW.trod_struct ht hx;obtain⟨y,g1,g2,g3⟩:=h (n:=n') (hl.trans hm) (fun f hf=>by
  obtain⟨i,hi⟩:=cI hf;have hi':fs[i]?=some f:=by simpa using hi
  rw[hall i f hi'];have:i<xs.length:=by rw[hxl];exact(aW.1 hi').1
  exact⟨xs[i],az this⟩)
 exact⟨j y,hG y g1,hl.trans hm,by simpa using g2,by rw[hj];simpa using g3⟩⟩
theorem Rd.int{P:Program}{t:TypeId}(ht:P.underlying t=some (.int .i64))(hm:P.cellsOf t=1):Rd P t 1 iD (fun _=>True):=⟨hm,fun{H enc w spare held n cs x} hx=>by
 obtain⟨m,hm⟩:=DataW.trod_int ht hx;obtain⟨rfl,_⟩:=hm;exact⟨m,trivial,rfl,by simp[oq.one],⟨_,_,rfl,rfl,⟨rfl,rfl⟩,rfl⟩⟩⟩
abbrev Cg{α:Type}(xs:List α):Prop:=xs.length<9223372036854775808
theorem Rd.slice{P:Program}{t e:TypeId}{k:Nat}{α:Type}{f:α->D}{G:α->Prop}[sW f k](ht:P.underlying t=some (.slice e))(hm:P.cellsOf t=1)(hk:0<k)(h:Rd P e k f G)(hcel:∀y O w vs,D.jk O w (iI (f y)) vs->D.J6 O w (f y) vs):
 Rd P t 1 (iH k f) (fun xs=>Cg xs/\∀x∈xs,G x):=⟨hm,fun{H enc w spare held n cs x} hx=>by
 rcases DataW.trod_slice ht hx with⟨rfl,_⟩|⟨a,len,cap,elems,rest,n',rfl,rfl,_,_,hl,hmx,hlen,hel,_,_⟩
 ·refine⟨[],⟨by show(0:Nat)<9223372036854775808;decide,fun x hx=>(ei hx).elim⟩,rfl,by simp[oq.one],⟨_,_,rfl,rfl,?_,rfl⟩⟩;simp only[iH,D.ok];exact⟨none,0,rfl,⟨aC _,by decide⟩,trivial,.inl rfl⟩
 ·have hmx':cap<9223372036854775808:=by have:maxLen=2^63-1:=rfl;omega
  have each:∀i,i<len->∃y vs,G y/\vs.length=k/\(∀v∈vs,oq.one v=true)/\D.jk RC w (iI (f y)) vs/\∀j,j<k->w.cell? ((a.add (i*k)).add j)=vs[j]?:=by
   intro i hi;have h1:=hel i hi;rw[h.1,az (show i<elems.length by omega),av]at h1;obtain⟨vs,h2,h3⟩:=h1;obtain⟨y,g1,g2,g3,g4⟩:=h.2 h3;obtain⟨_,_,h5⟩:=World.cells?_some h2;exact⟨y,vs,g1,g2,g3,g4,h5⟩
  rcases fU len with h0|hpos
  ·subst h0;refine⟨[],⟨by show(0:Nat)<9223372036854775808;decide,fun x hx=>(ei hx).elim⟩,rfl,by simp[oq.one],⟨_,_,rfl,rfl,?_,rfl⟩⟩;simp only[iH,D.ok];exact⟨some a,cap,rfl,⟨hl,hmx'⟩,trivial,.inl rfl⟩
  have hs:a.spot=none:=by
   obtain⟨y,vs,_,g2,_,_,g5⟩:=each 0 hpos;have h0:=g5 0 hk;rw[az (show 0<vs.length by omega)]at h0;have:=World.cell?_spot h0;simpa[Addr.add]using this
  obtain⟨b,o,sp⟩:=a;simp only at hs;subst hs;have key:∀(m i:Nat),i+m=len->∃ys:List α,ys.length=m/\(∀y∈ys,G y)/\D.row RC w b (o+i*k) k (ys.map f):=by
   intro m;induction m with
   |zero=>intro i _;exact⟨[],rfl,fun y hy=>(ei hy).elim,by simp[D.row]⟩
   |succ m ih=>
    intro i hi;obtain⟨ys,y1,y2,y4⟩:=ih (i+1) iA;obtain⟨y,vs,g1,g2,g3,g4,g5⟩:=each i iA;refine⟨y::ys,by simp[y1],fun z hz=>?_,?_⟩
    ·rcases bA.1 hz with rfl|hz
     ·exact g1
     ·exact y2 z hz
    ·rw[aK];refine D.ow.2 ⟨⟨vs,g2,fun j v hj=>?_,hcel _ _ _ _ g4⟩,?_⟩
     ·have hjk:j<k:=by rw[<-g2];exact(aO.1 hj).1
      have:=g5 j hjk;rw[hj]at this;refine⟨?_,fun h=>h,g3 v (bW hj)⟩;rw[<-this,JS,JS]
     ·have:=y4;rwa [bZ,Nat.one_mul,<-di]at this
  obtain⟨ys,y1,y2,y4⟩:=key len 0 iA;refine⟨ys,⟨by show ys.length<9223372036854775808;omega,y2⟩,rfl,by simp[oq.one],⟨_,_,rfl,rfl,?_,rfl⟩⟩;simp only[iH,D.ok];refine⟨some ⟨b,o,none⟩,cap,by rw[aJ,y1],⟨by rw[aJ];omega,iA⟩,trivial,?_⟩;exact .inr ⟨b,o,rfl,by simpa using y4⟩⟩
theorem Rd.agg{P:Program}{t:TypeId}{fs:Array Field}{m:Nat}{α:Type}{f:α->D}{G:α->Prop}(hr:Rd P t m f G)(ht:P.underlying t=some (.struct fs))(hf:∀y,∃cs,f y=.agg cs){W:World}{r:Reach}{base:Nat}{v:Value}(hv:Value.okWide P W r base t v)
 {H:Type} {enc:TypeId×Value->H} {spare:Nat->Bool} {held:Bool} {d:DataW H} {p:List MemPlace} (h:DataW.Trod enc P W 0 spare held t v d p):∃y,G y/\D.ok RC W (f y) v:=by
 unfold Value.okWide at hv;rw[ht]at hv;obtain⟨cs,rfl,_,_⟩:=hv;obtain⟨fuel,hf'⟩:=h;obtain⟨y,g1,g2,g3,g4⟩:=hr.2 hf';obtain⟨ds,hd⟩:=hf y;refine⟨y,g1,?_⟩;rw[hd]at g4⊢;simp only[D.ok];exact⟨cs,rfl,by simpa[iI,Value.cells]using g4⟩
theorem Rd.cell{P:Program}{t:TypeId}{α:Type}{f:α->D}{G:α->Prop}(hr:Rd P t 1 f G)(hf:∀y,iI (f y)=[f y]){W:World}{v:Value}(hv:v.cells=#[v])
 {H:Type} {enc:TypeId×Value->H} {spare:Nat->Bool} {held:Bool} {d:DataW H} {p:List MemPlace} (h:DataW.Trod enc P W 0 spare held t v d p):∃y,G y/\D.ok RC W (f y) v:=by
 obtain⟨fuel,hf'⟩:=h;obtain⟨y,g1,g2,g3,g4⟩:=hr.2 hf';refine⟨y,g1,?_⟩;rw[hf,hv]at g4;simp only[D.jk]at g4;obtain⟨u,r,e,_,g5,_⟩:=g4;simp at e;rw[e.1];exact g5
end Go.Proofs.YtjgbnaihpicpgabGreat
