/- A part of the proof about FnUnravelled (Lay, G0, G1). -/
import Derived.Test.YtelhemjlfkbkeaaGreatUa
import Derived.Test.YtelhemjlfkbkeaaGreatUd
import Derived.Shelf.Spec.SlicesGrow
import Derived.Test.YtelhemjlfkbkeaaGreatProg
import Derived.KernelRfl
set_option linter.all false
noncomputable section
namespace Go.Proofs
open Go.Shelf
def Tryz.HQ:Go.Shelf.Ren:=⟨fun|4=>115|n=>n,fun|22=>24|25=>2|3=>3|4=>4|9=>9|20=>20|0=>0|n=>n,fun|n=>n⟩
theorem Tryz.RX:Go.Proofs.Lays8.n4 Tryz.prog Tryz.HQ:={
 mixed:=by kernel_rfl
 f4:=⟨Tryz.f115.name,by decide,Tryz.func115.trans (bW some (by kernel_rfl))⟩
 t0:=Tryz.underlying0
 a0:=Tryz.isAgg0
 z0:=Tryz.sizeOf0
 v0:=Tryz.zeroValue0
 t3:=Tryz.underlying3
 a3:=Tryz.isAgg3
 z3:=Tryz.sizeOf3
 v3:=Tryz.zeroValue3
 t4:=Tryz.underlying4
 a4:=Tryz.isAgg4
 z4:=Tryz.sizeOf4
 v4:=Tryz.zeroValue4
 t9:=Tryz.underlying9
 a9:=Tryz.isAgg9
 z9:=Tryz.sizeOf9
 v9:=Tryz.zeroValue9
 t20:=Tryz.underlying20
 a20:=Tryz.isAgg20
 z20:=Tryz.sizeOf20
 v20:=Tryz.zeroValue20
 t22:=Tryz.underlying24
 a22:=Tryz.isAgg24
 z22:=Tryz.sizeOf24
 v22:=Tryz.zeroValue24}
end Go.Proofs
namespace Go.Proofs.YtelhemjlfkbkeaaGreat
open Go oe
theorem J2:(Tryz.prog.follows .mixedOrders=true)=True:=eq_true (by kernel_rfl)
attribute [go_sem] J2
instance:Inhabited ByteArray:=⟨ByteArray.empty⟩
end Go.Proofs.YtelhemjlfkbkeaaGreat
namespace Go.Proofs.YtelhemjlfkbkeaaGreat
open Go oe
attribute [local irreducible] xL zb yK oW pM sV pO Er FY CG FX Cg yg pT rE EZ jr oN
set_option maxHeartbeats 4000000
set_option maxRecDepth 4000
def iZ(x:fI):D:=.agg [(gN 1 iD) x]
def jL(x:fJ):D:=.agg [(gN 1 iD) x.1,(gN 1 iD) x.2]
def jg(x:fW):D:=.agg [(gN 1 iD) x.1,(gN 2 jL) x.2]
instance:uK iZ 1:=⟨fun _=>rfl⟩
instance:uK jL 2:=⟨fun _=>rfl⟩
instance:uK jg 2:=⟨fun _=>rfl⟩
attribute [go_sem] iZ jL jg
def Xs:gR:=
 (.seq (.gz (sq 1 [bo 1 26 0,mb false])) (.seq (.seq (.gz (sq 5 [fa 0 1,ld 5,ln 6,bi .lss 7 1,mv 8]++sg 9 false 10 [fa 0 1,ld 10,ln 11,bi .gtr 12 8]++sq 14 [po 9 13])) (.cond (t0 14) (.seq (.gz (sq 2 [mb false])) .ret) .skip)) (.seq (.seq (.gz (sq 15 [fa 0 1,ld 15,ln 16,mi 0])) (.block 0 (.loop (.seq (.gz (sq 19 [bn .lss 18 17])) (.seq (.cond (t0 19) .skip (.exit 0)) (.seq (.block 1 (.seq (.gz (sq 20 [ix 1 16 18,ld 20]++sq 4 [mv 21])) (.seq (.gz (sq 22 [mv 4,bi .lss 22 0,mv 23]++sg 24 false 25 [mv 4,bi .gtr 25 3]++sq 27 [po 24 26])) (.cond (t0 27) (.seq (.gz (sq 2 [mb false])) .ret) .skip)))) (.gz (sq 28 [bi .add 18 1]++sq 18 [mv 28])))))))) (.seq (.gz (sq 2 [mb true])) .ret))))
theorem Zz:lE Tryz.prog 69 Xs 29 [.tmp 2]:=mf Tryz.func69 Tryz.ntmps69
def sM(sig:fI):Int->Option fZ
 |v18=>
  if(decide (v18<(sig.length:Int)))=true then
   if 0<=v18/\v18<(sig.length:Int)then
    if(decide ((sig.getD v18.toNat default)<0))=true then
     Option.map Sum.inr (
      some false)
    else
     if(decide (3<(sig.getD v18.toNat default)))=true then
      Option.map Sum.inr (
       some false)
     else
      some (.inl (IntKind.i64.wrap (v18+1)))
   else none
  else
   Option.map Sum.inr (
    some true)
def qx(sig:fI):Option Bool:=
 if(decide ((sig.length:Int)<1))=true then
  some false
 else
  if(decide (8<(sig.length:Int)))=true then
   some false
  else
   gI (sM sig) 0
instance Rk{sig:fI}:iH (qx sig) fun rr=>lz Tryz.prog 69 [iZ sig] (bD rr):=⟨@fun rr h=>by
 delta qx at h;refine Zz.jO (gv ?_);delta Xs;refine iL ?_;refine iF h fun hc h=>?_
 refine iF h fun hc h=>?_
 refine jV h [2,4,18,19,20,21,22,23,24,25,26,27,28] (fun pp=>[(18,.d (iD pp))]) (fun pp=>[(1,.obj 26 [.d (gN 1 iD sig)])]) ?_;rintro v18 t1 h hb1;unfold sM at h;try dsimp only at h
 refine gv (iL ?_);exact od⟩
def XJ:gR:=
 (.seq (.gz (sq 2 [mi 0])) (.seq (.seq (.gz (sq 5 [mv 0,ln 5,bi .lss 6 1])) (.cond (t0 7) (.gz (sq 8 [.Gt 9 (.const (.string {data:=#[115,108,105,99,101,115,46,77,105,110,58,32,101,109,112,116,121,32,108,105,115,116]}))]++s0 (.Sv (t0 8)))) .skip)) (.seq (.gz (sq 9 [mv 0,.CY 1 (t0 9) (i0 0),ld 10]++sq 3 [mv 11])) (.seq (.seq (.gz (sq 4 [mi 1])) (.block 0 (.loop (.seq (.seq (.gz (sq 12 [mv 4,mv 0,ln 13,bn .lss 12 14])) (.cond (t0 15) .skip (.exit 0))) (.seq (.block 1 (.gz (sq 18 [mv 3,mv 0,mv 4,ix 1 19 20,ld 21,.min (t0 18) (t0 22)]++sq 3 [mv 23]))) (.gz (sq 16 [mv 4,bi .add 16 1]++sq 4 [mv 17]))))))) (.seq (.gz (sq 24 [mv 3]++sq 2 [mv 24])) .ret)))))
theorem ZN:lE Tryz.prog 87 XJ 25 [.tmp 2]:=mf Tryz.func87 Tryz.ntmps87
def ov(x:fI):fT->Option (fT⊕Int)
 |(m,i)=>
  if(decide (i<(x.length:Int)))=true then
   if 0<=i/\i<(x.length:Int)then
    some (.inl ((if(x.getD i.toNat default)<m then(x.getD i.toNat default)else m),(IntKind.i64.wrap (i+1))))
   else none
  else
   Option.map Sum.inr (
    some m)
def mh(x:fI):Option Int:=
 if(decide ((x.length:Int)<1))=true then
  none
 else
  if 0<=0/\0<(x.length:Int)then
   gI (ov x) ((x.getD 0 default),1)
  else none
instance Ex{x:fI}:iH (mh x) fun rr=>lz Tryz.prog 87 [(gN 1 iD) x] (iD rr):=⟨@fun rr h=>by
 delta mh at h;refine ZN.jO (gv ?_);delta XJ;refine iL ?_;refine iF h fun hc h=>?_
 refine kz h fun hp h=>?_
 refine jV h [3,4,12,13,14,15,16,17,18,19,20,21,22,23] (fun pp=>[(3,.d (iD pp.1)),(4,.d (iD pp.2))]) (fun pp=>[]) ?_;rintro⟨m,i⟩ t1 h hb1;unfold ov at h;try dsimp only at h
 refine gv (iL ?_);exact od⟩
def TR:gR:=
 (.seq (.gz (sq 2 [bo 2 26 0]++sq 4 [mi 0])) (.seq (.seq (.gz (sq 5 [mv 1,bi .lss 5 0])) (.cond (t0 6) (.seq (.gz (sq 4 [mi 0])) .ret) .skip)) (.seq (.gz (sq 7 [fa 0 2,ld 7,mv 1,ix 1 8 9,ld 10]++sq 4 [mv 11])) .ret)))
theorem Wl:lE Tryz.prog 127 TR 12 [.tmp 4]:=mf Tryz.func127 Tryz.ntmps127
def rm(sig:fI)(n:Int):Option Int:=
 if(decide (n<0))=true then
  some 0
 else
  if 0<=n/\n<(sig.length:Int)then
   some (sig.getD n.toNat default)
  else none
instance N4{sig:fI}{n:Int}:iH (rm sig n) fun rr=>lz Tryz.prog 127 [iZ sig,iD n] (iD rr):=⟨@fun rr h=>by
 delta rm at h;refine Wl.jO (gv ?_);delta TR;refine iL ?_;exact od⟩
def TN:gR:=
 (.seq (.gz (sq 2 [mi 0])) (.seq (.seq (.draw (sq 3 [mv 0,.rI (t0 3),fa 2 4,ld 5,mv 0,.rI (t0 7),fa 1 8,ld 9,ln 10,bn .geq 6 11,mv 12]++sg 13 false 14 [mv 0,.rI (t0 14),fa 1 15,ld 16,mv 0,.rI (t0 18),fa 2 19,ld 20,ix 1 17 21,ld 22,mv 0,.rI (t0 24),fa 0 25,fa 0 26,ld 27,ln 28,bn .geq 23 29]++sq 31 [po 13 30]) [[],[0],[1],[2],[],[4],[5],[6],[7],[3,8],[9],[10],[11,10],[12,10],[13,10],[10],[15,10],[16,10],[17,10],[14,18,10],[19,10],[10],[21,10],[22,10],[23,10],[24,10],[25,10],[20,26,10],[10,27]]) (.cond (t0 31) (.seq (.gz (sq 2 [mi (-1)])) .ret) .skip)) (.seq (.gz (sq 32 [mv 0,.rI (t0 32),fa 2 33,ld 34,bi .add 35 1,.rI (t0 32),fa 2 37]++s0 (sr 1 38 36))) (.seq (.draw (sq 39 [mv 0,.rI (t0 39),fa 0 40,la 1 41,mv 0,.rI (t0 43),fa 1 44,ld 45,mv 0,.rI (t0 47),fa 2 48,ld 49,bi .sub 50 1,ix 1 46 51,ld 52,cf 127 [42,53]]++sq 2 [mv 54]) [[],[0],[1],[2],[],[4],[5],[6],[],[8],[9],[10],[11],[7,12],[13],[3,14],[15,15,0,1,2,3,4,5,6,7,8,9,10,11,12,13,14,15]]) .ret))))
theorem Wi:lE Tryz.prog 124 TN 55 [.tmp 2]:=mf Tryz.func124 Tryz.ntmps124
def oF(c0:fI)(c1:fI)(c2:Int):Option fT:=
 if(decide ((c1.length:Int)<=c2))=true then
  some ((-1),c2)
 else
  if 0<=c2/\c2<(c1.length:Int)then
   if(decide ((c0.length:Int)<=(c1.getD c2.toNat default)))=true then
    some ((-1),c2)
   else
    if 0<=(IntKind.i64.wrap ((IntKind.i64.wrap (c2+1))-1))/\(IntKind.i64.wrap ((IntKind.i64.wrap (c2+1))-1))<(c1.length:Int)then
     (rm c0 (c1.getD (IntKind.i64.wrap ((IntKind.i64.wrap (c2+1))-1)).toNat default)).bind fun r=>
     some (r,(IntKind.i64.wrap (c2+1)))
    else none
  else none
instance Je{c0:fI}{c1:fI}{c2:Int}:iH (oF c0 c1 c2) fun rr=>hY Tryz.prog 124 [.ptr 0 0] [(0,.obj 146 [.d (gN 1 iD c0),.d (gN 1 iD c1),.d (iD c2)])] 1 fun xx ss=>xx=.d (iD rr.1)/\ss=[(0,.obj 146 [.d (gN 1 iD c0),.d (gN 1 iD c1),.d (iD rr.2)])]:=⟨@fun rr h=>by
 delta oF at h;refine Wi.nN (gv ?_);delta TN;refine iL ?_;exact od⟩
def TC:gR:=
 (.seq (.gz (sq 2 [mb false])) (.seq (.seq (.gz (sq 3 [mi 1])) (.block 0 (.loop (.seq (.seq (.gz (sq 5 [mv 3,bi .gtr 5 0])) (.cond (t0 6) .skip (.exit 0))) (.seq (.block 1 (.seq (.gz (sq 9 [mv 0,cf 124 [9]]++sq 4 [mv 10])) (.seq (.seq (.gz (sq 11 [mv 4,bi .lss 11 0])) (.cond (t0 12) (.seq (.gz (sq 2 [mb false])) .ret) .skip)) (.gz (sq 13 [mv 3,mv 4,bn .add 13 14]++sq 3 [mv 15]))))) (.gz (sq 7 [mv 3,bi .sub 7 1]++sq 3 [mv 8]))))))) (.seq (.gz (sq 2 [mb true])) .ret)))
theorem V8:lE Tryz.prog 112 TC 16 [.tmp 2]:=mf Tryz.func112 Tryz.ntmps112
def qV(c0:fI)(c1:fI):fT->Option (fT⊕(Bool×Int))
 |(need,c)=>
  if(decide (0<need))=true then
   (oF c0 c1 c).bind fun r=>
   if(decide (r.1<0))=true then
    Option.map Sum.inr (
     some (false,r.2))
   else
    some (.inl ((IntKind.i64.wrap ((IntKind.i64.wrap (need+r.1))-1)),r.2))
  else
   Option.map Sum.inr (
    some (true,c))
def oG(c0:fI)(c1:fI)(c2:Int):Option (Bool×Int):=
 gI (qV c0 c1) (1,c2)
instance Jf{c0:fI}{c1:fI}{c2:Int}:iH (oG c0 c1 c2) fun rr=>hY Tryz.prog 112 [.ptr 0 0] [(0,.obj 146 [.d (gN 1 iD c0),.d (gN 1 iD c1),.d (iD c2)])] 1 fun xx ss=>xx=.d (bD rr.1)/\ss=[(0,.obj 146 [.d (gN 1 iD c0),.d (gN 1 iD c1),.d (iD rr.2)])]:=⟨@fun rr h=>by
 delta oG at h;refine V8.nN (gv ?_);delta TC;refine iL ?_;refine jV h [2,3,4,5,6,7,8,9,10,11,12,13,14,15] (fun pp=>[(3,.d (iD pp.1))]) (fun pp=>[(0,.obj 146 [.d (gN 1 iD c0),.d (gN 1 iD c1),.d (iD pp.2)])]) ?_;rintro⟨need,c⟩ t1 h hb1;unfold qV at h;try dsimp only at h
 refine gv (iL ?_);refine iT h fun hc h=>?_
 refine mA [(0,0)] [] h fun r hr h=>?_
 exact od⟩
def XL:gR:=
 (.seq (.gz (sq 3 [bo 3 26 0]++sq 6 [mi 0])) (.seq (.gz (sq 8 [la 1 3,mv 1,mv 2,.build [.sl 0 (some true) [],.sl 0 (some true) [],.lit (.int .i64 0)] [(0,1,(t0 8)),(1,1,(t0 9)),(2,1,(t0 10))]]++sq 7 [.alloc 7 146 [.sl 0 (some true) [],.sl 0 (some true) [],.lit (.int .i64 0)]]++s0 (sr 3 7 11))) (.seq (.seq (.gz (sq 12 [cf 112 [7],nt 12])) (.cond (t0 13) (.seq (.gz (sq 6 [mi (-1)])) .ret) .skip)) (.seq (.gz (sq 14 [fa 2 7,ld 14]++sq 6 [mv 15])) .ret))))
theorem ZO:lE Tryz.prog 88 XL 16 [.tmp 6]:=mf Tryz.func88 Tryz.ntmps88
def nH(sig:fI)(t:fI)(iz:Int):Option Int:=
 (oG sig t iz).bind fun r=>
 if r.1=true then
  some r.2
 else
  some (-1)
instance Rl{sig:fI}{t:fI}{iz:Int}:iH (nH sig t iz) fun rr=>lz Tryz.prog 88 [iZ sig,(gN 1 iD) t,iD iz] (iD rr):=⟨@fun rr h=>by
 delta nH at h;refine ZO.jO (gv ?_);delta XL;refine iL ?_;refine mA [(0,7)] [] h fun r hr h=>?_
 exact od⟩
def W8:gR:=
 (.seq (.gz (sq 2 [bo 2 26 0]++sq 4 [mb false])) (.seq (.gz (sq 5 [la 1 2,cf 69 [5],mv 6]++sg 7 true 8 [mv 1,ln 8,bi .gtr 9 0]++sq 11 [pa 7 10,mv 11]++sg 12 true 13 [mv 1,ln 13,bi .leq 14 60]++sq 16 [pa 12 15,mv 16]++sg 17 true 18 [mv 1,cf 87 [18],bi .geq 19 (-24)]++sq 21 [pa 17 20,mv 21]++sg 22 true 23 [la 1 2,mv 1,.ji 88 [(t0 23),(t0 24),(i0 0)],mv 1,ln 26,bn .eql 25 27]++sq 29 [pa 22 28]++sq 4 [mv 29])) .ret))
theorem Zg:lE Tryz.prog 45 W8 30 [.tmp 4]:=mf Tryz.func45 Tryz.ntmps45
def mg(sig:fI)(t:fI):Option Bool:=
 (qx sig).bind fun r=>
 if r=true then
  if(decide (0<(t.length:Int)))=true then
   if(decide ((t.length:Int)<=60))=true then
    (mh t).bind fun r_1=>
    if(decide ((-24)<=r_1))=true then
     (nH sig t 0).bind fun r_2=>
     some (r_2==(t.length:Int))
    else
     some false
   else
    some false
  else
   some false
 else
  some false
instance QH{sig:fI}{t:fI}:iH (mg sig t) fun rr=>lz Tryz.prog 45 [iZ sig,(gN 1 iD) t] (bD rr):=⟨@fun rr h=>by
 delta mg at h;refine Zg.jO (gv ?_);delta W8;refine iL ?_;exact od⟩
def WO:gR:=
 (.seq (.gz (sq 6 [mb false])) (.seq (.gz (sq 7 [mv 0,mv 1,bn .geq 7 8,mv 9]++sg 10 true 11 [mv 0,mv 2,bn .leq 11 12]++sq 14 [pa 10 13]++sq 6 [mv 14])) .ret))
theorem YY:lE Tryz.prog 22 WO 15 [.tmp 6]:=mf Tryz.func22 Tryz.ntmps22
def kX(x:Int)(lo:Int)(hi:Int):Option Bool:=
 if(decide (lo<=x))=true then
  some (decide (x<=hi))
 else
  some false
instance Te{x:Int}{lo:Int}{hi:Int}:iH (kX x lo hi) fun rr=>lz Tryz.prog 22 [iD x,iD lo,iD hi] (bD rr):=⟨@fun rr h=>by
 delta kX at h;refine YY.jO (gv ?_);delta WO;refine iL ?_;exact od⟩
def WX:gR:=
 (.seq (.gz (sq 1 [bo 1 26 0,mb false])) (.seq (.seq (.gz (sq 4 [fa 0 1,ld 4,ln 5,.ji 22 [(t0 6),(i0 1),(i0 8)],nt 7])) (.cond (t0 8) (.seq (.gz (sq 2 [mb false])) .ret) .skip)) (.seq (.seq (.gz (sq 3 [mi 0])) (.block 0 (.loop (.seq (.seq (.gz (sq 9 [mv 3,fa 0 1,ld 10,ln 11,bn .lss 9 12])) (.cond (t0 13) .skip (.exit 0))) (.seq (.block 1 (.seq (.gz (sq 16 [fa 0 1,ld 16,mv 3,ix 1 17 18,ld 19,.ji 22 [(t0 20),(i0 0),(i0 3)],nt 21])) (.cond (t0 22) (.seq (.gz (sq 2 [mb false])) .ret) .skip))) (.gz (sq 14 [mv 3,bi .add 14 1]++sq 3 [mv 15]))))))) (.seq (.gz (sq 2 [mb true])) .ret))))
theorem Y6:lE Tryz.prog 32 WX 23 [.tmp 2]:=mf Tryz.func32 Tryz.ntmps32
def sS(sig:fI):Int->Option fZ
 |f=>
  if(decide (f<(sig.length:Int)))=true then
   if 0<=f/\f<(sig.length:Int)then
    (kX (sig.getD f.toNat default) 0 3).bind fun r_1=>
    if r_1=true then
     some (.inl (IntKind.i64.wrap (f+1)))
    else
     Option.map Sum.inr (
      some false)
   else none
  else
   Option.map Sum.inr (
    some true)
def pF(sig:fI):Option Bool:=
 (kX (sig.length:Int) 1 8).bind fun r=>
 if r=true then
  gI (sS sig) 0
 else
  some false
instance Rs{sig:fI}:iH (pF sig) fun rr=>lz Tryz.prog 32 [iZ sig] (bD rr):=⟨@fun rr h=>by
 delta pF at h;refine Y6.jO (gv ?_);delta WX;refine iL ?_;refine rC h fun r hr h=>?_
 refine iT h fun hc h=>?_
 refine jV h [2,3,9,10,11,12,13,14,15,16,17,18,19,20,21,22] (fun pp=>[(3,.d (iD pp))]) (fun pp=>[(1,.obj 26 [.d (gN 1 iD sig)])]) ?_;rintro f t1 h hb1;unfold sS at h;try dsimp only at h
 refine gv (iL ?_);exact od⟩
def TB:gR:=
 (.seq (.gz (sq 2 [bo 2 26 0]++sq 4 [mi 0])) (.seq (.block 0 (.seq (.gz (sq 6 [mv 1,.ji 22 [(t0 6),(i0 (-24)),(i0 (-1))]]++sq 5 [mv 7])) (.cond (t0 5) (.seq (.gz (sq 4 [mi 0])) .ret) (.seq (.gz (sq 9 [mv 1,fa 0 2,ld 10,ln 11,bi .sub 12 1,.ji 22 [(t0 9),(i0 0),(t0 13)]]++sq 8 [mv 14])) (.cond (t0 8) (.seq (.gz (sq 15 [fa 0 2,ld 15,mv 1,ix 1 16 17,ld 18]++sq 4 [mv 19])) .ret) .skip))))) (.seq (.gz (sq 4 [mi (-1)])) .ret)))
theorem V7:lE Tryz.prog 111 TB 20 [.tmp 4]:=mf Tryz.func111 Tryz.ntmps111
def qg(sig:fI)(n:Int):Option Int:=
 (kX n (-24) (-1)).bind fun r=>
 if r=true then
  some 0
 else
  (kX n 0 (IntKind.i64.wrap ((sig.length:Int)-1))).bind fun r_1=>
  if r_1=true then
   if 0<=n/\n<(sig.length:Int)then
    some (sig.getD n.toNat default)
   else none
  else
   some (-1)
instance N_{sig:fI}{n:Int}:iH (qg sig n) fun rr=>lz Tryz.prog 111 [iZ sig,iD n] (iD rr):=⟨@fun rr h=>by
 delta qg at h;refine V7.jO (gv ?_);delta TB;refine iL ?_;exact od⟩
def XG:gR:=
 (.seq (.gz (sq 3 [bo 3 26 0]++sq 6 [mi 0])) (.seq (.gz (sq 7 [mi 1])) (.seq (.seq (.gz (sq 10 [mv 2]++sq 8 [mv 10])) (.block 0 (.loop (.seq (.seq (.gz (sq 11 [mv 8,mv 1,ln 12,bn .lss 11 13])) (.cond (t0 14) .skip (.exit 0))) (.seq (.block 1 (.seq (.draw (sq 17 [la 1 3,mv 1,mv 8,ix 1 18 19,ld 20,cf 111 [17,21]]++sq 9 [mv 22]) [[],[],[],[1,2],[3],[0,4],[5,5,0,1,2,3,4,5]]) (.seq (.seq (.gz (sq 23 [mv 9,bi .lss 23 0])) (.cond (t0 24) (.seq (.gz (sq 6 [mi (-1)])) .ret) .skip)) (.seq (.gz (sq 25 [mv 7,mv 9,bn .add 25 26,bi .sub 27 1]++sq 7 [mv 28])) (.seq (.gz (sq 29 [mv 7,bi .eql 29 0])) (.cond (t0 30) (.seq (.gz (sq 31 [mv 8,bi .add 31 1]++sq 6 [mv 32])) .ret) .skip)))))) (.gz (sq 15 [mv 8,bi .add 15 1]++sq 8 [mv 16]))))))) (.seq (.gz (sq 6 [mi (-1)])) .ret))))
theorem ZK:lE Tryz.prog 83 XG 33 [.tmp 6]:=mf Tryz.func83 Tryz.ntmps83
def vL(sig:fI)(t:fI):fT->Option (fT⊕Int)
 |(need,i)=>
  if(decide (i<(t.length:Int)))=true then
   if 0<=i/\i<(t.length:Int)then
    (qg sig (t.getD i.toNat default)).bind fun r=>
    if(decide (r<0))=true then
     Option.map Sum.inr (
      some (-1))
    else
     if((IntKind.i64.wrap ((IntKind.i64.wrap (need+r))-1))==0)=true then
      Option.map Sum.inr (
       some (IntKind.i64.wrap (i+1)))
     else
      some (.inl ((IntKind.i64.wrap ((IntKind.i64.wrap (need+r))-1)),(IntKind.i64.wrap (i+1))))
   else none
  else
   Option.map Sum.inr (
    some (-1))
def lU(sig:fI)(t:fI)(iz:Int):Option Int:=
 gI (vL sig t) (1,iz)
instance Rv{sig:fI}{t:fI}{iz:Int}:iH (lU sig t iz) fun rr=>lz Tryz.prog 83 [iZ sig,(gN 1 iD) t,iD iz] (iD rr):=⟨@fun rr h=>by
 delta lU at h;refine ZK.jO (gv ?_);delta XG;refine iL ?_;refine jV h [6,7,8,9,11,12,13,14,15,16,17,18,19,20,21,22,23,24,25,26,27,28,29,30,31,32] (fun pp=>[(7,.d (iD pp.1)),(8,.d (iD pp.2))]) (fun pp=>[(3,.obj 26 [.d (gN 1 iD sig)])]) ?_;rintro⟨need,i⟩ t1 h hb1;unfold vL at h;try dsimp only at h
 refine gv (iL ?_);exact od⟩
def W6:gR:=
 (.seq (.gz (sq 2 [bo 2 26 0]++sq 4 [mb false])) (.seq (.gz (sq 5 [la 1 2,cf 32 [5],mv 6]++sg 7 true 8 [mv 1,ln 8,.ji 22 [(t0 9),(i0 1),(i0 60)]]++sq 11 [pa 7 10,mv 11]++sg 12 true 13 [la 1 2,mv 1,.ji 83 [(t0 13),(t0 14),(i0 0)],mv 1,ln 16,bn .eql 15 17]++sq 19 [pa 12 18]++sq 4 [mv 19])) .ret))
theorem Ze:lE Tryz.prog 42 W6 20 [.tmp 4]:=mf Tryz.func42 Tryz.ntmps42
def jE(sig:fI)(t:fI):Option Bool:=
 (pF sig).bind fun r=>
 if r=true then
  (kX (t.length:Int) 1 60).bind fun r_1=>
  if r_1=true then
   (lU sig t 0).bind fun r_2=>
   some (r_2==(t.length:Int))
  else
   some false
 else
  some false
instance QM{sig:fI}{t:fI}:iH (jE sig t) fun rr=>lz Tryz.prog 42 [iZ sig,(gN 1 iD) t] (bD rr):=⟨@fun rr h=>by
 delta jE at h;refine Ze.jO (gv ?_);delta W6;refine iL ?_;exact od⟩
def TF:gR:=
 (.seq (.gz (sq 4 [mi 0])) (.seq (.seq (.gz (sq 6 [mv 0,ln 6,mi 0])) (.block 0 (.loop (.seq (.gz (sq 9 [bn .lss 8 7])) (.seq (.cond (t0 9) .skip (.exit 0)) (.seq (.block 1 (.seq (.gz (sq 10 [mv 8]++sq 5 [mv 10])) (.seq (.gz (sq 11 [mv 1,mv 0,mv 5,ix 1 12 13,ld 14,bn .eql 11 15])) (.cond (t0 16) (.seq (.gz (sq 17 [mv 5]++sq 4 [mv 17])) .ret) .skip)))) (.gz (sq 18 [bi .add 8 1]++sq 8 [mv 18])))))))) (.seq (.gz (sq 4 [mi (-1)])) .ret)))
theorem Wa:lE Tryz.prog 116 TF 19 [.tmp 4]:=mf Tryz.func116 Tryz.ntmps116
def nJ(s:fI)(v:Int):Int->Option (Int⊕Int)
 |v8=>
  if(decide (v8<(s.length:Int)))=true then
   if 0<=v8/\v8<(s.length:Int)then
    if(v==(s.getD v8.toNat default))=true then
     Option.map Sum.inr (
      some v8)
    else
     some (.inl (IntKind.i64.wrap (v8+1)))
   else none
  else
   Option.map Sum.inr (
    some (-1))
def lH(s:fI)(v:Int):Option Int:=
 gI (nJ s v) 0
instance Dm{s:fI}{v:Int}:iH (lH s v) fun rr=>lz Tryz.prog 116 [(gN 1 iD) s,iD v] (iD rr):=⟨@fun rr h=>by
 delta lH at h;refine Wa.jO (gv ?_);delta TF;refine iL ?_;refine jV h [4,5,8,9,10,11,12,13,14,15,16,17,18] (fun pp=>[(8,.d (iD pp))]) (fun pp=>[]) ?_;rintro v8 t1 h hb1;unfold nJ at h;try dsimp only at h
 refine gv (iL ?_);exact od⟩
def XT:gR:=
 (.seq (.gz (sq 4 [mb false])) (.seq (.gz (sq 5 [mv 0,mv 1,cf 116 [5,6],bi .geq 7 0]++sq 4 [mv 8])) .ret))
theorem ZW:lE Tryz.prog 96 XT 9 [.tmp 4]:=mf Tryz.func96 Tryz.ntmps96
def jb(s:fI)(v:Int):Option Bool:=
 (lH s v).bind fun r=>
 some (decide (0<=r))
instance Cm{s:fI}{v:Int}:iH (jb s v) fun rr=>lz Tryz.prog 96 [(gN 1 iD) s,iD v] (bD rr):=⟨@fun rr h=>by
 delta jb at h;refine ZW.jO (gv ?_);delta XT;refine iL ?_;exact od⟩
def XU:gR:=
 (.seq (.gz (sq 2 [bo 2 26 0,bo 3 68 1,mb false])) (.seq (.seq (.gz (sq 7 [la 1 2,fa 0 3,ld 8,cf 45 [7,9],nt 10,mv 11]++sg 12 false 13 [la 1 2,fa 1 3,ld 14,cf 45 [13,15],nt 16]++sq 18 [po 12 17,mv 18]++sg 19 false 20 [fa 0 3,ld 20,.CY 1 (t0 21) (i0 0),ld 22,bi .lss 23 0]++sq 25 [po 19 24])) (.cond (t0 25) (.seq (.gz (sq 4 [mb false])) .ret) .skip)) (.seq (.seq (.gz (sq 26 [fa 1 3,ld 26,ln 27,mi 0])) (.block 0 (.loop (.seq (.gz (sq 30 [bn .lss 29 28])) (.seq (.cond (t0 30) .skip (.exit 0)) (.seq (.block 1 (.seq (.gz (sq 31 [ix 1 27 29,ld 31]++sq 6 [mv 32])) (.seq (.gz (sq 33 [mv 6,bi .lss 33 0,mv 34]++sg 35 true 36 [fa 0 3,ld 36,mv 6,cf 96 [37,38],nt 39]++sq 41 [pa 35 40])) (.cond (t0 41) (.seq (.gz (sq 4 [mb false])) .ret) .skip)))) (.gz (sq 42 [bi .add 29 1]++sq 29 [mv 42])))))))) (.seq (.gz (sq 4 [mb true])) .ret))))
theorem ZX:lE Tryz.prog 97 XU 43 [.tmp 4]:=mf Tryz.func97 Tryz.ntmps97
def rP(r:fJ):Int->Option fZ
 |v29=>
  if(decide (v29<(r.2.length:Int)))=true then
   if 0<=v29/\v29<(r.2.length:Int)then
    if(decide ((r.2.getD v29.toNat default)<0))=true then
     (jb r.1 (r.2.getD v29.toNat default)).bind fun r_3=>
     if r_3=true then
      some (.inl (IntKind.i64.wrap (v29+1)))
     else
      Option.map Sum.inr (
       some false)
    else
     some (.inl (IntKind.i64.wrap (v29+1)))
   else none
  else
   Option.map Sum.inr (
    some true)
def sE(sig:fI)(r:fJ):Option Bool:=
 (mg sig r.1).bind fun r_1=>
 if r_1=true then
  (mg sig r.2).bind fun r_2=>
  if r_2=true then
   if 0<=0/\0<(r.1.length:Int)then
    if(decide ((r.1.getD 0 default)<0))=true then
     some false
    else
     gI (rP r) 0
   else none
  else
   some false
 else
  some false
instance QG{sig:fI}{r:fJ}:iH (sE sig r) fun rr=>lz Tryz.prog 97 [iZ sig,jL r] (bD rr):=⟨@fun rr h=>by
 delta sE at h;refine ZX.jO (gv ?_);delta XU;refine iL ?_;refine rC h fun r_1 hr_1 h=>?_
 refine iT h fun hc h=>?_
 refine rC h fun r_2 hr_2 h=>?_
 refine iT h fun hc h=>?_
 refine kz h fun hp h=>?_
 refine iF h fun hc h=>?_
 refine jV h [4,6,29,30,31,32,33,34,35,36,37,38,39,40,41,42] (fun pp=>[(29,.d (iD pp))]) (fun pp=>[(2,.obj 26 [.d (gN 1 iD sig)]),(3,.obj 68 [.d (gN 1 iD r.1),.d (gN 1 iD r.2)])]) ?_;rintro v29 t1 h hb1;unfold rP at h;try dsimp only at h
 refine gv (iL ?_);exact od⟩
def Xj:gR:=
 (.seq (.gz (sq 1 [bo 1 41 0,mb false])) (.seq (.seq (.gz (sq 5 [fa 0 1,la 1 5,cf 69 [6],nt 7,mv 8]++sg 9 false 10 [fa 1 1,ld 10,ln 11,bi .gtr 12 12]++sq 14 [po 9 13])) (.cond (t0 14) (.seq (.gz (sq 2 [mb false])) .ret) .skip)) (.seq (.seq (.gz (sq 15 [fa 1 1,ld 15,ln 16,mi 0])) (.block 0 (.loop (.seq (.gz (sq 19 [bn .lss 18 17])) (.seq (.cond (t0 19) .skip (.exit 0)) (.seq (.block 1 (.seq (.gz (sq 20 [ix 2 16 18,la 2 20]++sq 4 [.alloc 4 68 [.sl 0 (some true) [],.sl 0 (some true) []]]++s0 (sr 2 4 21))) (.seq (.gz (sq 22 [fa 0 1,la 1 22,la 2 4,cf 97 [23,24],nt 25])) (.cond (t0 26) (.seq (.gz (sq 2 [mb false])) .ret) .skip)))) (.gz (sq 27 [bi .add 18 1]++sq 18 [mv 27])))))))) (.seq (.gz (sq 2 [mb true])) .ret))))
theorem Zr:lE Tryz.prog 59 Xj 28 [.tmp 2]:=mf Tryz.func59 Tryz.ntmps59
def qy(sys:fW):Int->Option fZ
 |v18=>
  if(decide (v18<(sys.2.length:Int)))=true then
   if 0<=v18/\v18<(sys.2.length:Int)then
    (sE sys.1 ((sys.2.getD v18.toNat default).1,(sys.2.getD v18.toNat default).2)).bind fun r_1=>
    if r_1=true then
     some (.inl (IntKind.i64.wrap (v18+1)))
    else
     Option.map Sum.inr (
      some false)
   else none
  else
   Option.map Sum.inr (
    some true)
def oX(sys:fW):Option Bool:=
 (qx sys.1).bind fun r=>
 if r=true then
  if(decide (12<(sys.2.length:Int)))=true then
   some false
  else
   gI (qy sys) 0
 else
  some false
instance Ni{sys:fW}:iH (oX sys) fun rr=>lz Tryz.prog 59 [jg sys] (bD rr):=⟨@fun rr h=>by
 delta oX at h;refine Zr.jO (gv ?_);delta Xj;refine iL ?_;refine rC h fun r hr h=>?_
 refine iT h fun hc h=>?_
 refine iF h fun hc h=>?_
 refine jV h [2,4,18,19,20,21,22,23,24,25,26,27] (fun pp=>[(18,.d (iD pp))]) (fun pp=>[(1,.obj 41 [.d (gN 1 iD sys.1),.d (gN 2 jL sys.2)])]) ?_;rintro v18 t1 h hb1;unfold qy at h;try dsimp only at h
 refine gv (iL ?_);refine iT h fun hc h=>?_
 refine kz h fun hp h=>?_
 refine rC h fun r_1 hr_1 h=>?_
 refine iT h fun hc h=>?_
 cases h;refine⟨_,rfl,?_⟩;refine(iB.drop 4 gu).trans ?_;exact wk⟩
def XB:gR:=
 (.seq (.gz (sq 4 [mb false])) (.seq (.seq (.gz (sq 5 [mi 0])) (.block 0 (.loop (.seq (.seq (.gz (sq 6 [mv 5,mv 0,ln 7,bn .lss 6 8])) (.cond (t0 9) .skip (.exit 0))) (.seq (.block 1 (.seq (.gz (sq 12 [mv 0,mv 5,ix 1 12 13,ld 14,mv 1,bn .eql 15 16])) (.cond (t0 17) (.seq (.gz (sq 4 [mb true])) .ret) .skip))) (.gz (sq 10 [mv 5,bi .add 10 1]++sq 5 [mv 11]))))))) (.seq (.gz (sq 4 [mb false])) .ret)))
theorem ZG:lE Tryz.prog 76 XB 18 [.tmp 4]:=mf Tryz.func76 Tryz.ntmps76
def sU(s:fI)(n:Int):Int->Option fZ
 |i=>
  if(decide (i<(s.length:Int)))=true then
   if 0<=i/\i<(s.length:Int)then
    if((s.getD i.toNat default)==n)=true then
     Option.map Sum.inr (
      some true)
    else
     some (.inl (IntKind.i64.wrap (i+1)))
   else none
  else
   Option.map Sum.inr (
    some false)
def lV(s:fI)(n:Int):Option Bool:=
 gI (sU s n) 0
instance Rw{s:fI}{n:Int}:iH (lV s n) fun rr=>lz Tryz.prog 76 [(gN 1 iD) s,iD n] (bD rr):=⟨@fun rr h=>by
 delta lV at h;refine ZG.jO (gv ?_);delta XB;refine iL ?_;refine jV h [4,5,6,7,8,9,10,11,12,13,14,15,16,17] (fun pp=>[(5,.d (iD pp))]) (fun pp=>[]) ?_;rintro i t1 h hb1;unfold sU at h;try dsimp only at h
 refine gv (iL ?_);exact od⟩
def WY:gR:=
 (.seq (.gz (sq 2 [bo 2 26 0,bo 3 68 1,mb false])) (.seq (.seq (.gz (sq 6 [la 1 2,fa 0 3,ld 7,cf 42 [6,8],nt 9,mv 10]++sg 11 false 12 [la 1 2,fa 1 3,ld 13,cf 42 [12,14],nt 15]++sq 17 [po 11 16,mv 17]++sg 18 false 19 [fa 0 3,ld 19,.CY 1 (t0 20) (i0 0),ld 21,bi .lss 22 0]++sq 24 [po 18 23])) (.cond (t0 24) (.seq (.gz (sq 4 [mb false])) .ret) .skip)) (.seq (.seq (.gz (sq 5 [mi 0])) (.block 0 (.loop (.seq (.seq (.gz (sq 25 [mv 5,fa 1 3,ld 26,ln 27,bn .lss 25 28])) (.cond (t0 29) .skip (.exit 0))) (.seq (.block 1 (.seq (.draw (sq 32 [fa 1 3,ld 32,mv 5,ix 1 33 34,ld 35,bi .lss 36 0,mv 37]++sg 38 true 39 [fa 0 3,ld 39,fa 1 3,ld 41,mv 5,ix 1 42 43,ld 44,cf 76 [40,45],nt 46]++sq 48 [pa 38 47]) [[],[0],[],[1,2],[3],[4],[5],[6],[7,6],[6],[9,6],[6],[10,11,6],[12,6],[8,13,6,6],[14,6],[6,15]]) (.cond (t0 48) (.seq (.gz (sq 4 [mb false])) .ret) .skip))) (.gz (sq 30 [mv 5,bi .add 30 1]++sq 5 [mv 31]))))))) (.seq (.gz (sq 4 [mb true])) .ret))))
theorem Y7:lE Tryz.prog 33 WY 49 [.tmp 4]:=mf Tryz.func33 Tryz.ntmps33
def rR(r:fJ):Int->Option fZ
 |i=>
  if(decide (i<(r.2.length:Int)))=true then
   if 0<=i/\i<(r.2.length:Int)then
    if(decide ((r.2.getD i.toNat default)<0))=true then
     if 0<=i/\i<(r.2.length:Int)then
      (lV r.1 (r.2.getD i.toNat default)).bind fun r_3=>
      if r_3=true then
       some (.inl (IntKind.i64.wrap (i+1)))
      else
       Option.map Sum.inr (
        some false)
     else none
    else
     some (.inl (IntKind.i64.wrap (i+1)))
   else none
  else
   Option.map Sum.inr (
    some true)
def sF(sig:fI)(r:fJ):Option Bool:=
 (jE sig r.1).bind fun r_1=>
 if r_1=true then
  (jE sig r.2).bind fun r_2=>
  if r_2=true then
   if 0<=0/\0<(r.1.length:Int)then
    if(decide ((r.1.getD 0 default)<0))=true then
     some false
    else
     gI (rR r) 0
   else none
  else
   some false
 else
  some false
instance QK{sig:fI}{r:fJ}:iH (sF sig r) fun rr=>lz Tryz.prog 33 [iZ sig,jL r] (bD rr):=⟨@fun rr h=>by
 delta sF at h;refine Y7.jO (gv ?_);delta WY;refine iL ?_;refine rC h fun r_1 hr_1 h=>?_
 refine iT h fun hc h=>?_
 refine rC h fun r_2 hr_2 h=>?_
 refine iT h fun hc h=>?_
 refine kz h fun hp h=>?_
 refine iF h fun hc h=>?_
 refine jV h [4,5,25,26,27,28,29,30,31,32,33,34,35,36,37,38,39,40,41,42,43,44,45,46,47,48] (fun pp=>[(5,.d (iD pp))]) (fun pp=>[(2,.obj 26 [.d (gN 1 iD sig)]),(3,.obj 68 [.d (gN 1 iD r.1),.d (gN 1 iD r.2)])]) ?_;rintro i t1 h hb1;unfold rR at h;try dsimp only at h
 refine gv (iL ?_);exact od⟩
def WE:gR:=
 (.seq (.gz (sq 1 [bo 1 41 0,mb false])) (.seq (.seq (.gz (sq 4 [fa 0 1,la 1 4,cf 32 [5],nt 6,mv 7]++sg 8 false 9 [fa 1 1,ld 9,ln 10,bi .gtr 11 12]++sq 13 [po 8 12])) (.cond (t0 13) (.seq (.gz (sq 2 [mb false])) .ret) .skip)) (.seq (.seq (.gz (sq 3 [mi 0])) (.block 0 (.loop (.seq (.seq (.gz (sq 14 [mv 3,fa 1 1,ld 15,ln 16,bn .lss 14 17])) (.cond (t0 18) .skip (.exit 0))) (.seq (.block 1 (.seq (.draw (sq 21 [fa 0 1,la 1 21,fa 1 1,ld 23,mv 3,ix 2 24 25,la 2 26,cf 33 [22,27],nt 28]) [[],[0],[],[2],[],[3,4],[5],[1,6],[7]]) (.cond (t0 29) (.seq (.gz (sq 2 [mb false])) .ret) .skip))) (.gz (sq 19 [mv 3,bi .add 19 1]++sq 3 [mv 20]))))))) (.seq (.gz (sq 2 [mb true])) .ret))))
theorem YP:lE Tryz.prog 13 WE 30 [.tmp 2]:=mf Tryz.func13 Tryz.ntmps13
def qB(sys:fW):Int->Option fZ
 |i=>
  if(decide (i<(sys.2.length:Int)))=true then
   if 0<=i/\i<(sys.2.length:Int)then
    (sF sys.1 ((sys.2.getD i.toNat default).1,(sys.2.getD i.toNat default).2)).bind fun r_1=>
    if r_1=true then
     some (.inl (IntKind.i64.wrap (i+1)))
    else
     Option.map Sum.inr (
      some false)
   else none
  else
   Option.map Sum.inr (
    some true)
def nc(sys:fW):Option Bool:=
 (pF sys.1).bind fun r=>
 if r=true then
  if(decide (12<(sys.2.length:Int)))=true then
   some false
  else
   gI (qB sys) 0
 else
  some false
instance Nn{sys:fW}:iH (nc sys) fun rr=>lz Tryz.prog 13 [jg sys] (bD rr):=⟨@fun rr h=>by
 delta nc at h;refine YP.jO (gv ?_);delta WE;refine iL ?_;refine rC h fun r hr h=>?_
 refine iT h fun hc h=>?_
 refine iF h fun hc h=>?_
 refine jV h [2,3,14,15,16,17,18,19,20,21,22,23,24,25,26,27,28,29] (fun pp=>[(3,.d (iD pp))]) (fun pp=>[(1,.obj 41 [.d (gN 1 iD sys.1),.d (gN 2 jL sys.2)])]) ?_;rintro i t1 h hb1;unfold qB at h;try dsimp only at h
 refine gv (iL ?_);exact od⟩
end Go.Proofs.YtelhemjlfkbkeaaGreat
