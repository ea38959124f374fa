/- A part of the proof about FnJoinedPeaks (Lay, G0, G1). -/
import Derived.Test.YtjgbnaihpicpgaaGreatDoorPa
import Derived.Test.YtjgbnaihpicpgaaGreatDoorPc
import Derived.Shelf.Spec.SlicesGrow
import Derived.Test.YtjgbnaihpicpgaaGreatDoorProg
import Derived.KernelRfl
set_option linter.all false
noncomputable section
namespace Go.Proofs
open Go.Shelf
def Tryz.GU:Go.Shelf.Ren:=⟨fun|4=>147|n=>n,fun|22=>22|25=>2|3=>3|4=>4|9=>9|20=>20|0=>0|n=>n,fun|n=>n⟩
theorem Tryz.Re:Go.Proofs.Lays8.n4 Tryz.prog Tryz.GU:={
 mixed:=by kernel_rfl
 f4:=⟨Tryz.f147.name,by decide,Tryz.func147.trans (bX some (by kernel_rfl))⟩
 t0:=Tryz.underlying0
 a0:=Tryz.isAgg0
 z0:=Tryz.sizeOf0
 v0:=Tryz.zeroValue0
 t3:=Tryz.underlying3
 a3:=Tryz.isAgg3
 z3:=Tryz.sizeOf3
 v3:=Tryz.zeroValue3
 t4:=Tryz.underlying4
 a4:=Tryz.isAgg4
 z4:=Tryz.sizeOf4
 v4:=Tryz.zeroValue4
 t9:=Tryz.underlying9
 a9:=Tryz.isAgg9
 z9:=Tryz.sizeOf9
 v9:=Tryz.zeroValue9
 t20:=Tryz.underlying20
 a20:=Tryz.isAgg20
 z20:=Tryz.sizeOf20
 v20:=Tryz.zeroValue20
 t22:=Tryz.underlying22
 a22:=Tryz.isAgg22
 z22:=Tryz.sizeOf22
 v22:=Tryz.zeroValue22}
end Go.Proofs
namespace Go.Proofs.YtjgbnaihpicpgaaGreatDoor
open Go mm
theorem Vk:(Tryz.prog.follows .mixedOrders=true)=True:=eq_true (by kernel_rfl)
attribute [go_sem] Vk
instance:Inhabited ByteArray:=⟨ByteArray.empty⟩
end Go.Proofs.YtjgbnaihpicpgaaGreatDoor
namespace Go.Proofs.YtjgbnaihpicpgaaGreatDoor
open Go mm
attribute [local irreducible] rj vP uV mz lN nj kj Au Bm zm Bl yp tF lM nc AJ iS kN
set_option maxHeartbeats 4000000
set_option maxRecDepth 4000
def jd(x:gv):D:=.agg [(ia 1 iD) x]
def g_(x:gz):D:=.agg [(ia 1 iD) x.1,(ia 1 iD) x.2]
def iA(x:gJ):D:=.agg [(ia 1 iD) x.1,(ia 2 g_) x.2]
instance:wC jd 1:=⟨fun _=>rfl⟩
instance:wC g_ 2:=⟨fun _=>rfl⟩
instance:wC iA 2:=⟨fun _=>rfl⟩
attribute [go_sem] jd g_ iA
def Ym:ie:=
 (.seq (.h_ (sq 1 [bo 1 30 0,mb false])) (.seq (.seq (.h_ (sq 5 [fa 0 1,ld 5,ln 6,bi .lss 7 1,mv 8]++sg 9 false 10 [fa 0 1,ld 10,ln 11,bi .gtr 12 8]++sq 14 [po 9 13])) (.cond (t0 14) (.seq (.h_ (sq 2 [mb false])) .ret) .skip)) (.seq (.seq (.h_ (sq 15 [fa 0 1,ld 15,ln 16,mi 0])) (.block 0 (.loop (.seq (.h_ (sq 19 [bn .lss 18 17])) (.seq (.cond (t0 19) .skip (.exit 0)) (.seq (.block 1 (.seq (.h_ (sq 20 [ix 1 16 18,ld 20]++sq 4 [mv 21])) (.seq (.h_ (sq 22 [mv 4,bi .lss 22 0,mv 23]++sg 24 false 25 [mv 4,bi .gtr 25 3]++sq 27 [po 24 26])) (.cond (t0 27) (.seq (.h_ (sq 2 [mb false])) .ret) .skip)))) (.h_ (sq 28 [bi .add 18 1]++sq 18 [mv 28])))))))) (.seq (.h_ (sq 2 [mb true])) .ret))))
theorem Z7:kH Tryz.prog 64 Ym 29 [.tmp 2]:=mf Tryz.func64 Tryz.ntmps64
def rQ(sig:gv):Int->Option gR
 |v18=>
  if(decide (v18<(sig.length:Int)))=true then
   if 0<=v18/\v18<(sig.length:Int)then
    if(decide ((sig.getD v18.toNat default)<0))=true then
     Option.map Sum.inr (
      some false)
    else
     if(decide (3<(sig.getD v18.toNat default)))=true then
      Option.map Sum.inr (
       some false)
     else
      some (.inl (IntKind.i64.wrap (v18+1)))
   else none
  else
   Option.map Sum.inr (
    some true)
def qH(sig:gv):Option Bool:=
 if(decide ((sig.length:Int)<1))=true then
  some false
 else
  if(decide (8<(sig.length:Int)))=true then
   some false
  else
   iw (rQ sig) 0
instance QC{sig:gv}:iR (qH sig) fun rr=>jU Tryz.prog 64 [jd sig] (bD rr):=⟨@fun rr h=>by
 delta qH at h;refine Z7.jC (gZ ?_);delta Ym;refine iN ?_;refine iF h fun hc h=>?_
 refine iF h fun hc h=>?_
 refine kT h [2,4,18,19,20,21,22,23,24,25,26,27,28] (fun pp=>[(18,.d (iD pp))]) (fun pp=>[(1,.obj 30 [.d (ia 1 iD sig)])]) ?_;rintro v18 t1 h hb1;unfold rQ at h;try dsimp only at h
 refine gZ (iN ?_);exact mA⟩
def YM:ie:=
 (.seq (.h_ (sq 2 [mi 0])) (.seq (.seq (.h_ (sq 5 [mv 0,ln 5,bi .lss 6 1])) (.cond (t0 7) (.h_ (sq 8 [.A3 9 (.const (.string {data:=#[115,108,105,99,101,115,46,77,105,110,58,32,101,109,112,116,121,32,108,105,115,116]}))]++s0 (.Eb (t0 8)))) .skip)) (.seq (.h_ (sq 9 [mv 0,.uE 1 (t0 9) (i0 0),ld 10]++sq 3 [mv 11])) (.seq (.seq (.h_ (sq 4 [mi 1])) (.block 0 (.loop (.seq (.seq (.h_ (sq 12 [mv 4,mv 0,ln 13,bn .lss 12 14])) (.cond (t0 15) .skip (.exit 0))) (.seq (.block 1 (.h_ (sq 18 [mv 3,mv 0,mv 4,ix 1 19 20,ld 21,.min (t0 18) (t0 22)]++sq 3 [mv 23]))) (.h_ (sq 16 [mv 4,bi .add 16 1]++sq 4 [mv 17]))))))) (.seq (.h_ (sq 24 [mv 3]++sq 2 [mv 24])) .ret)))))
theorem aax:kH Tryz.prog 98 YM 25 [.tmp 2]:=mf Tryz.func98 Tryz.ntmps98
def mV(x:gv):gO->Option (gO⊕Int)
 |(m,i)=>
  if(decide (i<(x.length:Int)))=true then
   if 0<=i/\i<(x.length:Int)then
    some (.inl ((if(x.getD i.toNat default)<m then(x.getD i.toNat default)else m),(IntKind.i64.wrap (i+1))))
   else none
  else
   Option.map Sum.inr (
    some m)
def jG(x:gv):Option Int:=
 if(decide ((x.length:Int)<1))=true then
  none
 else
  if 0<=0/\0<(x.length:Int)then
   iw (mV x) ((x.getD 0 default),1)
  else none
instance Ej{x:gv}:iR (jG x) fun rr=>jU Tryz.prog 98 [(ia 1 iD) x] (iD rr):=⟨@fun rr h=>by
 delta jG at h;refine aax.jC (gZ ?_);delta YM;refine iN ?_;refine iF h fun hc h=>?_
 refine j_ h fun hp h=>?_
 refine kT h [3,4,12,13,14,15,16,17,18,19,20,21,22,23] (fun pp=>[(3,.d (iD pp.1)),(4,.d (iD pp.2))]) (fun pp=>[]) ?_;rintro⟨m,i⟩ t1 h hb1;unfold mV at h;try dsimp only at h
 refine gZ (iN ?_);exact mA⟩
def TO:ie:=
 (.seq (.h_ (sq 2 [bo 2 30 0]++sq 4 [mi 0])) (.seq (.seq (.h_ (sq 5 [mv 1,bi .lss 5 0])) (.cond (t0 6) (.seq (.h_ (sq 4 [mi 0])) .ret) .skip)) (.seq (.h_ (sq 7 [fa 0 2,ld 7,mv 1,ix 1 8 9,ld 10]++sq 4 [mv 11])) .ret)))
theorem Xr:kH Tryz.prog 154 TO 12 [.tmp 4]:=mf Tryz.func154 Tryz.ntmps154
def ny(sig:gv)(n:Int):Option Int:=
 if(decide (n<0))=true then
  some 0
 else
  if 0<=n/\n<(sig.length:Int)then
   some (sig.getD n.toNat default)
  else none
instance Nq{sig:gv}{n:Int}:iR (ny sig n) fun rr=>jU Tryz.prog 154 [jd sig,iD n] (iD rr):=⟨@fun rr h=>by
 delta ny at h;refine Xr.jC (gZ ?_);delta TO;refine iN ?_;exact mA⟩
def TR:ie:=
 (.seq (.h_ (sq 2 [mi 0])) (.seq (.seq (.draw (sq 3 [mv 0,.me (t0 3),fa 2 4,ld 5,mv 0,.me (t0 7),fa 1 8,ld 9,ln 10,bn .geq 6 11,mv 12]++sg 13 false 14 [mv 0,.me (t0 14),fa 1 15,ld 16,mv 0,.me (t0 18),fa 2 19,ld 20,ix 1 17 21,ld 22,mv 0,.me (t0 24),fa 0 25,fa 0 26,ld 27,ln 28,bn .geq 23 29]++sq 31 [po 13 30]) [[],[0],[1],[2],[],[4],[5],[6],[7],[3,8],[9],[10],[11,10],[12,10],[13,10],[10],[15,10],[16,10],[17,10],[14,18,10],[19,10],[10],[21,10],[22,10],[23,10],[24,10],[25,10],[20,26,10],[10,27]]) (.cond (t0 31) (.seq (.h_ (sq 2 [mi (-1)])) .ret) .skip)) (.seq (.h_ (sq 32 [mv 0,.me (t0 32),fa 2 33,ld 34,bi .add 35 1,.me (t0 32),fa 2 37]++s0 (sr 1 38 36))) (.seq (.draw (sq 39 [mv 0,.me (t0 39),fa 0 40,la 1 41,mv 0,.me (t0 43),fa 1 44,ld 45,mv 0,.me (t0 47),fa 2 48,ld 49,bi .sub 50 1,ix 1 46 51,ld 52,cf 154 [42,53]]++sq 2 [mv 54]) [[],[0],[1],[2],[],[4],[5],[6],[],[8],[9],[10],[11],[7,12],[13],[3,14],[15,15,0,1,2,3,4,5,6,7,8,9,10,11,12,13,14,15]]) .ret))))
theorem Xu:kH Tryz.prog 157 TR 55 [.tmp 2]:=mf Tryz.func157 Tryz.ntmps157
def nA(c0:gv)(c1:gv)(c2:Int):Option gO:=
 if(decide ((c1.length:Int)<=c2))=true then
  some ((-1),c2)
 else
  if 0<=c2/\c2<(c1.length:Int)then
   if(decide ((c0.length:Int)<=(c1.getD c2.toNat default)))=true then
    some ((-1),c2)
   else
    if 0<=(IntKind.i64.wrap ((IntKind.i64.wrap (c2+1))-1))/\(IntKind.i64.wrap ((IntKind.i64.wrap (c2+1))-1))<(c1.length:Int)then
     (ny c0 (c1.getD (IntKind.i64.wrap ((IntKind.i64.wrap (c2+1))-1)).toNat default)).bind fun r=>
     some (r,(IntKind.i64.wrap (c2+1)))
    else none
  else none
instance Ii{c0:gv}{c1:gv}{c2:Int}:iR (nA c0 c1 c2) fun rr=>iC Tryz.prog 157 [.ptr 0 0] [(0,.obj 215 [.d (ia 1 iD c0),.d (ia 1 iD c1),.d (iD c2)])] 1 fun xx ss=>xx=.d (iD rr.1)/\ss=[(0,.obj 215 [.d (ia 1 iD c0),.d (ia 1 iD c1),.d (iD rr.2)])]:=⟨@fun rr h=>by
 delta nA at h;refine Xu.lO (gZ ?_);delta TR;refine iN ?_;exact mA⟩
def TH:ie:=
 (.seq (.h_ (sq 2 [mb false])) (.seq (.seq (.h_ (sq 3 [mi 1])) (.block 0 (.loop (.seq (.seq (.h_ (sq 5 [mv 3,bi .gtr 5 0])) (.cond (t0 6) .skip (.exit 0))) (.seq (.block 1 (.seq (.h_ (sq 9 [mv 0,cf 157 [9]]++sq 4 [mv 10])) (.seq (.seq (.h_ (sq 11 [mv 4,bi .lss 11 0])) (.cond (t0 12) (.seq (.h_ (sq 2 [mb false])) .ret) .skip)) (.h_ (sq 13 [mv 3,mv 4,bn .add 13 14]++sq 3 [mv 15]))))) (.h_ (sq 7 [mv 3,bi .sub 7 1]++sq 3 [mv 8]))))))) (.seq (.h_ (sq 2 [mb true])) .ret)))
theorem Xk:kH Tryz.prog 144 TH 16 [.tmp 2]:=mf Tryz.func144 Tryz.ntmps144
def nN(c0:gv)(c1:gv):gO->Option (gO⊕(Bool×Int))
 |(need,c)=>
  if(decide (0<need))=true then
   (nA c0 c1 c).bind fun r=>
   if(decide (r.1<0))=true then
    Option.map Sum.inr (
     some (false,r.2))
   else
    some (.inl ((IntKind.i64.wrap ((IntKind.i64.wrap (need+r.1))-1)),r.2))
  else
   Option.map Sum.inr (
    some (true,c))
def kS(c0:gv)(c1:gv)(c2:Int):Option (Bool×Int):=
 iw (nN c0 c1) (1,c2)
instance Ij{c0:gv}{c1:gv}{c2:Int}:iR (kS c0 c1 c2) fun rr=>iC Tryz.prog 144 [.ptr 0 0] [(0,.obj 215 [.d (ia 1 iD c0),.d (ia 1 iD c1),.d (iD c2)])] 1 fun xx ss=>xx=.d (bD rr.1)/\ss=[(0,.obj 215 [.d (ia 1 iD c0),.d (ia 1 iD c1),.d (iD rr.2)])]:=⟨@fun rr h=>by
 delta kS at h;refine Xk.lO (gZ ?_);delta TH;refine iN ?_;refine kT h [2,3,4,5,6,7,8,9,10,11,12,13,14,15] (fun pp=>[(3,.d (iD pp.1))]) (fun pp=>[(0,.obj 215 [.d (ia 1 iD c0),.d (ia 1 iD c1),.d (iD pp.2)])]) ?_;rintro⟨need,c⟩ t1 h hb1;unfold nN at h;try dsimp only at h
 refine gZ (iN ?_);refine iT h fun hc h=>?_
 refine rB [(0,0)] [] h fun r hr h=>?_
 exact mA⟩
def Tu:ie:=
 (.seq (.h_ (sq 3 [bo 3 30 0]++sq 6 [mi 0])) (.seq (.h_ (sq 8 [la 1 3,mv 1,mv 2,.build [.sl 0 (some true) [],.sl 0 (some true) [],.lit (.int .i64 0)] [(0,1,(t0 8)),(1,1,(t0 9)),(2,1,(t0 10))]]++sq 7 [.alloc 7 215 [.sl 0 (some true) [],.sl 0 (some true) [],.lit (.int .i64 0)]]++s0 (sr 3 7 11))) (.seq (.seq (.h_ (sq 12 [cf 144 [7],nt 12])) (.cond (t0 13) (.seq (.h_ (sq 6 [mi (-1)])) .ret) .skip)) (.seq (.h_ (sq 14 [fa 2 7,ld 14]++sq 6 [mv 15])) .ret))))
theorem WY:kH Tryz.prog 127 Tu 16 [.tmp 6]:=mf Tryz.func127 Tryz.ntmps127
def lz(sig:gv)(t:gv)(at':Int):Option Int:=
 (kS sig t at').bind fun r=>
 if r.1=true then
  some r.2
 else
  some (-1)
instance QD{sig:gv}{t:gv}{at':Int}:iR (lz sig t at') fun rr=>jU Tryz.prog 127 [jd sig,(ia 1 iD) t,iD at'] (iD rr):=⟨@fun rr h=>by
 delta lz at h;refine WY.jC (gZ ?_);delta Tu;refine iN ?_;refine rB [(0,7)] [] h fun r hr h=>?_
 exact mA⟩
def YF:ie:=
 (.seq (.h_ (sq 2 [bo 2 30 0]++sq 4 [mb false])) (.seq (.h_ (sq 5 [la 1 2,cf 64 [5],mv 6]++sg 7 true 8 [mv 1,ln 8,bi .gtr 9 0]++sq 11 [pa 7 10,mv 11]++sg 12 true 13 [mv 1,ln 13,bi .leq 14 60]++sq 16 [pa 12 15,mv 16]++sg 17 true 18 [mv 1,cf 98 [18],bi .geq 19 (-24)]++sq 21 [pa 17 20,mv 21]++sg 22 true 23 [la 1 2,mv 1,.kA 127 [(t0 23),(t0 24),(i0 0)],mv 1,ln 26,bn .eql 25 27]++sq 29 [pa 22 28]++sq 4 [mv 29])) .ret))
theorem aaq:kH Tryz.prog 89 YF 30 [.tmp 4]:=mf Tryz.func89 Tryz.ntmps89
def mY(sig:gv)(t:gv):Option Bool:=
 (qH sig).bind fun r=>
 if r=true then
  if(decide (0<(t.length:Int)))=true then
   if(decide ((t.length:Int)<=60))=true then
    (jG t).bind fun r_1=>
    if(decide ((-24)<=r_1))=true then
     (lz sig t 0).bind fun r_2=>
     some (r_2==(t.length:Int))
    else
     some false
   else
    some false
  else
   some false
 else
  some false
instance PV{sig:gv}{t:gv}:iR (mY sig t) fun rr=>jU Tryz.prog 89 [jd sig,(ia 1 iD) t] (bD rr):=⟨@fun rr h=>by
 delta mY at h;refine aaq.jC (gZ ?_);delta YF;refine iN ?_;exact mA⟩
def Yl:ie:=
 (.seq (.h_ (sq 6 [mb false])) (.seq (.h_ (sq 7 [mv 0,mv 1,bn .geq 7 8,mv 9]++sg 10 true 11 [mv 0,mv 2,bn .leq 11 12]++sq 14 [pa 10 13]++sq 6 [mv 14])) .ret))
theorem Z6:kH Tryz.prog 61 Yl 15 [.tmp 6]:=mf Tryz.func61 Tryz.ntmps61
def kX(x:Int)(lo:Int)(hi:Int):Option Bool:=
 if(decide (lo<=x))=true then
  some (decide (x<=hi))
 else
  some false
instance SV{x:Int}{lo:Int}{hi:Int}:iR (kX x lo hi) fun rr=>jU Tryz.prog 61 [iD x,iD lo,iD hi] (bD rr):=⟨@fun rr h=>by
 delta kX at h;refine Z6.jC (gZ ?_);delta Yl;refine iN ?_;exact mA⟩
def Yt:ie:=
 (.seq (.h_ (sq 1 [bo 1 30 0,mb false])) (.seq (.seq (.h_ (sq 4 [fa 0 1,ld 4,ln 5,.kA 61 [(t0 6),(i0 1),(i0 8)],nt 7])) (.cond (t0 8) (.seq (.h_ (sq 2 [mb false])) .ret) .skip)) (.seq (.seq (.h_ (sq 3 [mi 0])) (.block 0 (.loop (.seq (.seq (.h_ (sq 9 [mv 3,fa 0 1,ld 10,ln 11,bn .lss 9 12])) (.cond (t0 13) .skip (.exit 0))) (.seq (.block 1 (.seq (.h_ (sq 16 [fa 0 1,ld 16,mv 3,ix 1 17 18,ld 19,.kA 61 [(t0 20),(i0 0),(i0 3)],nt 21])) (.cond (t0 22) (.seq (.h_ (sq 2 [mb false])) .ret) .skip))) (.h_ (sq 14 [mv 3,bi .add 14 1]++sq 3 [mv 15]))))))) (.seq (.h_ (sq 2 [mb true])) .ret))))
theorem aae:kH Tryz.prog 75 Yt 23 [.tmp 2]:=mf Tryz.func75 Tryz.ntmps75
def rV(sig:gv):Int->Option gR
 |f=>
  if(decide (f<(sig.length:Int)))=true then
   if 0<=f/\f<(sig.length:Int)then
    (kX (sig.getD f.toNat default) 0 3).bind fun r_1=>
    if r_1=true then
     some (.inl (IntKind.i64.wrap (f+1)))
    else
     Option.map Sum.inr (
      some false)
   else none
  else
   Option.map Sum.inr (
    some true)
def qQ(sig:gv):Option Bool:=
 (kX (sig.length:Int) 1 8).bind fun r=>
 if r=true then
  iw (rV sig) 0
 else
  some false
instance QN{sig:gv}:iR (qQ sig) fun rr=>jU Tryz.prog 75 [jd sig] (bD rr):=⟨@fun rr h=>by
 delta qQ at h;refine aae.jC (gZ ?_);delta Yt;refine iN ?_;refine rC h fun r hr h=>?_
 refine iT h fun hc h=>?_
 refine kT h [2,3,9,10,11,12,13,14,15,16,17,18,19,20,21,22] (fun pp=>[(3,.d (iD pp))]) (fun pp=>[(1,.obj 30 [.d (ia 1 iD sig)])]) ?_;rintro f t1 h hb1;unfold rV at h;try dsimp only at h
 refine gZ (iN ?_);exact mA⟩
def TE:ie:=
 (.seq (.h_ (sq 2 [bo 2 30 0]++sq 4 [mi 0])) (.seq (.block 0 (.seq (.h_ (sq 6 [mv 1,.kA 61 [(t0 6),(i0 (-24)),(i0 (-1))]]++sq 5 [mv 7])) (.cond (t0 5) (.seq (.h_ (sq 4 [mi 0])) .ret) (.seq (.h_ (sq 9 [mv 1,fa 0 2,ld 10,ln 11,bi .sub 12 1,.kA 61 [(t0 9),(i0 0),(t0 13)]]++sq 8 [mv 14])) (.cond (t0 8) (.seq (.h_ (sq 15 [fa 0 2,ld 15,mv 1,ix 1 16 17,ld 18]++sq 4 [mv 19])) .ret) .skip))))) (.seq (.h_ (sq 4 [mi (-1)])) .ret)))
theorem Xh:kH Tryz.prog 140 TE 20 [.tmp 4]:=mf Tryz.func140 Tryz.ntmps140
def qx(sig:gv)(n:Int):Option Int:=
 (kX n (-24) (-1)).bind fun r=>
 if r=true then
  some 0
 else
  (kX n 0 (IntKind.i64.wrap ((sig.length:Int)-1))).bind fun r_1=>
  if r_1=true then
   if 0<=n/\n<(sig.length:Int)then
    some (sig.getD n.toNat default)
   else none
  else
   some (-1)
instance NA{sig:gv}{n:Int}:iR (qx sig n) fun rr=>jU Tryz.prog 140 [jd sig,iD n] (iD rr):=⟨@fun rr h=>by
 delta qx at h;refine Xh.jC (gZ ?_);delta TE;refine iN ?_;exact mA⟩
def Tp:ie:=
 (.seq (.h_ (sq 3 [bo 3 30 0]++sq 6 [mi 0])) (.seq (.h_ (sq 7 [mi 1])) (.seq (.seq (.h_ (sq 10 [mv 2]++sq 8 [mv 10])) (.block 0 (.loop (.seq (.seq (.h_ (sq 11 [mv 8,mv 1,ln 12,bn .lss 11 13])) (.cond (t0 14) .skip (.exit 0))) (.seq (.block 1 (.seq (.draw (sq 17 [la 1 3,mv 1,mv 8,ix 1 18 19,ld 20,cf 140 [17,21]]++sq 9 [mv 22]) [[],[],[],[1,2],[3],[0,4],[5,5,0,1,2,3,4,5]]) (.seq (.seq (.h_ (sq 23 [mv 9,bi .lss 23 0])) (.cond (t0 24) (.seq (.h_ (sq 6 [mi (-1)])) .ret) .skip)) (.seq (.h_ (sq 25 [mv 7,mv 9,bn .add 25 26,bi .sub 27 1]++sq 7 [mv 28])) (.seq (.h_ (sq 29 [mv 7,bi .eql 29 0])) (.cond (t0 30) (.seq (.h_ (sq 31 [mv 8,bi .add 31 1]++sq 6 [mv 32])) .ret) .skip)))))) (.h_ (sq 15 [mv 8,bi .add 15 1]++sq 8 [mv 16]))))))) (.seq (.h_ (sq 6 [mi (-1)])) .ret))))
theorem WT:kH Tryz.prog 118 Tp 33 [.tmp 6]:=mf Tryz.func118 Tryz.ntmps118
def uM(sig:gv)(t:gv):gO->Option (gO⊕Int)
 |(need,i)=>
  if(decide (i<(t.length:Int)))=true then
   if 0<=i/\i<(t.length:Int)then
    (qx sig (t.getD i.toNat default)).bind fun r=>
    if(decide (r<0))=true then
     Option.map Sum.inr (
      some (-1))
    else
     if((IntKind.i64.wrap ((IntKind.i64.wrap (need+r))-1))==0)=true then
      Option.map Sum.inr (
       some (IntKind.i64.wrap (i+1)))
     else
      some (.inl ((IntKind.i64.wrap ((IntKind.i64.wrap (need+r))-1)),(IntKind.i64.wrap (i+1))))
   else none
  else
   Option.map Sum.inr (
    some (-1))
def ox(sig:gv)(t:gv)(at':Int):Option Int:=
 iw (uM sig t) (1,at')
instance QO{sig:gv}{t:gv}{at':Int}:iR (ox sig t at') fun rr=>jU Tryz.prog 118 [jd sig,(ia 1 iD) t,iD at'] (iD rr):=⟨@fun rr h=>by
 delta ox at h;refine WT.jC (gZ ?_);delta Tp;refine iN ?_;refine kT h [6,7,8,9,11,12,13,14,15,16,17,18,19,20,21,22,23,24,25,26,27,28,29,30,31,32] (fun pp=>[(7,.d (iD pp.1)),(8,.d (iD pp.2))]) (fun pp=>[(3,.obj 30 [.d (ia 1 iD sig)])]) ?_;rintro⟨need,i⟩ t1 h hb1;unfold uM at h;try dsimp only at h
 refine gZ (iN ?_);exact mA⟩
def YB:ie:=
 (.seq (.h_ (sq 2 [bo 2 30 0]++sq 4 [mb false])) (.seq (.h_ (sq 5 [la 1 2,cf 75 [5],mv 6]++sg 7 true 8 [mv 1,ln 8,.kA 61 [(t0 9),(i0 1),(i0 60)]]++sq 11 [pa 7 10,mv 11]++sg 12 true 13 [la 1 2,mv 1,.kA 118 [(t0 13),(t0 14),(i0 0)],mv 1,ln 16,bn .eql 15 17]++sq 19 [pa 12 18]++sq 4 [mv 19])) .ret))
theorem aam:kH Tryz.prog 84 YB 20 [.tmp 4]:=mf Tryz.func84 Tryz.ntmps84
def m_(sig:gv)(t:gv):Option Bool:=
 (qQ sig).bind fun r=>
 if r=true then
  (kX (t.length:Int) 1 60).bind fun r_1=>
  if r_1=true then
   (ox sig t 0).bind fun r_2=>
   some (r_2==(t.length:Int))
  else
   some false
 else
  some false
instance P6{sig:gv}{t:gv}:iR (m_ sig t) fun rr=>jU Tryz.prog 84 [jd sig,(ia 1 iD) t] (bD rr):=⟨@fun rr h=>by
 delta m_ at h;refine aam.jC (gZ ?_);delta YB;refine iN ?_;exact mA⟩
def Tv:ie:=
 (.seq (.h_ (sq 4 [mi 0])) (.seq (.seq (.h_ (sq 6 [mv 0,ln 6,mi 0])) (.block 0 (.loop (.seq (.h_ (sq 9 [bn .lss 8 7])) (.seq (.cond (t0 9) .skip (.exit 0)) (.seq (.block 1 (.seq (.h_ (sq 10 [mv 8]++sq 5 [mv 10])) (.seq (.h_ (sq 11 [mv 1,mv 0,mv 5,ix 1 12 13,ld 14,bn .eql 11 15])) (.cond (t0 16) (.seq (.h_ (sq 17 [mv 5]++sq 4 [mv 17])) .ret) .skip)))) (.h_ (sq 18 [bi .add 8 1]++sq 8 [mv 18])))))))) (.seq (.h_ (sq 4 [mi (-1)])) .ret)))
theorem WZ:kH Tryz.prog 128 Tv 19 [.tmp 4]:=mf Tryz.func128 Tryz.ntmps128
def jP(s:gv)(v:Int):Int->Option (Int⊕Int)
 |v8=>
  if(decide (v8<(s.length:Int)))=true then
   if 0<=v8/\v8<(s.length:Int)then
    if(v==(s.getD v8.toNat default))=true then
     Option.map Sum.inr (
      some v8)
    else
     some (.inl (IntKind.i64.wrap (v8+1)))
   else none
  else
   Option.map Sum.inr (
    some (-1))
def jf(s:gv)(v:Int):Option Int:=
 iw (jP s v) 0
instance De{s:gv}{v:Int}:iR (jf s v) fun rr=>jU Tryz.prog 128 [(ia 1 iD) s,iD v] (iD rr):=⟨@fun rr h=>by
 delta jf at h;refine WZ.jC (gZ ?_);delta Tv;refine iN ?_;refine kT h [4,5,8,9,10,11,12,13,14,15,16,17,18] (fun pp=>[(8,.d (iD pp))]) (fun pp=>[]) ?_;rintro v8 t1 h hb1;unfold jP at h;try dsimp only at h
 refine gZ (iN ?_);exact mA⟩
def YG:ie:=
 (.seq (.h_ (sq 4 [mb false])) (.seq (.h_ (sq 5 [mv 0,mv 1,cf 128 [5,6],bi .geq 7 0]++sq 4 [mv 8])) .ret))
theorem aar:kH Tryz.prog 90 YG 9 [.tmp 4]:=mf Tryz.func90 Tryz.ntmps90
def jO(s:gv)(v:Int):Option Bool:=
 (jf s v).bind fun r=>
 some (decide (0<=r))
instance B3{s:gv}{v:Int}:iR (jO s v) fun rr=>jU Tryz.prog 90 [(ia 1 iD) s,iD v] (bD rr):=⟨@fun rr h=>by
 delta jO at h;refine aar.jC (gZ ?_);delta YG;refine iN ?_;exact mA⟩
def Yn:ie:=
 (.seq (.h_ (sq 2 [bo 2 30 0,bo 3 81 1,mb false])) (.seq (.seq (.h_ (sq 7 [la 1 2,fa 0 3,ld 8,cf 89 [7,9],nt 10,mv 11]++sg 12 false 13 [la 1 2,fa 1 3,ld 14,cf 89 [13,15],nt 16]++sq 18 [po 12 17,mv 18]++sg 19 false 20 [fa 0 3,ld 20,.uE 1 (t0 21) (i0 0),ld 22,bi .lss 23 0]++sq 25 [po 19 24])) (.cond (t0 25) (.seq (.h_ (sq 4 [mb false])) .ret) .skip)) (.seq (.seq (.h_ (sq 26 [fa 1 3,ld 26,ln 27,mi 0])) (.block 0 (.loop (.seq (.h_ (sq 30 [bn .lss 29 28])) (.seq (.cond (t0 30) .skip (.exit 0)) (.seq (.block 1 (.seq (.h_ (sq 31 [ix 1 27 29,ld 31]++sq 6 [mv 32])) (.seq (.h_ (sq 33 [mv 6,bi .lss 33 0,mv 34]++sg 35 true 36 [fa 0 3,ld 36,mv 6,cf 90 [37,38],nt 39]++sq 41 [pa 35 40])) (.cond (t0 41) (.seq (.h_ (sq 4 [mb false])) .ret) .skip)))) (.h_ (sq 42 [bi .add 29 1]++sq 29 [mv 42])))))))) (.seq (.h_ (sq 4 [mb true])) .ret))))
theorem Z8:kH Tryz.prog 65 Yn 43 [.tmp 4]:=mf Tryz.func65 Tryz.ntmps65
def qG(r:gz):Int->Option gR
 |v29=>
  if(decide (v29<(r.2.length:Int)))=true then
   if 0<=v29/\v29<(r.2.length:Int)then
    if(decide ((r.2.getD v29.toNat default)<0))=true then
     (jO r.1 (r.2.getD v29.toNat default)).bind fun r_3=>
     if r_3=true then
      some (.inl (IntKind.i64.wrap (v29+1)))
     else
      Option.map Sum.inr (
       some false)
    else
     some (.inl (IntKind.i64.wrap (v29+1)))
   else none
  else
   Option.map Sum.inr (
    some true)
def rF(sig:gv)(r:gz):Option Bool:=
 (mY sig r.1).bind fun r_1=>
 if r_1=true then
  (mY sig r.2).bind fun r_2=>
  if r_2=true then
   if 0<=0/\0<(r.1.length:Int)then
    if(decide ((r.1.getD 0 default)<0))=true then
     some false
    else
     iw (qG r) 0
   else none
  else
   some false
 else
  some false
instance PT{sig:gv}{r:gz}:iR (rF sig r) fun rr=>jU Tryz.prog 65 [jd sig,g_ r] (bD rr):=⟨@fun rr h=>by
 delta rF at h;refine Z8.jC (gZ ?_);delta Yn;refine iN ?_;refine rC h fun r_1 hr_1 h=>?_
 refine iT h fun hc h=>?_
 refine rC h fun r_2 hr_2 h=>?_
 refine iT h fun hc h=>?_
 refine j_ h fun hp h=>?_
 refine iF h fun hc h=>?_
 refine kT h [4,6,29,30,31,32,33,34,35,36,37,38,39,40,41,42] (fun pp=>[(29,.d (iD pp))]) (fun pp=>[(2,.obj 30 [.d (ia 1 iD sig)]),(3,.obj 81 [.d (ia 1 iD r.1),.d (ia 1 iD r.2)])]) ?_;rintro v29 t1 h hb1;unfold qG at h;try dsimp only at h
 refine gZ (iN ?_);exact mA⟩
def X7:ie:=
 (.seq (.h_ (sq 1 [bo 1 33 0,mb false])) (.seq (.seq (.h_ (sq 5 [fa 0 1,la 1 5,cf 64 [6],nt 7,mv 8]++sg 9 false 10 [fa 1 1,ld 10,ln 11,bi .gtr 12 12]++sq 14 [po 9 13])) (.cond (t0 14) (.seq (.h_ (sq 2 [mb false])) .ret) .skip)) (.seq (.seq (.h_ (sq 15 [fa 1 1,ld 15,ln 16,mi 0])) (.block 0 (.loop (.seq (.h_ (sq 19 [bn .lss 18 17])) (.seq (.cond (t0 19) .skip (.exit 0)) (.seq (.block 1 (.seq (.h_ (sq 20 [ix 2 16 18,la 2 20]++sq 4 [.alloc 4 81 [.sl 0 (some true) [],.sl 0 (some true) []]]++s0 (sr 2 4 21))) (.seq (.h_ (sq 22 [fa 0 1,la 1 22,la 2 4,cf 65 [23,24],nt 25])) (.cond (t0 26) (.seq (.h_ (sq 2 [mb false])) .ret) .skip)))) (.h_ (sq 27 [bi .add 18 1]++sq 18 [mv 27])))))))) (.seq (.h_ (sq 2 [mb true])) .ret))))
theorem ZR:kH Tryz.prog 32 X7 28 [.tmp 2]:=mf Tryz.func32 Tryz.ntmps32
def pI(sys:gJ):Int->Option gR
 |v18=>
  if(decide (v18<(sys.2.length:Int)))=true then
   if 0<=v18/\v18<(sys.2.length:Int)then
    (rF sys.1 ((sys.2.getD v18.toNat default).1,(sys.2.getD v18.toNat default).2)).bind fun r_1=>
    if r_1=true then
     some (.inl (IntKind.i64.wrap (v18+1)))
    else
     Option.map Sum.inr (
      some false)
   else none
  else
   Option.map Sum.inr (
    some true)
def lK(sys:gJ):Option Bool:=
 (qH sys.1).bind fun r=>
 if r=true then
  if(decide (12<(sys.2.length:Int)))=true then
   some false
  else
   iw (pI sys) 0
 else
  some false
instance ME{sys:gJ}:iR (lK sys) fun rr=>jU Tryz.prog 32 [iA sys] (bD rr):=⟨@fun rr h=>by
 delta lK at h;refine ZR.jC (gZ ?_);delta X7;refine iN ?_;refine rC h fun r hr h=>?_
 refine iT h fun hc h=>?_
 refine iF h fun hc h=>?_
 refine kT h [2,4,18,19,20,21,22,23,24,25,26,27] (fun pp=>[(18,.d (iD pp))]) (fun pp=>[(1,.obj 33 [.d (ia 1 iD sys.1),.d (ia 2 g_ sys.2)])]) ?_;rintro v18 t1 h hb1;unfold pI at h;try dsimp only at h
 refine gZ (iN ?_);refine iT h fun hc h=>?_
 refine j_ h fun hp h=>?_
 refine rC h fun r_1 hr_1 h=>?_
 refine iT h fun hc h=>?_
 cases h;refine⟨_,rfl,?_⟩;refine(iL.drop 4 gY).trans ?_;exact wk⟩
def S9:ie:=
 (.seq (.h_ (sq 4 [mb false])) (.seq (.seq (.h_ (sq 5 [mi 0])) (.block 0 (.loop (.seq (.seq (.h_ (sq 6 [mv 5,mv 0,ln 7,bn .lss 6 8])) (.cond (t0 9) .skip (.exit 0))) (.seq (.block 1 (.seq (.h_ (sq 12 [mv 0,mv 5,ix 1 12 13,ld 14,mv 1,bn .eql 15 16])) (.cond (t0 17) (.seq (.h_ (sq 4 [mb true])) .ret) .skip))) (.h_ (sq 10 [mv 5,bi .add 10 1]++sq 5 [mv 11]))))))) (.seq (.h_ (sq 4 [mb false])) .ret)))
theorem WA:kH Tryz.prog 100 S9 18 [.tmp 4]:=mf Tryz.func100 Tryz.ntmps100
def rW(s:gv)(n:Int):Int->Option gR
 |i=>
  if(decide (i<(s.length:Int)))=true then
   if 0<=i/\i<(s.length:Int)then
    if((s.getD i.toNat default)==n)=true then
     Option.map Sum.inr (
      some true)
    else
     some (.inl (IntKind.i64.wrap (i+1)))
   else none
  else
   Option.map Sum.inr (
    some false)
def qS(s:gv)(n:Int):Option Bool:=
 iw (rW s n) 0
instance QS{s:gv}{n:Int}:iR (qS s n) fun rr=>jU Tryz.prog 100 [(ia 1 iD) s,iD n] (bD rr):=⟨@fun rr h=>by
 delta qS at h;refine WA.jC (gZ ?_);delta S9;refine iN ?_;refine kT h [4,5,6,7,8,9,10,11,12,13,14,15,16,17] (fun pp=>[(5,.d (iD pp))]) (fun pp=>[]) ?_;rintro i t1 h hb1;unfold rW at h;try dsimp only at h
 refine gZ (iN ?_);exact mA⟩
def Yu:ie:=
 (.seq (.h_ (sq 2 [bo 2 30 0,bo 3 81 1,mb false])) (.seq (.seq (.h_ (sq 6 [la 1 2,fa 0 3,ld 7,cf 84 [6,8],nt 9,mv 10]++sg 11 false 12 [la 1 2,fa 1 3,ld 13,cf 84 [12,14],nt 15]++sq 17 [po 11 16,mv 17]++sg 18 false 19 [fa 0 3,ld 19,.uE 1 (t0 20) (i0 0),ld 21,bi .lss 22 0]++sq 24 [po 18 23])) (.cond (t0 24) (.seq (.h_ (sq 4 [mb false])) .ret) .skip)) (.seq (.seq (.h_ (sq 5 [mi 0])) (.block 0 (.loop (.seq (.seq (.h_ (sq 25 [mv 5,fa 1 3,ld 26,ln 27,bn .lss 25 28])) (.cond (t0 29) .skip (.exit 0))) (.seq (.block 1 (.seq (.draw (sq 32 [fa 1 3,ld 32,mv 5,ix 1 33 34,ld 35,bi .lss 36 0,mv 37]++sg 38 true 39 [fa 0 3,ld 39,fa 1 3,ld 41,mv 5,ix 1 42 43,ld 44,cf 100 [40,45],nt 46]++sq 48 [pa 38 47]) [[],[0],[],[1,2],[3],[4],[5],[6],[7,6],[6],[9,6],[6],[10,11,6],[12,6],[8,13,6,6],[14,6],[6,15]]) (.cond (t0 48) (.seq (.h_ (sq 4 [mb false])) .ret) .skip))) (.h_ (sq 30 [mv 5,bi .add 30 1]++sq 5 [mv 31]))))))) (.seq (.h_ (sq 4 [mb true])) .ret))))
theorem aaf:kH Tryz.prog 76 Yu 49 [.tmp 4]:=mf Tryz.func76 Tryz.ntmps76
def qP(r:gz):Int->Option gR
 |i=>
  if(decide (i<(r.2.length:Int)))=true then
   if 0<=i/\i<(r.2.length:Int)then
    if(decide ((r.2.getD i.toNat default)<0))=true then
     if 0<=i/\i<(r.2.length:Int)then
      (qS r.1 (r.2.getD i.toNat default)).bind fun r_3=>
      if r_3=true then
       some (.inl (IntKind.i64.wrap (i+1)))
      else
       Option.map Sum.inr (
        some false)
     else none
    else
     some (.inl (IntKind.i64.wrap (i+1)))
   else none
  else
   Option.map Sum.inr (
    some true)
def rJ(sig:gv)(r:gz):Option Bool:=
 (m_ sig r.1).bind fun r_1=>
 if r_1=true then
  (m_ sig r.2).bind fun r_2=>
  if r_2=true then
   if 0<=0/\0<(r.1.length:Int)then
    if(decide ((r.1.getD 0 default)<0))=true then
     some false
    else
     iw (qP r) 0
   else none
  else
   some false
 else
  some false
instance P4{sig:gv}{r:gz}:iR (rJ sig r) fun rr=>jU Tryz.prog 76 [jd sig,g_ r] (bD rr):=⟨@fun rr h=>by
 delta rJ at h;refine aaf.jC (gZ ?_);delta Yu;refine iN ?_;refine rC h fun r_1 hr_1 h=>?_
 refine iT h fun hc h=>?_
 refine rC h fun r_2 hr_2 h=>?_
 refine iT h fun hc h=>?_
 refine j_ h fun hp h=>?_
 refine iF h fun hc h=>?_
 refine kT h [4,5,25,26,27,28,29,30,31,32,33,34,35,36,37,38,39,40,41,42,43,44,45,46,47,48] (fun pp=>[(5,.d (iD pp))]) (fun pp=>[(2,.obj 30 [.d (ia 1 iD sig)]),(3,.obj 81 [.d (ia 1 iD r.1),.d (ia 1 iD r.2)])]) ?_;rintro i t1 h hb1;unfold qP at h;try dsimp only at h
 refine gZ (iN ?_);exact mA⟩
def Yd:ie:=
 (.seq (.h_ (sq 1 [bo 1 33 0,mb false])) (.seq (.seq (.h_ (sq 4 [fa 0 1,la 1 4,cf 75 [5],nt 6,mv 7]++sg 8 false 9 [fa 1 1,ld 9,ln 10,bi .gtr 11 12]++sq 13 [po 8 12])) (.cond (t0 13) (.seq (.h_ (sq 2 [mb false])) .ret) .skip)) (.seq (.seq (.h_ (sq 3 [mi 0])) (.block 0 (.loop (.seq (.seq (.h_ (sq 14 [mv 3,fa 1 1,ld 15,ln 16,bn .lss 14 17])) (.cond (t0 18) .skip (.exit 0))) (.seq (.block 1 (.seq (.draw (sq 21 [fa 0 1,la 1 21,fa 1 1,ld 23,mv 3,ix 2 24 25,la 2 26,cf 76 [22,27],nt 28]) [[],[0],[],[2],[],[3,4],[5],[1,6],[7]]) (.cond (t0 29) (.seq (.h_ (sq 2 [mb false])) .ret) .skip))) (.h_ (sq 19 [mv 3,bi .add 19 1]++sq 3 [mv 20]))))))) (.seq (.h_ (sq 2 [mb true])) .ret))))
theorem ZY:kH Tryz.prog 44 Yd 30 [.tmp 2]:=mf Tryz.func44 Tryz.ntmps44
def pL(sys:gJ):Int->Option gR
 |i=>
  if(decide (i<(sys.2.length:Int)))=true then
   if 0<=i/\i<(sys.2.length:Int)then
    (rJ sys.1 ((sys.2.getD i.toNat default).1,(sys.2.getD i.toNat default).2)).bind fun r_1=>
    if r_1=true then
     some (.inl (IntKind.i64.wrap (i+1)))
    else
     Option.map Sum.inr (
      some false)
   else none
  else
   Option.map Sum.inr (
    some true)
def n_(sys:gJ):Option Bool:=
 (qQ sys.1).bind fun r=>
 if r=true then
  if(decide (12<(sys.2.length:Int)))=true then
   some false
  else
   iw (pL sys) 0
 else
  some false
instance MR{sys:gJ}:iR (n_ sys) fun rr=>jU Tryz.prog 44 [iA sys] (bD rr):=⟨@fun rr h=>by
 delta n_ at h;refine ZY.jC (gZ ?_);delta Yd;refine iN ?_;refine rC h fun r hr h=>?_
 refine iT h fun hc h=>?_
 refine iF h fun hc h=>?_
 refine kT h [2,3,14,15,16,17,18,19,20,21,22,23,24,25,26,27,28,29] (fun pp=>[(3,.d (iD pp))]) (fun pp=>[(1,.obj 33 [.d (ia 1 iD sys.1),.d (ia 2 g_ sys.2)])]) ?_;rintro i t1 h hb1;unfold pL at h;try dsimp only at h
 refine gZ (iN ?_);exact mA⟩
end Go.Proofs.YtjgbnaihpicpgaaGreatDoor
