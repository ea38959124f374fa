/- A part of the proof about FnExactJoinsAll (Lay, G0, G1, G2, Jx). -/
import Derived.Test.YtjgbnaihpicpgaaGreatDoorTa
import Derived.Test.YtjgbnaihpicpgaaGreatDoorTc
import Derived.Shelf.Spec.SlicesGrow
import Derived.Test.YtjgbnaihpicpgaaGreatDoorProg
import Derived.KernelRfl
import Derived.ProofKit
import Derived.OpenShut
import Derived.Below
import Derived.Handed
import Derived.HandedShaped
import Derived.LaidMore
import Derived.Stop.Joined
import Derived.Shelf.Vars
set_option linter.all false
noncomputable section
namespace Go.Proofs
open Go.Shelf
def Tryz.FX:Go.Shelf.Ren:=⟨fun|4=>147|n=>n,fun|22=>22|25=>2|3=>3|4=>4|9=>9|20=>20|0=>0|n=>n,fun|n=>n⟩
theorem Tryz.P2:Go.Proofs.Lays8.n4 Tryz.prog Tryz.FX:={
 mixed:=by kernel_rfl
 f4:=⟨Tryz.f147.name,by decide,Tryz.func147.trans (bX some (by kernel_rfl))⟩
 t0:=Tryz.underlying0
 a0:=Tryz.isAgg0
 z0:=Tryz.sizeOf0
 v0:=Tryz.zeroValue0
 t3:=Tryz.underlying3
 a3:=Tryz.isAgg3
 z3:=Tryz.sizeOf3
 v3:=Tryz.zeroValue3
 t4:=Tryz.underlying4
 a4:=Tryz.isAgg4
 z4:=Tryz.sizeOf4
 v4:=Tryz.zeroValue4
 t9:=Tryz.underlying9
 a9:=Tryz.isAgg9
 z9:=Tryz.sizeOf9
 v9:=Tryz.zeroValue9
 t20:=Tryz.underlying20
 a20:=Tryz.isAgg20
 z20:=Tryz.sizeOf20
 v20:=Tryz.zeroValue20
 t22:=Tryz.underlying22
 a22:=Tryz.isAgg22
 z22:=Tryz.sizeOf22
 v22:=Tryz.zeroValue22}
end Go.Proofs
namespace Go.Proofs.YtjgbnaihpicpgaaGreatDoor
open Go lY
theorem Ub:(Tryz.prog.follows .mixedOrders=true)=True:=eq_true (by kernel_rfl)
attribute [go_sem] Ub
instance:Inhabited ByteArray:=⟨ByteArray.empty⟩
end Go.Proofs.YtjgbnaihpicpgaaGreatDoor
namespace Go.Proofs.YtjgbnaihpicpgaaGreatDoor
open Go lY
attribute [local irreducible] rA vi uM lW lP ng jX Ak Bj yP Bi yF tw lK nO A7 iG kj
set_option maxHeartbeats 4000000
set_option maxRecDepth 4000
def iU(x:gk):D:=.agg [(gS 1 iD) x]
def gP(x:gm):D:=.agg [(gS 1 iD) x.1,(gS 1 iD) x.2]
def ia(x:gC):D:=.agg [(gS 1 iD) x.1,(gS 2 gP) x.2]
instance:sU iU 1:=⟨fun _=>rfl⟩
instance:sU gP 2:=⟨fun _=>rfl⟩
instance:sU ia 2:=⟨fun _=>rfl⟩
attribute [go_sem] iU gP ia
def WY:gV:=
 (.seq (.gQ (sq 1 [bo 1 30 0,mb false])) (.seq (.seq (.gQ (sq 5 [fa 0 1,ld 5,ln 6,bi .lss 7 1,mv 8]++sg 9 false 10 [fa 0 1,ld 10,ln 11,bi .gtr 12 8]++sq 14 [po 9 13])) (.cond (t0 14) (.seq (.gQ (sq 2 [mb false])) .ret) .skip)) (.seq (.seq (.gQ (sq 15 [fa 0 1,ld 15,ln 16,mi 0])) (.block 0 (.loop (.seq (.gQ (sq 19 [bn .lss 18 17])) (.seq (.cond (t0 19) .skip (.exit 0)) (.seq (.block 1 (.seq (.gQ (sq 20 [ix 1 16 18,ld 20]++sq 4 [mv 21])) (.seq (.gQ (sq 22 [mv 4,bi .lss 22 0,mv 23]++sg 24 false 25 [mv 4,bi .gtr 25 3]++sq 27 [po 24 26])) (.cond (t0 27) (.seq (.gQ (sq 2 [mb false])) .ret) .skip)))) (.gQ (sq 28 [bi .add 18 1]++sq 18 [mv 28])))))))) (.seq (.gQ (sq 2 [mb true])) .ret))))
theorem YP:jV Tryz.prog 64 WY 29 [.tmp 2]:=mf Tryz.func64 Tryz.ntmps64
def qO(sig:gk):Int->Option gA
 |v18=>
  if(decide (v18<(sig.length:Int)))=true then
   if 0<=v18/\v18<(sig.length:Int)then
    if(decide ((sig.getD v18.toNat default)<0))=true then
     Option.map Sum.inr (
      some false)
    else
     if(decide (3<(sig.getD v18.toNat default)))=true then
      Option.map Sum.inr (
       some false)
     else
      some (.inl (IntKind.i64.wrap (v18+1)))
   else none
  else
   Option.map Sum.inr (
    some true)
def qh(sig:gk):Option Bool:=
 if(decide ((sig.length:Int)<1))=true then
  some false
 else
  if(decide (8<(sig.length:Int)))=true then
   some false
  else
   g_ (qO sig) 0
instance Pm{sig:gk}:iH (qh sig) fun rr=>jF Tryz.prog 64 [iU sig] (bD rr):=⟨@fun rr h=>by
 delta qh at h;refine YP.jf (gO ?_);delta WY;refine iE ?_;refine iF h fun hc h=>?_
 refine iF h fun hc h=>?_
 refine kT h [2,4,18,19,20,21,22,23,24,25,26,27,28] (fun pp=>[(18,.d (iD pp))]) (fun pp=>[(1,.obj 30 [.d (gS 1 iD sig)])]) ?_;rintro v18 t1 h hb1;unfold qO at h;try dsimp only at h
 refine gO (iE ?_);exact nr⟩
def Xw:gV:=
 (.seq (.gQ (sq 2 [mi 0])) (.seq (.seq (.gQ (sq 5 [mv 0,ln 5,bi .lss 6 1])) (.cond (t0 7) (.gQ (sq 8 [.zT 9 (.const (.string {data:=#[115,108,105,99,101,115,46,77,105,110,58,32,101,109,112,116,121,32,108,105,115,116]}))]++s0 (.Da (t0 8)))) .skip)) (.seq (.gQ (sq 9 [mv 0,.tg 1 (t0 9) (i0 0),ld 10]++sq 3 [mv 11])) (.seq (.seq (.gQ (sq 4 [mi 1])) (.block 0 (.loop (.seq (.seq (.gQ (sq 12 [mv 4,mv 0,ln 13,bn .lss 12 14])) (.cond (t0 15) .skip (.exit 0))) (.seq (.block 1 (.gQ (sq 18 [mv 3,mv 0,mv 4,ix 1 19 20,ld 21,.min (t0 18) (t0 22)]++sq 3 [mv 23]))) (.gQ (sq 16 [mv 4,bi .add 16 1]++sq 4 [mv 17]))))))) (.seq (.gQ (sq 24 [mv 3]++sq 2 [mv 24])) .ret)))))
theorem Zd:jV Tryz.prog 98 Xw 25 [.tmp 2]:=mf Tryz.func98 Tryz.ntmps98
def mj(x:gk):gG->Option (gG⊕Int)
 |(m,i)=>
  if(decide (i<(x.length:Int)))=true then
   if 0<=i/\i<(x.length:Int)then
    some (.inl ((if(x.getD i.toNat default)<m then(x.getD i.toNat default)else m),(IntKind.i64.wrap (i+1))))
   else none
  else
   Option.map Sum.inr (
    some m)
def jo(x:gk):Option Int:=
 if(decide ((x.length:Int)<1))=true then
  none
 else
  if 0<=0/\0<(x.length:Int)then
   g_ (mj x) ((x.getD 0 default),1)
  else none
instance Di{x:gk}:iH (jo x) fun rr=>jF Tryz.prog 98 [(gS 1 iD) x] (iD rr):=⟨@fun rr h=>by
 delta jo at h;refine Zd.jf (gO ?_);delta Xw;refine iE ?_;refine iF h fun hc h=>?_
 refine jG h fun hp h=>?_
 refine kT h [3,4,12,13,14,15,16,17,18,19,20,21,22,23] (fun pp=>[(3,.d (iD pp.1)),(4,.d (iD pp.2))]) (fun pp=>[]) ?_;rintro⟨m,i⟩ t1 h hb1;unfold mj at h;try dsimp only at h
 refine gO (iE ?_);exact nr⟩
def Sz:gV:=
 (.seq (.gQ (sq 2 [bo 2 30 0]++sq 4 [mi 0])) (.seq (.seq (.gQ (sq 5 [mv 1,bi .lss 5 0])) (.cond (t0 6) (.seq (.gQ (sq 4 [mi 0])) .ret) .skip)) (.seq (.gQ (sq 7 [fa 0 2,ld 7,mv 1,ix 1 8 9,ld 10]++sq 4 [mv 11])) .ret)))
theorem V5:jV Tryz.prog 154 Sz 12 [.tmp 4]:=mf Tryz.func154 Tryz.ntmps154
def mI(sig:gk)(n:Int):Option Int:=
 if(decide (n<0))=true then
  some 0
 else
  if 0<=n/\n<(sig.length:Int)then
   some (sig.getD n.toNat default)
  else none
instance Mb{sig:gk}{n:Int}:iH (mI sig n) fun rr=>jF Tryz.prog 154 [iU sig,iD n] (iD rr):=⟨@fun rr h=>by
 delta mI at h;refine V5.jf (gO ?_);delta Sz;refine iE ?_;exact nr⟩
def SC:gV:=
 (.seq (.gQ (sq 2 [mi 0])) (.seq (.seq (.draw (sq 3 [mv 0,.nV (t0 3),fa 2 4,ld 5,mv 0,.nV (t0 7),fa 1 8,ld 9,ln 10,bn .geq 6 11,mv 12]++sg 13 false 14 [mv 0,.nV (t0 14),fa 1 15,ld 16,mv 0,.nV (t0 18),fa 2 19,ld 20,ix 1 17 21,ld 22,mv 0,.nV (t0 24),fa 0 25,fa 0 26,ld 27,ln 28,bn .geq 23 29]++sq 31 [po 13 30]) [[],[0],[1],[2],[],[4],[5],[6],[7],[3,8],[9],[10],[11,10],[12,10],[13,10],[10],[15,10],[16,10],[17,10],[14,18,10],[19,10],[10],[21,10],[22,10],[23,10],[24,10],[25,10],[20,26,10],[10,27]]) (.cond (t0 31) (.seq (.gQ (sq 2 [mi (-1)])) .ret) .skip)) (.seq (.gQ (sq 32 [mv 0,.nV (t0 32),fa 2 33,ld 34,bi .add 35 1,.nV (t0 32),fa 2 37]++s0 (sr 1 38 36))) (.seq (.draw (sq 39 [mv 0,.nV (t0 39),fa 0 40,la 1 41,mv 0,.nV (t0 43),fa 1 44,ld 45,mv 0,.nV (t0 47),fa 2 48,ld 49,bi .sub 50 1,ix 1 46 51,ld 52,cf 154 [42,53]]++sq 2 [mv 54]) [[],[0],[1],[2],[],[4],[5],[6],[],[8],[9],[10],[11],[7,12],[13],[3,14],[15,15,0,1,2,3,4,5,6,7,8,9,10,11,12,13,14,15]]) .ret))))
theorem V8:jV Tryz.prog 157 SC 55 [.tmp 2]:=mf Tryz.func157 Tryz.ntmps157
def mJ(c0:gk)(c1:gk)(c2:Int):Option gG:=
 if(decide ((c1.length:Int)<=c2))=true then
  some ((-1),c2)
 else
  if 0<=c2/\c2<(c1.length:Int)then
   if(decide ((c0.length:Int)<=(c1.getD c2.toNat default)))=true then
    some ((-1),c2)
   else
    if 0<=(IntKind.i64.wrap ((IntKind.i64.wrap (c2+1))-1))/\(IntKind.i64.wrap ((IntKind.i64.wrap (c2+1))-1))<(c1.length:Int)then
     (mI c0 (c1.getD (IntKind.i64.wrap ((IntKind.i64.wrap (c2+1))-1)).toNat default)).bind fun r=>
     some (r,(IntKind.i64.wrap (c2+1)))
    else none
  else none
instance G_{c0:gk}{c1:gk}{c2:Int}:iH (mJ c0 c1 c2) fun rr=>h_ Tryz.prog 157 [.ptr 0 0] [(0,.obj 215 [.d (gS 1 iD c0),.d (gS 1 iD c1),.d (iD c2)])] 1 fun xx ss=>xx=.d (iD rr.1)/\ss=[(0,.obj 215 [.d (gS 1 iD c0),.d (gS 1 iD c1),.d (iD rr.2)])]:=⟨@fun rr h=>by
 delta mJ at h;refine V8.mm (gO ?_);delta SC;refine iE ?_;exact nr⟩
def Su:gV:=
 (.seq (.gQ (sq 2 [mb false])) (.seq (.seq (.gQ (sq 3 [mi 1])) (.block 0 (.loop (.seq (.seq (.gQ (sq 5 [mv 3,bi .gtr 5 0])) (.cond (t0 6) .skip (.exit 0))) (.seq (.block 1 (.seq (.gQ (sq 9 [mv 0,cf 157 [9]]++sq 4 [mv 10])) (.seq (.seq (.gQ (sq 11 [mv 4,bi .lss 11 0])) (.cond (t0 12) (.seq (.gQ (sq 2 [mb false])) .ret) .skip)) (.gQ (sq 13 [mv 3,mv 4,bn .add 13 14]++sq 3 [mv 15]))))) (.gQ (sq 7 [mv 3,bi .sub 7 1]++sq 3 [mv 8]))))))) (.seq (.gQ (sq 2 [mb true])) .ret)))
theorem V0:jV Tryz.prog 144 Su 16 [.tmp 2]:=mf Tryz.func144 Tryz.ntmps144
def m_(c0:gk)(c1:gk):gG->Option (gG⊕(Bool×Int))
 |(need,c)=>
  if(decide (0<need))=true then
   (mJ c0 c1 c).bind fun r=>
   if(decide (r.1<0))=true then
    Option.map Sum.inr (
     some (false,r.2))
   else
    some (.inl ((IntKind.i64.wrap ((IntKind.i64.wrap (need+r.1))-1)),r.2))
  else
   Option.map Sum.inr (
    some (true,c))
def j_(c0:gk)(c1:gk)(c2:Int):Option (Bool×Int):=
 g_ (m_ c0 c1) (1,c2)
instance He{c0:gk}{c1:gk}{c2:Int}:iH (j_ c0 c1 c2) fun rr=>h_ Tryz.prog 144 [.ptr 0 0] [(0,.obj 215 [.d (gS 1 iD c0),.d (gS 1 iD c1),.d (iD c2)])] 1 fun xx ss=>xx=.d (bD rr.1)/\ss=[(0,.obj 215 [.d (gS 1 iD c0),.d (gS 1 iD c1),.d (iD rr.2)])]:=⟨@fun rr h=>by
 delta j_ at h;refine V0.mm (gO ?_);delta Su;refine iE ?_;refine kT h [2,3,4,5,6,7,8,9,10,11,12,13,14,15] (fun pp=>[(3,.d (iD pp.1))]) (fun pp=>[(0,.obj 215 [.d (gS 1 iD c0),.d (gS 1 iD c1),.d (iD pp.2)])]) ?_;rintro⟨need,c⟩ t1 h hb1;unfold m_ at h;try dsimp only at h
 refine gO (iE ?_);refine iT h fun hc h=>?_
 refine vf [(0,0)] [] h fun r hr h=>?_
 exact nr⟩
def Sh:gV:=
 (.seq (.gQ (sq 3 [bo 3 30 0]++sq 6 [mi 0])) (.seq (.gQ (sq 8 [la 1 3,mv 1,mv 2,.build [.sl 0 (some true) [],.sl 0 (some true) [],.lit (.int .i64 0)] [(0,1,(t0 8)),(1,1,(t0 9)),(2,1,(t0 10))]]++sq 7 [.alloc 7 215 [.sl 0 (some true) [],.sl 0 (some true) [],.lit (.int .i64 0)]]++s0 (sr 3 7 11))) (.seq (.seq (.gQ (sq 12 [cf 144 [7],nt 12])) (.cond (t0 13) (.seq (.gQ (sq 6 [mi (-1)])) .ret) .skip)) (.seq (.gQ (sq 14 [fa 2 7,ld 14]++sq 6 [mv 15])) .ret))))
theorem VO:jV Tryz.prog 127 Sh 16 [.tmp 6]:=mf Tryz.func127 Tryz.ntmps127
def lB(sig:gk)(t:gk)(at':Int):Option Int:=
 (j_ sig t at').bind fun r=>
 if r.1=true then
  some r.2
 else
  some (-1)
instance Pn{sig:gk}{t:gk}{at':Int}:iH (lB sig t at') fun rr=>jF Tryz.prog 127 [iU sig,(gS 1 iD) t,iD at'] (iD rr):=⟨@fun rr h=>by
 delta lB at h;refine VO.jf (gO ?_);delta Sh;refine iE ?_;refine vf [(0,7)] [] h fun r hr h=>?_
 exact nr⟩
def Xo:gV:=
 (.seq (.gQ (sq 2 [bo 2 30 0]++sq 4 [mb false])) (.seq (.gQ (sq 5 [la 1 2,cf 64 [5],mv 6]++sg 7 true 8 [mv 1,ln 8,bi .gtr 9 0]++sq 11 [pa 7 10,mv 11]++sg 12 true 13 [mv 1,ln 13,bi .leq 14 60]++sq 16 [pa 12 15,mv 16]++sg 17 true 18 [mv 1,cf 98 [18],bi .geq 19 (-24)]++sq 21 [pa 17 20,mv 21]++sg 22 true 23 [la 1 2,mv 1,.me 127 [(t0 23),(t0 24),(i0 0)],mv 1,ln 26,bn .eql 25 27]++sq 29 [pa 22 28]++sq 4 [mv 29])) .ret))
theorem Y7:jV Tryz.prog 89 Xo 30 [.tmp 4]:=mf Tryz.func89 Tryz.ntmps89
def oY(sig:gk)(t:gk):Option Bool:=
 (qh sig).bind fun r=>
 if r=true then
  if(decide (0<(t.length:Int)))=true then
   if(decide ((t.length:Int)<=60))=true then
    (jo t).bind fun r_1=>
    if(decide ((-24)<=r_1))=true then
     (lB sig t 0).bind fun r_2=>
     some (r_2==(t.length:Int))
    else
     some false
   else
    some false
  else
   some false
 else
  some false
instance OF{sig:gk}{t:gk}:iH (oY sig t) fun rr=>jF Tryz.prog 89 [iU sig,(gS 1 iD) t] (bD rr):=⟨@fun rr h=>by
 delta oY at h;refine Y7.jf (gO ?_);delta Xo;refine iE ?_;exact nr⟩
def WX:gV:=
 (.seq (.gQ (sq 6 [mb false])) (.seq (.gQ (sq 7 [mv 0,mv 1,bn .geq 7 8,mv 9]++sg 10 true 11 [mv 0,mv 2,bn .leq 11 12]++sq 14 [pa 10 13]++sq 6 [mv 14])) .ret))
theorem YO:jV Tryz.prog 61 WX 15 [.tmp 6]:=mf Tryz.func61 Tryz.ntmps61
def ki(x:Int)(lo:Int)(hi:Int):Option Bool:=
 if(decide (lo<=x))=true then
  some (decide (x<=hi))
 else
  some false
instance RC{x:Int}{lo:Int}{hi:Int}:iH (ki x lo hi) fun rr=>jF Tryz.prog 61 [iD x,iD lo,iD hi] (bD rr):=⟨@fun rr h=>by
 delta ki at h;refine YO.jf (gO ?_);delta WX;refine iE ?_;exact nr⟩
def Xd:gV:=
 (.seq (.gQ (sq 1 [bo 1 30 0,mb false])) (.seq (.seq (.gQ (sq 4 [fa 0 1,ld 4,ln 5,.me 61 [(t0 6),(i0 1),(i0 8)],nt 7])) (.cond (t0 8) (.seq (.gQ (sq 2 [mb false])) .ret) .skip)) (.seq (.seq (.gQ (sq 3 [mi 0])) (.block 0 (.loop (.seq (.seq (.gQ (sq 9 [mv 3,fa 0 1,ld 10,ln 11,bn .lss 9 12])) (.cond (t0 13) .skip (.exit 0))) (.seq (.block 1 (.seq (.gQ (sq 16 [fa 0 1,ld 16,mv 3,ix 1 17 18,ld 19,.me 61 [(t0 20),(i0 0),(i0 3)],nt 21])) (.cond (t0 22) (.seq (.gQ (sq 2 [mb false])) .ret) .skip))) (.gQ (sq 14 [mv 3,bi .add 14 1]++sq 3 [mv 15]))))))) (.seq (.gQ (sq 2 [mb true])) .ret))))
theorem YW:jV Tryz.prog 75 Xd 23 [.tmp 2]:=mf Tryz.func75 Tryz.ntmps75
def qR(sig:gk):Int->Option gA
 |f=>
  if(decide (f<(sig.length:Int)))=true then
   if 0<=f/\f<(sig.length:Int)then
    (ki (sig.getD f.toNat default) 0 3).bind fun r_1=>
    if r_1=true then
     some (.inl (IntKind.i64.wrap (f+1)))
    else
     Option.map Sum.inr (
      some false)
   else none
  else
   Option.map Sum.inr (
    some true)
def qo(sig:gk):Option Bool:=
 (ki (sig.length:Int) 1 8).bind fun r=>
 if r=true then
  g_ (qR sig) 0
 else
  some false
instance PA{sig:gk}:iH (qo sig) fun rr=>jF Tryz.prog 75 [iU sig] (bD rr):=⟨@fun rr h=>by
 delta qo at h;refine YW.jf (gO ?_);delta Xd;refine iE ?_;refine rC h fun r hr h=>?_
 refine iT h fun hc h=>?_
 refine kT h [2,3,9,10,11,12,13,14,15,16,17,18,19,20,21,22] (fun pp=>[(3,.d (iD pp))]) (fun pp=>[(1,.obj 30 [.d (gS 1 iD sig)])]) ?_;rintro f t1 h hb1;unfold qR at h;try dsimp only at h
 refine gO (iE ?_);exact nr⟩
def So:gV:=
 (.seq (.gQ (sq 2 [bo 2 30 0]++sq 4 [mi 0])) (.seq (.block 0 (.seq (.gQ (sq 6 [mv 1,.me 61 [(t0 6),(i0 (-24)),(i0 (-1))]]++sq 5 [mv 7])) (.cond (t0 5) (.seq (.gQ (sq 4 [mi 0])) .ret) (.seq (.gQ (sq 9 [mv 1,fa 0 2,ld 10,ln 11,bi .sub 12 1,.me 61 [(t0 9),(i0 0),(t0 13)]]++sq 8 [mv 14])) (.cond (t0 8) (.seq (.gQ (sq 15 [fa 0 2,ld 15,mv 1,ix 1 16 17,ld 18]++sq 4 [mv 19])) .ret) .skip))))) (.seq (.gQ (sq 4 [mi (-1)])) .ret)))
theorem VW:jV Tryz.prog 140 So 20 [.tmp 4]:=mf Tryz.func140 Tryz.ntmps140
def pV(sig:gk)(n:Int):Option Int:=
 (ki n (-24) (-1)).bind fun r=>
 if r=true then
  some 0
 else
  (ki n 0 (IntKind.i64.wrap ((sig.length:Int)-1))).bind fun r_1=>
  if r_1=true then
   if 0<=n/\n<(sig.length:Int)then
    some (sig.getD n.toNat default)
   else none
  else
   some (-1)
instance Mm{sig:gk}{n:Int}:iH (pV sig n) fun rr=>jF Tryz.prog 140 [iU sig,iD n] (iD rr):=⟨@fun rr h=>by
 delta pV at h;refine VW.jf (gO ?_);delta So;refine iE ?_;exact nr⟩
def R8:gV:=
 (.seq (.gQ (sq 3 [bo 3 30 0]++sq 6 [mi 0])) (.seq (.gQ (sq 7 [mi 1])) (.seq (.seq (.gQ (sq 10 [mv 2]++sq 8 [mv 10])) (.block 0 (.loop (.seq (.seq (.gQ (sq 11 [mv 8,mv 1,ln 12,bn .lss 11 13])) (.cond (t0 14) .skip (.exit 0))) (.seq (.block 1 (.seq (.draw (sq 17 [la 1 3,mv 1,mv 8,ix 1 18 19,ld 20,cf 140 [17,21]]++sq 9 [mv 22]) [[],[],[],[1,2],[3],[0,4],[5,5,0,1,2,3,4,5]]) (.seq (.seq (.gQ (sq 23 [mv 9,bi .lss 23 0])) (.cond (t0 24) (.seq (.gQ (sq 6 [mi (-1)])) .ret) .skip)) (.seq (.gQ (sq 25 [mv 7,mv 9,bn .add 25 26,bi .sub 27 1]++sq 7 [mv 28])) (.seq (.gQ (sq 29 [mv 7,bi .eql 29 0])) (.cond (t0 30) (.seq (.gQ (sq 31 [mv 8,bi .add 31 1]++sq 6 [mv 32])) .ret) .skip)))))) (.gQ (sq 15 [mv 8,bi .add 15 1]++sq 8 [mv 16]))))))) (.seq (.gQ (sq 6 [mi (-1)])) .ret))))
theorem VF:jV Tryz.prog 118 R8 33 [.tmp 6]:=mf Tryz.func118 Tryz.ntmps118
def tI(sig:gk)(t:gk):gG->Option (gG⊕Int)
 |(need,i)=>
  if(decide (i<(t.length:Int)))=true then
   if 0<=i/\i<(t.length:Int)then
    (pV sig (t.getD i.toNat default)).bind fun r=>
    if(decide (r<0))=true then
     Option.map Sum.inr (
      some (-1))
    else
     if((IntKind.i64.wrap ((IntKind.i64.wrap (need+r))-1))==0)=true then
      Option.map Sum.inr (
       some (IntKind.i64.wrap (i+1)))
     else
      some (.inl ((IntKind.i64.wrap ((IntKind.i64.wrap (need+r))-1)),(IntKind.i64.wrap (i+1))))
   else none
  else
   Option.map Sum.inr (
    some (-1))
def nL(sig:gk)(t:gk)(at':Int):Option Int:=
 g_ (tI sig t) (1,at')
instance PB{sig:gk}{t:gk}{at':Int}:iH (nL sig t at') fun rr=>jF Tryz.prog 118 [iU sig,(gS 1 iD) t,iD at'] (iD rr):=⟨@fun rr h=>by
 delta nL at h;refine VF.jf (gO ?_);delta R8;refine iE ?_;refine kT h [6,7,8,9,11,12,13,14,15,16,17,18,19,20,21,22,23,24,25,26,27,28,29,30,31,32] (fun pp=>[(7,.d (iD pp.1)),(8,.d (iD pp.2))]) (fun pp=>[(3,.obj 30 [.d (gS 1 iD sig)])]) ?_;rintro⟨need,i⟩ t1 h hb1;unfold tI at h;try dsimp only at h
 refine gO (iE ?_);exact nr⟩
def Xk:gV:=
 (.seq (.gQ (sq 2 [bo 2 30 0]++sq 4 [mb false])) (.seq (.gQ (sq 5 [la 1 2,cf 75 [5],mv 6]++sg 7 true 8 [mv 1,ln 8,.me 61 [(t0 9),(i0 1),(i0 60)]]++sq 11 [pa 7 10,mv 11]++sg 12 true 13 [la 1 2,mv 1,.me 118 [(t0 13),(t0 14),(i0 0)],mv 1,ln 16,bn .eql 15 17]++sq 19 [pa 12 18]++sq 4 [mv 19])) .ret))
theorem Y3:jV Tryz.prog 84 Xk 20 [.tmp 4]:=mf Tryz.func84 Tryz.ntmps84
def nT(sig:gk)(t:gk):Option Bool:=
 (qo sig).bind fun r=>
 if r=true then
  (ki (t.length:Int) 1 60).bind fun r_1=>
  if r_1=true then
   (nL sig t 0).bind fun r_2=>
   some (r_2==(t.length:Int))
  else
   some false
 else
  some false
instance ON{sig:gk}{t:gk}:iH (nT sig t) fun rr=>jF Tryz.prog 84 [iU sig,(gS 1 iD) t] (bD rr):=⟨@fun rr h=>by
 delta nT at h;refine Y3.jf (gO ?_);delta Xk;refine iE ?_;exact nr⟩
def Si:gV:=
 (.seq (.gQ (sq 4 [mi 0])) (.seq (.seq (.gQ (sq 6 [mv 0,ln 6,mi 0])) (.block 0 (.loop (.seq (.gQ (sq 9 [bn .lss 8 7])) (.seq (.cond (t0 9) .skip (.exit 0)) (.seq (.block 1 (.seq (.gQ (sq 10 [mv 8]++sq 5 [mv 10])) (.seq (.gQ (sq 11 [mv 1,mv 0,mv 5,ix 1 12 13,ld 14,bn .eql 11 15])) (.cond (t0 16) (.seq (.gQ (sq 17 [mv 5]++sq 4 [mv 17])) .ret) .skip)))) (.gQ (sq 18 [bi .add 8 1]++sq 8 [mv 18])))))))) (.seq (.gQ (sq 4 [mi (-1)])) .ret)))
theorem VP:jV Tryz.prog 128 Si 19 [.tmp 4]:=mf Tryz.func128 Tryz.ntmps128
def jB(s:gk)(v:Int):Int->Option (Int⊕Int)
 |v8=>
  if(decide (v8<(s.length:Int)))=true then
   if 0<=v8/\v8<(s.length:Int)then
    if(v==(s.getD v8.toNat default))=true then
     Option.map Sum.inr (
      some v8)
    else
     some (.inl (IntKind.i64.wrap (v8+1)))
   else none
  else
   Option.map Sum.inr (
    some (-1))
def iM(s:gk)(v:Int):Option Int:=
 g_ (jB s v) 0
instance B9{s:gk}{v:Int}:iH (iM s v) fun rr=>jF Tryz.prog 128 [(gS 1 iD) s,iD v] (iD rr):=⟨@fun rr h=>by
 delta iM at h;refine VP.jf (gO ?_);delta Si;refine iE ?_;refine kT h [4,5,8,9,10,11,12,13,14,15,16,17,18] (fun pp=>[(8,.d (iD pp))]) (fun pp=>[]) ?_;rintro v8 t1 h hb1;unfold jB at h;try dsimp only at h
 refine gO (iE ?_);exact nr⟩
def Xq:gV:=
 (.seq (.gQ (sq 4 [mb false])) (.seq (.gQ (sq 5 [mv 0,mv 1,cf 128 [5,6],bi .geq 7 0]++sq 4 [mv 8])) .ret))
theorem Y8:jV Tryz.prog 90 Xq 9 [.tmp 4]:=mf Tryz.func90 Tryz.ntmps90
def jA(s:gk)(v:Int):Option Bool:=
 (iM s v).bind fun r=>
 some (decide (0<=r))
instance A3{s:gk}{v:Int}:iH (jA s v) fun rr=>jF Tryz.prog 90 [(gS 1 iD) s,iD v] (bD rr):=⟨@fun rr h=>by
 delta jA at h;refine Y8.jf (gO ?_);delta Xq;refine iE ?_;exact nr⟩
def WZ:gV:=
 (.seq (.gQ (sq 2 [bo 2 30 0,bo 3 81 1,mb false])) (.seq (.seq (.gQ (sq 7 [la 1 2,fa 0 3,ld 8,cf 89 [7,9],nt 10,mv 11]++sg 12 false 13 [la 1 2,fa 1 3,ld 14,cf 89 [13,15],nt 16]++sq 18 [po 12 17,mv 18]++sg 19 false 20 [fa 0 3,ld 20,.tg 1 (t0 21) (i0 0),ld 22,bi .lss 23 0]++sq 25 [po 19 24])) (.cond (t0 25) (.seq (.gQ (sq 4 [mb false])) .ret) .skip)) (.seq (.seq (.gQ (sq 26 [fa 1 3,ld 26,ln 27,mi 0])) (.block 0 (.loop (.seq (.gQ (sq 30 [bn .lss 29 28])) (.seq (.cond (t0 30) .skip (.exit 0)) (.seq (.block 1 (.seq (.gQ (sq 31 [ix 1 27 29,ld 31]++sq 6 [mv 32])) (.seq (.gQ (sq 33 [mv 6,bi .lss 33 0,mv 34]++sg 35 true 36 [fa 0 3,ld 36,mv 6,cf 90 [37,38],nt 39]++sq 41 [pa 35 40])) (.cond (t0 41) (.seq (.gQ (sq 4 [mb false])) .ret) .skip)))) (.gQ (sq 42 [bi .add 29 1]++sq 29 [mv 42])))))))) (.seq (.gQ (sq 4 [mb true])) .ret))))
theorem YQ:jV Tryz.prog 65 WZ 43 [.tmp 4]:=mf Tryz.func65 Tryz.ntmps65
def qg(r:gm):Int->Option gA
 |v29=>
  if(decide (v29<(r.2.length:Int)))=true then
   if 0<=v29/\v29<(r.2.length:Int)then
    if(decide ((r.2.getD v29.toNat default)<0))=true then
     (jA r.1 (r.2.getD v29.toNat default)).bind fun r_3=>
     if r_3=true then
      some (.inl (IntKind.i64.wrap (v29+1)))
     else
      Option.map Sum.inr (
       some false)
    else
     some (.inl (IntKind.i64.wrap (v29+1)))
   else none
  else
   Option.map Sum.inr (
    some true)
def qD(sig:gk)(r:gm):Option Bool:=
 (oY sig r.1).bind fun r_1=>
 if r_1=true then
  (oY sig r.2).bind fun r_2=>
  if r_2=true then
   if 0<=0/\0<(r.1.length:Int)then
    if(decide ((r.1.getD 0 default)<0))=true then
     some false
    else
     g_ (qg r) 0
   else none
  else
   some false
 else
  some false
instance OE{sig:gk}{r:gm}:iH (qD sig r) fun rr=>jF Tryz.prog 65 [iU sig,gP r] (bD rr):=⟨@fun rr h=>by
 delta qD at h;refine YQ.jf (gO ?_);delta WZ;refine iE ?_;refine rC h fun r_1 hr_1 h=>?_
 refine iT h fun hc h=>?_
 refine rC h fun r_2 hr_2 h=>?_
 refine iT h fun hc h=>?_
 refine jG h fun hp h=>?_
 refine iF h fun hc h=>?_
 refine kT h [4,6,29,30,31,32,33,34,35,36,37,38,39,40,41,42] (fun pp=>[(29,.d (iD pp))]) (fun pp=>[(2,.obj 30 [.d (gS 1 iD sig)]),(3,.obj 81 [.d (gS 1 iD r.1),.d (gS 1 iD r.2)])]) ?_;rintro v29 t1 h hb1;unfold qg at h;try dsimp only at h
 refine gO (iE ?_);exact nr⟩
def WI:gV:=
 (.seq (.gQ (sq 1 [bo 1 33 0,mb false])) (.seq (.seq (.gQ (sq 5 [fa 0 1,la 1 5,cf 64 [6],nt 7,mv 8]++sg 9 false 10 [fa 1 1,ld 10,ln 11,bi .gtr 12 12]++sq 14 [po 9 13])) (.cond (t0 14) (.seq (.gQ (sq 2 [mb false])) .ret) .skip)) (.seq (.seq (.gQ (sq 15 [fa 1 1,ld 15,ln 16,mi 0])) (.block 0 (.loop (.seq (.gQ (sq 19 [bn .lss 18 17])) (.seq (.cond (t0 19) .skip (.exit 0)) (.seq (.block 1 (.seq (.gQ (sq 20 [ix 2 16 18,la 2 20]++sq 4 [.alloc 4 81 [.sl 0 (some true) [],.sl 0 (some true) []]]++s0 (sr 2 4 21))) (.seq (.gQ (sq 22 [fa 0 1,la 1 22,la 2 4,cf 65 [23,24],nt 25])) (.cond (t0 26) (.seq (.gQ (sq 2 [mb false])) .ret) .skip)))) (.gQ (sq 27 [bi .add 18 1]++sq 18 [mv 27])))))))) (.seq (.gQ (sq 2 [mb true])) .ret))))
theorem YA:jV Tryz.prog 32 WI 28 [.tmp 2]:=mf Tryz.func32 Tryz.ntmps32
def oI(sys:gC):Int->Option gA
 |v18=>
  if(decide (v18<(sys.2.length:Int)))=true then
   if 0<=v18/\v18<(sys.2.length:Int)then
    (qD sys.1 ((sys.2.getD v18.toNat default).1,(sys.2.getD v18.toNat default).2)).bind fun r_1=>
    if r_1=true then
     some (.inl (IntKind.i64.wrap (v18+1)))
    else
     Option.map Sum.inr (
      some false)
   else none
  else
   Option.map Sum.inr (
    some true)
def oP(sys:gC):Option Bool:=
 (qh sys.1).bind fun r=>
 if r=true then
  if(decide (12<(sys.2.length:Int)))=true then
   some false
  else
   g_ (oI sys) 0
 else
  some false
instance Lp{sys:gC}:iH (oP sys) fun rr=>jF Tryz.prog 32 [ia sys] (bD rr):=⟨@fun rr h=>by
 delta oP at h;refine YA.jf (gO ?_);delta WI;refine iE ?_;refine rC h fun r hr h=>?_
 refine iT h fun hc h=>?_
 refine iF h fun hc h=>?_
 refine kT h [2,4,18,19,20,21,22,23,24,25,26,27] (fun pp=>[(18,.d (iD pp))]) (fun pp=>[(1,.obj 33 [.d (gS 1 iD sys.1),.d (gS 2 gP sys.2)])]) ?_;rintro v18 t1 h hb1;unfold oI at h;try dsimp only at h
 refine gO (iE ?_);refine iT h fun hc h=>?_
 refine jG h fun hp h=>?_
 refine rC h fun r_1 hr_1 h=>?_
 refine iT h fun hc h=>?_
 cases h;refine⟨_,rfl,?_⟩;refine(ij.drop 4 gN).trans ?_;exact wk⟩
def RR:gV:=
 (.seq (.gQ (sq 4 [mb false])) (.seq (.seq (.gQ (sq 5 [mi 0])) (.block 0 (.loop (.seq (.seq (.gQ (sq 6 [mv 5,mv 0,ln 7,bn .lss 6 8])) (.cond (t0 9) .skip (.exit 0))) (.seq (.block 1 (.seq (.gQ (sq 12 [mv 0,mv 5,ix 1 12 13,ld 14,mv 1,bn .eql 15 16])) (.cond (t0 17) (.seq (.gQ (sq 4 [mb true])) .ret) .skip))) (.gQ (sq 10 [mv 5,bi .add 10 1]++sq 5 [mv 11]))))))) (.seq (.gQ (sq 4 [mb false])) .ret)))
theorem Vs:jV Tryz.prog 100 RR 18 [.tmp 4]:=mf Tryz.func100 Tryz.ntmps100
def qS(s:gk)(n:Int):Int->Option gA
 |i=>
  if(decide (i<(s.length:Int)))=true then
   if 0<=i/\i<(s.length:Int)then
    if((s.getD i.toNat default)==n)=true then
     Option.map Sum.inr (
      some true)
    else
     some (.inl (IntKind.i64.wrap (i+1)))
   else none
  else
   Option.map Sum.inr (
    some false)
def qp(s:gk)(n:Int):Option Bool:=
 g_ (qS s n) 0
instance PC{s:gk}{n:Int}:iH (qp s n) fun rr=>jF Tryz.prog 100 [(gS 1 iD) s,iD n] (bD rr):=⟨@fun rr h=>by
 delta qp at h;refine Vs.jf (gO ?_);delta RR;refine iE ?_;refine kT h [4,5,6,7,8,9,10,11,12,13,14,15,16,17] (fun pp=>[(5,.d (iD pp))]) (fun pp=>[]) ?_;rintro i t1 h hb1;unfold qS at h;try dsimp only at h
 refine gO (iE ?_);exact nr⟩
def Xe:gV:=
 (.seq (.gQ (sq 2 [bo 2 30 0,bo 3 81 1,mb false])) (.seq (.seq (.gQ (sq 6 [la 1 2,fa 0 3,ld 7,cf 84 [6,8],nt 9,mv 10]++sg 11 false 12 [la 1 2,fa 1 3,ld 13,cf 84 [12,14],nt 15]++sq 17 [po 11 16,mv 17]++sg 18 false 19 [fa 0 3,ld 19,.tg 1 (t0 20) (i0 0),ld 21,bi .lss 22 0]++sq 24 [po 18 23])) (.cond (t0 24) (.seq (.gQ (sq 4 [mb false])) .ret) .skip)) (.seq (.seq (.gQ (sq 5 [mi 0])) (.block 0 (.loop (.seq (.seq (.gQ (sq 25 [mv 5,fa 1 3,ld 26,ln 27,bn .lss 25 28])) (.cond (t0 29) .skip (.exit 0))) (.seq (.block 1 (.seq (.draw (sq 32 [fa 1 3,ld 32,mv 5,ix 1 33 34,ld 35,bi .lss 36 0,mv 37]++sg 38 true 39 [fa 0 3,ld 39,fa 1 3,ld 41,mv 5,ix 1 42 43,ld 44,cf 100 [40,45],nt 46]++sq 48 [pa 38 47]) [[],[0],[],[1,2],[3],[4],[5],[6],[7,6],[6],[9,6],[6],[10,11,6],[12,6],[8,13,6,6],[14,6],[6,15]]) (.cond (t0 48) (.seq (.gQ (sq 4 [mb false])) .ret) .skip))) (.gQ (sq 30 [mv 5,bi .add 30 1]++sq 5 [mv 31]))))))) (.seq (.gQ (sq 4 [mb true])) .ret))))
theorem YX:jV Tryz.prog 76 Xe 49 [.tmp 4]:=mf Tryz.func76 Tryz.ntmps76
def qn(r:gm):Int->Option gA
 |i=>
  if(decide (i<(r.2.length:Int)))=true then
   if 0<=i/\i<(r.2.length:Int)then
    if(decide ((r.2.getD i.toNat default)<0))=true then
     if 0<=i/\i<(r.2.length:Int)then
      (qp r.1 (r.2.getD i.toNat default)).bind fun r_3=>
      if r_3=true then
       some (.inl (IntKind.i64.wrap (i+1)))
      else
       Option.map Sum.inr (
        some false)
     else none
    else
     some (.inl (IntKind.i64.wrap (i+1)))
   else none
  else
   Option.map Sum.inr (
    some true)
def qI(sig:gk)(r:gm):Option Bool:=
 (nT sig r.1).bind fun r_1=>
 if r_1=true then
  (nT sig r.2).bind fun r_2=>
  if r_2=true then
   if 0<=0/\0<(r.1.length:Int)then
    if(decide ((r.1.getD 0 default)<0))=true then
     some false
    else
     g_ (qn r) 0
   else none
  else
   some false
 else
  some false
instance OM{sig:gk}{r:gm}:iH (qI sig r) fun rr=>jF Tryz.prog 76 [iU sig,gP r] (bD rr):=⟨@fun rr h=>by
 delta qI at h;refine YX.jf (gO ?_);delta Xe;refine iE ?_;refine rC h fun r_1 hr_1 h=>?_
 refine iT h fun hc h=>?_
 refine rC h fun r_2 hr_2 h=>?_
 refine iT h fun hc h=>?_
 refine jG h fun hp h=>?_
 refine iF h fun hc h=>?_
 refine kT h [4,5,25,26,27,28,29,30,31,32,33,34,35,36,37,38,39,40,41,42,43,44,45,46,47,48] (fun pp=>[(5,.d (iD pp))]) (fun pp=>[(2,.obj 30 [.d (gS 1 iD sig)]),(3,.obj 81 [.d (gS 1 iD r.1),.d (gS 1 iD r.2)])]) ?_;rintro i t1 h hb1;unfold qn at h;try dsimp only at h
 refine gO (iE ?_);exact nr⟩
def WO:gV:=
 (.seq (.gQ (sq 1 [bo 1 33 0,mb false])) (.seq (.seq (.gQ (sq 4 [fa 0 1,la 1 4,cf 75 [5],nt 6,mv 7]++sg 8 false 9 [fa 1 1,ld 9,ln 10,bi .gtr 11 12]++sq 13 [po 8 12])) (.cond (t0 13) (.seq (.gQ (sq 2 [mb false])) .ret) .skip)) (.seq (.seq (.gQ (sq 3 [mi 0])) (.block 0 (.loop (.seq (.seq (.gQ (sq 14 [mv 3,fa 1 1,ld 15,ln 16,bn .lss 14 17])) (.cond (t0 18) .skip (.exit 0))) (.seq (.block 1 (.seq (.draw (sq 21 [fa 0 1,la 1 21,fa 1 1,ld 23,mv 3,ix 2 24 25,la 2 26,cf 76 [22,27],nt 28]) [[],[0],[],[2],[],[3,4],[5],[1,6],[7]]) (.cond (t0 29) (.seq (.gQ (sq 2 [mb false])) .ret) .skip))) (.gQ (sq 19 [mv 3,bi .add 19 1]++sq 3 [mv 20]))))))) (.seq (.gQ (sq 2 [mb true])) .ret))))
theorem YG:jV Tryz.prog 44 WO 30 [.tmp 2]:=mf Tryz.func44 Tryz.ntmps44
def oL(sys:gC):Int->Option gA
 |i=>
  if(decide (i<(sys.2.length:Int)))=true then
   if 0<=i/\i<(sys.2.length:Int)then
    (qI sys.1 ((sys.2.getD i.toNat default).1,(sys.2.getD i.toNat default).2)).bind fun r_1=>
    if r_1=true then
     some (.inl (IntKind.i64.wrap (i+1)))
    else
     Option.map Sum.inr (
      some false)
   else none
  else
   Option.map Sum.inr (
    some true)
def nC(sys:gC):Option Bool:=
 (qo sys.1).bind fun r=>
 if r=true then
  if(decide (12<(sys.2.length:Int)))=true then
   some false
  else
   g_ (oL sys) 0
 else
  some false
instance LB{sys:gC}:iH (nC sys) fun rr=>jF Tryz.prog 44 [ia sys] (bD rr):=⟨@fun rr h=>by
 delta nC at h;refine YG.jf (gO ?_);delta WO;refine iE ?_;refine rC h fun r hr h=>?_
 refine iT h fun hc h=>?_
 refine iF h fun hc h=>?_
 refine kT h [2,3,14,15,16,17,18,19,20,21,22,23,24,25,26,27,28,29] (fun pp=>[(3,.d (iD pp))]) (fun pp=>[(1,.obj 33 [.d (gS 1 iD sys.1),.d (gS 2 gP sys.2)])]) ?_;rintro i t1 h hb1;unfold oL at h;try dsimp only at h
 refine gO (iE ?_);exact nr⟩
def jS(x:gp):D:=.agg [(gS 1 (gS 1 iD)) x]
instance:sU jS 1:=⟨fun _=>rfl⟩
attribute [go_sem] jS
def Sj:gV:=
 (.seq (.gQ (sq 3 [bo 3 30 0]++sq 6 [.mv (.const (.slice none 0 0))])) (.seq (.gQ (sq 7 [mv 1,mv 2,la 1 3,mv 1,mv 2,cf 127 [9,10,11],.slc (t0 7) 1 (some (t0 8)) (some (t0 12)) none]++sq 6 [mv 13])) .ret))
theorem VQ:jV Tryz.prog 130 Sj 14 [.tmp 6]:=mf Tryz.func130 Tryz.ntmps130
def jH(sig:gk)(t:gk)(at':Int):Option gk:=
 (lB sig t at').bind fun r=>
 if 0<=at'/\at'<=r/\r<=(t.length:Int)then
  some ((t.take r.toNat).drop at'.toNat)
 else none
instance Pw{sig:gk}{t:gk}{at':Int}:iH (jH sig t at') fun rr=>jF Tryz.prog 130 [iU sig,(gS 1 iD) t,iD at'] ((gS 1 iD) rr):=⟨@fun rr h=>by
 delta jH at h;refine VQ.jf (gO ?_);delta Sj;refine iE ?_;exact nr⟩
def RY:gV:=
 (.seq (.gQ (sq 4 [mb false])) (.seq (.seq (.gQ (sq 6 [mv 0,ln 6,mv 1,ln 8,bn .neq 7 9])) (.cond (t0 10) (.seq (.gQ (sq 4 [mb false])) .ret) .skip)) (.seq (.seq (.gQ (sq 11 [mv 0,ln 11,mi 0])) (.block 0 (.loop (.seq (.gQ (sq 14 [bn .lss 13 12])) (.seq (.cond (t0 14) .skip (.exit 0)) (.seq (.block 1 (.seq (.gQ (sq 15 [mv 13]++sq 5 [mv 15])) (.seq (.draw (sq 16 [mv 0,mv 5,ix 1 16 17,ld 18,mv 1,mv 5,ix 1 20 21,ld 22,bn .neq 19 23]) [[],[],[0,1],[2],[],[],[4,5],[6],[3,7]]) (.cond (t0 24) (.seq (.gQ (sq 4 [mb false])) .ret) .skip)))) (.gQ (sq 25 [bi .add 13 1]++sq 13 [mv 25])))))))) (.seq (.gQ (sq 4 [mb true])) .ret))))
theorem Vy:jV Tryz.prog 109 RY 26 [.tmp 4]:=mf Tryz.func109 Tryz.ntmps109
def jY(s1:gk)(s2:gk):Int->Option gA
 |v13=>
  if(decide (v13<(s1.length:Int)))=true then
   if 0<=v13/\v13<(s1.length:Int)then
    if 0<=v13/\v13<(s2.length:Int)then
     if((s1.getD v13.toNat default) != (s2.getD v13.toNat default))=true then
      Option.map Sum.inr (
       some false)
     else
      some (.inl (IntKind.i64.wrap (v13+1)))
    else none
   else none
  else
   Option.map Sum.inr (
    some true)
def jb(s1:gk)(s2:gk):Option Bool:=
 if((s1.length:Int) != (s2.length:Int))=true then
  some false
 else
  g_ (jY s1 s2) 0
instance B8{s1:gk}{s2:gk}:iH (jb s1 s2) fun rr=>jF Tryz.prog 109 [(gS 1 iD) s1,(gS 1 iD) s2] (bD rr):=⟨@fun rr h=>by
 delta jb at h;refine Vy.jf (gO ?_);delta RY;refine iE ?_;refine iF h fun hc h=>?_
 refine kT h [4,5,13,14,15,16,17,18,19,20,21,22,23,24,25] (fun pp=>[(13,.d (iD pp))]) (fun pp=>[]) ?_;rintro v13 t1 h hb1;unfold jY at h;try dsimp only at h
 refine gO (iE ?_);exact nr⟩
def SF:gV:=
 (.seq (.gQ (sq 4 [bo 4 30 0]++sq 7 [bo 7 234 3,.alloc 8 234 [.sl 0 (some true) [],.sl 0 (some true) [],.sl 0 (some true) [],.sl 0 (some true) [],.sl 0 (some true) [],.sl 0 (some true) [],.sl 0 (some true) [],.sl 0 (some true) [],.sl 0 (some true) [],.sl 0 (some true) [],.sl 0 (some true) [],.sl 0 (some true) [],.sl 0 (some true) [],.sl 0 (some true) [],.sl 0 (some true) [],.sl 0 (some true) [],.sl 0 (some true) [],.sl 0 (some true) [],.sl 0 (some true) [],.sl 0 (some true) [],.sl 0 (some true) [],.sl 0 (some true) [],.sl 0 (some true) [],.sl 0 (some true) []],mb false])) (.seq (.gQ (sq 10 [mi 0])) (.seq (.seq (.gQ (sq 14 [mv 1,ln 14,mi 0])) (.block 0 (.loop (.seq (.gQ (sq 17 [bn .lss 16 15])) (.seq (.cond (t0 17) .skip (.exit 0)) (.seq (.block 1 (.seq (.gQ (sq 18 [ix 1 14 16,ld 18]++sq 12 [mv 19])) (.seq (.seq (.gQ (sq 20 [mv 10,mv 2,ln 21,bn .geq 20 22])) (.cond (t0 23) (.seq (.gQ (sq 24 [la 24 7]++s0 (sr 24 8 24)++sq 9 [mb false])) .ret) .skip)) (.seq (.seq (.gQ (sq 25 [mv 12,bi .geq 25 0])) (.cond (t0 26) (.seq (.seq (.gQ (sq 27 [mv 2,mv 10,ix 1 27 28,ld 29,mv 12,bn .neq 30 31])) (.cond (t0 32) (.seq (.gQ (sq 33 [la 24 7]++s0 (sr 24 8 33)++sq 9 [mb false])) .ret) .skip)) (.seq (.gQ (sq 34 [mv 10,bi .add 34 1]++sq 10 [mv 35])) (.exit 1))) .skip)) (.seq (.gQ (sq 36 [la 1 4,mv 2,mv 10,cf 130 [36,37,38]]++sq 13 [mv 39])) (.seq (.seq (.gQ (sq 40 [mv 12,.bin .sub (i0 (-1)) (t0 40),.wH 1 24 (t0 7) (t0 41),ld 42,.tN false (t0 43)])) (.cond (t0 44) (.gQ (sq 45 [mv 12,.bin .sub (i0 (-1)) (t0 45),mv 13,.wH 1 24 (t0 7) (t0 46)]++s0 (sr 1 48 47))) (.seq (.gQ (sq 49 [mv 12,.bin .sub (i0 (-1)) (t0 49),.wH 1 24 (t0 7) (t0 50),ld 51,mv 13,cf 109 [52,53],nt 54])) (.cond (t0 55) (.seq (.gQ (sq 56 [la 24 7]++s0 (sr 24 8 56)++sq 9 [mb false])) .ret) .skip)))) (.gQ (sq 57 [mv 10,mv 13,ln 58,bn .add 57 59]++sq 10 [mv 60])))))))) (.gQ (sq 61 [bi .add 16 1]++sq 16 [mv 61])))))))) (.seq (.gQ (sq 62 [la 24 7]++s0 (sr 24 8 62)++sq 9 [mb true])) .ret))))
theorem Wa:jV Tryz.prog 160 SF 63 [.cell 8 24 true,.tmp 9]:=mf Tryz.func160 Tryz.ntmps160
def qx(sig:gk)(p:gk)(t:gk):(Int×Int×gp)->Option ((Int×Int×gp)⊕(gp×Bool))
 |(at',v16,b_1)=>
  if(decide (v16<(p.length:Int)))=true then
   if 0<=v16/\v16<(p.length:Int)then
    if(decide ((t.length:Int)<=at'))=true then
     if b_1.length=24 then
      if b_1.length=24 then
       Option.map Sum.inr (
        some (b_1,false))
      else none
     else none
    else
     if(decide (0<=(p.getD v16.toNat default)))=true then
      if 0<=at'/\at'<(t.length:Int)then
       if((t.getD at'.toNat default) != (p.getD v16.toNat default))=true then
        if b_1.length=24 then
         if b_1.length=24 then
          Option.map Sum.inr (
           some (b_1,false))
         else none
        else none
       else
        some (.inl ((IntKind.i64.wrap (at'+1)),(IntKind.i64.wrap (v16+1)),b_1))
      else none
     else
      (jH sig t at').bind fun r=>
      if 0<=(IntKind.i64.wrap ((-1)-(p.getD v16.toNat default)))/\(IntKind.i64.wrap ((-1)-(p.getD v16.toNat default)))<24/\(IntKind.i64.wrap ((-1)-(p.getD v16.toNat default)))<(b_1.length:Int)then
       if(b_1.getD (IntKind.i64.wrap ((-1)-(p.getD v16.toNat default))).toNat default).isEmpty=true then
        if 0<=(IntKind.i64.wrap ((-1)-(p.getD v16.toNat default)))/\(IntKind.i64.wrap ((-1)-(p.getD v16.toNat default)))<24/\(IntKind.i64.wrap ((-1)-(p.getD v16.toNat default)))<(b_1.length:Int)then
         if 0<r.length then
          some (.inl ((IntKind.i64.wrap (at'+(r.length:Int))),(IntKind.i64.wrap (v16+1)),(b_1.set (IntKind.i64.wrap ((-1)-(p.getD v16.toNat default))).toNat r)))
         else none
        else none
       else
        if 0<=(IntKind.i64.wrap ((-1)-(p.getD v16.toNat default)))/\(IntKind.i64.wrap ((-1)-(p.getD v16.toNat default)))<24/\(IntKind.i64.wrap ((-1)-(p.getD v16.toNat default)))<(b_1.length:Int)then
         (jb (b_1.getD (IntKind.i64.wrap ((-1)-(p.getD v16.toNat default))).toNat default) r).bind fun r_1=>
         if r_1=true then
          some (.inl ((IntKind.i64.wrap (at'+(r.length:Int))),(IntKind.i64.wrap (v16+1)),b_1))
         else
          if b_1.length=24 then
           if b_1.length=24 then
            Option.map Sum.inr (
             some (b_1,false))
           else none
          else none
        else none
      else none
   else none
  else
   Option.map Sum.inr (
    if b_1.length=24 then
     if b_1.length=24 then
      some (b_1,true)
     else none
    else none)
def og(sig:gk)(p:gk)(t:gk)(b:gp):Option (gp×Bool):=
 g_ (qx sig p t) (0,0,b)
instance J_{sig:gk}{p:gk}{t:gk}{b:gp}:iH (og sig p t b) fun rr=>oF Tryz.prog 160 [iU sig,(gS 1 iD) p,(gS 1 iD) t,(Yb (nZ 1 iD)) b] [(Yb (nZ 1 iD)) rr.1,bD rr.2]:=⟨@fun rr h=>by
 delta og at h;refine Wa.pG (gO ?_);delta SF;refine iE ?_;refine kT h [9,10,12,13,16,17,18,19,20,21,22,23,24,25,26,27,28,29,30,31,32,33,34,35,36,37,38,39,40,41,42,43,44,45,46,47,48,49,50,51,52,53,54,55,56,57,58,59,60,61] (fun pp=>[(10,.d (iD pp.1)),(16,.d (iD pp.2.1))]) (fun pp=>[(4,.obj 30 [.d (gS 1 iD sig)]),(7,.obj 234 (List.map (aD (nZ 1 iD)) pp.2.2)),(8,.obj 234 [.d (.sl 0 (some true) []),.d (.sl 0 (some true) []),.d (.sl 0 (some true) []),.d (.sl 0 (some true) []),.d (.sl 0 (some true) []),.d (.sl 0 (some true) []),.d (.sl 0 (some true) []),.d (.sl 0 (some true) []),.d (.sl 0 (some true) []),.d (.sl 0 (some true) []),.d (.sl 0 (some true) []),.d (.sl 0 (some true) []),.d (.sl 0 (some true) []),.d (.sl 0 (some true) []),.d (.sl 0 (some true) []),.d (.sl 0 (some true) []),.d (.sl 0 (some true) []),.d (.sl 0 (some true) []),.d (.sl 0 (some true) []),.d (.sl 0 (some true) []),.d (.sl 0 (some true) []),.d (.sl 0 (some true) []),.d (.sl 0 (some true) []),.d (.sl 0 (some true) [])])]) ?_;rintro⟨at',v16,b_1⟩ t1 h hb1;unfold qx at h;try dsimp only at h
 refine gO (iE ?_);refine iT h fun hc h=>?_
 refine jG h fun hp h=>?_
 refine iF h fun hc h=>?_
 refine iF h fun hc h=>?_
 refine rC h fun r hr h=>?_
 refine jG h fun hp h=>?_
 refine iT h fun hc h=>?_
 refine jG h fun hp h=>?_
 refine jG h fun hp h=>?_
 cases h;refine⟨_,rfl,?_⟩;refine(ij.U5 (s':=[(4,.obj 30 [.d (gS 1 iD sig)]),(7,.obj 234 (List.map (aD (nZ 1 iD)) (b_1.set (IntKind.i64.wrap ((-1)-(p.getD v16.toNat default))).toNat r))),(8,.obj 234 [.d (.sl 0 (some true) []),.d (.sl 0 (some true) []),.d (.sl 0 (some true) []),.d (.sl 0 (some true) []),.d (.sl 0 (some true) []),.d (.sl 0 (some true) []),.d (.sl 0 (some true) []),.d (.sl 0 (some true) []),.d (.sl 0 (some true) []),.d (.sl 0 (some true) []),.d (.sl 0 (some true) []),.d (.sl 0 (some true) []),.d (.sl 0 (some true) []),.d (.sl 0 (some true) []),.d (.sl 0 (some true) []),.d (.sl 0 (some true) []),.d (.sl 0 (some true) []),.d (.sl 0 (some true) []),.d (.sl 0 (some true) []),.d (.sl 0 (some true) []),.d (.sl 0 (some true) []),.d (.sl 0 (some true) []),.d (.sl 0 (some true) []),.d (.sl 0 (some true) [])])]) (iG.refl _) (by exact(yE (vF.refl _) (yE ⟨rfl,Gb gN (by first|exact(yq gN).2 trivial|exact(uA gN).2 trivial)⟩ (yE (vF.refl _) By))))).trans ?_;exact wk⟩
def SH:gV:=
 (.seq (.gQ (sq 1 [bo 1 234 0,.alloc 2 180 [.sl 0 (some true) []]])) (.seq (.gQ (sq 3 [.EV (t0 1) 1 24 none none none,.build [.sl 0 (some true) []] [(0,1,(t0 3))]]++s0 (sr 1 2 4))) .ret))
theorem Wc:jV Tryz.prog 162 SH 5 [.cell 2 1 true]:=mf Tryz.func162 Tryz.ntmps162
def mZ(b:gp):Option gp:=
 if b.length=24 then
  some b
 else none
instance E7{b:gp}:iH (mZ b) fun rr=>jF Tryz.prog 162 [(Yb (nZ 1 iD)) b] (jS rr):=⟨@fun rr h=>by
 delta mZ at h;refine Wc.S3 (gO ?_);delta SH;refine iE ?_;refine jG h fun hp h=>?_
 cases h;exact⟨_,_,(iV.Zg 1 (nZ 1 iD) b gN rfl),Eu⟩⟩
def SK:gV:=
 (.seq (.gQ (sq 2 [.mv (.const (.slice none 0 0))])) (.seq (.gQ (sq 3 [mv 0,.bin .sub (i0 (-1)) (t0 3),.pF 5 2 1 [(t0 4)]]++sq 2 [mv 5])) .ret))
theorem Wg:jV Tryz.prog 165 SK 6 [.tmp 2]:=mf Tryz.func165 Tryz.ntmps165
def qQ(i:Int):Option gk:=
 some [(IntKind.i64.wrap ((-1)-i))]
instance Lu{i:Int}:iH (qQ i) fun rr=>jF Tryz.prog 165 [iD i] ((gS 1 iD) rr):=⟨@fun rr h=>by
 delta qQ at h;refine Wg.jf (gO ?_);delta SK;refine iE ?_;exact nr⟩
def RZ:gV:=
 (.seq (.gQ (sq 2 [.mv (.const (.slice none 0 0))])) (.seq (.seq (.gQ (sq 3 [mv 0,.tN false (t0 3)])) (.cond (t0 4) (.seq (.gQ (sq 2 [.mv (.const (.slice none 0 0))])) .ret) .skip)) (.seq (.gQ (sq 5 [.pF 5 2 1 [],mv 0,ap 7 2 1 8 5 6]++sq 2 [mv 7])) .ret)))
theorem Vz:jV Tryz.prog 112 RZ 8 [.tmp 2]:=mf Tryz.func112 Tryz.ntmps112
def iR(s:gk):Option gk:=
 J1 s (
  some []) (
  if(0+s.length)*8<=140737488355328 then
   some s
  else none)
instance B7{s:gk}:iH (iR s) fun rr=>jF Tryz.prog 112 [(gS 1 iD) s] ((gS 1 iD) rr):=⟨@fun rr h=>by
 delta iR at h;refine Vz.jf (gO ?_);delta RZ;refine iE ?_;have h1:=Fl h;refine tw.of (fun he=>?_) ?_
 ·replace h:=h1.1 (by simpa using he);clear h1;refine iE ?_;exact nr
 ·replace h:=h1.2;clear h1;refine iE ?_;exact nr⟩
def SG:gV:=
 (.seq (.gQ (sq 1 [bo 1 180 0,.alloc 2 180 [.sl 0 (some true) []]])) (.seq (.gQ (sq 3 [.alloc 3 180 [.sl 0 (some true) []]])) (.seq (.seq (.gQ (sq 6 [fa 0 1,ld 6,ln 7,mi 0])) (.block 0 (.loop (.seq (.gQ (sq 10 [bn .lss 9 8])) (.seq (.cond (t0 10) .skip (.exit 0)) (.seq (.block 1 (.seq (.gQ (sq 11 [mv 9,ix 1 7 9,ld 12]++sq 4 [mv 11,mv 13])) (.seq (.seq (.gQ (sq 14 [mv 5,ln 14,bi .eql 15 0,mv 16]++sg 17 false 18 [mv 5,mv 4,cf 165 [19],cf 109 [18,20]]++sq 22 [po 17 21])) (.cond (t0 22) (.exit 1) .skip)) (.seq (.block 2 (.loop (.seq (.seq (.gQ (sq 23 [fa 0 3,ld 23,ln 24,mv 4,bn .lss 25 26])) (.cond (t0 27) .skip (.exit 2))) (.block 3 (.gQ (sq 28 [fa 0 3,ld 28,.pF 30 22 1 [(.const (.slice none 0 0))],ap 31 22 1 24 29 30,fa 0 3]++s0 (sr 1 32 31))))))) (.draw (sq 33 [fa 0 3,ld 33,mv 5,cf 112 [35],.pF 37 22 1 [(t0 36)],ap 38 22 1 24 34 37,fa 0 3]++s0 (sr 1 39 38)) [[],[0],[],[2],[3],[1,4,3],[0,1,2,3,4,5],[6,5,5,0,1,2,3,4,5]]))))) (.gQ (sq 40 [bi .add 9 1]++sq 9 [mv 40])))))))) (.seq (.gQ (sq 41 [la 1 3]++s0 (sr 1 2 41))) .ret))))
theorem Wb:jV Tryz.prog 161 SG 42 [.cell 2 1 true]:=mf Tryz.func161 Tryz.ntmps161
def tF(s:gp)(v9:Int):gp->Option (gp⊕((Int×gp)⊕gp))
 |out_1=>
  if(decide ((out_1.length:Int)<v9))=true then
   if(out_1.length+1)*24<=140737488355328 then
    some (.inl (out_1++[[]]))
   else none
  else
   Option.map Sum.inr (
    (iR (s.getD v9.toNat default)).bind fun r_2=>
    if(out_1.length+1)*24<=140737488355328 then
     some (.inl ((IntKind.i64.wrap (v9+1)),(out_1++[r_2])))
    else none)
def tE(s:gp):(Int×gp)->Option ((Int×gp)⊕gp)
 |(v9,out)=>
  if(decide (v9<(s.length:Int)))=true then
   if 0<=v9/\v9<(s.length:Int)then
    if(((s.getD v9.toNat default).length:Int)==0)=true then
     some (.inl ((IntKind.i64.wrap (v9+1)),out))
    else
     (qQ v9).bind fun r=>
     (jb (s.getD v9.toNat default) r).bind fun r_1=>
     if r_1=true then
      some (.inl ((IntKind.i64.wrap (v9+1)),out))
     else
      g_ (tF s v9) out
   else none
  else
   Option.map Sum.inr (
    some out)
def rK(s:gp):Option gp:=
 g_ (tE s) (0,[])
instance Pt{s:gp}:iH (rK s) fun rr=>jF Tryz.prog 161 [jS s] (jS rr):=⟨@fun rr h=>by
 delta rK at h;refine Wb.jf (gO ?_);delta SG;refine iE ?_;refine sW h [4,5,9,10,11,12,13,14,15,16,17,18,19,20,21,22,23,24,25,26,27,28,29,30,31,32,33,34,35,36,37,38,39,40] (fun pp=>[(9,.d (iD pp.1))]) (fun pp=>[(1,.obj 180 [.d (gS 1 (gS 1 iD) s)]),(2,.obj 180 [.d (.sl 0 (some true) [])]),(3,.obj 180 [.own 1 38 (List.map (gS 1 iD) pp.2)]),(38,.tok 22 1 pp.2.length)]) ?_ ?_
 ·try dsimp only
  refine(ij.wh 3 0 38 22 1 rfl rfl rfl).trans ?_;exact wk
 rintro⟨v9,out⟩ t1 h hb1;unfold tE at h;try dsimp only at h
 refine gO (iE ?_);refine iT h fun hc h=>?_
 refine jG h fun hp h=>?_
 refine iF h fun hc h=>?_
 refine rC h fun r hr h=>?_
 refine rC h fun r_1 hr_1 h=>?_
 refine iF h fun hc h=>?_
 refine kT h [23,24,25,26,27,28,29,30,31,32] (fun pp=>[]) (fun pp=>[(1,.obj 180 [.d (gS 1 (gS 1 iD) s)]),(2,.obj 180 [.d (.sl 0 (some true) [])]),(3,.obj 180 [.own 1 38 (List.map (gS 1 iD) pp)]),(38,.tok 22 1 pp.length)]) ?_;rintro out_1 t2 h hb2;unfold tF at h;try dsimp only at h
 refine gO (iE ?_);refine it h (fun hc h=>?_) fun hc h=>?_
 ·refine jG h fun hp h=>?_
  cases h;refine⟨_,rfl,?_⟩;refine(ij.drop 30 gN).trans ?_;exact wk
 replace h:=jg h hb2;refine dC h fun r_2 hr_2 h=>?_
 refine jG h fun hp h=>?_
 refine jy (by kernel_rfl) (iE ?_);cases h;refine⟨_,rfl,?_⟩;refine(ij.drop 37 gN).trans ?_;exact wk⟩
def Sx:gV:=
 (.seq (.gQ (sq 3 [bo 3 30 0]++sq 6 [.alloc 6 180 [.sl 0 (some true) []],mb false])) (.seq (.gQ (sq 11 [la 1 3,mv 1,mv 2,.build [.sl 0 (some true) [],.sl 0 (some true) [],.sl 0 (some true) [],.sl 0 (some true) [],.sl 0 (some true) [],.sl 0 (some true) [],.sl 0 (some true) [],.sl 0 (some true) [],.sl 0 (some true) [],.sl 0 (some true) [],.sl 0 (some true) [],.sl 0 (some true) [],.sl 0 (some true) [],.sl 0 (some true) [],.sl 0 (some true) [],.sl 0 (some true) [],.sl 0 (some true) [],.sl 0 (some true) [],.sl 0 (some true) [],.sl 0 (some true) [],.sl 0 (some true) [],.sl 0 (some true) [],.sl 0 (some true) [],.sl 0 (some true) []] [],cf 160 [11,12,13,14]]++sq 10 [mv 15]++sq 16 [ex 10 0,ex 10 1]++sq 8 [.alloc 8 234 [.sl 0 (some true) [],.sl 0 (some true) [],.sl 0 (some true) [],.sl 0 (some true) [],.sl 0 (some true) [],.sl 0 (some true) [],.sl 0 (some true) [],.sl 0 (some true) [],.sl 0 (some true) [],.sl 0 (some true) [],.sl 0 (some true) [],.sl 0 (some true) [],.sl 0 (some true) [],.sl 0 (some true) [],.sl 0 (some true) [],.sl 0 (some true) [],.sl 0 (some true) [],.sl 0 (some true) [],.sl 0 (some true) [],.sl 0 (some true) [],.sl 0 (some true) [],.sl 0 (some true) [],.sl 0 (some true) [],.sl 0 (some true) []]]++s0 (sr 24 8 16)++sq 9 [mv 17])) (.seq (.seq (.gQ (sq 18 [mv 9,nt 18])) (.cond (t0 19) (.seq (.gQ (sq 20 [.build [.sl 0 (some true) []] []]++s0 (sr 1 6 20)++sq 7 [mb false])) .ret) .skip)) (.seq (.gQ (sq 21 [la 24 8,cf 162 [21],cf 161 [22]]++s0 (sr 1 6 23)++sq 7 [mb true])) .ret))))
theorem V3:jV Tryz.prog 152 Sx 24 [.cell 6 1 true,.tmp 7]:=mf Tryz.func152 Tryz.ntmps152
def qj(sig:gk)(p:gk)(t:gk):Option (gp×Bool):=
 (og sig p t (List.replicate 24 [])).bind fun r=>
 if r.1.length=24 then
  if r.2=true then
   if r.1.length=24 then
    (mZ r.1).bind fun r_1=>
    (rK r_1).bind fun r_2=>
    some (r_2,true)
   else none
  else
   some ([],false)
 else none
instance Pp{sig:gk}{p:gk}{t:gk}:iH (qj sig p t) fun rr=>oF Tryz.prog 152 [iU sig,(gS 1 iD) p,(gS 1 iD) t] [jS rr.1,bD rr.2]:=⟨@fun rr h=>by
 delta qj at h;refine V3.pG (gO ?_);delta Sx;refine iE ?_;exact nr⟩
def Xm:gV:=
 (.seq (.gQ (sq 2 [.mv (.const (.slice none 0 0))])) (.seq (.gQ (sq 3 [.pF 3 2 1 [],mv 0,ap 5 2 1 8 3 4]++sq 2 [mv 5])) .ret))
theorem Y5:jV Tryz.prog 87 Xm 6 [.tmp 2]:=mf Tryz.func87 Tryz.ntmps87
def kC(l:gk):Option gk:=
 if(0+l.length)*8<=140737488355328 then
  some l
 else none
instance OR{l:gk}:iH (kC l) fun rr=>h_ Tryz.prog 87 [.d (gS 1 iD l)] [] 0 fun xx ss=>xx=.own 1 3 (List.map iD rr)/\ss=[(3,.tok 2 1 rr.length)]:=⟨@fun rr h=>by
 delta kC at h;refine Y5.mm (gO ?_);delta Xm;refine iE ?_;exact nr⟩
def R_:gV:=
 (.seq (.gQ (sq 3 [bo 3 30 0]++sq 6 [.mv (.const (.slice none 0 0))])) (.seq (.gQ (sq 7 [mv 1,mv 2,la 1 3,mv 1,mv 2,cf 118 [9,10,11],.slc (t0 7) 1 (some (t0 8)) (some (t0 12)) none,cf 87 [13]]++sq 6 [mv 14])) .ret))
theorem VH:jV Tryz.prog 120 R_ 15 [.tmp 6]:=mf Tryz.func120 Tryz.ntmps120
def qq(sig:gk)(t:gk)(at':Int):Option gk:=
 (nL sig t at').bind fun r=>
 if 0<=at'/\at'<=r/\r<=(t.length:Int)then
  (kC ((t.take r.toNat).drop at'.toNat)).bind fun r_1=>
  some r_1
 else none
instance PD{sig:gk}{t:gk}{at':Int}:iH (qq sig t at') fun rr=>jF Tryz.prog 120 [iU sig,(gS 1 iD) t,iD at'] ((gS 1 iD) rr):=⟨@fun rr h=>by
 delta qq at h;refine VH.jf (gO ?_);delta R_;refine iE ?_;refine rC h fun r hr h=>?_
 refine jG h fun hp h=>?_
 refine vf [] [(3,14)] h fun r_1 hr_1 h=>?_
 exact nr⟩
def WT:gV:=
 (.seq (.gQ (sq 4 [mb false])) (.seq (.seq (.gQ (sq 6 [mv 0,ln 6,mv 1,ln 8,bn .neq 7 9])) (.cond (t0 10) (.seq (.gQ (sq 4 [mb false])) .ret) .skip)) (.seq (.seq (.gQ (sq 5 [mi 0])) (.block 0 (.loop (.seq (.seq (.gQ (sq 11 [mv 5,mv 0,ln 12,bn .lss 11 13])) (.cond (t0 14) .skip (.exit 0))) (.seq (.block 1 (.seq (.draw (sq 17 [mv 0,mv 5,ix 1 17 18,ld 19,mv 1,mv 5,ix 1 21 22,ld 23,bn .neq 20 24]) [[],[],[0,1],[2],[],[],[4,5],[6],[3,7]]) (.cond (t0 25) (.seq (.gQ (sq 4 [mb false])) .ret) .skip))) (.gQ (sq 15 [mv 5,bi .add 15 1]++sq 5 [mv 16]))))))) (.seq (.gQ (sq 4 [mb true])) .ret))))
theorem YK:jV Tryz.prog 51 WT 26 [.tmp 4]:=mf Tryz.func51 Tryz.ntmps51
def oK(a:gk)(b:gk):Int->Option gA
 |i=>
  if(decide (i<(a.length:Int)))=true then
   if 0<=i/\i<(a.length:Int)then
    if 0<=i/\i<(b.length:Int)then
     if((a.getD i.toNat default) != (b.getD i.toNat default))=true then
      Option.map Sum.inr (
       some false)
     else
      some (.inl (IntKind.i64.wrap (i+1)))
    else none
   else none
  else
   Option.map Sum.inr (
    some true)
def nB(a:gk)(b:gk):Option Bool:=
 if((a.length:Int) != (b.length:Int))=true then
  some false
 else
  g_ (oK a b) 0
instance LA{a:gk}{b:gk}:iH (nB a b) fun rr=>jF Tryz.prog 51 [(gS 1 iD) a,(gS 1 iD) b] (bD rr):=⟨@fun rr h=>by
 delta nB at h;refine YK.jf (gO ?_);delta WT;refine iE ?_;refine iF h fun hc h=>?_
 refine kT h [4,5,11,12,13,14,15,16,17,18,19,20,21,22,23,24,25] (fun pp=>[(5,.d (iD pp))]) (fun pp=>[]) ?_;rintro i t1 h hb1;unfold oK at h;try dsimp only at h
 refine gO (iE ?_);exact nr⟩
def Sr:gV:=
 (.seq (.gQ (sq 2 [bo 2 180 0]++sq 4 [.mv (.const (.slice none 0 0))])) (.seq (.seq (.gQ (sq 5 [mv 1,fa 0 2,ld 6,ln 7,bn .lss 5 8,mv 9]++sg 10 true 11 [fa 0 2,ld 11,mv 1,ix 1 12 13,ld 14,ln 15,bi .gtr 16 0]++sq 18 [pa 10 17])) (.cond (t0 18) (.seq (.gQ (sq 19 [fa 0 2,ld 19,mv 1,ix 1 20 21,ld 22,cf 87 [23]]++sq 4 [mv 24])) .ret) .skip)) (.seq (.gQ (sq 25 [mv 1,.bin .sub (i0 (-1)) (t0 25),.pF 27 2 1 [(t0 26)]]++sq 4 [mv 27])) .ret)))
theorem VY:jV Tryz.prog 142 Sr 28 [.tmp 4]:=mf Tryz.func142 Tryz.ntmps142
def ow(s:gp)(i:Int):Option gk:=
 if(decide (i<(s.length:Int)))=true then
  if 0<=i/\i<(s.length:Int)then
   if(decide (0<((s.getD i.toNat default).length:Int)))=true then
    if 0<=i/\i<(s.length:Int)then
     (kC (s.getD i.toNat default)).bind fun r=>
     some r
    else none
   else
    some [(IntKind.i64.wrap ((-1)-i))]
  else none
 else
  some [(IntKind.i64.wrap ((-1)-i))]
instance Mn{s:gp}{i:Int}:iH (ow s i) fun rr=>jF Tryz.prog 142 [jS s,iD i] ((gS 1 iD) rr):=⟨@fun rr h=>by
 delta ow at h;refine VY.jf (gO ?_);delta Sr;refine iE ?_;refine iT h fun hc h=>?_
 refine jG h fun hp h=>?_
 refine iT h fun hc h=>?_
 refine jG h fun hp h=>?_
 refine vf [] [(3,24)] h fun r hr h=>?_
 exact nr⟩
def Sq:gV:=
 (.seq (.gQ (sq 1 [bo 1 180 0,.alloc 2 180 [.sl 0 (some true) []]])) (.seq (.gQ (sq 6 [.build [.sl 0 (some true) []] []]++sq 3 [.alloc 3 180 [.sl 0 (some true) []]]++s0 (sr 1 3 6))) (.seq (.seq (.gQ (sq 4 [mi 0])) (.block 0 (.loop (.seq (.seq (.gQ (sq 7 [mv 4,fa 0 1,ld 8,ln 9,bn .lss 7 10])) (.cond (t0 11) .skip (.exit 0))) (.seq (.block 1 (.seq (.gQ (sq 14 [la 1 1,mv 4,cf 142 [14,15]]++sq 5 [mv 16])) (.seq (.seq (.gQ (sq 17 [mv 5,ln 17,bi .eql 18 1,mv 19]++sg 20 true 21 [mv 5,.tg 1 (t0 21) (i0 0),ld 22,mv 4,.bin .sub (i0 (-1)) (t0 24),bn .eql 23 25]++sq 27 [pa 20 26])) (.cond (t0 27) (.gQ (sq 28 [.pF 28 2 1 []]++sq 5 [mv 28])) .skip)) (.gQ (sq 29 [fa 0 3,ld 29,mv 5,.pF 32 22 1 [(t0 31)],ap 33 22 1 24 30 32,fa 0 3]++s0 (sr 1 34 33)))))) (.gQ (sq 12 [mv 4,bi .add 12 1]++sq 4 [mv 13]))))))) (.seq (.block 2 (.loop (.seq (.seq (.gQ (sq 35 [fa 0 3,ld 35,ln 36,bi .gtr 37 0,mv 38]++sg 39 true 40 [fa 0 3,ld 40,fa 0 3,ld 42,ln 43,bi .sub 44 1,ix 1 41 45,ld 46,ln 47,bi .eql 48 0]++sq 50 [pa 39 49])) (.cond (t0 50) .skip (.exit 2))) (.block 3 (.gQ (sq 51 [fa 0 3,ld 51,fa 0 3,ld 53,ln 54,bi .sub 55 1,.slc (t0 52) 1 none (some (t0 56)) none,fa 0 3]++s0 (sr 1 58 57))))))) (.seq (.gQ (sq 59 [la 1 3]++s0 (sr 1 2 59))) .ret)))))
theorem VX:jV Tryz.prog 141 Sq 60 [.cell 2 1 true]:=mf Tryz.func141 Tryz.ntmps141
def rR:gp->Option (gp⊕gp)
 |out_1=>
  if(decide (0<(out_1.length:Int)))=true then
   if 0<=(IntKind.i64.wrap ((out_1.length:Int)-1))/\(IntKind.i64.wrap ((out_1.length:Int)-1))<(out_1.length:Int)then
    if(((out_1.getD (IntKind.i64.wrap ((out_1.length:Int)-1)).toNat default).length:Int)==0)=true then
     if 0<=(IntKind.i64.wrap ((out_1.length:Int)-1))/\(IntKind.i64.wrap ((out_1.length:Int)-1))<=(out_1.length:Int)then
      some (.inl (out_1.take (IntKind.i64.wrap ((out_1.length:Int)-1)).toNat))
     else none
    else
     Option.map Sum.inr (
      some out_1)
   else none
  else
   Option.map Sum.inr (
    some out_1)
def rQ(s:gp):(Int×gp)->Option ((Int×gp)⊕gp)
 |(i,out)=>
  if(decide (i<(s.length:Int)))=true then
   (ow s i).bind fun r=>
   if((r.length:Int)==1)=true then
    if 0<=0/\0<(r.length:Int)then
     if((r.getD 0 default)==(IntKind.i64.wrap ((-1)-i)))=true then
      if(out.length+1)*24<=140737488355328 then
       some (.inl ((IntKind.i64.wrap (i+1)),(out++[[]])))
      else none
     else
      if(out.length+1)*24<=140737488355328 then
       some (.inl ((IntKind.i64.wrap (i+1)),(out++[r])))
      else none
    else none
   else
    if(out.length+1)*24<=140737488355328 then
     some (.inl ((IntKind.i64.wrap (i+1)),(out++[r])))
    else none
  else
   Option.map Sum.inr (
    g_ (rR) out)
def pY(s:gp):Option gp:=
 g_ (rQ s) (0,[])
instance Mp{s:gp}:iH (pY s) fun rr=>jF Tryz.prog 141 [jS s] (jS rr):=⟨@fun rr h=>by
 delta pY at h;refine VX.jf (gO ?_);delta Sq;refine iE ?_;refine sW h [4,5,7,8,9,10,11,12,13,14,15,16,17,18,19,20,21,22,23,24,25,26,27,28,29,30,31,32,33,34] (fun pp=>[(4,.d (iD pp.1))]) (fun pp=>[(1,.obj 180 [.d (gS 1 (gS 1 iD) s)]),(2,.obj 180 [.d (.sl 0 (some true) [])]),(3,.obj 180 [.own 1 33 (List.map (gS 1 iD) pp.2)]),(33,.tok 22 1 pp.2.length)]) ?_ ?_
 ·try dsimp only
  refine(ij.wh 3 0 33 22 1 rfl rfl rfl).trans ?_;exact wk
 rintro⟨i,out⟩ t1 h hb1;unfold rQ at h;try dsimp only at h
 refine gO (iE ?_);refine it h (fun hc h=>?_) fun hc h=>?_
 ·refine rC h fun r hr h=>?_
  refine it h (fun hc h=>?_) fun hc h=>?_
  ·refine jG h fun hp h=>?_
   refine it h (fun hc h=>?_) fun hc h=>?_
   ·refine jG h fun hp h=>?_
    cases h;refine⟨_,rfl,?_⟩;refine(ij.drop 28 gN).trans ?_;refine(ij.drop 32 gN).trans ?_;exact wk
   refine jG h fun hp h=>?_
   cases h;refine⟨_,rfl,?_⟩;refine(ij.drop 32 gN).trans ?_;exact wk
  refine jG h fun hp h=>?_
  cases h;refine⟨_,rfl,?_⟩;refine(ij.drop 32 gN).trans ?_;exact wk
 replace h:=jg h hb1;refine sW h [35,36,37,38,39,40,41,42,43,44,45,46,47,48,49,50,51,52,53,54,55,56,57,58] (fun pp=>[]) (fun pp=>[(1,.obj 180 [.d (gS 1 (gS 1 iD) s)]),(2,.obj 180 [.d (.sl 0 (some true) [])]),(3,.obj 180 [.d (gS 1 (gS 1 iD) pp)])]) ?_ ?_
 ·try dsimp only
  refine(ij.drop 33 gN).trans ?_;exact wk
 rintro out_1 t1 h hb1;unfold rR at h;try dsimp only at h
 refine gO (iE ?_);exact nr⟩
def R9:gV:=
 (.seq (.gQ (sq 3 [bo 3 30 0]++sq 6 [.alloc 6 180 [.sl 0 (some true) []],mb false])) (.seq (.gQ (sq 13 [.yC 13 22 1 24 [.sl 0 (some true) []] false (i0 24) (i0 24),.build [.sl 0 (some true) []] [(0,1,(t0 13))]]++sq 8 [.alloc 8 180 [.sl 0 (some true) []]]++s0 (sr 1 8 14))) (.seq (.gQ (sq 9 [mi 0])) (.seq (.seq (.gQ (sq 10 [mi 0])) (.block 0 (.loop (.seq (.seq (.gQ (sq 15 [mv 10,mv 1,ln 16,bn .lss 15 17])) (.cond (t0 18) .skip (.exit 0))) (.seq (.block 1 (.seq (.seq (.gQ (sq 21 [mv 9,mv 2,ln 22,bn .geq 21 23])) (.cond (t0 24) (.seq (.gQ (sq 25 [.build [.sl 0 (some true) []] []]++s0 (sr 1 6 25)++sq 7 [mb false])) .ret) .skip)) (.seq (.seq (.gQ (sq 26 [mv 1,mv 10,ix 1 26 27,ld 28,bi .geq 29 0])) (.cond (t0 30) (.seq (.seq (.draw (sq 31 [mv 1,mv 10,ix 1 31 32,ld 33,mv 2,mv 9,ix 1 35 36,ld 37,bn .neq 34 38]) [[],[],[0,1],[2],[],[],[4,5],[6],[3,7]]) (.cond (t0 39) (.seq (.gQ (sq 40 [.build [.sl 0 (some true) []] []]++s0 (sr 1 6 40)++sq 7 [mb false])) .ret) .skip)) (.seq (.gQ (sq 41 [mv 9,bi .add 41 1]++sq 9 [mv 42])) (.exit 1))) .skip)) (.seq (.gQ (sq 43 [la 1 3,mv 2,mv 9,cf 120 [43,44,45]]++sq 11 [mv 46])) (.seq (.draw (sq 47 [fa 0 8,ld 47,mv 1,mv 10,ix 1 49 50,ld 51,.bin .sub (i0 (-1)) (t0 52),ix 1 48 53,ld 54]++sq 12 [mv 55]) [[],[0],[],[],[2,3],[4],[5],[1,6],[7],[8,0,1,2,3,4,5,6,7,8]]) (.seq (.seq (.gQ (sq 56 [mv 12,ln 56,bi .gtr 57 0,mv 58]++sg 59 true 60 [mv 12,mv 11,cf 51 [60,61],nt 62]++sq 64 [pa 59 63])) (.cond (t0 64) (.seq (.gQ (sq 65 [.build [.sl 0 (some true) []] []]++s0 (sr 1 6 65)++sq 7 [mb false])) .ret) .skip)) (.seq (.draw (sq 66 [fa 0 8,ld 66,mv 1,mv 10,ix 1 68 69,ld 70,.bin .sub (i0 (-1)) (t0 71),mv 11,ix 1 67 72]++s0 (sr 1 74 73)) [[],[0],[],[],[2,3],[4],[5],[],[1,6,0,1,2,3,4,5,6,7],[8,7,0,1,2,3,4,5,6,7]]) (.gQ (sq 75 [mv 9,mv 11,ln 76,bn .add 75 77]++sq 9 [mv 78]))))))))) (.gQ (sq 19 [mv 10,bi .add 19 1]++sq 10 [mv 20]))))))) (.seq (.gQ (sq 79 [la 1 8,cf 141 [79]]++s0 (sr 1 6 80)++sq 7 [mb true])) .ret)))))
theorem VG:jV Tryz.prog 119 R9 81 [.cell 6 1 true,.tmp 7]:=mf Tryz.func119 Tryz.ntmps119
def rT(sig:gk)(p:gk)(t:gk):(Int×Int×gp)->Option ((Int×Int×gp)⊕(gp×Bool))
 |(k,i,l13)=>
  if(decide (i<(p.length:Int)))=true then
   if(decide ((t.length:Int)<=k))=true then
    Option.map Sum.inr (
     some ([],false))
   else
    if 0<=i/\i<(p.length:Int)then
     if(decide (0<=(p.getD i.toNat default)))=true then
      if 0<=i/\i<(p.length:Int)then
       if 0<=k/\k<(t.length:Int)then
        if((p.getD i.toNat default) != (t.getD k.toNat default))=true then
         Option.map Sum.inr (
          some ([],false))
        else
         some (.inl ((IntKind.i64.wrap (k+1)),(IntKind.i64.wrap (i+1)),l13))
       else none
      else none
     else
      (qq sig t k).bind fun r=>
      if 0<=i/\i<(p.length:Int)then
       if 0<=(IntKind.i64.wrap ((-1)-(p.getD i.toNat default)))/\(IntKind.i64.wrap ((-1)-(p.getD i.toNat default)))<(24:Int)/\(IntKind.i64.wrap ((-1)-(p.getD i.toNat default)))<(l13.length:Int)then
        if(decide (0<((l13.getD (IntKind.i64.wrap ((-1)-(p.getD i.toNat default))).toNat default).length:Int)))=true then
         (nB (l13.getD (IntKind.i64.wrap ((-1)-(p.getD i.toNat default))).toNat default) r).bind fun r_1=>
         if r_1=true then
          if 0<=i/\i<(p.length:Int)then
           if 0<=(IntKind.i64.wrap ((-1)-(p.getD i.toNat default)))/\(IntKind.i64.wrap ((-1)-(p.getD i.toNat default)))<(24:Int)/\(IntKind.i64.wrap ((-1)-(p.getD i.toNat default)))<(l13.length:Int)then
            some (.inl ((IntKind.i64.wrap (k+(r.length:Int))),(IntKind.i64.wrap (i+1)),(l13.set (IntKind.i64.wrap ((-1)-(p.getD i.toNat default))).toNat r)))
           else none
          else none
         else
          Option.map Sum.inr (
           some ([],false))
        else
         if 0<=i/\i<(p.length:Int)then
          if 0<=(IntKind.i64.wrap ((-1)-(p.getD i.toNat default)))/\(IntKind.i64.wrap ((-1)-(p.getD i.toNat default)))<(24:Int)/\(IntKind.i64.wrap ((-1)-(p.getD i.toNat default)))<(l13.length:Int)then
           some (.inl ((IntKind.i64.wrap (k+(r.length:Int))),(IntKind.i64.wrap (i+1)),(l13.set (IntKind.i64.wrap ((-1)-(p.getD i.toNat default))).toNat r)))
          else none
         else none
       else none
      else none
    else none
  else
   Option.map Sum.inr (
    if l13.length=24 then
     (pY l13).bind fun r_2=>
     some (r_2,true)
    else none)
def pZ(sig:gk)(p:gk)(t:gk):Option (gp×Bool):=
 g_ (rT sig p t) (0,0,(List.replicate 24 []))
instance Mq{sig:gk}{p:gk}{t:gk}:iH (pZ sig p t) fun rr=>oF Tryz.prog 119 [iU sig,(gS 1 iD) p,(gS 1 iD) t] [jS rr.1,bD rr.2]:=⟨@fun rr h=>by
 delta pZ at h;refine VG.pG (gO ?_);delta R9;refine iE ?_;refine pz ?_;refine kT h [7,9,10,11,12,15,16,17,18,19,20,21,22,23,24,25,26,27,28,29,30,31,32,33,34,35,36,37,38,39,40,41,42,43,44,45,46,47,48,49,50,51,52,53,54,55,56,57,58,59,60,61,62,63,64,65,66,67,68,69,70,71,72,73,74,75,76,77,78] (fun pp=>[(9,.d (iD pp.1)),(10,.d (iD pp.2.1))]) (fun pp=>[(3,.obj 30 [.d (gS 1 iD sig)]),(6,.obj 180 [.d (.sl 0 (some true) [])]),(8,.obj 180 [.oX 1 13 0 24]),(13,.obj 22 (List.map (aD (gS 1 iD)) pp.2.2))]) ?_;rintro⟨k,i,l13⟩ t1 h hb1;unfold rT at h;try dsimp only at h
 refine gO (iE ?_);refine iF h fun hc h=>?_
 replace h:=jg h hb1;refine jG h fun hp h=>?_
 refine Dj 13 (gS 1 iD) l13 gN rfl (fun _=>rfl) (iE ?_);refine rC h fun r_2 hr_2 h=>?_
 exact nr⟩
def SI:gV:=
 (.seq (.gQ (sq 1 [bo 1 180 0,.mv (.const .nilFunc)])) (.seq (.gQ (sq 3 [.zS 166 [] [(t0 1)]]++sq 2 [mv 3])) .ret))
theorem Wd:jV Tryz.prog 163 SI 4 [.tmp 2]:=mf Tryz.func163 Tryz.ntmps163
def oa(s:gp):Option gp:=
 some s
instance GO{s:gp}:iH (oa s) fun rr=>h_ Tryz.prog 163 [.d (.agg [gS 1 (gS 1 iD) s])] [] 0 fun xx ss=>xx=.fn 166 [] [.ptr 1 0]/\ss=[(1,.obj 180 [.d (gS 1 (gS 1 iD) rr)])]:=⟨@fun rr h=>by
 delta oa at h;refine Wd.mm (gO ?_);delta SI;refine iE ?_;exact nr⟩
def SM:gV:=
 (.seq (.gQ (sq 2 [bo 2 180 0]++sq 4 [.mv (.const (.slice none 0 0))])) (.seq (.seq (.gQ (sq 5 [mv 1,fa 0 2,ld 6,ln 7,bn .geq 5 8,mv 9]++sg 10 false 11 [fa 0 2,ld 11,mv 1,ix 1 12 13,ld 14,ln 15,bi .eql 16 0]++sq 18 [po 10 17])) (.cond (t0 18) (.seq (.gQ (sq 4 [.mv (.const (.slice none 0 0))])) .ret) .skip)) (.seq (.gQ (sq 19 [fa 0 2,ld 19,mv 1,ix 1 20 21,ld 22]++sq 4 [mv 23])) .ret)))
theorem Wi:jV Tryz.prog 167 SM 24 [.tmp 4]:=mf Tryz.func167 Tryz.ntmps167
def mH(s:gp)(i:Int):Option gk:=
 if(decide ((s.length:Int)<=i))=true then
  some []
 else
  if 0<=i/\i<(s.length:Int)then
   if(((s.getD i.toNat default).length:Int)==0)=true then
    some []
   else
    if 0<=i/\i<(s.length:Int)then
     if 0<(s.getD i.toNat default).length then
      some (s.getD i.toNat default)
     else none
    else none
  else none
instance G9{s:gp}{i:Int}:iH (mH s i) fun rr=>jF Tryz.prog 167 [jS s,iD i] ((nZ 1 iD) rr):=⟨@fun rr h=>by
 delta mH at h;refine Wi.jf (gO ?_);delta SM;refine iE ?_;refine iF h fun hc h=>?_
 refine jG h fun hp h=>?_
 refine iF h fun hc h=>?_
 refine jG h fun hp h=>?_
 refine jG h fun hp h=>?_
 cases h;exact(yq gN).2 trivial⟩
def SL:gV:=
 (.seq (.gQ (sq 3 [.mv (.const (.slice none 0 0))])) (.seq (.seq (.gQ (sq 4 [mv 0,bi .geq 4 0])) (.cond (t0 5) (.seq (.gQ (sq 3 [.mv (.const (.slice none 0 0))])) .ret) .skip)) (.seq (.gQ (sq 6 [la 1 1,mv 0,.bin .sub (i0 (-1)) (t0 7),cf 167 [6,8]]++sq 3 [mv 9])) .ret)))
theorem Wh:jV Tryz.prog 166 SL 10 [.tmp 3]:=mf Tryz.func166 Tryz.ntmps166
def mY(n:Int)(o0:gp):Option gk:=
 if(decide (0<=n))=true then
  some []
 else
  (mH o0 (IntKind.i64.wrap ((-1)-n))).bind fun r=>
  some r
instance E6{n:Int}{o0:gp}:iH (mY n o0) fun rr=>h_ Tryz.prog 166 [.d (iD n),.ptr 0 0] [(0,.obj 180 [.d (gS 1 (gS 1 iD) o0)])] 1 fun xx ss=>xx=.d (nZ 1 iD rr)/\ss=[(0,.obj 180 [.d (gS 1 (gS 1 iD) o0)])]:=⟨@fun rr h=>by
 delta mY at h;refine Wh.mm (gO ?_);delta SL;refine iE ?_;exact nr⟩
def Sy:gV:=
 (.seq (.gQ (sq 2 [bo 2 180 0]++sq 4 [.mv (.const (.slice none 0 0)),mb false])) (.seq (.gQ (sq 11 [la 1 2,cf 163 [11]]++sq 6 [mv 12])) (.seq (.gQ (sq 13 [mv 1,ln 13,.yC 15 2 1 8 [.lit (.int .i64 0)] true (i0 0) (t0 14)]++sq 7 [mv 15])) (.seq (.seq (.gQ (sq 16 [mv 1,ln 16,mi 0])) (.block 0 (.loop (.seq (.gQ (sq 19 [bn .lss 18 17])) (.seq (.cond (t0 19) .skip (.exit 0)) (.seq (.block 1 (.seq (.gQ (sq 20 [ix 1 16 18,ld 20]++sq 9 [mv 21])) (.seq (.seq (.gQ (sq 22 [mv 6,mv 9,.mz (t0 22) [(t0 23)]]++sq 10 [mv 24])) (.seq (.gQ (sq 25 [mv 10,.tN false (t0 25)])) (.cond (t0 26) (.gQ (sq 27 [mv 7,mv 9,.pF 29 2 1 [(t0 28)],ap 30 2 1 8 27 29]++sq 7 [mv 30])) (.gQ (sq 31 [mv 7,mv 10,ap 33 2 1 8 31 32]++sq 7 [mv 33]))))) (.seq (.gQ (sq 34 [mv 7,ln 34,bi .gtr 35 60])) (.cond (t0 36) (.seq (.gQ (sq 4 [.mv (.const (.slice none 0 0)),mb false])) .ret) .skip))))) (.gQ (sq 37 [bi .add 18 1]++sq 18 [mv 37])))))))) (.seq (.gQ (sq 38 [mv 7]++sq 4 [mv 38,mb true])) .ret)))))
theorem V4:jV Tryz.prog 153 Sy 39 [.tmp 4,.tmp 5]:=mf Tryz.func153 Tryz.ntmps153
def uj(t:gk)(r:gp):gH->Option (gH⊕(gk×Bool))
 |(out,v18)=>
  if(decide (v18<(t.length:Int)))=true then
   if 0<=v18/\v18<(t.length:Int)then
    (mY (t.getD v18.toNat default) r).bind fun r_1=>
    if r_1.isEmpty=true then
     if(out.length+1)*8<=140737488355328 then
      if(decide (60<((out++[(t.getD v18.toNat default)]).length:Int)))=true then
       Option.map Sum.inr (
        some ([],false))
      else
       some (.inl ((out++[(t.getD v18.toNat default)]),(IntKind.i64.wrap (v18+1))))
     else none
    else
     if(out.length+r_1.length)*8<=140737488355328 then
      if(decide (60<((out++r_1).length:Int)))=true then
       Option.map Sum.inr (
        some ([],false))
      else
       some (.inl ((out++r_1),(IntKind.i64.wrap (v18+1))))
     else none
   else none
  else
   Option.map Sum.inr (
    some (out,true))
def qZ(s:gp)(t:gk):Option (gk×Bool):=
 (oa s).bind fun r=>
 if 0<=(t.length:Int)/\8*(t.length:Int)<=281474976710656 then
  g_ (uj t r) ([],0)
 else none
instance RA{s:gp}{t:gk}:iH (qZ s t) fun rr=>oF Tryz.prog 153 [jS s,(gS 1 iD) t] [(gS 1 iD) rr.1,bD rr.2]:=⟨@fun rr h=>by
 delta qZ at h;refine V4.pG (gO ?_);delta Sy;refine iE ?_;refine vf [] [(1,12)] h fun r hr h=>?_
 refine jG h fun hp h=>?_
 refine kT h [4,5,7,9,10,18,19,20,21,22,23,24,25,26,27,28,29,30,31,32,33,34,35,36,37] (fun pp=>[(7,.own 1 15 (List.map iD pp.1)),(18,.d (iD pp.2))]) (fun pp=>[(2,.obj 180 [.d (gS 1 (gS 1 iD) s)]),(12,.obj 180 [.d (gS 1 (gS 1 iD) r)]),(15,.tok 2 1 pp.1.length)]) ?_;rintro⟨out,v18⟩ t1 h hb1;unfold uj at h;try dsimp only at h
 refine gO (iE ?_);refine iT h fun hc h=>?_
 refine jG h fun hp h=>?_
 refine xN (by kernel_rfl) ?_;refine vf [(0,12)] [] h fun r_1 hr_1 h=>?_
 refine iT h fun hc h=>?_
 refine jG h fun hp h=>?_
 refine iF h fun hc h=>?_
 cases h;refine⟨_,rfl,?_⟩;refine(ij.drop 29 gN).trans ?_;exact wk⟩
def Sa:gV:=
 (.seq (.gQ (sq 2 [bo 2 180 0]++sq 4 [.mv (.const (.slice none 0 0)),mb false])) (.seq (.gQ (sq 8 [.pF 8 2 1 []]++sq 6 [mv 8])) (.seq (.seq (.gQ (sq 7 [mi 0])) (.block 0 (.loop (.seq (.seq (.gQ (sq 9 [mv 7,mv 1,ln 10,bn .lss 9 11])) (.cond (t0 12) .skip (.exit 0))) (.seq (.block 1 (.seq (.seq (.gQ (sq 15 [mv 1,mv 7,ix 1 15 16,ld 17,bi .lss 18 0])) (.cond (t0 19) (.draw (sq 20 [mv 6,la 1 2,mv 1,mv 7,ix 1 22 23,ld 24,.bin .sub (i0 (-1)) (t0 25),cf 142 [21,26],ap 28 2 1 8 20 27]++sq 6 [mv 28]) [[],[],[],[],[2,3],[4],[5],[1,6],[0,7,7],[8,8,0,1,2,3,4,5,6,7,8]]) (.gQ (sq 29 [mv 6,mv 1,mv 7,ix 1 30 31,ld 32,.pF 34 2 1 [(t0 33)],ap 35 2 1 8 29 34]++sq 6 [mv 35])))) (.seq (.gQ (sq 36 [mv 6,ln 36,bi .gtr 37 60])) (.cond (t0 38) (.seq (.gQ (sq 39 [.pF 39 2 1 []]++sq 4 [mv 39,mb false])) .ret) .skip)))) (.gQ (sq 13 [mv 7,bi .add 13 1]++sq 7 [mv 14]))))))) (.seq (.gQ (sq 40 [mv 6]++sq 4 [mv 40,mb true])) .ret))))
theorem VI:jV Tryz.prog 121 Sa 41 [.tmp 4,.tmp 5]:=mf Tryz.func121 Tryz.ntmps121
def qV(s:gp)(t:gk):gH->Option (gH⊕(gk×Bool))
 |(out,i)=>
  if(decide (i<(t.length:Int)))=true then
   if 0<=i/\i<(t.length:Int)then
    if(decide ((t.getD i.toNat default)<0))=true then
     if 0<=i/\i<(t.length:Int)then
      (ow s (IntKind.i64.wrap ((-1)-(t.getD i.toNat default)))).bind fun r=>
      if(out.length+r.length)*8<=140737488355328 then
       if(decide (60<((out++r).length:Int)))=true then
        Option.map Sum.inr (
         some ([],false))
       else
        some (.inl ((out++r),(IntKind.i64.wrap (i+1))))
      else none
     else none
    else
     if 0<=i/\i<(t.length:Int)then
      if(out.length+1)*8<=140737488355328 then
       if(decide (60<((out++[(t.getD i.toNat default)]).length:Int)))=true then
        Option.map Sum.inr (
         some ([],false))
       else
        some (.inl ((out++[(t.getD i.toNat default)]),(IntKind.i64.wrap (i+1))))
      else none
     else none
   else none
  else
   Option.map Sum.inr (
    some (out,true))
def nE(s:gp)(t:gk):Option (gk×Bool):=
 g_ (qV s t) ([],0)
instance LG{s:gp}{t:gk}:iH (nE s t) fun rr=>oF Tryz.prog 121 [jS s,(gS 1 iD) t] [(gS 1 iD) rr.1,bD rr.2]:=⟨@fun rr h=>by
 delta nE at h;refine VI.pG (gO ?_);delta Sa;refine iE ?_;refine kT h [4,5,6,7,9,10,11,12,13,14,15,16,17,18,19,20,21,22,23,24,25,26,27,28,29,30,31,32,33,34,35,36,37,38,39] (fun pp=>[(6,.own 1 8 (List.map iD pp.1)),(7,.d (iD pp.2))]) (fun pp=>[(2,.obj 180 [.d (gS 1 (gS 1 iD) s)]),(8,.tok 2 1 pp.1.length)]) ?_;rintro⟨out,i⟩ t1 h hb1;unfold qV at h;try dsimp only at h
 refine gO (iE ?_);refine iT h fun hc h=>?_
 refine jG h fun hp h=>?_
 refine iF h fun hc h=>?_
 refine jG h fun hp h=>?_
 refine jG h fun hp h=>?_
 refine iF h fun hc h=>?_
 cases h;refine⟨_,rfl,?_⟩;refine(ij.drop 34 gN).trans ?_;exact wk⟩
end Go.Proofs.YtjgbnaihpicpgaaGreatDoor
namespace Go.Proofs.YtjgbnaihpicpgaaGreatDoor
open Go lY Go.ChangeShapes Go.WideShapes Go.ChangeAt Go.RowKit
abbrev IG:lY.Own:=fun _ _=>False
theorem Gn{P:Program}{f:Nat}{ds:List D}{r:D}(h:jF P f ds r){W:World}(hgw:GW IG W){vs:Array Value}(h1:∀v∈vs.toList,True)(hd:AV.ir (fun _=>.no) IG W (ds.map .d) vs.toList):
 Calls P f vs W fun e W'=>(∃u,e=.returned u/\D.ok IG W' r u)/\Below W.heap.size W W':=by
 have no:∀(b o:Nat),¬({O:=fun _ _=>False,β:=fun _=>.no,s:=[],w:=W,k:=0}:Ctx).gX (fun _=>.no) [] b o:=fun b o h=>by
  rcases h with h|⟨i,h⟩
  ·exact h
  ·exact h
 have hI:Inv {O:=fun _ _=>False,β:=fun _=>.no,s:=[],w:=W,k:=0} (fun _=>.no) [] W:=
  ⟨aC _,rfl,⟨hgw.1,fun h=>no _ _ h⟩,fun _ _ _ h _=>h,fun _ _ _=>rfl,fun _ _ h=>.inl h,fun id b h=>.inl ⟨id,h⟩,fun _ h=>absurd h (fZ _),fun _ _ h=>h.elim,fun _=>rfl,fun _ _ _ h=>h.elim⟩
 have ha:AV.ir (fun _=>.no) (({O:=fun _ _=>False,β:=fun _=>.no,s:=[],w:=W,k:=0}:Ctx).gX (fun _=>.no) []) W (ds.map .d) vs.toList:=by
  have e:(({O:=fun _ _=>False,β:=fun _=>.no,s:=[],w:=W,k:=0}:Ctx).gX (fun _=>.no) [])=IG:=by
   funext b o;exact propext ⟨fun h=>no b o h,fun h=>h.elim⟩
  rw[e];exact hd
 refine(h {O:=fun _ _=>False,β:=fun _=>.no,s:=[],w:=W,k:=0} vs rfl rfl hI ha).mono fun e W' hq=>?_
 obtain⟨u,x,β',s',rfl,hi,hx,rfl⟩:=hq;simp only[AV.ok]at hx;refine⟨⟨u,rfl,D.iN (fun b o v hc _=>⟨hc,fun h=>h⟩) _ _ hx⟩,?_⟩;have hio:=hi.io;simp only[yc,dP]at hio;exact⟨hio.1,hio.2.2,hio.2.1,hi.size,fun k hk=>hi.oE k hk fun id h=>h⟩
theorem Fj{b o i:Nat}:Addr.add ⟨b,o,none⟩ i=⟨b,o+i,none⟩:=by
 by_cases h:i=0
 ·simp[Addr.add,h]
 ·simp[Addr.add,h]
def Rd(P:Program)(t:TypeId)(e:Nat){α:Type}(f:α->D)(G:α->Prop):Prop:=
 P.cellsOf t=e/\∀{H:Type}{enc:TypeId×Value->H}{w:World}{spare:Nat->Bool}{held:Bool}{n:Nat}{cs:List Value}{x:DataW H×List MemPlace},
  DataW.trod enc P w 0 spare held n t cs=some x->∃y,G y/\cs.length=e/\(∀v∈cs,lY.one v=true)/\D.ir IG w (gT (f y)) cs
def II(P:Program)(fs:List Field)(o m:Nat){α:Type}(F:α->List D)(G:α->Prop):Prop:=
 ∀⦃H:Type⦄ ⦃enc:TypeId×Value->H⦄ ⦃w:World⦄ ⦃spare:Nat->Bool⦄ ⦃held:Bool⦄ ⦃n:Nat⦄ ⦃cs:List Value⦄,cs.length=m->
  (∀f∈fs,∃z:DataW H×List MemPlace,DataW.trod enc P w 0 spare held n f.type ((cs.drop f.offset).take (P.cellsOf f.type))=some z)->
  ∃y,G y/\(∀v∈cs.drop o,lY.one v=true)/\D.ir IG w (F y) (cs.drop o)
theorem mW{O:lY.Own}{w:World}:∀{xs ys:List D}{us vs:List Value},D.ir O w xs us->D.ir O w ys vs->D.ir O w (xs++ys) (us++vs)
 |[],_,us,_,h,h2=>by simp only[D.ir]at h;subst h;exact h2
 |x::xs,_,us,_,h,h2=>by
  simp only[D.ir]at h;obtain⟨v,r,rfl,h1,h3,h4⟩:=h;simp only[bZ,D.ir];exact⟨v,_,rfl,h1,h3,mW h4 h2⟩
theorem II.nil{P:Program}{m:Nat}:II P [] m m (fun _:Unit=>[]) (fun _=>True):=fun H enc w spare held n cs hl _=>by
 rw[bu gN];exact⟨(),trivial,fun v hv=>(eZ hv).elim,rfl⟩
theorem II.cons{P:Program}{f:Field}{fs:List Field}{o o' m e:Nat}{α β:Type}{g:α->D}{F:β->List D}{G:α->Prop}{G':β->Prop}(ho:f.offset=o)(h:Rd P f.type e g G)(ho':o'=o+e)(hs:II P fs o' m F G'):
 II P (f::fs) o m (fun y:α×β=>gT (g y.1)++F y.2) (fun y=>G y.1/\G' y.2):=fun H enc w spare held n cs hl hf=>by
 subst ho;subst ho';obtain⟨z,hz⟩:=hf f (by simp);obtain⟨y,g1,g2,g3,g4⟩:=h.2 hz;obtain⟨y',k1,k2,k3⟩:=hs hl (fun f' hf'=>hf f' (by simp[hf']));have e1:cs.drop f.offset=(cs.drop f.offset).take (P.cellsOf f.type)++cs.drop (f.offset+e):=by rw[h.1,<-List.drop_drop,cr]
 refine⟨(y,y'),⟨g1,k1⟩,?_,?_⟩
 ·rw[e1];intro v hv;rcases aH.1 hv with hv|hv
  ·exact g3 v hv
  ·exact k2 v hv
 ·rw[e1];exact mW g4 k3
theorem Rd.struct{P:Program}{t:TypeId}{fs:Array Field}{m:Nat}{α β:Type}{F:α->List D}{G:α->Prop}{f:β->D}{G':β->Prop}(j:α->β)(ht:P.underlying t=some (.struct fs))(hm:P.cellsOf t=m)
 (h:II P fs.toList 0 m F G) (hj:∀y,gT (f (j y))=F y) (hG:∀y,G y->G' (j y)):Rd P t m f G':=⟨hm,fun{H enc w spare held n cs x} hx=>by
 obtain⟨xs,n',rfl,_,hl,hxl,hall⟩:=DataW.trod_struct ht hx;obtain⟨y,g1,g2,g3⟩:=h (n:=n') (hl.trans hm) (fun f hf=>by
  obtain⟨i,hi⟩:=cC hf;have hi':fs[i]?=some f:=by simpa using hi
  rw[hall i f hi'];have:i<xs.length:=by rw[hxl];exact(aO.1 hi').1
  exact⟨xs[i],az this⟩)
 exact⟨j y,hG y g1,hl.trans hm,by simpa using g2,by rw[hj];simpa using g3⟩⟩
theorem Rd.int{P:Program}{t:TypeId}(ht:P.underlying t=some (.int .i64))(hm:P.cellsOf t=1):Rd P t 1 iD (fun _=>True):=⟨hm,fun{H enc w spare held n cs x} hx=>by
 obtain⟨m,hm⟩:=DataW.trod_int ht hx;obtain⟨rfl,_⟩:=hm;exact⟨m,trivial,rfl,by simp[lY.one],⟨_,_,rfl,rfl,⟨rfl,rfl⟩,rfl⟩⟩⟩
abbrev yx{α:Type}(xs:List α):Prop:=xs.length<9223372036854775808
theorem Rd.slice{P:Program}{t e:TypeId}{k:Nat}{α:Type}{f:α->D}{G:α->Prop}[sU f k](ht:P.underlying t=some (.slice e))(hm:P.cellsOf t=1)(hk:0<k)(h:Rd P e k f G)(hcel:∀y O w vs,D.ir O w (gT (f y)) vs->D.FA O w (f y) vs):
 Rd P t 1 (gS k f) (fun xs=>yx xs/\∀x∈xs,G x):=⟨hm,fun{H enc w spare held n cs x} hx=>by
 rcases DataW.trod_slice ht hx with⟨rfl,_⟩|⟨a,len,cap,elems,rest,n',rfl,rfl,_,_,hl,hmx,hlen,hel,_,_⟩
 ·refine⟨[],⟨by show(0:Nat)<9223372036854775808;decide,fun x hx=>(eZ hx).elim⟩,rfl,by simp[lY.one],⟨_,_,rfl,rfl,?_,rfl⟩⟩;simp only[gS,D.ok];exact⟨none,0,rfl,⟨aC _,by decide⟩,trivial,.inl rfl⟩
 ·have hmx':cap<9223372036854775808:=by have:maxLen=2^63-1:=rfl;omega
  have each:∀i,i<len->∃y vs,G y/\vs.length=k/\(∀v∈vs,lY.one v=true)/\D.ir IG w (gT (f y)) vs/\∀j,j<k->w.cell? ((a.add (i*k)).add j)=vs[j]?:=by
   intro i hi;have h1:=hel i hi;rw[h.1,az (show i<elems.length by omega),ai]at h1;obtain⟨vs,h2,h3⟩:=h1;obtain⟨y,g1,g2,g3,g4⟩:=h.2 h3;obtain⟨_,_,h5⟩:=World.cells?_some h2;exact⟨y,vs,g1,g2,g3,g4,h5⟩
  rcases fD len with h0|hpos
  ·subst h0;refine⟨[],⟨by show(0:Nat)<9223372036854775808;decide,fun x hx=>(eZ hx).elim⟩,rfl,by simp[lY.one],⟨_,_,rfl,rfl,?_,rfl⟩⟩;simp only[gS,D.ok];exact⟨some a,cap,rfl,⟨hl,hmx'⟩,trivial,.inl rfl⟩
  have hs:a.spot=none:=by
   obtain⟨y,vs,_,g2,_,_,g5⟩:=each 0 hpos;have h0:=g5 0 hk;rw[az (show 0<vs.length by omega)]at h0;have:=World.cell?_spot h0;simpa[Addr.add]using this
  obtain⟨b,o,sp⟩:=a;simp only at hs;subst hs;have key:∀(m i:Nat),i+m=len->∃ys:List α,ys.length=m/\(∀y∈ys,G y)/\D.row IG w b (o+i*k) k (ys.map f):=by
   intro m;induction m with
   |zero=>intro i _;exact⟨[],rfl,fun y hy=>(eZ hy).elim,by simp[D.row]⟩
   |succ m ih=>
    intro i hi;obtain⟨ys,y1,y2,y4⟩:=ih (i+1) gN;obtain⟨y,vs,g1,g2,g3,g4,g5⟩:=each i gN;refine⟨y::ys,by simp[y1],fun z hz=>?_,?_⟩
    ·rcases bL.1 hz with rfl|hz
     ·exact g1
     ·exact y2 z hz
    ·rw[aN];refine D.mg.2 ⟨⟨vs,g2,fun j v hj=>?_,hcel _ _ _ _ g4⟩,?_⟩
     ·have hjk:j<k:=by rw[<-g2];exact(aL.1 hj).1
      have:=g5 j hjk;rw[hj]at this;refine⟨?_,fun h=>h,g3 v (bO hj)⟩;rw[<-this,Fj,Fj]
     ·have:=y4;rwa [bT,Nat.one_mul,<-di]at this
  obtain⟨ys,y1,y2,y4⟩:=key len 0 gN;refine⟨ys,⟨by show ys.length<9223372036854775808;omega,y2⟩,rfl,by simp[lY.one],⟨_,_,rfl,rfl,?_,rfl⟩⟩;simp only[gS,D.ok];refine⟨some ⟨b,o,none⟩,cap,by rw[aK,y1],⟨by rw[aK];omega,gN⟩,trivial,?_⟩;exact .inr ⟨b,o,rfl,by simpa using y4⟩⟩
theorem Rd.agg{P:Program}{t:TypeId}{fs:Array Field}{m:Nat}{α:Type}{f:α->D}{G:α->Prop}(hr:Rd P t m f G)(ht:P.underlying t=some (.struct fs))(hf:∀y,∃cs,f y=.agg cs){W:World}{r:Reach}{base:Nat}{v:Value}(hv:Value.okWide P W r base t v)
 {H:Type} {enc:TypeId×Value->H} {spare:Nat->Bool} {held:Bool} {d:DataW H} {p:List MemPlace} (h:DataW.Trod enc P W 0 spare held t v d p):∃y,G y/\D.ok IG W (f y) v:=by
 unfold Value.okWide at hv;rw[ht]at hv;obtain⟨cs,rfl,_,_⟩:=hv;obtain⟨fuel,hf'⟩:=h;obtain⟨y,g1,g2,g3,g4⟩:=hr.2 hf';obtain⟨ds,hd⟩:=hf y;refine⟨y,g1,?_⟩;rw[hd]at g4⊢;simp only[D.ok];exact⟨cs,rfl,by simpa[gT,Value.cells]using g4⟩
theorem Rd.cell{P:Program}{t:TypeId}{α:Type}{f:α->D}{G:α->Prop}(hr:Rd P t 1 f G)(hf:∀y,gT (f y)=[f y]){W:World}{v:Value}(hv:v.cells=#[v])
 {H:Type} {enc:TypeId×Value->H} {spare:Nat->Bool} {held:Bool} {d:DataW H} {p:List MemPlace} (h:DataW.Trod enc P W 0 spare held t v d p):∃y,G y/\D.ok IG W (f y) v:=by
 obtain⟨fuel,hf'⟩:=h;obtain⟨y,g1,g2,g3,g4⟩:=hr.2 hf';refine⟨y,g1,?_⟩;rw[hf,hv]at g4;simp only[D.ir]at g4;obtain⟨u,r,e,_,g5,_⟩:=g4;simp at e;rw[e.1];exact g5
end Go.Proofs.YtjgbnaihpicpgaaGreatDoor
