/- A part of the proof about FnOneForm (Lay, G0, G1). -/
import Derived.Test.YtjgbnaihpicpgaaGreatOa
import Derived.Test.YtjgbnaihpicpgaaGreatOc
import Derived.Shelf.Spec.SlicesGrow
import Derived.Test.YtjgbnaihpicpgaaGreatProg
import Derived.KernelRfl
set_option linter.all false
noncomputable section
namespace Go.Proofs
open Go.Shelf
def Tryz.Gz:Go.Shelf.Ren:=⟨fun|4=>219|n=>n,fun|22=>27|25=>2|3=>3|4=>4|9=>9|20=>20|0=>0|n=>n,fun|n=>n⟩
theorem Tryz.QX:Go.Proofs.Lays8.n4 Tryz.prog Tryz.Gz:={
 mixed:=by kernel_rfl
 f4:=⟨Tryz.f219.name,by decide,Tryz.func219.trans (bS some (by kernel_rfl))⟩
 t0:=Tryz.underlying0
 a0:=Tryz.isAgg0
 z0:=Tryz.sizeOf0
 v0:=Tryz.zeroValue0
 t3:=Tryz.underlying3
 a3:=Tryz.isAgg3
 z3:=Tryz.sizeOf3
 v3:=Tryz.zeroValue3
 t4:=Tryz.underlying4
 a4:=Tryz.isAgg4
 z4:=Tryz.sizeOf4
 v4:=Tryz.zeroValue4
 t9:=Tryz.underlying9
 a9:=Tryz.isAgg9
 z9:=Tryz.sizeOf9
 v9:=Tryz.zeroValue9
 t20:=Tryz.underlying20
 a20:=Tryz.isAgg20
 z20:=Tryz.sizeOf20
 v20:=Tryz.zeroValue20
 t22:=Tryz.underlying27
 a22:=Tryz.isAgg27
 z22:=Tryz.sizeOf27
 v22:=Tryz.zeroValue27}
end Go.Proofs
namespace Go.Proofs.YtjgbnaihpicpgaaGreat
open Go ng
theorem Vb:(Tryz.prog.follows .mixedOrders=true)=True:=eq_true (by kernel_rfl)
attribute [go_sem] Vb
instance:Inhabited ByteArray:=⟨ByteArray.empty⟩
end Go.Proofs.YtjgbnaihpicpgaaGreat
namespace Go.Proofs.YtjgbnaihpicpgaaGreat
open Go ng
attribute [local irreducible] uh wo vz mL mC ot kQ Be Cb zM Ca zD uj mu og BY iY lg
set_option maxHeartbeats 4000000
set_option maxRecDepth 4000
def jy(x:gB):D:=.agg [(iq 1 iD) x]
def ic(x:gD):D:=.agg [(iq 1 iD) x.1,(iq 1 iD) x.2]
def iC(x:gR):D:=.agg [(iq 1 iD) x.1,(iq 2 ic) x.2]
instance:xd jy 1:=⟨fun _=>rfl⟩
instance:xd ic 2:=⟨fun _=>rfl⟩
instance:xd iC 2:=⟨fun _=>rfl⟩
attribute [go_sem] jy ic iC
def S0:ir:=
 (.seq (.ie (sq 1 [bo 1 29 0,mb false])) (.seq (.seq (.ie (sq 5 [fa 0 1,ld 5,ln 6,bi .lss 7 1,mv 8]++sg 9 false 10 [fa 0 1,ld 10,ln 11,bi .gtr 12 8]++sq 14 [po 9 13])) (.cond (t0 14) (.seq (.ie (sq 2 [mb false])) .ret) .skip)) (.seq (.seq (.ie (sq 15 [fa 0 1,ld 15,ln 16,mi 0])) (.block 0 (.loop (.seq (.ie (sq 19 [bn .lss 18 17])) (.seq (.cond (t0 19) .skip (.exit 0)) (.seq (.block 1 (.seq (.ie (sq 20 [ix 1 16 18,ld 20]++sq 4 [mv 21])) (.seq (.ie (sq 22 [mv 4,bi .lss 22 0,mv 23]++sg 24 false 25 [mv 4,bi .gtr 25 3]++sq 27 [po 24 26])) (.cond (t0 27) (.seq (.ie (sq 2 [mb false])) .ret) .skip)))) (.ie (sq 28 [bi .add 18 1]++sq 18 [mv 28])))))))) (.seq (.ie (sq 2 [mb true])) .ret))))
theorem Ww:kS Tryz.prog 107 S0 29 [.tmp 2]:=mf Tryz.func107 Tryz.ntmps107
def rM(sig:gB):Int->Option gO
 |v18=>
  if(decide (v18<(sig.length:Int)))=true then
   if 0<=v18/\v18<(sig.length:Int)then
    if(decide ((sig.getD v18.toNat default)<0))=true then
     Option.map Sum.inr (
      some false)
    else
     if(decide (3<(sig.getD v18.toNat default)))=true then
      Option.map Sum.inr (
       some false)
     else
      some (.inl (IntKind.i64.wrap (v18+1)))
   else none
  else
   Option.map Sum.inr (
    some true)
def qE(sig:gB):Option Bool:=
 if(decide ((sig.length:Int)<1))=true then
  some false
 else
  if(decide (8<(sig.length:Int)))=true then
   some false
  else
   iB (rM sig) 0
instance Qp{sig:gB}:iU (qE sig) fun rr=>jW Tryz.prog 107 [jy sig] (bD rr):=⟨@fun rr h=>by
 delta qE at h;refine Ww.jz (ia ?_);delta S0;refine iR ?_;refine iF h fun hc h=>?_
 refine iF h fun hc h=>?_
 refine kA h [2,4,18,19,20,21,22,23,24,25,26,27,28] (fun pp=>[(18,.d (iD pp))]) (fun pp=>[(1,.obj 29 [.d (iq 1 iD sig)])]) ?_;rintro v18 t1 h hb1;unfold rM at h;try dsimp only at h
 refine ia (iR ?_);exact lP⟩
def Tx:ir:=
 (.seq (.ie (sq 2 [mi 0])) (.seq (.seq (.ie (sq 5 [mv 0,ln 5,bi .lss 6 1])) (.cond (t0 7) (.ie (sq 8 [.AP 9 (.const (.string {data:=#[115,108,105,99,101,115,46,77,105,110,58,32,101,109,112,116,121,32,108,105,115,116]}))]++s0 (.D3 (t0 8)))) .skip)) (.seq (.ie (sq 9 [mv 0,.tG 1 (t0 9) (i0 0),ld 10]++sq 3 [mv 11])) (.seq (.seq (.ie (sq 4 [mi 1])) (.block 0 (.loop (.seq (.seq (.ie (sq 12 [mv 4,mv 0,ln 13,bn .lss 12 14])) (.cond (t0 15) .skip (.exit 0))) (.seq (.block 1 (.ie (sq 18 [mv 3,mv 0,mv 4,ix 1 19 20,ld 21,.min (t0 18) (t0 22)]++sq 3 [mv 23]))) (.ie (sq 16 [mv 4,bi .add 16 1]++sq 4 [mv 17]))))))) (.seq (.ie (sq 24 [mv 3]++sq 2 [mv 24])) .ret)))))
theorem W_:kS Tryz.prog 171 Tx 25 [.tmp 2]:=mf Tryz.func171 Tryz.ntmps171
def mR(x:gB):gQ->Option (gQ⊕Int)
 |(m,i)=>
  if(decide (i<(x.length:Int)))=true then
   if 0<=i/\i<(x.length:Int)then
    some (.inl ((if(x.getD i.toNat default)<m then(x.getD i.toNat default)else m),(IntKind.i64.wrap (i+1))))
   else none
  else
   Option.map Sum.inr (
    some m)
def jU(x:gB):Option Int:=
 if(decide ((x.length:Int)<1))=true then
  none
 else
  if 0<=0/\0<(x.length:Int)then
   iB (mR x) ((x.getD 0 default),1)
  else none
instance Ec{x:gB}:iU (jU x) fun rr=>jW Tryz.prog 171 [(iq 1 iD) x] (iD rr):=⟨@fun rr h=>by
 delta jU at h;refine W_.jz (ia ?_);delta Tx;refine iR ?_;refine iF h fun hc h=>?_
 refine kz h fun hp h=>?_
 refine kA h [3,4,12,13,14,15,16,17,18,19,20,21,22,23] (fun pp=>[(3,.d (iD pp.1)),(4,.d (iD pp.2))]) (fun pp=>[]) ?_;rintro⟨m,i⟩ t1 h hb1;unfold mR at h;try dsimp only at h
 refine ia (iR ?_);exact lP⟩
def Tk:ir:=
 (.seq (.ie (sq 2 [bo 2 29 0]++sq 4 [mi 0])) (.seq (.seq (.ie (sq 5 [mv 1,bi .lss 5 0])) (.cond (t0 6) (.seq (.ie (sq 4 [mi 0])) .ret) .skip)) (.seq (.ie (sq 7 [fa 0 2,ld 7,mv 1,ix 1 8 9,ld 10]++sq 4 [mv 11])) .ret)))
theorem WR:kS Tryz.prog 157 Tk 12 [.tmp 4]:=mf Tryz.func157 Tryz.ntmps157
def ni(sig:gB)(n:Int):Option Int:=
 if(decide (n<0))=true then
  some 0
 else
  if 0<=n/\n<(sig.length:Int)then
   some (sig.getD n.toNat default)
  else none
instance M7{sig:gB}{n:Int}:iU (ni sig n) fun rr=>jW Tryz.prog 157 [jy sig,iD n] (iD rr):=⟨@fun rr h=>by
 delta ni at h;refine WR.jz (ia ?_);delta Tk;refine iR ?_;exact lP⟩
def TS:ir:=
 (.seq (.ie (sq 2 [mi 0])) (.seq (.seq (.draw (sq 3 [mv 0,.mE (t0 3),fa 2 4,ld 5,mv 0,.mE (t0 7),fa 1 8,ld 9,ln 10,bn .geq 6 11,mv 12]++sg 13 false 14 [mv 0,.mE (t0 14),fa 1 15,ld 16,mv 0,.mE (t0 18),fa 2 19,ld 20,ix 1 17 21,ld 22,mv 0,.mE (t0 24),fa 0 25,fa 0 26,ld 27,ln 28,bn .geq 23 29]++sq 31 [po 13 30]) [[],[0],[1],[2],[],[4],[5],[6],[7],[3,8],[9],[10],[11,10],[12,10],[13,10],[10],[15,10],[16,10],[17,10],[14,18,10],[19,10],[10],[21,10],[22,10],[23,10],[24,10],[25,10],[20,26,10],[10,27]]) (.cond (t0 31) (.seq (.ie (sq 2 [mi (-1)])) .ret) .skip)) (.seq (.ie (sq 32 [mv 0,.mE (t0 32),fa 2 33,ld 34,bi .add 35 1,.mE (t0 32),fa 2 37]++s0 (sr 1 38 36))) (.seq (.draw (sq 39 [mv 0,.mE (t0 39),fa 0 40,la 1 41,mv 0,.mE (t0 43),fa 1 44,ld 45,mv 0,.mE (t0 47),fa 2 48,ld 49,bi .sub 50 1,ix 1 46 51,ld 52,cf 157 [42,53]]++sq 2 [mv 54]) [[],[0],[1],[2],[],[4],[5],[6],[],[8],[9],[10],[11],[7,12],[13],[3,14],[15,15,0,1,2,3,4,5,6,7,8,9,10,11,12,13,14,15]]) .ret))))
theorem Xv:kS Tryz.prog 224 TS 55 [.tmp 2]:=mf Tryz.func224 Tryz.ntmps224
def nj(c0:gB)(c1:gB)(c2:Int):Option gQ:=
 if(decide ((c1.length:Int)<=c2))=true then
  some ((-1),c2)
 else
  if 0<=c2/\c2<(c1.length:Int)then
   if(decide ((c0.length:Int)<=(c1.getD c2.toNat default)))=true then
    some ((-1),c2)
   else
    if 0<=(IntKind.i64.wrap ((IntKind.i64.wrap (c2+1))-1))/\(IntKind.i64.wrap ((IntKind.i64.wrap (c2+1))-1))<(c1.length:Int)then
     (ni c0 (c1.getD (IntKind.i64.wrap ((IntKind.i64.wrap (c2+1))-1)).toNat default)).bind fun r=>
     some (r,(IntKind.i64.wrap (c2+1)))
    else none
  else none
instance H9{c0:gB}{c1:gB}{c2:Int}:iU (nj c0 c1 c2) fun rr=>iH Tryz.prog 224 [.ptr 0 0] [(0,.obj 236 [.d (iq 1 iD c0),.d (iq 1 iD c1),.d (iD c2)])] 1 fun xx ss=>xx=.d (iD rr.1)/\ss=[(0,.obj 236 [.d (iq 1 iD c0),.d (iq 1 iD c1),.d (iD rr.2)])]:=⟨@fun rr h=>by
 delta nj at h;refine Xv.kL (ia ?_);delta TS;refine iR ?_;exact lP⟩
def TF:ir:=
 (.seq (.ie (sq 2 [mb false])) (.seq (.seq (.ie (sq 3 [mi 1])) (.block 0 (.loop (.seq (.seq (.ie (sq 5 [mv 3,bi .gtr 5 0])) (.cond (t0 6) .skip (.exit 0))) (.seq (.block 1 (.seq (.ie (sq 9 [mv 0,cf 224 [9]]++sq 4 [mv 10])) (.seq (.seq (.ie (sq 11 [mv 4,bi .lss 11 0])) (.cond (t0 12) (.seq (.ie (sq 2 [mb false])) .ret) .skip)) (.ie (sq 13 [mv 3,mv 4,bn .add 13 14]++sq 3 [mv 15]))))) (.ie (sq 7 [mv 3,bi .sub 7 1]++sq 3 [mv 8]))))))) (.seq (.ie (sq 2 [mb true])) .ret)))
theorem Xi:kS Tryz.prog 200 TF 16 [.tmp 2]:=mf Tryz.func200 Tryz.ntmps200
def nK(c0:gB)(c1:gB):gQ->Option (gQ⊕(Bool×Int))
 |(need,c)=>
  if(decide (0<need))=true then
   (nj c0 c1 c).bind fun r=>
   if(decide (r.1<0))=true then
    Option.map Sum.inr (
     some (false,r.2))
   else
    some (.inl ((IntKind.i64.wrap ((IntKind.i64.wrap (need+r.1))-1)),r.2))
  else
   Option.map Sum.inr (
    some (true,c))
def kW(c0:gB)(c1:gB)(c2:Int):Option (Bool×Int):=
 iB (nK c0 c1) (1,c2)
instance H_{c0:gB}{c1:gB}{c2:Int}:iU (kW c0 c1 c2) fun rr=>iH Tryz.prog 200 [.ptr 0 0] [(0,.obj 236 [.d (iq 1 iD c0),.d (iq 1 iD c1),.d (iD c2)])] 1 fun xx ss=>xx=.d (bD rr.1)/\ss=[(0,.obj 236 [.d (iq 1 iD c0),.d (iq 1 iD c1),.d (iD rr.2)])]:=⟨@fun rr h=>by
 delta kW at h;refine Xi.kL (ia ?_);delta TF;refine iR ?_;refine kA h [2,3,4,5,6,7,8,9,10,11,12,13,14,15] (fun pp=>[(3,.d (iD pp.1))]) (fun pp=>[(0,.obj 236 [.d (iq 1 iD c0),.d (iq 1 iD c1),.d (iD pp.2)])]) ?_;rintro⟨need,c⟩ t1 h hb1;unfold nK at h;try dsimp only at h
 refine ia (iR ?_);refine iT h fun hc h=>?_
 refine qC [(0,0)] [] h fun r hr h=>?_
 exact lP⟩
def Tl:ir:=
 (.seq (.ie (sq 3 [bo 3 29 0]++sq 6 [mi 0])) (.seq (.ie (sq 8 [la 1 3,mv 1,mv 2,.build [.sl 0 (some true) [],.sl 0 (some true) [],.lit (.int .i64 0)] [(0,1,(t0 8)),(1,1,(t0 9)),(2,1,(t0 10))]]++sq 7 [.alloc 7 236 [.sl 0 (some true) [],.sl 0 (some true) [],.lit (.int .i64 0)]]++s0 (sr 3 7 11))) (.seq (.seq (.ie (sq 12 [cf 200 [7],nt 12])) (.cond (t0 13) (.seq (.ie (sq 6 [mi (-1)])) .ret) .skip)) (.seq (.ie (sq 14 [fa 2 7,ld 14]++sq 6 [mv 15])) .ret))))
theorem WS:kS Tryz.prog 158 Tl 16 [.tmp 6]:=mf Tryz.func158 Tryz.ntmps158
def lY(sig:gB)(t:gB)(iS:Int):Option Int:=
 (kW sig t iS).bind fun r=>
 if r.1=true then
  some r.2
 else
  some (-1)
instance Qq{sig:gB}{t:gB}{iS:Int}:iU (lY sig t iS) fun rr=>jW Tryz.prog 158 [jy sig,(iq 1 iD) t,iD iS] (iD rr):=⟨@fun rr h=>by
 delta lY at h;refine WS.jz (ia ?_);delta Tl;refine iR ?_;refine qC [(0,7)] [] h fun r hr h=>?_
 exact lP⟩
def S7:ir:=
 (.seq (.ie (sq 2 [bo 2 29 0]++sq 4 [mb false])) (.seq (.ie (sq 5 [la 1 2,cf 107 [5],mv 6]++sg 7 true 8 [mv 1,ln 8,bi .gtr 9 0]++sq 11 [pa 7 10,mv 11]++sg 12 true 13 [mv 1,ln 13,bi .leq 14 60]++sq 16 [pa 12 15,mv 16]++sg 17 true 18 [mv 1,cf 171 [18],bi .geq 19 (-24)]++sq 21 [pa 17 20,mv 21]++sg 22 true 23 [la 1 2,mv 1,.ke 158 [(t0 23),(t0 24),(i0 0)],mv 1,ln 26,bn .eql 25 27]++sq 29 [pa 22 28]++sq 4 [mv 29])) .ret))
theorem WB:kS Tryz.prog 123 S7 30 [.tmp 4]:=mf Tryz.func123 Tryz.ntmps123
def pX(sig:gB)(t:gB):Option Bool:=
 (qE sig).bind fun r=>
 if r=true then
  if(decide (0<(t.length:Int)))=true then
   if(decide ((t.length:Int)<=60))=true then
    (jU t).bind fun r_1=>
    if(decide ((-24)<=r_1))=true then
     (lY sig t 0).bind fun r_2=>
     some (r_2==(t.length:Int))
    else
     some false
   else
    some false
  else
   some false
 else
  some false
instance PG{sig:gB}{t:gB}:iU (pX sig t) fun rr=>jW Tryz.prog 123 [jy sig,(iq 1 iD) t] (bD rr):=⟨@fun rr h=>by
 delta pX at h;refine WB.jz (ia ?_);delta S7;refine iR ?_;exact lP⟩
def Ye:ir:=
 (.seq (.ie (sq 6 [mb false])) (.seq (.ie (sq 7 [mv 0,mv 1,bn .geq 7 8,mv 9]++sg 10 true 11 [mv 0,mv 2,bn .leq 11 12]++sq 14 [pa 10 13]++sq 6 [mv 14])) .ret))
theorem ZI:kS Tryz.prog 74 Ye 15 [.tmp 6]:=mf Tryz.func74 Tryz.ntmps74
def k_(x:Int)(lo:Int)(hi:Int):Option Bool:=
 if(decide (lo<=x))=true then
  some (decide (x<=hi))
 else
  some false
instance SI{x:Int}{lo:Int}{hi:Int}:iU (k_ x lo hi) fun rr=>jW Tryz.prog 74 [iD x,iD lo,iD hi] (bD rr):=⟨@fun rr h=>by
 delta k_ at h;refine ZI.jz (ia ?_);delta Ye;refine iR ?_;exact lP⟩
def Yf:ir:=
 (.seq (.ie (sq 1 [bo 1 29 0,mb false])) (.seq (.seq (.ie (sq 4 [fa 0 1,ld 4,ln 5,.ke 74 [(t0 6),(i0 1),(i0 8)],nt 7])) (.cond (t0 8) (.seq (.ie (sq 2 [mb false])) .ret) .skip)) (.seq (.seq (.ie (sq 3 [mi 0])) (.block 0 (.loop (.seq (.seq (.ie (sq 9 [mv 3,fa 0 1,ld 10,ln 11,bn .lss 9 12])) (.cond (t0 13) .skip (.exit 0))) (.seq (.block 1 (.seq (.ie (sq 16 [fa 0 1,ld 16,mv 3,ix 1 17 18,ld 19,.ke 74 [(t0 20),(i0 0),(i0 3)],nt 21])) (.cond (t0 22) (.seq (.ie (sq 2 [mb false])) .ret) .skip))) (.ie (sq 14 [mv 3,bi .add 14 1]++sq 3 [mv 15]))))))) (.seq (.ie (sq 2 [mb true])) .ret))))
theorem ZJ:kS Tryz.prog 83 Yf 23 [.tmp 2]:=mf Tryz.func83 Tryz.ntmps83
def rQ(sig:gB):Int->Option gO
 |f=>
  if(decide (f<(sig.length:Int)))=true then
   if 0<=f/\f<(sig.length:Int)then
    (k_ (sig.getD f.toNat default) 0 3).bind fun r_1=>
    if r_1=true then
     some (.inl (IntKind.i64.wrap (f+1)))
    else
     Option.map Sum.inr (
      some false)
   else none
  else
   Option.map Sum.inr (
    some true)
def qL(sig:gB):Option Bool:=
 (k_ (sig.length:Int) 1 8).bind fun r=>
 if r=true then
  iB (rQ sig) 0
 else
  some false
instance Qx{sig:gB}:iU (qL sig) fun rr=>jW Tryz.prog 83 [jy sig] (bD rr):=⟨@fun rr h=>by
 delta qL at h;refine ZJ.jz (ia ?_);delta Yf;refine iR ?_;refine rC h fun r hr h=>?_
 refine iT h fun hc h=>?_
 refine kA h [2,3,9,10,11,12,13,14,15,16,17,18,19,20,21,22] (fun pp=>[(3,.d (iD pp))]) (fun pp=>[(1,.obj 29 [.d (iq 1 iD sig)])]) ?_;rintro f t1 h hb1;unfold rQ at h;try dsimp only at h
 refine ia (iR ?_);exact lP⟩
def TO:ir:=
 (.seq (.ie (sq 2 [bo 2 29 0]++sq 4 [mi 0])) (.seq (.block 0 (.seq (.ie (sq 6 [mv 1,.ke 74 [(t0 6),(i0 (-24)),(i0 (-1))]]++sq 5 [mv 7])) (.cond (t0 5) (.seq (.ie (sq 4 [mi 0])) .ret) (.seq (.ie (sq 9 [mv 1,fa 0 2,ld 10,ln 11,bi .sub 12 1,.ke 74 [(t0 9),(i0 0),(t0 13)]]++sq 8 [mv 14])) (.cond (t0 8) (.seq (.ie (sq 15 [fa 0 2,ld 15,mv 1,ix 1 16 17,ld 18]++sq 4 [mv 19])) .ret) .skip))))) (.seq (.ie (sq 4 [mi (-1)])) .ret)))
theorem Xr:kS Tryz.prog 216 TO 20 [.tmp 4]:=mf Tryz.func216 Tryz.ntmps216
def qp(sig:gB)(n:Int):Option Int:=
 (k_ n (-24) (-1)).bind fun r=>
 if r=true then
  some 0
 else
  (k_ n 0 (IntKind.i64.wrap ((sig.length:Int)-1))).bind fun r_1=>
  if r_1=true then
   if 0<=n/\n<(sig.length:Int)then
    some (sig.getD n.toNat default)
   else none
  else
   some (-1)
instance Ni{sig:gB}{n:Int}:iU (qp sig n) fun rr=>jW Tryz.prog 216 [jy sig,iD n] (iD rr):=⟨@fun rr h=>by
 delta qp at h;refine Xr.jz (ia ?_);delta TO;refine iR ?_;exact lP⟩
def Ty:ir:=
 (.seq (.ie (sq 3 [bo 3 29 0]++sq 6 [mi 0])) (.seq (.ie (sq 7 [mi 1])) (.seq (.seq (.ie (sq 10 [mv 2]++sq 8 [mv 10])) (.block 0 (.loop (.seq (.seq (.ie (sq 11 [mv 8,mv 1,ln 12,bn .lss 11 13])) (.cond (t0 14) .skip (.exit 0))) (.seq (.block 1 (.seq (.draw (sq 17 [la 1 3,mv 1,mv 8,ix 1 18 19,ld 20,cf 216 [17,21]]++sq 9 [mv 22]) [[],[],[],[1,2],[3],[0,4],[5,5,0,1,2,3,4,5]]) (.seq (.seq (.ie (sq 23 [mv 9,bi .lss 23 0])) (.cond (t0 24) (.seq (.ie (sq 6 [mi (-1)])) .ret) .skip)) (.seq (.ie (sq 25 [mv 7,mv 9,bn .add 25 26,bi .sub 27 1]++sq 7 [mv 28])) (.seq (.ie (sq 29 [mv 7,bi .eql 29 0])) (.cond (t0 30) (.seq (.ie (sq 31 [mv 8,bi .add 31 1]++sq 6 [mv 32])) .ret) .skip)))))) (.ie (sq 15 [mv 8,bi .add 15 1]++sq 8 [mv 16]))))))) (.seq (.ie (sq 6 [mi (-1)])) .ret))))
theorem Xa:kS Tryz.prog 180 Ty 33 [.tmp 6]:=mf Tryz.func180 Tryz.ntmps180
def ux(sig:gB)(t:gB):gQ->Option (gQ⊕Int)
 |(need,i)=>
  if(decide (i<(t.length:Int)))=true then
   if 0<=i/\i<(t.length:Int)then
    (qp sig (t.getD i.toNat default)).bind fun r=>
    if(decide (r<0))=true then
     Option.map Sum.inr (
      some (-1))
    else
     if((IntKind.i64.wrap ((IntKind.i64.wrap (need+r))-1))==0)=true then
      Option.map Sum.inr (
       some (IntKind.i64.wrap (i+1)))
     else
      some (.inl ((IntKind.i64.wrap ((IntKind.i64.wrap (need+r))-1)),(IntKind.i64.wrap (i+1))))
   else none
  else
   Option.map Sum.inr (
    some (-1))
def oc(sig:gB)(t:gB)(iS:Int):Option Int:=
 iB (ux sig t) (1,iS)
instance Qy{sig:gB}{t:gB}{iS:Int}:iU (oc sig t iS) fun rr=>jW Tryz.prog 180 [jy sig,(iq 1 iD) t,iD iS] (iD rr):=⟨@fun rr h=>by
 delta oc at h;refine Xa.jz (ia ?_);delta Ty;refine iR ?_;refine kA h [6,7,8,9,11,12,13,14,15,16,17,18,19,20,21,22,23,24,25,26,27,28,29,30,31,32] (fun pp=>[(7,.d (iD pp.1)),(8,.d (iD pp.2))]) (fun pp=>[(3,.obj 29 [.d (iq 1 iD sig)])]) ?_;rintro⟨need,i⟩ t1 h hb1;unfold ux at h;try dsimp only at h
 refine ia (iR ?_);exact lP⟩
def S6:ir:=
 (.seq (.ie (sq 2 [bo 2 29 0]++sq 4 [mb false])) (.seq (.ie (sq 5 [la 1 2,cf 83 [5],mv 6]++sg 7 true 8 [mv 1,ln 8,.ke 74 [(t0 9),(i0 1),(i0 60)]]++sq 11 [pa 7 10,mv 11]++sg 12 true 13 [la 1 2,mv 1,.ke 180 [(t0 13),(t0 14),(i0 0)],mv 1,ln 16,bn .eql 15 17]++sq 19 [pa 12 18]++sq 4 [mv 19])) .ret))
theorem WA:kS Tryz.prog 120 S6 20 [.tmp 4]:=mf Tryz.func120 Tryz.ntmps120
def mW(sig:gB)(t:gB):Option Bool:=
 (qL sig).bind fun r=>
 if r=true then
  (k_ (t.length:Int) 1 60).bind fun r_1=>
  if r_1=true then
   (oc sig t 0).bind fun r_2=>
   some (r_2==(t.length:Int))
  else
   some false
 else
  some false
instance PO{sig:gB}{t:gB}:iU (mW sig t) fun rr=>jW Tryz.prog 120 [jy sig,(iq 1 iD) t] (bD rr):=⟨@fun rr h=>by
 delta mW at h;refine WA.jz (ia ?_);delta S6;refine iR ?_;exact lP⟩
def TM:ir:=
 (.seq (.ie (sq 4 [mi 0])) (.seq (.seq (.ie (sq 6 [mv 0,ln 6,mi 0])) (.block 0 (.loop (.seq (.ie (sq 9 [bn .lss 8 7])) (.seq (.cond (t0 9) .skip (.exit 0)) (.seq (.block 1 (.seq (.ie (sq 10 [mv 8]++sq 5 [mv 10])) (.seq (.ie (sq 11 [mv 1,mv 0,mv 5,ix 1 12 13,ld 14,bn .eql 11 15])) (.cond (t0 16) (.seq (.ie (sq 17 [mv 5]++sq 4 [mv 17])) .ret) .skip)))) (.ie (sq 18 [bi .add 8 1]++sq 8 [mv 18])))))))) (.seq (.ie (sq 4 [mi (-1)])) .ret)))
theorem Xo:kS Tryz.prog 207 TM 19 [.tmp 4]:=mf Tryz.func207 Tryz.ntmps207
def kf(s:gB)(v:Int):Int->Option (Int⊕Int)
 |v8=>
  if(decide (v8<(s.length:Int)))=true then
   if 0<=v8/\v8<(s.length:Int)then
    if(v==(s.getD v8.toNat default))=true then
     Option.map Sum.inr (
      some v8)
    else
     some (.inl (IntKind.i64.wrap (v8+1)))
   else none
  else
   Option.map Sum.inr (
    some (-1))
def jd(s:gB)(v:Int):Option Int:=
 iB (kf s v) 0
instance CY{s:gB}{v:Int}:iU (jd s v) fun rr=>jW Tryz.prog 207 [(iq 1 iD) s,iD v] (iD rr):=⟨@fun rr h=>by
 delta jd at h;refine Xo.jz (ia ?_);delta TM;refine iR ?_;refine kA h [4,5,8,9,10,11,12,13,14,15,16,17,18] (fun pp=>[(8,.d (iD pp))]) (fun pp=>[]) ?_;rintro v8 t1 h hb1;unfold kf at h;try dsimp only at h
 refine ia (iR ?_);exact lP⟩
def Ts:ir:=
 (.seq (.ie (sq 4 [mb false])) (.seq (.ie (sq 5 [mv 0,mv 1,cf 207 [5,6],bi .geq 7 0]++sq 4 [mv 8])) .ret))
theorem WY:kS Tryz.prog 164 Ts 9 [.tmp 4]:=mf Tryz.func164 Tryz.ntmps164
def jJ(s:gB)(v:Int):Option Bool:=
 (jd s v).bind fun r=>
 some (decide (0<=r))
instance BU{s:gB}{v:Int}:iU (jJ s v) fun rr=>jW Tryz.prog 164 [(iq 1 iD) s,iD v] (bD rr):=⟨@fun rr h=>by
 delta jJ at h;refine WY.jz (ia ?_);delta Ts;refine iR ?_;exact lP⟩
def S3:ir:=
 (.seq (.ie (sq 2 [bo 2 29 0,bo 3 77 1,mb false])) (.seq (.seq (.ie (sq 7 [la 1 2,fa 0 3,ld 8,cf 123 [7,9],nt 10,mv 11]++sg 12 false 13 [la 1 2,fa 1 3,ld 14,cf 123 [13,15],nt 16]++sq 18 [po 12 17,mv 18]++sg 19 false 20 [fa 0 3,ld 20,.tG 1 (t0 21) (i0 0),ld 22,bi .lss 23 0]++sq 25 [po 19 24])) (.cond (t0 25) (.seq (.ie (sq 4 [mb false])) .ret) .skip)) (.seq (.seq (.ie (sq 26 [fa 1 3,ld 26,ln 27,mi 0])) (.block 0 (.loop (.seq (.ie (sq 30 [bn .lss 29 28])) (.seq (.cond (t0 30) .skip (.exit 0)) (.seq (.block 1 (.seq (.ie (sq 31 [ix 1 27 29,ld 31]++sq 6 [mv 32])) (.seq (.ie (sq 33 [mv 6,bi .lss 33 0,mv 34]++sg 35 true 36 [fa 0 3,ld 36,mv 6,cf 164 [37,38],nt 39]++sq 41 [pa 35 40])) (.cond (t0 41) (.seq (.ie (sq 4 [mb false])) .ret) .skip)))) (.ie (sq 42 [bi .add 29 1]++sq 29 [mv 42])))))))) (.seq (.ie (sq 4 [mb true])) .ret))))
theorem Wx:kS Tryz.prog 108 S3 43 [.tmp 4]:=mf Tryz.func108 Tryz.ntmps108
def qD(r:gD):Int->Option gO
 |v29=>
  if(decide (v29<(r.2.length:Int)))=true then
   if 0<=v29/\v29<(r.2.length:Int)then
    if(decide ((r.2.getD v29.toNat default)<0))=true then
     (jJ r.1 (r.2.getD v29.toNat default)).bind fun r_3=>
     if r_3=true then
      some (.inl (IntKind.i64.wrap (v29+1)))
     else
      Option.map Sum.inr (
       some false)
    else
     some (.inl (IntKind.i64.wrap (v29+1)))
   else none
  else
   Option.map Sum.inr (
    some true)
def rz(sig:gB)(r:gD):Option Bool:=
 (pX sig r.1).bind fun r_1=>
 if r_1=true then
  (pX sig r.2).bind fun r_2=>
  if r_2=true then
   if 0<=0/\0<(r.1.length:Int)then
    if(decide ((r.1.getD 0 default)<0))=true then
     some false
    else
     iB (qD r) 0
   else none
  else
   some false
 else
  some false
instance PF{sig:gB}{r:gD}:iU (rz sig r) fun rr=>jW Tryz.prog 108 [jy sig,ic r] (bD rr):=⟨@fun rr h=>by
 delta rz at h;refine Wx.jz (ia ?_);delta S3;refine iR ?_;refine rC h fun r_1 hr_1 h=>?_
 refine iT h fun hc h=>?_
 refine rC h fun r_2 hr_2 h=>?_
 refine iT h fun hc h=>?_
 refine kz h fun hp h=>?_
 refine iF h fun hc h=>?_
 refine kA h [4,6,29,30,31,32,33,34,35,36,37,38,39,40,41,42] (fun pp=>[(29,.d (iD pp))]) (fun pp=>[(2,.obj 29 [.d (iq 1 iD sig)]),(3,.obj 77 [.d (iq 1 iD r.1),.d (iq 1 iD r.2)])]) ?_;rintro v29 t1 h hb1;unfold qD at h;try dsimp only at h
 refine ia (iR ?_);exact lP⟩
def Yb:ir:=
 (.seq (.ie (sq 1 [bo 1 32 0,mb false])) (.seq (.seq (.ie (sq 5 [fa 0 1,la 1 5,cf 107 [6],nt 7,mv 8]++sg 9 false 10 [fa 1 1,ld 10,ln 11,bi .gtr 12 12]++sq 14 [po 9 13])) (.cond (t0 14) (.seq (.ie (sq 2 [mb false])) .ret) .skip)) (.seq (.seq (.ie (sq 15 [fa 1 1,ld 15,ln 16,mi 0])) (.block 0 (.loop (.seq (.ie (sq 19 [bn .lss 18 17])) (.seq (.cond (t0 19) .skip (.exit 0)) (.seq (.block 1 (.seq (.ie (sq 20 [ix 2 16 18,la 2 20]++sq 4 [.alloc 4 77 [.sl 0 (some true) [],.sl 0 (some true) []]]++s0 (sr 2 4 21))) (.seq (.ie (sq 22 [fa 0 1,la 1 22,la 2 4,cf 108 [23,24],nt 25])) (.cond (t0 26) (.seq (.ie (sq 2 [mb false])) .ret) .skip)))) (.ie (sq 27 [bi .add 18 1]++sq 18 [mv 27])))))))) (.seq (.ie (sq 2 [mb true])) .ret))))
theorem ZF:kS Tryz.prog 59 Yb 28 [.tmp 2]:=mf Tryz.func59 Tryz.ntmps59
def oV(sys:gR):Int->Option gO
 |v18=>
  if(decide (v18<(sys.2.length:Int)))=true then
   if 0<=v18/\v18<(sys.2.length:Int)then
    (rz sys.1 ((sys.2.getD v18.toNat default).1,(sys.2.getD v18.toNat default).2)).bind fun r_1=>
    if r_1=true then
     some (.inl (IntKind.i64.wrap (v18+1)))
    else
     Option.map Sum.inr (
      some false)
   else none
  else
   Option.map Sum.inr (
    some true)
def pM(sys:gR):Option Bool:=
 (qE sys.1).bind fun r=>
 if r=true then
  if(decide (12<(sys.2.length:Int)))=true then
   some false
  else
   iB (oV sys) 0
 else
  some false
instance Mi{sys:gR}:iU (pM sys) fun rr=>jW Tryz.prog 59 [iC sys] (bD rr):=⟨@fun rr h=>by
 delta pM at h;refine ZF.jz (ia ?_);delta Yb;refine iR ?_;refine rC h fun r hr h=>?_
 refine iT h fun hc h=>?_
 refine iF h fun hc h=>?_
 refine kA h [2,4,18,19,20,21,22,23,24,25,26,27] (fun pp=>[(18,.d (iD pp))]) (fun pp=>[(1,.obj 32 [.d (iq 1 iD sys.1),.d (iq 2 ic sys.2)])]) ?_;rintro v18 t1 h hb1;unfold oV at h;try dsimp only at h
 refine ia (iR ?_);refine iT h fun hc h=>?_
 refine kz h fun hp h=>?_
 refine rC h fun r_1 hr_1 h=>?_
 refine iT h fun hc h=>?_
 cases h;refine⟨_,rfl,?_⟩;refine(iV.drop 4 h_).trans ?_;exact wk⟩
def Tf:ir:=
 (.seq (.ie (sq 4 [mb false])) (.seq (.seq (.ie (sq 5 [mi 0])) (.block 0 (.loop (.seq (.seq (.ie (sq 6 [mv 5,mv 0,ln 7,bn .lss 6 8])) (.cond (t0 9) .skip (.exit 0))) (.seq (.block 1 (.seq (.ie (sq 12 [mv 0,mv 5,ix 1 12 13,ld 14,mv 1,bn .eql 15 16])) (.cond (t0 17) (.seq (.ie (sq 4 [mb true])) .ret) .skip))) (.ie (sq 10 [mv 5,bi .add 10 1]++sq 5 [mv 11]))))))) (.seq (.ie (sq 4 [mb false])) .ret)))
theorem WL:kS Tryz.prog 151 Tf 18 [.tmp 4]:=mf Tryz.func151 Tryz.ntmps151
def rR(s:gB)(n:Int):Int->Option gO
 |i=>
  if(decide (i<(s.length:Int)))=true then
   if 0<=i/\i<(s.length:Int)then
    if((s.getD i.toNat default)==n)=true then
     Option.map Sum.inr (
      some true)
    else
     some (.inl (IntKind.i64.wrap (i+1)))
   else none
  else
   Option.map Sum.inr (
    some false)
def qM(s:gB)(n:Int):Option Bool:=
 iB (rR s n) 0
instance Qz{s:gB}{n:Int}:iU (qM s n) fun rr=>jW Tryz.prog 151 [(iq 1 iD) s,iD n] (bD rr):=⟨@fun rr h=>by
 delta qM at h;refine WL.jz (ia ?_);delta Tf;refine iR ?_;refine kA h [4,5,6,7,8,9,10,11,12,13,14,15,16,17] (fun pp=>[(5,.d (iD pp))]) (fun pp=>[]) ?_;rintro i t1 h hb1;unfold rR at h;try dsimp only at h
 refine ia (iR ?_);exact lP⟩
def Yg:ir:=
 (.seq (.ie (sq 2 [bo 2 29 0,bo 3 77 1,mb false])) (.seq (.seq (.ie (sq 6 [la 1 2,fa 0 3,ld 7,cf 120 [6,8],nt 9,mv 10]++sg 11 false 12 [la 1 2,fa 1 3,ld 13,cf 120 [12,14],nt 15]++sq 17 [po 11 16,mv 17]++sg 18 false 19 [fa 0 3,ld 19,.tG 1 (t0 20) (i0 0),ld 21,bi .lss 22 0]++sq 24 [po 18 23])) (.cond (t0 24) (.seq (.ie (sq 4 [mb false])) .ret) .skip)) (.seq (.seq (.ie (sq 5 [mi 0])) (.block 0 (.loop (.seq (.seq (.ie (sq 25 [mv 5,fa 1 3,ld 26,ln 27,bn .lss 25 28])) (.cond (t0 29) .skip (.exit 0))) (.seq (.block 1 (.seq (.draw (sq 32 [fa 1 3,ld 32,mv 5,ix 1 33 34,ld 35,bi .lss 36 0,mv 37]++sg 38 true 39 [fa 0 3,ld 39,fa 1 3,ld 41,mv 5,ix 1 42 43,ld 44,cf 151 [40,45],nt 46]++sq 48 [pa 38 47]) [[],[0],[],[1,2],[3],[4],[5],[6],[7,6],[6],[9,6],[6],[10,11,6],[12,6],[8,13,6,6],[14,6],[6,15]]) (.cond (t0 48) (.seq (.ie (sq 4 [mb false])) .ret) .skip))) (.ie (sq 30 [mv 5,bi .add 30 1]++sq 5 [mv 31]))))))) (.seq (.ie (sq 4 [mb true])) .ret))))
theorem ZK:kS Tryz.prog 84 Yg 49 [.tmp 4]:=mf Tryz.func84 Tryz.ntmps84
def qK(r:gD):Int->Option gO
 |i=>
  if(decide (i<(r.2.length:Int)))=true then
   if 0<=i/\i<(r.2.length:Int)then
    if(decide ((r.2.getD i.toNat default)<0))=true then
     if 0<=i/\i<(r.2.length:Int)then
      (qM r.1 (r.2.getD i.toNat default)).bind fun r_3=>
      if r_3=true then
       some (.inl (IntKind.i64.wrap (i+1)))
      else
       Option.map Sum.inr (
        some false)
     else none
    else
     some (.inl (IntKind.i64.wrap (i+1)))
   else none
  else
   Option.map Sum.inr (
    some true)
def rD(sig:gB)(r:gD):Option Bool:=
 (mW sig r.1).bind fun r_1=>
 if r_1=true then
  (mW sig r.2).bind fun r_2=>
  if r_2=true then
   if 0<=0/\0<(r.1.length:Int)then
    if(decide ((r.1.getD 0 default)<0))=true then
     some false
    else
     iB (qK r) 0
   else none
  else
   some false
 else
  some false
instance PM{sig:gB}{r:gD}:iU (rD sig r) fun rr=>jW Tryz.prog 84 [jy sig,ic r] (bD rr):=⟨@fun rr h=>by
 delta rD at h;refine ZK.jz (ia ?_);delta Yg;refine iR ?_;refine rC h fun r_1 hr_1 h=>?_
 refine iT h fun hc h=>?_
 refine rC h fun r_2 hr_2 h=>?_
 refine iT h fun hc h=>?_
 refine kz h fun hp h=>?_
 refine iF h fun hc h=>?_
 refine kA h [4,5,25,26,27,28,29,30,31,32,33,34,35,36,37,38,39,40,41,42,43,44,45,46,47,48] (fun pp=>[(5,.d (iD pp))]) (fun pp=>[(2,.obj 29 [.d (iq 1 iD sig)]),(3,.obj 77 [.d (iq 1 iD r.1),.d (iq 1 iD r.2)])]) ?_;rintro i t1 h hb1;unfold qK at h;try dsimp only at h
 refine ia (iR ?_);exact lP⟩
def XV:ir:=
 (.seq (.ie (sq 1 [bo 1 32 0,mb false])) (.seq (.seq (.ie (sq 4 [fa 0 1,la 1 4,cf 83 [5],nt 6,mv 7]++sg 8 false 9 [fa 1 1,ld 9,ln 10,bi .gtr 11 12]++sq 13 [po 8 12])) (.cond (t0 13) (.seq (.ie (sq 2 [mb false])) .ret) .skip)) (.seq (.seq (.ie (sq 3 [mi 0])) (.block 0 (.loop (.seq (.seq (.ie (sq 14 [mv 3,fa 1 1,ld 15,ln 16,bn .lss 14 17])) (.cond (t0 18) .skip (.exit 0))) (.seq (.block 1 (.seq (.draw (sq 21 [fa 0 1,la 1 21,fa 1 1,ld 23,mv 3,ix 2 24 25,la 2 26,cf 84 [22,27],nt 28]) [[],[0],[],[2],[],[3,4],[5],[1,6],[7]]) (.cond (t0 29) (.seq (.ie (sq 2 [mb false])) .ret) .skip))) (.ie (sq 19 [mv 3,bi .add 19 1]++sq 3 [mv 20]))))))) (.seq (.ie (sq 2 [mb true])) .ret))))
theorem Zp:kS Tryz.prog 35 XV 30 [.tmp 2]:=mf Tryz.func35 Tryz.ntmps35
def pz(sys:gR):Int->Option gO
 |i=>
  if(decide (i<(sys.2.length:Int)))=true then
   if 0<=i/\i<(sys.2.length:Int)then
    (rD sys.1 ((sys.2.getD i.toNat default).1,(sys.2.getD i.toNat default).2)).bind fun r_1=>
    if r_1=true then
     some (.inl (IntKind.i64.wrap (i+1)))
    else
     Option.map Sum.inr (
      some false)
   else none
  else
   Option.map Sum.inr (
    some true)
def mK(sys:gR):Option Bool:=
 (qL sys.1).bind fun r=>
 if r=true then
  if(decide (12<(sys.2.length:Int)))=true then
   some false
  else
   iB (pz sys) 0
 else
  some false
instance Mt{sys:gR}:iU (mK sys) fun rr=>jW Tryz.prog 35 [iC sys] (bD rr):=⟨@fun rr h=>by
 delta mK at h;refine Zp.jz (ia ?_);delta XV;refine iR ?_;refine rC h fun r hr h=>?_
 refine iT h fun hc h=>?_
 refine iF h fun hc h=>?_
 refine kA h [2,3,14,15,16,17,18,19,20,21,22,23,24,25,26,27,28,29] (fun pp=>[(3,.d (iD pp))]) (fun pp=>[(1,.obj 32 [.d (iq 1 iD sys.1),.d (iq 2 ic sys.2)])]) ?_;rintro i t1 h hb1;unfold pz at h;try dsimp only at h
 refine ia (iR ?_);exact lP⟩
end Go.Proofs.YtjgbnaihpicpgaaGreat
