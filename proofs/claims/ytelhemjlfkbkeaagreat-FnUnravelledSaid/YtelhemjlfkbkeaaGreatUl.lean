/- A part of the proof about FnUnravelled (U6, U7, U8, L1). -/
import Derived.Test.YtelhemjlfkbkeaaGreatUd
import Derived.Test.YtelhemjlfkbkeaaGreatUi
import Derived.Test.YtelhemjlfkbkeaaGreatUk
set_option linter.all false
noncomputable section
namespace Go.Proofs.YtelhemjlfkbkeaaGreat
open Go oe
attribute [local irreducible] xL zb yK oW pM sV pO Er FY CG FX Cg yg pT rE EZ jr oN
set_option maxHeartbeats 4000000
set_option maxRecDepth 4000
theorem B0{α:Type}[Inhabited α]{xs:List α}{i:Nat}(h:i<xs.length):xs[i]?=some (xs.getD i default):=by rw[aB,aA h];rfl
theorem H6{α:Type}[Inhabited α]{f:α->D}{e k:Nat}[uK f e]{xs:List α}{i:Int}{M:Nat}{d:D}{y:α}(hi:0<=i/\i<(xs.length:Int))(hk:k<e)(hM:M=i.toNat*e+k)(hy:(gD (f (xs.getD i.toNat default))).set k d=gD (f y)):
 PC ((jJ (xs.map f)).set M (.d d)) (jT f (xs.set i.toNat y)):=PC.put (PC.of _) hk hM (B0 gu) hy (.inl rfl)
theorem PS:∀n:Nat,jr ((List.replicate n [AV.d (.sl 0 (some true) []),AV.d (.sl 0 (some true) [])]).flatten) ((jT ir (List.replicate n ([],[]))).map .d)
 |0=>Tl
 |n+1=>by
  simp only[cp,cm,uS,aP];exact RL (AV.wT DL.nil) (RL (AV.wT DL.nil) (PS n))
theorem Uz(xs:List fJ):PC (jJ (List.map ir xs)++List.map AV.d (List.flatMap gD [D.agg [D.sl 1 none [D.lit (Value.int IntKind.i64 (-20))],D.sl 1 none [D.lit (Value.int IntKind.i64 (-1))]]])) (jT ir (xs++[([(-20)],[(-1)])])):=by
 have:jT ir (xs++[([(-20)],[(-1)])])=jT ir xs++List.flatMap gD [D.agg [D.sl 1 none [D.lit (Value.int IntKind.i64 (-20))],D.sl 1 none [D.lit (Value.int IntKind.i64 (-1))]]]:=by simp only[jT,aP,eZ];rfl
 rw[this];exact PC.append (PC.of _) (PC.WA _)
theorem L1{c0:Cd}{c1:Int}{c2:Int}:iH (qk c0.l c1 c2) fun rr=>hY Tryz.prog 78 [.ptr 0 0] [(0,.obj 75 [.nm c0.v 1 (List.map (kD .u8) c0.l),.d (iD c1),.d (iD c2)])] 1 fun xx ss=>xx=.agg [.mL 1 900000 rr.1.length,.mL 3 900001 rr.2.1.length]/\
 ss=[(0,.obj 75 [.nm c0.v 1 (List.map (kD .u8) c0.l),.d (iD rr.2.2.1),.d (iD rr.2.2.2)]),(900000,.oU 1 rr.1.length (jJ (List.map iD rr.1))),(900001,.oU 3 rr.2.1.length (jJ (List.map gB rr.2.1)))]:=⟨@fun rr h=>by
 refine hY.aak (cs:=[.d (iD c1),.d (iD c2)]) (cs':=[.d (iD rr.2.2.1),.d (iD rr.2.2.2)]) (Dn.c h) rfl ?_ ?_ ?_ ?_ ?_
 ·intro x hx;simp only[bt,cS,or_false]at hx;rcases hx with rfl|rfl<;>exact⟨_,rfl⟩
 ·intro p hp;simp only[mM,vU,bh,bH,bl,bt,cS,or_false]at hp;rcases hp with rfl|rfl
  ·show(900000:Nat)≠0;omega
  ·show(900001:Nat)≠0;omega
 ·intro p hp;simp only[mM,vU,bh,bH,bl,bt,cS,or_false]at hp;rcases hp with rfl|rfl
  ·exact Whole.flat (t:=2) (n:=rr.1.length) rfl (by simp)
  ·exact Whole.deep (t:=55) (n:=rr.2.1.length) rfl (by simp)
 ·simp only[En,Ju,aS]
 ·simp only[mM,vU,toks,bh,bH,bl,aT,dz,aS]⟩
def vE:gR:=
 (.seq (.gz (sq 2 [.alloc 2 29 [.sl 0 (some true) [],.sl 0 (some true) []]])) (.seq (.gz (sq 5 [mv 0,cf 78 [5]]++sq 3 [.alloc 3 29 [.sl 0 (some true) [],.sl 0 (some true) []]]++s0 (sr 2 3 6))) (.seq (.seq (.gz (sq 7 [mv 0,.ji 40 [(t0 7),(i0 10)],mv 8]++sg 9 true 10 [fa 1 3,ld 10,ln 11,bi .gtr 12 0]++sq 14 [pa 9 13])) (.cond (t0 14) (.seq (.gz (sq 15 [mv 0,fa 1 3,ld 16,ln 17,cf 39 [15,18]]++sq 4 [mv 19])) (.seq (.gz (sq 20 [mv 0,.ji 39 [(t0 20),(i0 5)]])) (.block 0 (.seq (.gz (sq 23 [bi .eql 21 0]++sq 22 [mv 23])) (.cond (t0 22) (.gz (sq 24 [fa 1 3,ld 24,mv 4,.mH 27 2 1 [(i0 (-9))],ix 3 25 26,fa 1 28]++s0 (sr 1 29 27))) (.seq (.gz (sq 31 [bi .eql 21 1]++sq 30 [mv 31])) (.cond (t0 30) (.gz (sq 32 [fa 1 3,ld 32,mv 4,.mH 35 2 1 [(i0 (-1))],ix 3 33 34,fa 0 36]++s0 (sr 1 37 35))) (.seq (.gz (sq 39 [bi .eql 21 2]++sq 38 [mv 39])) (.cond (t0 38) (.ghost (.draw (sq 40 [fa 1 3,ld 40,mv 4,fa 1 3,ld 43,mv 4,ix 3 44 45,fa 2 46,ld 47,.mH 49 2 1 [(i0 (-20))],.mH 50 2 1 [(i0 (-1))],.build [.sl 0 (some true) [],.sl 0 (some true) []] [(0,1,(t0 49)),(1,1,(t0 50))],.mH 52 89 2 [(t0 51)],ap 53 89 2 48 48 52,ix 3 41 42,fa 2 54]++s0 (sr 1 55 53)) [[],[0],[],[],[3],[],[4,5],[6],[7],[],[],[9,10],[11],[8,12],[1,2,0,1,2,3,4,5,6,7,8,9,10,11,12,13],[14,0,1,2,3,4,5,6,7,8,9,10,11,12,13],[15,13,13,0,1,2,3,4,5,6,7,8,9,10,11,12,13]])) (.seq (.gz (sq 57 [bi .eql 21 3]++sq 56 [mv 57])) (.cond (t0 56) (.draw (sq 58 [fa 1 3,ld 58,mv 4,mv 0,.ji 39 [(t0 61),(i0 2)],.bin .add (i0 2) (t0 62),.zy 64 89 2 48 [.sl 0 (some true) [],.sl 0 (some true) []] false (t0 63) (t0 63),ix 3 59 60,fa 2 65]++s0 (sr 1 66 64)) [[],[0],[],[],[3],[4],[5,5],[1,2,0,1,2,3,4,5,6],[7,0,1,2,3,4,5,6],[8,6,4,0,1,2,3,4,5,6]]) (.seq (.gz (sq 68 [bi .eql 21 4]++sq 67 [mv 68])) (.cond (t0 67) (.gz (sq 69 [mv 0,cf 79 [69],fa 0 3]++s0 (sr 1 71 70))) .skip))))))))))))) .skip)) (.seq (.gz (sq 72 [la 2 3]++s0 (sr 2 2 72))) .ret))))
theorem zn:lE Tryz.prog 37 vE 73 [.cell 2 2 true]:=mf Tryz.func37 Tryz.ntmps37
def pG(c0:fI)(c1:Int)(c2:Int):Option (gm×Int×Int):=
 (qk c0 c1 c2).bind fun r=>
 (iC 10 c0 r.2.2.1 r.2.2.2).bind fun r_1=>
 if r_1.1=true then
  if(decide (0<(r.2.1.length:Int)))=true then
   (gF (r.2.1.length:Int) c0 r_1.2.1 r_1.2.2).bind fun r_2=>
   (gF 5 c0 r_2.2.1 r_2.2.2).bind fun r_3=>
   if(r_3.1==0)=true then
    if 0<=r_2.1/\r_2.1<(r.2.1.length:Int)then
     some ((r.1,(r.2.1.set r_2.1.toNat ((r.2.1.getD r_2.1.toNat default).1,[(-9)],(r.2.1.getD r_2.1.toNat default).2.2))),r_3.2.1,r_3.2.2)
    else none
   else
    if(r_3.1==1)=true then
     if 0<=r_2.1/\r_2.1<(r.2.1.length:Int)then
      some ((r.1,(r.2.1.set r_2.1.toNat ([(-1)],(r.2.1.getD r_2.1.toNat default).2.1,(r.2.1.getD r_2.1.toNat default).2.2))),r_3.2.1,r_3.2.2)
     else none
    else
     if(r_3.1==2)=true then
      if(0<=r_2.1/\r_2.1<(r.2.1.length:Int))/\((r.2.1.getD r_2.1.toNat default).2.2.length+1)*48<=140737488355328 then
       some ((r.1,(r.2.1.set r_2.1.toNat ((r.2.1.getD r_2.1.toNat default).1,(r.2.1.getD r_2.1.toNat default).2.1,(r.2.1.getD r_2.1.toNat default).2.2++[([(-20)],[(-1)])]))),r_3.2.1,r_3.2.2)
      else none
     else
      if(r_3.1==3)=true then
       (gF 2 c0 r_3.2.1 r_3.2.2).bind fun r_4=>
       if(0<=r_2.1/\r_2.1<(r.2.1.length:Int))/\(0<=r_4.1/\r_4.1<100)then
        some ((r.1,(r.2.1.set r_2.1.toNat ((r.2.1.getD r_2.1.toNat default).1,(r.2.1.getD r_2.1.toNat default).2.1,List.replicate (2+r_4.1).toNat ([],[])))),r_4.2.1,r_4.2.2)
       else none
      else
       if(r_3.1==4)=true then
        (og c0 r_3.2.1 r_3.2.2).bind fun r_5=>
        some ((r_5.1,r.2.1),r_5.2.1,r_5.2.2)
       else
        some ((r.1,r.2.1),r_3.2.1,r_3.2.2)
  else
   some ((r.1,r.2.1),r_1.2.1,r_1.2.2)
 else
  some ((r.1,r.2.1),r_1.2.1,r_1.2.2)
instance KS{c0:Cd}{c1:Int}{c2:Int}:iH (pG c0.l c1 c2) fun rr=>hY Tryz.prog 37 [.ptr 0 0] [(0,.obj 75 [.nm c0.v 1 (List.map (kD .u8) c0.l),.d (iD c1),.d (iD c2)])] 1 fun xx ss=>xx=.d (.agg [gN 1 iD rr.1.1,gN 3 gB rr.1.2])/\ss=[(0,.obj 75 [.nm c0.v 1 (List.map (kD .u8) c0.l),.d (iD rr.2.1),.d (iD rr.2.2)])]:=⟨@fun rr h=>by
 delta pG at h;refine zn.uw (gv ?_);delta vE;refine iL ?_;refine mA (i:=L1) [(0,0)] [(900000,6),(900001,200000)] h fun r hr h=>?_
 refine mA [(0,0)] [] h fun r_1 hr_1 h=>?_
 refine it h (fun hc h=>?_) fun hc h=>?_
 ·refine it h (fun hc h=>?_) fun hc h=>?_
  ·refine mA [(0,0)] [] h fun r_2 hr_2 h=>?_
   refine mA [(0,0)] [] h fun r_3 hr_3 h=>?_
   refine it h (fun hc h=>?_) fun hc h=>?_
   ·skip
    refine kz h fun hp h=>?_
    refine Cy ?_;cases h;rw[C4 (by rw[wo];omega) rfl];refine gx.trans gx.refl ?_;refine gx.trans (gx.iP [2,3,27] (by simp)) ?_;simp only[iJ,iI,hH,hJ,ia,iA,iq,ij,gX,ig,ie,gW,gJ,gT,gK,gL,gV,gU,gM,Ob.hG,Ob.kill,AV.gY,AV.hG,ic,gC,gA,wz,gw,yI,aq,ak,Nat.reduceEqDiff,Nat.reduceLT,↓reduceIte,reduceCtorEq,bE,av];refine gx.trans (gx.Ac 6 iD rfl r.1 gu rfl rfl (PC.of _)) ?_;refine gx.trans (gx.Ac 200000 gB rfl (r.2.1.set r_2.1.toNat ((r.2.1.getD r_2.1.toNat default).1,[(-9)],(r.2.1.getD r_2.1.toNat default).2.2)) gu rfl (by simp) (PC.nh (H6 (k:=1) hp gu rfl rfl))) ?_;exact gx.told q_ lC
   refine it h (fun hc h=>?_) fun hc h=>?_
   ·skip
    refine kz h fun hp h=>?_
    refine Cy ?_;cases h;rw[C4 (by rw[wo];omega) rfl];refine gx.trans gx.refl ?_;refine gx.trans (gx.iP [2,3,35] (by simp)) ?_;simp only[iJ,iI,hH,hJ,ia,iA,iq,ij,gX,ig,ie,gW,gJ,gT,gK,gL,gV,gU,gM,Ob.hG,Ob.kill,AV.gY,AV.hG,ic,gC,gA,wz,gw,yI,aq,ak,Nat.reduceEqDiff,Nat.reduceLT,↓reduceIte,reduceCtorEq,bE,av];refine gx.trans (gx.Ac 6 iD rfl r.1 gu rfl rfl (PC.of _)) ?_;refine gx.trans (gx.Ac 200000 gB rfl (r.2.1.set r_2.1.toNat ([(-1)],(r.2.1.getD r_2.1.toNat default).2.1,(r.2.1.getD r_2.1.toNat default).2.2)) gu rfl (by simp) (PC.nh (H6 (k:=0) hp gu rfl rfl))) ?_;exact gx.told q_ lC
   refine it h (fun hc h=>?_) fun hc h=>?_
   ·refine kz h fun hp h=>?_
    obtain⟨hp,hp2⟩:=hp;have hml:r_2.1.toNat*3+2<(jJ (List.map gB r.2.1)).length:=by rw[wo];omega
    have h1:(jJ (List.map gB r.2.1))[r_2.1.toNat*3+2]?=some (.dp (.sl 2 none (List.map ir (r.2.1.getD r_2.1.toNat default).2.2))):=by
     have:=Qh (f:=gB) (e:=3) (k:=2) (xs:=r.2.1) (i:=r_2.1.toNat) (y:=r.2.1.getD r_2.1.toNat default) gu (by decide);rw[P9 gu]at this;exact this
    refine pO.of (iB.extract 200000 300000 (r_2.1.toNat*3+2) rfl h1 rfl gu zW.1 zW.2) ?_;rw[aS];have hget:((jJ (List.map gB r.2.1)).set (r_2.1.toNat*3+2) (.mL 2 300000 (r.2.1.getD r_2.1.toNat default).2.2.length)).getD (r_2.1.toNat*3+2) .iN=.mL 2 300000 (r.2.1.getD r_2.1.toNat default).2.2.length:=by rw[aB,List.getElem?_set_self hml];rfl
    refine iL ?_;refine uD hp ?_;simp only[hget];refine uD (by first|omega|(refine⟨gu,?_⟩;first|rfl|trivial)) ?_;refine iL ?_;refine uD gu ?_;refine uD hp ?_;refine uD gu ?_;refine jo (by kernel_rfl) (iL ?_);cases h;rw[C4 (by rw[cZ];exact hml) rfl,List.set_set];refine gx.trans gx.refl ?_;refine gx.trans (gx.iP [2,3,49,50,52] (by simp)) ?_;simp only[iJ,iI,hH,hJ,ia,iA,iq,ij,gX,ig,ie,gW,gJ,gT,gK,gL,gV,gU,gM,Ob.hG,Ob.kill,AV.gY,AV.hG,ic,gC,gA,wz,gw,yI,aq,ak,Nat.reduceEqDiff,Nat.reduceLT,↓reduceIte,reduceCtorEq,bE,av];refine gx.trans (gx.Ac 300000 ir rfl ((r.2.1.getD r_2.1.toNat default).2.2++[([(-20)],[(-1)])]) gu rfl (by simp) (Uz _)) ?_;refine gx.trans (gx.Ac 6 iD rfl r.1 gu rfl rfl (PC.nh (PC.of _))) ?_;refine gx.trans (gx.Ac 200000 gB rfl (r.2.1.set r_2.1.toNat ((r.2.1.getD r_2.1.toNat default).1,(r.2.1.getD r_2.1.toNat default).2.1,(r.2.1.getD r_2.1.toNat default).2.2++[([(-20)],[(-1)])])) gu rfl (by simp) (PC.nh (PC.X2 (k:=2) (PC.of _) gu rfl (B0 gu) rfl (Ba (by simp))))) ?_;exact gx.told q_ lC
   refine it h (fun hc h=>?_) fun hc h=>?_
   ·refine wu [(0,0)] [] h fun r_4 hr_4 h=>?_
    refine kz h fun hp h=>?_
    obtain⟨hp,hp2⟩:=hp;rw[show IntKind.i64.wrap (2+r_4.1)=2+r_4.1 from by simp(disch:=omega)only[wrap_i64]];refine uD ⟨gu,gu,gu,gu⟩ ?_;refine uD hp ?_;refine uD ⟨gu,rfl⟩ ?_;refine jo (by kernel_rfl) (iL ?_);cases h;rw[C4 (by rw[wo];omega) rfl];refine gx.trans (gx.X0 64 ((jT ir (List.replicate (2+r_4.1).toNat ([],[]))).map .d) rfl (PS _)) ?_;refine gx.trans (gx.iP [2,3] (by simp)) ?_;simp only[iJ,iI,hH,hJ,ia,iA,iq,ij,gX,ig,ie,gW,gJ,gT,gK,gL,gV,gU,gM,Ob.hG,Ob.kill,AV.gY,AV.hG,ic,gC,gA,wz,gw,yI,aq,ak,Nat.reduceEqDiff,Nat.reduceLT,↓reduceIte,reduceCtorEq,bE,av];refine gx.trans (gx.Z2 64 ir (List.replicate (2+r_4.1).toNat ([],[])) gu rfl (by decide) (by simp;omega)) ?_;refine gx.trans (gx.Ac 6 iD rfl r.1 gu rfl rfl (PC.nh (PC.of _))) ?_;refine gx.trans (gx.Ac 200000 gB rfl (r.2.1.set r_2.1.toNat ((r.2.1.getD r_2.1.toNat default).1,(r.2.1.getD r_2.1.toNat default).2.1,List.replicate (2+r_4.1).toNat ([],[]))) gu rfl (by simp) (PC.nh (PC.X2 (k:=2) (PC.of _) gu rfl (B0 gu) rfl (DD (by simp))))) ?_;exact gx.told q_ lC
   refine it h (fun hc h=>?_) fun hc h=>?_
   ·refine mA [(0,0)] [] h fun r_5 hr_5 h=>?_
    cases h;refine gx.trans (gx.Ac 200000 gB rfl r.2.1 gu rfl rfl (PC.of _)) ?_;refine gx.trans (gx.iP [2,3,6] (by simp)) ?_;exact gx.told q_ lC
   cases h;refine gx.trans (gx.Ac 6 iD rfl r.1 gu rfl rfl (PC.of _)) ?_;refine gx.trans (gx.Ac 200000 gB rfl r.2.1 gu rfl rfl (PC.nh (PC.of _))) ?_;refine gx.trans (gx.iP [2,3] (by simp)) ?_;exact gx.told q_ lC
  cases h;refine gx.trans (gx.Ac 6 iD rfl r.1 gu rfl rfl (PC.of _)) ?_;refine gx.trans (gx.Ac 200000 gB rfl r.2.1 gu rfl rfl (PC.nh (PC.of _))) ?_;refine gx.trans (gx.iP [2,3] (by simp)) ?_;exact gx.told q_ lC
 cases h;refine gx.trans (gx.Ac 6 iD rfl r.1 gu rfl rfl (PC.of _)) ?_;refine gx.trans (gx.Ac 200000 gB rfl r.2.1 gu rfl rfl (PC.nh (PC.of _))) ?_;refine gx.trans (gx.iP [2,3] (by simp)) ?_;exact gx.told q_ lC⟩
def XH:gR:=
 (.seq (.gz (sq 2 [mi 0])) (.seq (.gz (sq 3 [.mH 3 2 1 [(i0 (-1)),(i0 0),(i0 1),(i0 2147483648),(i0 (-2147483648)),(i0 1099511627776),(i0 4611686018427387904),(i0 (-4611686018427387904)),(i0 9223372036854775807),(i0 (-9223372036854775808))],mv 0,.ji 39 [(t0 4),(i0 10)],ix 1 3 5,ld 6]++sq 2 [mv 7])) .ret))
theorem ZL:lE Tryz.prog 85 XH 8 [.tmp 2]:=mf Tryz.func85 Tryz.ntmps85
def rV(c0:fI)(c1:Int)(c2:Int):Option (Int×Int×Int):=
 (gF 10 c0 c1 c2).bind fun r=>
 if 0<=r.1/\r.1<10 then
  some (([(-1),0,1,2147483648,(-2147483648),1099511627776,4611686018427387904,(-4611686018427387904),9223372036854775807,(-9223372036854775808)].getD r.1.toNat default),r.2.1,r.2.2)
 else none
instance RA{c0:Cd}{c1:Int}{c2:Int}:iH (rV c0.l c1 c2) fun rr=>hY Tryz.prog 85 [.ptr 0 0] [(0,.obj 75 [.nm c0.v 1 (List.map (kD .u8) c0.l),.d (iD c1),.d (iD c2)])] 1 fun xx ss=>xx=.d (iD rr.1)/\ss=[(0,.obj 75 [.nm c0.v 1 (List.map (kD .u8) c0.l),.d (iD rr.2.1),.d (iD rr.2.2)])]:=⟨@fun rr h=>by
 delta rV at h;refine ZL.nN (gv ?_);delta XH;refine iL ?_;refine mA [(0,0)] [] h fun r hr h=>?_
 obtain⟨hp,h⟩:=uV h;repeat(refine uD gu ?_;try simp(maxSteps:=1000000) (disch:=omega)only[go_sem,<-List.map_take,<-List.map_drop,J2,Nat.reduceAdd,Nat.reduceSub,Nat.reduceLeDiff,Nat.reduceEqDiff,Nat.reduceLT,Int.reduceToNat,reduceIte,reduceCtorEq,HK (l:=[iD (-1),iD 0,iD 1,iD 2147483648,iD (-2147483648),iD 1099511627776,iD 4611686018427387904,iD (-4611686018427387904),iD 9223372036854775807,iD (-9223372036854775808)]) (f:=iD) (xs:=[(-1),0,1,2147483648,(-2147483648),1099511627776,4611686018427387904,(-4611686018427387904),9223372036854775807,(-9223372036854775808)]) rfl (n:=10) rfl])
 cases h;exact⟨[3],by simp,lC,lC⟩⟩
def we:gR:=
 (.seq (.gz (sq 3 [bo 3 26 1,.mv (.const (.slice none 0 0))])) (.seq (.seq (.gz (sq 6 [fa 0 3,ld 6,ln 7,bi .eql 8 0,mv 9]++sg 10 false 11 [la 1 3,cf 32 [11],nt 12]++sq 14 [po 10 13])) (.cond (t0 14) (.seq (.gz (sq 15 [mv 0,.ji 41 [(t0 15),(i0 (-2)),(i0 2)],.mH 17 2 1 [(t0 16)]]++sq 4 [mv 17])) .ret) .skip)) (.seq (.draw (sq 18 [mv 0,la 1 3,mv 0,.ji 39 [(t0 20),(i0 4)],.bin .add (i0 1) (t0 21),.ji 81 [(t0 18),(t0 19),(t0 22),(i0 3)]]++sq 5 [mv 23]) [[],[],[],[2],[3],[0,1,4,3],[5,5,0,1,2,3,4,5]]) (.seq (.seq (.gz (sq 24 [mv 0,.ji 40 [(t0 24),(i0 12)]])) (.cond (t0 25) (.seq (.gz (sq 26 [mv 0,.ji 39 [(t0 26),(i0 4)]])) (.block 0 (.seq (.gz (sq 29 [bi .eql 27 0]++sq 28 [mv 29])) (.cond (t0 28) (.gz (sq 30 [mv 5,mv 0,.ji 41 [(t0 31),(i0 (-2)),(i0 3)],.mH 33 2 1 [(t0 32)],ap 34 2 1 8 30 33]++sq 5 [mv 34])) (.seq (.gz (sq 36 [bi .eql 27 1]++sq 35 [mv 36])) (.cond (t0 35) (.gz (sq 37 [mv 5,mv 0,mv 5,ln 39,cf 39 [38,40],mv 0,.ji 41 [(t0 42),(i0 (-3)),(i0 4)],ix 1 37 41]++s0 (sr 1 44 43))) (.seq (.gz (sq 46 [bi .eql 27 2]++sq 45 [mv 46])) (.cond (t0 45) (.ghost (.gz (sq 47 [mv 5,.slc (t0 47) 1 (some (i0 1)) none none]++sq 5 [mv 48]))) (.seq (.gz (sq 50 [bi .eql 27 3]++sq 49 [mv 50])) (.cond (t0 49) (.gz (sq 51 [mv 5,mv 0,cf 85 [52],.mH 54 2 1 [(t0 53)],ap 55 2 1 8 51 54]++sq 5 [mv 55])) .skip)))))))))) .skip)) (.seq (.gz (sq 56 [mv 5]++sq 4 [mv 56])) .ret)))))
theorem Aa:lE Tryz.prog 80 we 57 [.tmp 4]:=mf Tryz.func80 Tryz.ntmps80
def qh(sig:fI)(c0:fI)(c1:Int)(c2:Int):Option fL:=
 if((sig.length:Int)==0)=true then
  (mj (-2) 2 c0 c1 c2).bind fun r=>
  some ([r.1],r.2.1,r.2.2)
 else
  (pF sig).bind fun r_1=>
  if r_1=true then
   (gF 4 c0 c1 c2).bind fun r_2=>
   (jF sig (IntKind.i64.wrap (1+r_2.1)) 3 c0 r_2.2.1 r_2.2.2).bind fun r_3=>
   (iC 12 c0 r_3.2.1 r_3.2.2).bind fun r_4=>
   if r_4.1=true then
    (gF 4 c0 r_4.2.1 r_4.2.2).bind fun r_5=>
    if(r_5.1==0)=true then
     (mj (-2) 3 c0 r_5.2.1 r_5.2.2).bind fun r_6=>
     if(r_3.1.length+1)*8<=140737488355328 then
      some ((r_3.1++[r_6.1]),r_6.2.1,r_6.2.2)
     else none
    else
     if(r_5.1==1)=true then
      (gF (r_3.1.length:Int) c0 r_5.2.1 r_5.2.2).bind fun r_7=>
      (mj (-3) 4 c0 r_7.2.1 r_7.2.2).bind fun r_8=>
      if 0<=r_7.1/\r_7.1<(r_3.1.length:Int)then
       some ((r_3.1.set r_7.1.toNat r_8.1),r_8.2.1,r_8.2.2)
      else none
     else
      if(r_5.1==2)=true then
       if 0<=1/\1<=(r_3.1.length:Int)then
        some ((r_3.1.drop 1),r_5.2.1,r_5.2.2)
       else none
      else
       if(r_5.1==3)=true then
        (rV c0 r_5.2.1 r_5.2.2).bind fun r_9=>
        if(r_3.1.length+1)*8<=140737488355328 then
         some ((r_3.1++[r_9.1]),r_9.2.1,r_9.2.2)
        else none
       else
        some (r_3.1,r_5.2.1,r_5.2.2)
   else
    some (r_3.1,r_4.2.1,r_4.2.2)
  else
   (mj (-2) 2 c0 c1 c2).bind fun r_10=>
   some ([r_10.1],r_10.2.1,r_10.2.2)
instance L3{sig:fI}{c0:Cd}{c1:Int}{c2:Int}:iH (qh sig c0.l c1 c2) fun rr=>hY Tryz.prog 80 [.ptr 0 0,.d (.agg [gN 1 iD sig])] [(0,.obj 75 [.nm c0.v 1 (List.map (kD .u8) c0.l),.d (iD c1),.d (iD c2)])] 1 fun xx ss=>xx=.d (gN 1 iD rr.1)/\ss=[(0,.obj 75 [.nm c0.v 1 (List.map (kD .u8) c0.l),.d (iD rr.2.1),.d (iD rr.2.2)])]:=⟨@fun rr h=>by
 delta qh at h;refine Aa.uw (gv ?_);delta we;refine iL ?_;refine it h (fun hc h=>?_) fun hc h=>?_
 ·refine mA [(0,0)] [] h fun r hr h=>?_
  cases h;exact gx.trans ((gx.iP [3,17] (by simp))) (gx.told q_ lC)
 refine rC h fun r_1 hr_1 h=>?_
 refine it h (fun hc h=>?_) fun hc h=>?_
 ·refine wu [(0,0)] [] h fun r_2 hr_2 h=>?_
  refine wu [(0,0)] [(900000,23)] h fun r_3 hr_3 h=>?_
  refine jo (by kernel_rfl) (iL ?_);refine mA [(0,0)] [] h fun r_4 hr_4 h=>?_
  refine it h (fun hc h=>?_) fun hc h=>?_
  ·refine mA [(0,0)] [] h fun r_5 hr_5 h=>?_
   refine it h (fun hc h=>?_) fun hc h=>?_
   ·refine mA [(0,0)] [] h fun r_6 hr_6 h=>?_
    refine kz h fun hp h=>?_
    cases h;exact gx.trans ((gx.trans (gx.fz 23 iD rfl (r_3.1++[r_6.1])) (gx.iP [3,33] (by simp)))) (gx.told q_ lC)
   refine it h (fun hc h=>?_) fun hc h=>?_
   ·refine mA [(0,0)] [] h fun r_7 hr_7 h=>?_
    refine mA [(0,0)] [] h fun r_8 hr_8 h=>?_
    refine kz h fun hp h=>?_
    refine Cy ?_;cases h;exact gx.trans ((gx.trans (gx.fz 23 iD rfl (r_3.1.set r_7.1.toNat r_8.1)) (gx.iP [3] (by simp)))) (gx.told q_ lC)
   refine it h (fun hc h=>?_) fun hc h=>?_
   ·refine pO.of ((iB.fz 23 iD rfl r_3.1)) ?_;refine Vr ?_;refine iL ?_;refine kz h fun hp h=>?_
    cases h;exact gx.trans ((gx.iP [3] (by simp))) (gx.told q_ lC)
   refine it h (fun hc h=>?_) fun hc h=>?_
   ·refine mA [(0,0)] [] h fun r_9 hr_9 h=>?_
    refine kz h fun hp h=>?_
    cases h;exact gx.trans ((gx.trans (gx.fz 23 iD rfl (r_3.1++[r_9.1])) (gx.iP [3,54] (by simp)))) (gx.told q_ lC)
   cases h;exact gx.trans ((gx.trans (gx.fz 23 iD rfl r_3.1) (gx.iP [3] (by simp)))) (gx.told q_ lC)
  cases h;exact gx.trans ((gx.trans (gx.fz 23 iD rfl r_3.1) (gx.iP [3] (by simp)))) (gx.told q_ lC)
 refine mA [(0,0)] [] h fun r_10 hr_10 h=>?_
 cases h;exact gx.trans ((gx.iP [3,17] (by simp))) (gx.told q_ lC)⟩
def W2:gR:=
 (.seq (.gz (sq 3 [bo 3 29 1,.mv (.const (.slice none 0 0))])) (.seq (.seq (.gz (sq 9 [la 2 3,cf 29 [9],nt 10])) (.cond (t0 11) (.seq (.gz (sq 12 [mv 0,fa 0 3,la 1 13,cf 80 [12,14]]++sq 4 [mv 15])) .ret) .skip)) (.seq (.seq (.gz (sq 16 [fa 1 3,ld 16,ln 17,bi .gtr 18 0,mv 19]++sg 20 true 21 [mv 0,.ji 40 [(t0 21),(i0 3)],nt 22]++sq 24 [pa 20 23])) (.cond (t0 24) (.seq (.gz (sq 25 [.build [.sl 0 (some true) []] []]++sq 5 [.alloc 5 93 [.sl 0 (some true) []]]++s0 (sr 1 5 25))) (.seq (.seq (.gz (sq 6 [mi 0])) (.block 0 (.loop (.seq (.seq (.gz (sq 26 [mv 6,bi .lss 26 3])) (.cond (t0 27) .skip (.exit 0))) (.seq (.block 1 (.draw (sq 30 [fa 0 5,ld 30,mv 0,fa 0 3,la 1 33,mv 0,.ji 39 [(t0 35),(i0 3)],.bin .add (i0 1) (t0 36),.ji 81 [(t0 32),(t0 34),(t0 37),(i0 0)],.mH 39 24 1 [(t0 38)],ap 40 24 1 24 31 39,fa 0 5]++s0 (sr 1 41 40)) [[],[0],[],[],[3],[],[5],[6],[2,4,7,6],[8],[1,9,8],[0,1,2,3,4,5,6,7,8,9,10],[11,10,10,0,1,2,3,4,5,6,7,8,9,10]])) (.gz (sq 28 [mv 6,bi .add 28 1]++sq 6 [mv 29]))))))) (.seq (.draw (sq 43 [la 1 5,fa 1 3,ld 44,mv 0,fa 1 3,ld 47,ln 48,cf 39 [46,49],ix 3 45 50,fa 0 51,ld 52,cf 54 [43,53]]++sq 42 [mv 54]++sq 55 [ex 42 0,ex 42 1]++sq 7 [mv 55,mv 56]) [[],[],[1],[],[],[4],[5],[3,6],[2,7],[8],[9],[0,10,7],[11],[12],[12],[13,11,0,1,2,3,4,5,6,7,8,9,10,11,12,13],[14,15,0,1,2,3,4,5,6,7,8,9,10,11,12,13,14,15]]) (.seq (.gz (sq 57 [mv 8])) (.cond (t0 57) (.seq (.gz (sq 58 [mv 7]++sq 4 [mv 58])) .ret) .skip))))) .skip)) (.seq (.draw (sq 59 [mv 0,fa 0 3,la 1 60,mv 0,.ji 39 [(t0 62),(i0 4)],.bin .add (i0 1) (t0 63),.ji 81 [(t0 59),(t0 61),(t0 64),(i0 0)]]++sq 4 [mv 65]) [[],[],[1],[],[3],[4],[0,2,5,4],[6,6,0,1,2,3,4,5,6]]) .ret))))
theorem Za:lE Tryz.prog 38 W2 66 [.tmp 4]:=mf Tryz.func38 Tryz.ntmps38
def qW(cs:gm)(c0:fI):(Int×Int×Int×fM)->Option ((Int×Int×Int×fM)⊕fL)
 |(i,c,c_1,s)=>
  if(decide (i<3))=true then
   (gF 3 c0 c c_1).bind fun r_4=>
   (iV cs.1 (IntKind.i64.wrap (1+r_4.1)) 0 c0 r_4.2.1 r_4.2.2).bind fun r_5=>
   if(s.length+1)*24<=140737488355328 then
    some (.inl ((IntKind.i64.wrap (i+1)),r_5.2.1,r_5.2.2,(s++[r_5.1])))
   else none
  else
   Option.map Sum.inr (
    (gF (cs.2.length:Int) c0 c c_1).bind fun r_6=>
    if 0<=r_6.1/\r_6.1<(cs.2.length:Int)then
     (ku s ((cs.2.getD r_6.1.toNat default).1)).bind fun r_7=>
     if r_7.2=true then
      some (r_7.1,r_6.2.1,r_6.2.2)
     else
      (gF 4 c0 r_6.2.1 r_6.2.2).bind fun r_8=>
      (iV cs.1 (IntKind.i64.wrap (1+r_8.1)) 0 c0 r_8.2.1 r_8.2.2).bind fun r_9=>
      some r_9
    else none)
def oI(cs:gm)(c0:fI)(c1:Int)(c2:Int):Option fL:=
 (kW cs).bind fun r=>
 if r=true then
  if(decide (0<(cs.2.length:Int)))=true then
   (iC 3 c0 c1 c2).bind fun r_1=>
   if r_1.1=true then
    (gF 4 c0 r_1.2.1 r_1.2.2).bind fun r_2=>
    (iV cs.1 (IntKind.i64.wrap (1+r_2.1)) 0 c0 r_2.2.1 r_2.2.2).bind fun r_3=>
    some r_3
   else
    gI (qW cs c0) (0,r_1.2.1,r_1.2.2,[])
  else
   (gF 4 c0 c1 c2).bind fun r_10=>
   (iV cs.1 (IntKind.i64.wrap (1+r_10.1)) 0 c0 r_10.2.1 r_10.2.2).bind fun r_11=>
   some r_11
 else
  (qh cs.1 c0 c1 c2).bind fun r_12=>
  some r_12
instance Ji{cs:gm}{c0:Cd}{c1:Int}{c2:Int}:iH (oI cs c0.l c1 c2) fun rr=>hY Tryz.prog 38 [.ptr 0 0,.d (.agg [gN 1 iD cs.1,gN 3 gB cs.2])] [(0,.obj 75 [.nm c0.v 1 (List.map (kD .u8) c0.l),.d (iD c1),.d (iD c2)])] 1 fun xx ss=>xx=.d (gN 1 iD rr.1)/\ss=[(0,.obj 75 [.nm c0.v 1 (List.map (kD .u8) c0.l),.d (iD rr.2.1),.d (iD rr.2.2)])]:=⟨@fun rr h=>by
 delta oI at h;refine Za.nN (gv ?_);delta W2;refine iL ?_;refine rC h fun r hr h=>?_
 refine it h (fun hc h=>?_) fun hc h=>?_
 ·refine it h (fun hc h=>?_) fun hc h=>?_
  ·refine mA [(0,0)] [] h fun r_1 hr_1 h=>?_
   refine it h (fun hc h=>?_) fun hc h=>?_
   ·refine wu [(0,0)] [] h fun r_2 hr_2 h=>?_
    refine wu [(0,0)] [] h fun r_3 hr_3 h=>?_
    refine jo (by kernel_rfl) (iL ?_);cases h;exact⟨[3],by simp,lC,lC⟩
   refine rZ h [6,26,27,28,29,30,31,32,33,34,35,36,37,38,39,40,41] (fun pp=>[(6,.d (iD pp.1))]) (fun pp=>[(0,.obj 75 [.nm c0.v 1 (List.map (kD .u8) c0.l),.d (iD pp.2.1),.d (iD pp.2.2.1)]),(3,.obj 29 [.d (gN 1 iD cs.1),.d (gN 3 gB cs.2)]),(5,.obj 93 [.own 1 40 (List.map (gN 1 iD) pp.2.2.2)]),(40,.tok 24 1 pp.2.2.2.length)]) ?_ ?_
   ·try dsimp only
    refine(iB.yb 5 0 40 24 1 rfl rfl rfl).trans ?_;exact wk
   rintro⟨i,c,c_1,s⟩ t1 h hb1;unfold qW at h;try dsimp only at h
   refine gv (iL ?_);refine it h (fun hc h=>?_) fun hc h=>?_
   ·refine wu [(0,0)] [] h fun r_4 hr_4 h=>?_
    refine wu [(0,0)] [] h fun r_5 hr_5 h=>?_
    refine kz h fun hp h=>?_
    refine jo (by kernel_rfl) (iL ?_);cases h;refine⟨_,rfl,?_⟩;refine(iB.drop 39 gu).trans ?_;exact wk
   replace h:=g_ h hb1;refine wu [(0,0)] [] h fun r_6 hr_6 h=>?_
   refine kz h fun hp h=>?_
   refine QY h fun r_7 hr_7 h=>?_
   refine jo (by kernel_rfl) (iL ?_);refine it h (fun hc h=>?_) fun hc h=>?_
   ·cases h;exact⟨[3,5,40],by simp,lC,lC⟩
   refine wu [(0,0)] [] h fun r_8 hr_8 h=>?_
   refine wu [(0,0)] [] h fun r_9 hr_9 h=>?_
   refine jo (by kernel_rfl) (iL ?_);cases h;exact⟨[3,5,40],by simp,lC,lC⟩
  refine wu [(0,0)] [] h fun r_10 hr_10 h=>?_
  refine wu [(0,0)] [] h fun r_11 hr_11 h=>?_
  refine jo (by kernel_rfl) (iL ?_);cases h;exact⟨[3],by simp,lC,lC⟩
 refine mA [(0,0)] [] h fun r_12 hr_12 h=>?_
 cases h;exact⟨[3],by simp,lC,lC⟩⟩
def XI:gR:=
 (.seq (.gz (sq 4 [mi 0])) (.seq (.seq (.gz (sq 5 [mv 0,mv 1,bn .lss 5 6])) (.cond (t0 7) (.seq (.gz (sq 8 [mv 0]++sq 4 [mv 8])) .ret) .skip)) (.seq (.gz (sq 9 [mv 1]++sq 4 [mv 9])) .ret)))
theorem ZM:lE Tryz.prog 86 XI 10 [.tmp 4]:=mf Tryz.func86 Tryz.ntmps86
def wh(a:Int)(b:Int):Option Int:=
 if(decide (a<b))=true then
  some a
 else
  some b
instance Rx{a:Int}{b:Int}:iH (wh a b) fun rr=>lz Tryz.prog 86 [iD a,iD b] (iD rr):=⟨@fun rr h=>by
 delta wh at h;refine ZM.jO (gv ?_);delta XI;refine iL ?_;exact od⟩
def W7:gR:=
 (.seq (.gz (sq 4 [mi 0])) (.seq (.seq (.gz (sq 5 [mv 0,.ji 40 [(t0 5),(i0 10)]])) (.cond (t0 6) (.seq (.gz (sq 7 [mv 1,mv 1,bi .add 8 1,mv 0,cf 85 [10],.mH 12 2 1 [(i0 (-1)),(t0 7),(t0 9),(t0 11)],mv 0,.ji 39 [(t0 13),(i0 4)],ix 1 12 14,ld 15]++sq 4 [mv 16])) .ret) .skip)) (.seq (.seq (.gz (sq 17 [mv 0,.ji 40 [(t0 17),(i0 2)]])) (.cond (t0 18) (.seq (.gz (sq 19 [mv 0,mv 1,.ji 86 [(t0 20),(i0 4)],bi .add 21 1,cf 39 [19,22]]++sq 4 [mv 23])) .ret) .skip)) (.seq (.gz (sq 24 [mv 0,mv 1,bi .add 25 1,cf 39 [24,26]]++sq 4 [mv 27])) .ret))))
theorem Zf:lE Tryz.prog 44 W7 28 [.tmp 4]:=mf Tryz.func44 Tryz.ntmps44
def h_(most:Int)(c0:fI)(c1:Int)(c2:Int):Option (Int×Int×Int):=
 (iC 10 c0 c1 c2).bind fun r=>
 if r.1=true then
  (rV c0 r.2.1 r.2.2).bind fun r_1=>
  (gF 4 c0 r_1.2.1 r_1.2.2).bind fun r_2=>
  if 0<=r_2.1/\r_2.1<4 then
   some (([(-1),most,(IntKind.i64.wrap (most+1)),r_1.1].getD r_2.1.toNat default),r_2.2.1,r_2.2.2)
  else none
 else
  (iC 2 c0 r.2.1 r.2.2).bind fun r_3=>
  if r_3.1=true then
   (wh most 4).bind fun r_4=>
   (gF (IntKind.i64.wrap (r_4+1)) c0 r_3.2.1 r_3.2.2).bind fun r_5=>
   some r_5
  else
   (gF (IntKind.i64.wrap (most+1)) c0 r_3.2.1 r_3.2.2).bind fun r_6=>
   some r_6
instance Rz{most:Int}{c0:Cd}{c1:Int}{c2:Int}:iH (h_ most c0.l c1 c2) fun rr=>hY Tryz.prog 44 [.ptr 0 0,.d (iD most)] [(0,.obj 75 [.nm c0.v 1 (List.map (kD .u8) c0.l),.d (iD c1),.d (iD c2)])] 1 fun xx ss=>xx=.d (iD rr.1)/\ss=[(0,.obj 75 [.nm c0.v 1 (List.map (kD .u8) c0.l),.d (iD rr.2.1),.d (iD rr.2.2)])]:=⟨@fun rr h=>by
 delta h_ at h;refine Zf.nN (gv ?_);delta W7;refine iL ?_;refine mA [(0,0)] [] h fun r hr h=>?_
 refine it h (fun hc h=>?_) fun hc h=>?_
 ·refine mA [(0,0)] [] h fun r_1 hr_1 h=>?_
  refine mA [(0,0)] [] h fun r_2 hr_2 h=>?_
  obtain⟨hp,h⟩:=uV h;repeat(refine uD gu ?_;try simp(maxSteps:=1000000) (disch:=omega)only[go_sem,<-List.map_take,<-List.map_drop,J2,Nat.reduceAdd,Nat.reduceSub,Nat.reduceLeDiff,Nat.reduceEqDiff,Nat.reduceLT,Int.reduceToNat,reduceIte,reduceCtorEq,HK (l:=[iD (-1),iD most,iD (IntKind.i64.wrap (most+1)),iD r_1.1]) (f:=iD) (xs:=[(-1),most,(IntKind.i64.wrap (most+1)),r_1.1]) rfl (n:=4) rfl])
  cases h;exact⟨[12],by simp,lC,lC⟩
 refine mA [(0,0)] [] h fun r_3 hr_3 h=>?_
 refine it h (fun hc h=>?_) fun hc h=>?_
 ·refine rC h fun r_4 hr_4 h=>?_
  refine mA [(0,0)] [] h fun r_5 hr_5 h=>?_
  exact od
 refine mA [(0,0)] [] h fun r_6 hr_6 h=>?_
 exact od⟩
def WJ:gR:=
 (.seq (.gz (sq 2 [.alloc 2 29 [.sl 0 (some true) [],.sl 0 (some true) []],.mv (.const (.slice none 0 0)),mi 0,mi 0,mi 0])) (.seq (.gz (sq 14 [mv 0,cf 37 [14]]++sq 7 [.alloc 7 29 [.sl 0 (some true) [],.sl 0 (some true) []]]++s0 (sr 2 7 15))) (.seq (.gz (sq 16 [mv 0,la 2 7,cf 38 [16,17]]++sq 8 [mv 18])) (.seq (.gz (sq 19 [mv 0,.ji 39 [(t0 19),(i0 3)]]++sq 9 [mv 20])) (.seq (.seq (.gz (sq 21 [mv 0,.ji 40 [(t0 21),(i0 20)]])) (.cond (t0 22) (.gz (sq 23 [mv 0,.ji 41 [(t0 23),(i0 (-1)),(i0 3)]]++sq 9 [mv 24])) .skip)) (.seq (.seq (.gz (sq 25 [la 2 7,cf 29 [25],mv 26]++sg 27 true 28 [mv 0,.ji 40 [(t0 28),(i0 4)],nt 29]++sq 31 [pa 27 30,mv 31]++sg 32 true 33 [mv 9,.ji 22 [(t0 33),(i0 0),(i0 2)]]++sq 35 [pa 32 34,mv 35]++sg 36 true 37 [fa 0 7,la 1 37,mv 8,cf 42 [38,39]]++sq 41 [pa 36 40])) (.cond (t0 41) (.seq (.gz (sq 43 [la 2 7,mv 8,mv 9,cf 43 [43,44,45]]++sq 42 [mv 46]++sq 47 [ex 42 0,ex 42 1,ex 42 2]++sq 10 [mv 47,mv 48,mv 49])) (.seq (.gz (sq 50 [mv 12])) (.cond (t0 50) (.seq (.gz (sq 51 [la 2 7,mv 8,mv 10,mv 11,mv 9]++s0 (sr 2 2 51)++sq 3 [mv 52,mv 53,mv 54,mv 55])) .ret) .skip))) .skip)) (.seq (.gz (sq 56 [mv 0,mv 8,ln 57,cf 44 [56,58]]++sq 13 [mv 59])) (.seq (.draw (sq 60 [la 2 7,mv 8,mv 13,mv 0,fa 1 7,ld 64,ln 65,cf 44 [63,66],mv 9]++s0 (sr 2 2 60)++sq 3 [mv 61,mv 62,mv 67,mv 68]) [[],[],[],[],[],[4],[5],[3,6],[],[0,7,0],[1,9,0,1,9],[2,10,0,1,2,9,10],[7,11,0,1,2,3,4,5,6,7,9,10,11],[8,12,0,1,2,3,4,5,6,7,8,9,10,11,12]]) .ret))))))))
theorem YT:lE Tryz.prog 17 WJ 69 [.cell 2 2 true,.tmp 3,.tmp 4,.tmp 5,.tmp 6]:=mf Tryz.func17 Tryz.ntmps17
def oH(c0:fI)(c1:Int)(c2:Int):Option (gm×fI×Int×Int×Int×Int×Int):=
 (pG c0 c1 c2).bind fun r=>
 (oI r.1 c0 r.2.1 r.2.2).bind fun r_1=>
 (gF 3 c0 r_1.2.1 r_1.2.2).bind fun r_2=>
 (iC 20 c0 r_2.2.1 r_2.2.2).bind fun r_3=>
 if r_3.1=true then
  (mj (-1) 3 c0 r_3.2.1 r_3.2.2).bind fun r_4=>
  (kW r.1).bind fun r_5=>
  if r_5=true then
   (iC 4 c0 r_4.2.1 r_4.2.2).bind fun r_6=>
   if r_6.1=true then
    (h_ (r_1.1.length:Int) c0 r_6.2.1 r_6.2.2).bind fun r_7=>
    (h_ (r.1.2.length:Int) c0 r_7.2.1 r_7.2.2).bind fun r_8=>
    some (r.1,r_1.1,r_7.1,r_8.1,r_4.1,r_8.2.1,r_8.2.2)
   else
    (kX r_4.1 0 2).bind fun r_9=>
    if r_9=true then
     (jE r.1.1 r_1.1).bind fun r_10=>
     if r_10=true then
      (kJ r.1 r_1.1 r_4.1).bind fun r_11=>
      if r_11.2.2=true then
       some (r.1,r_1.1,r_11.1,r_11.2.1,r_4.1,r_6.2.1,r_6.2.2)
      else
       (h_ (r_1.1.length:Int) c0 r_6.2.1 r_6.2.2).bind fun r_12=>
       (h_ (r.1.2.length:Int) c0 r_12.2.1 r_12.2.2).bind fun r_13=>
       some (r.1,r_1.1,r_12.1,r_13.1,r_4.1,r_13.2.1,r_13.2.2)
     else
      (h_ (r_1.1.length:Int) c0 r_6.2.1 r_6.2.2).bind fun r_14=>
      (h_ (r.1.2.length:Int) c0 r_14.2.1 r_14.2.2).bind fun r_15=>
      some (r.1,r_1.1,r_14.1,r_15.1,r_4.1,r_15.2.1,r_15.2.2)
    else
     (h_ (r_1.1.length:Int) c0 r_6.2.1 r_6.2.2).bind fun r_16=>
     (h_ (r.1.2.length:Int) c0 r_16.2.1 r_16.2.2).bind fun r_17=>
     some (r.1,r_1.1,r_16.1,r_17.1,r_4.1,r_17.2.1,r_17.2.2)
  else
   (h_ (r_1.1.length:Int) c0 r_4.2.1 r_4.2.2).bind fun r_18=>
   (h_ (r.1.2.length:Int) c0 r_18.2.1 r_18.2.2).bind fun r_19=>
   some (r.1,r_1.1,r_18.1,r_19.1,r_4.1,r_19.2.1,r_19.2.2)
 else
  (kW r.1).bind fun r_20=>
  if r_20=true then
   (iC 4 c0 r_3.2.1 r_3.2.2).bind fun r_21=>
   if r_21.1=true then
    (h_ (r_1.1.length:Int) c0 r_21.2.1 r_21.2.2).bind fun r_22=>
    (h_ (r.1.2.length:Int) c0 r_22.2.1 r_22.2.2).bind fun r_23=>
    some (r.1,r_1.1,r_22.1,r_23.1,r_2.1,r_23.2.1,r_23.2.2)
   else
    (kX r_2.1 0 2).bind fun r_24=>
    if r_24=true then
     (jE r.1.1 r_1.1).bind fun r_25=>
     if r_25=true then
      (kJ r.1 r_1.1 r_2.1).bind fun r_26=>
      if r_26.2.2=true then
       some (r.1,r_1.1,r_26.1,r_26.2.1,r_2.1,r_21.2.1,r_21.2.2)
      else
       (h_ (r_1.1.length:Int) c0 r_21.2.1 r_21.2.2).bind fun r_27=>
       (h_ (r.1.2.length:Int) c0 r_27.2.1 r_27.2.2).bind fun r_28=>
       some (r.1,r_1.1,r_27.1,r_28.1,r_2.1,r_28.2.1,r_28.2.2)
     else
      (h_ (r_1.1.length:Int) c0 r_21.2.1 r_21.2.2).bind fun r_29=>
      (h_ (r.1.2.length:Int) c0 r_29.2.1 r_29.2.2).bind fun r_30=>
      some (r.1,r_1.1,r_29.1,r_30.1,r_2.1,r_30.2.1,r_30.2.2)
    else
     (h_ (r_1.1.length:Int) c0 r_21.2.1 r_21.2.2).bind fun r_31=>
     (h_ (r.1.2.length:Int) c0 r_31.2.1 r_31.2.2).bind fun r_32=>
     some (r.1,r_1.1,r_31.1,r_32.1,r_2.1,r_32.2.1,r_32.2.2)
  else
   (h_ (r_1.1.length:Int) c0 r_3.2.1 r_3.2.2).bind fun r_33=>
   (h_ (r.1.2.length:Int) c0 r_33.2.1 r_33.2.2).bind fun r_34=>
   some (r.1,r_1.1,r_33.1,r_34.1,r_2.1,r_34.2.1,r_34.2.2)
instance Jh{c0:Cd}{c1:Int}{c2:Int}:iH (oH c0.l c1 c2) fun rr=>hY Tryz.prog 17 [.ptr 0 0] [(0,.obj 75 [.nm c0.v 1 (List.map (kD .u8) c0.l),.d (iD c1),.d (iD c2)])] 1 fun xx ss=>xx=.oz [.d (.agg [gN 1 iD rr.1.1,gN 3 gB rr.1.2]),.d (gN 1 iD rr.2.1),.d (iD rr.2.2.1),.d (iD rr.2.2.2.1),.d (iD rr.2.2.2.2.1)]/\ss=[(0,.obj 75 [.nm c0.v 1 (List.map (kD .u8) c0.l),.d (iD rr.2.2.2.2.2.1),.d (iD rr.2.2.2.2.2.2)])]:=⟨@fun rr h=>by
 delta oH at h;refine YT.nN (gv ?_);delta WJ;refine iL ?_;refine mA [(0,0)] [] h fun r hr h=>?_
 refine mA [(0,0)] [] h fun r_1 hr_1 h=>?_
 refine mA [(0,0)] [] h fun r_2 hr_2 h=>?_
 refine mA [(0,0)] [] h fun r_3 hr_3 h=>?_
 refine it h (fun hc h=>?_) fun hc h=>?_
 ·refine mA [(0,0)] [] h fun r_4 hr_4 h=>?_
  refine rC h fun r_5 hr_5 h=>?_
  refine it h (fun hc h=>?_) fun hc h=>?_
  ·refine mA [(0,0)] [] h fun r_6 hr_6 h=>?_
   refine it h (fun hc h=>?_) fun hc h=>?_
   ·refine mA [(0,0)] [] h fun r_7 hr_7 h=>?_
    refine wu [(0,0)] [] h fun r_8 hr_8 h=>?_
    refine jo (by kernel_rfl) (iL ?_);cases h;exact⟨[2,7],by simp,lC,lC⟩
   refine rC h fun r_9 hr_9 h=>?_
   refine it h (fun hc h=>?_) fun hc h=>?_
   ·refine rC h fun r_10 hr_10 h=>?_
    refine it h (fun hc h=>?_) fun hc h=>?_
    ·refine G4 h fun r_11 hr_11 h=>?_
     refine it h (fun hc h=>?_) fun hc h=>?_
     ·cases h;exact⟨[2,7],by simp,lC,lC⟩
     refine mA [(0,0)] [] h fun r_12 hr_12 h=>?_
     refine wu [(0,0)] [] h fun r_13 hr_13 h=>?_
     refine jo (by kernel_rfl) (iL ?_);cases h;exact⟨[2,7],by simp,lC,lC⟩
    refine mA [(0,0)] [] h fun r_14 hr_14 h=>?_
    refine wu [(0,0)] [] h fun r_15 hr_15 h=>?_
    refine jo (by kernel_rfl) (iL ?_);cases h;exact⟨[2,7],by simp,lC,lC⟩
   refine mA [(0,0)] [] h fun r_16 hr_16 h=>?_
   refine wu [(0,0)] [] h fun r_17 hr_17 h=>?_
   refine jo (by kernel_rfl) (iL ?_);cases h;exact⟨[2,7],by simp,lC,lC⟩
  refine mA [(0,0)] [] h fun r_18 hr_18 h=>?_
  refine wu [(0,0)] [] h fun r_19 hr_19 h=>?_
  refine jo (by kernel_rfl) (iL ?_);cases h;exact⟨[2,7],by simp,lC,lC⟩
 refine rC h fun r_20 hr_20 h=>?_
 refine it h (fun hc h=>?_) fun hc h=>?_
 ·refine mA [(0,0)] [] h fun r_21 hr_21 h=>?_
  refine it h (fun hc h=>?_) fun hc h=>?_
  ·refine mA [(0,0)] [] h fun r_22 hr_22 h=>?_
   refine wu [(0,0)] [] h fun r_23 hr_23 h=>?_
   refine jo (by kernel_rfl) (iL ?_);cases h;exact⟨[2,7],by simp,lC,lC⟩
  refine rC h fun r_24 hr_24 h=>?_
  refine it h (fun hc h=>?_) fun hc h=>?_
  ·refine rC h fun r_25 hr_25 h=>?_
   refine it h (fun hc h=>?_) fun hc h=>?_
   ·refine G4 h fun r_26 hr_26 h=>?_
    refine it h (fun hc h=>?_) fun hc h=>?_
    ·cases h;exact⟨[2,7],by simp,lC,lC⟩
    refine mA [(0,0)] [] h fun r_27 hr_27 h=>?_
    refine wu [(0,0)] [] h fun r_28 hr_28 h=>?_
    refine jo (by kernel_rfl) (iL ?_);cases h;exact⟨[2,7],by simp,lC,lC⟩
   refine mA [(0,0)] [] h fun r_29 hr_29 h=>?_
   refine wu [(0,0)] [] h fun r_30 hr_30 h=>?_
   refine jo (by kernel_rfl) (iL ?_);cases h;exact⟨[2,7],by simp,lC,lC⟩
  refine mA [(0,0)] [] h fun r_31 hr_31 h=>?_
  refine wu [(0,0)] [] h fun r_32 hr_32 h=>?_
  refine jo (by kernel_rfl) (iL ?_);cases h;exact⟨[2,7],by simp,lC,lC⟩
 refine mA [(0,0)] [] h fun r_33 hr_33 h=>?_
 refine wu [(0,0)] [] h fun r_34 hr_34 h=>?_
 refine jo (by kernel_rfl) (iL ?_);cases h;exact⟨[2,7],by simp,lC,lC⟩⟩
theorem Q1{P:Program}{f:Nat}{mc:gR}{n:Nat}{rs:List wE}(h:lE P f mc n rs){e0:Nat}{c0:List D}{ds:List D}
 (hm:∀u:Value,sV P 0 mc (Dx rs fun x _=>AV.le x (.oz (ds.map .d))) ([.nm u e0 c0]++List.replicate (n-1) .iN) []):ki P f [.sl e0 none c0] ds:=
 hY.PA fun u=>(h.calls (hm u)).mono fun _ _ hx=>⟨_,hx,rfl⟩
def mc5:gR:=
 (.seq (.gz (sq 2 [.alloc 2 29 [.sl 0 (some true) [],.sl 0 (some true) []],.mv (.const (.slice none 0 0)),mi 0,mi 0,mi 0])) (.seq (.gz (sq 8 [mv 0,cf 16 [8]]++sq 7 [mv 9])) (.seq (.gz (sq 10 [mv 7,cf 17 [10],ex 11 0,ex 11 1,ex 11 2,ex 11 3,ex 11 4]++s0 (sr 2 2 12)++sq 3 [mv 13,mv 14,mv 15,mv 16])) .ret)))
theorem fn5:lE Tryz.prog 5 mc5 17 [.cell 2 2 true,.tmp 3,.tmp 4,.tmp 5,.tmp 6]:=mf Tryz.func5 Tryz.ntmps5
def mz(code:fI):Option (gm×fI×Int×Int×Int):=
 (ug code).bind fun r=>
 (oH code r.2.1 r.2.2).bind fun r_1=>
 some (r_1.1,r_1.2.1,r_1.2.2.1,r_1.2.2.2.1,r_1.2.2.2.2.1)
theorem RJ{c0:Cd}{rr:(gm×fI×Int×Int×Int)}(h:mz c0.l=some rr):
 sV Tryz.prog 0 mc5 (Dx [.cell 2 2 true,.tmp 3,.tmp 4,.tmp 5,.tmp 6] fun x _=>AV.le x (.oz ([gP rr.1,(gN 1 iD) rr.2.1,iD rr.2.2.1,iD rr.2.2.2.1,iD rr.2.2.2.2].map .d))) ([.nm c0.v 1 (List.map (kD .u8) c0.l)]++List.replicate (17-1) .iN) []:=by
 delta mz at h;refine gv ?_;delta mc5;refine iL ?_;refine mA [] [(27,9)] h fun r hr h=>?_
 refine mA [(0,9)] [] h fun r_1 hr_1 h=>?_
 exact od
instance Jg{code:fI}:iH (mz code) fun rr=>ki Tryz.prog 5 [(gN 1 (kD .u8)) code] [gP rr.1,(gN 1 iD) rr.2.1,iD rr.2.2.1,iD rr.2.2.2.1,iD rr.2.2.2.2]:=⟨@fun rr h=>Q1 fn5 fun u=>RJ (c0:=⟨u,code⟩) h⟩
def mc4:gR:=
 (.seq (.gz (sq 2 [mb false])) (.seq (.gz (sq 3 [mv 0,ln 3,bi .gtr 4 4096]++sq 2 [mv 5])) .ret))
theorem fn4:lE Tryz.prog 4 mc4 6 [.tmp 2]:=mf Tryz.func4 Tryz.ntmps4
def yj(code:fI):Option Bool:=
 some (decide (4096<(code.length:Int)))
instance Up{code:fI}:iH (yj code) fun rr=>lz Tryz.prog 4 [(gN 1 (kD .u8)) code] (bD rr):=⟨@fun rr h=>by
 delta yj at h;refine fn4.jO (gv ?_);delta mc4;refine iL ?_;exact od⟩
def mc3:gR:=
 (.seq (.gz (sq 2 [mb false])) (.seq (.seq (.gz (sq 20 [mv 0,cf 4 [20]])) (.cond (t0 21) (.seq (.gz (sq 2 [mb true])) .ret) .skip)) (.seq (.gz (sq 23 [mv 0,cf 5 [23]]++sq 22 [mv 24]++sq 25 [ex 22 0,ex 22 1,ex 22 2,ex 22 3,ex 22 4]++sq 3 [.alloc 3 29 [.sl 0 (some true) [],.sl 0 (some true) []]]++s0 (sr 2 3 25)++sq 4 [mv 26,mv 27,mv 28,mv 29])) (.seq (.gz (sq 31 [la 2 3,mv 4,mv 5,mv 6,mv 7,cf 6 [31,32,33,34,35]]++sq 30 [mv 36]++sq 37 [ex 30 0,ex 30 1]++sq 8 [mv 37,mv 38])) (.seq (.gz (sq 40 [la 2 3,mv 4,mv 5,mv 6,mv 7,cf 7 [40,41,42,43,44]]++sq 39 [mv 45]++sq 46 [ex 39 0,ex 39 1]++sq 10 [mv 46,mv 47])) (.seq (.gz (sq 49 [la 2 3,mv 4,mv 5,mv 6,mv 7,cf 8 [49,50,51,52,53]]++sq 48 [mv 54]++sq 55 [ex 48 0,ex 48 1]++sq 12 [.alloc 12 36 [.sl 0 (some true) [],.sl 0 (some true) []]]++s0 (sr 2 12 55)++sq 13 [mv 56])) (.seq (.gz (sq 58 [la 2 3,mv 4,mv 5,mv 6,mv 7,cf 9 [58,59,60,61,62]]++sq 57 [mv 63]++sq 64 [ex 57 0,ex 57 1]++sq 14 [.alloc 14 36 [.sl 0 (some true) [],.sl 0 (some true) []]]++s0 (sr 2 14 64)++sq 15 [mv 65])) (.seq (.gz (sq 67 [la 2 3,cf 10 [67]]++sq 66 [mv 68]++sq 69 [ex 66 0,ex 66 1]++sq 16 [.alloc 16 41 [.sl 0 (some true) [],.sl 0 (some true) []]]++s0 (sr 2 16 69)++sq 17 [mv 70])) (.seq (.gz (sq 72 [la 2 3,cf 11 [72]]++sq 71 [mv 73]++sq 74 [ex 71 0,ex 71 1]++sq 18 [.alloc 18 41 [.sl 0 (some true) [],.sl 0 (some true) []]]++s0 (sr 2 18 74)++sq 19 [mv 75])) (.seq (.seq (.gz (sq 76 [mv 9,mv 11,.CO true (t0 76) (t0 77),mv 78]++sg 79 false 80 [mv 8,mv 10,cf 12 [80,81],nt 82]++sq 84 [po 79 83,mv 84]++sg 85 false 86 [mv 13,mv 15,.CO true (t0 86) (t0 87)]++sq 89 [po 85 88,mv 89]++sg 90 false 91 [mv 17,mv 19,.CO true (t0 91) (t0 92)]++sq 94 [po 90 93])) (.cond (t0 94) (.seq (.gz (sq 2 [mb false])) .ret) .skip)) (.seq (.seq (.gz (sq 95 [mv 13,nt 95])) (.cond (t0 96) (.seq (.gz (sq 97 [fa 1 12,ld 97,ln 98,bi .eql 99 0]++sq 2 [mv 100])) .ret) .skip)) (.seq (.gz (sq 101 [la 2 16,cf 13 [101],mv 102]++sg 103 true 104 [la 2 16,la 2 12,cf 14 [104,105]]++sq 107 [pa 103 106,mv 107]++sg 108 true 109 [fa 0 12,ld 109,mv 4,cf 12 [110,111]]++sq 113 [pa 108 112,mv 113]++sg 114 true 115 [la 2 16,la 2 12,cf 15 [115,116],mv 8,cf 12 [117,118]]++sq 120 [pa 114 119]++sq 2 [mv 120])) .ret))))))))))))
theorem fn3:lE Tryz.prog 3 mc3 121 [.tmp 2]:=mf Tryz.func3 Tryz.ntmps3
def pY(code:fI):Option Bool:=
 (yj code).bind fun r=>
 if r=true then
  some true
 else
  (mz code).bind fun r_1=>
  (qd r_1.1 r_1.2.1 r_1.2.2.1 r_1.2.2.2.1 r_1.2.2.2.2).bind fun r_2=>
  (qf r_1.1 r_1.2.1 r_1.2.2.1 r_1.2.2.2.1 r_1.2.2.2.2).bind fun r_3=>
  (rj r_1.1 r_1.2.1 r_1.2.2.1 r_1.2.2.2.1 r_1.2.2.2.2).bind fun r_4=>
  (ru r_1.1 r_1.2.1 r_1.2.2.1 r_1.2.2.2.1 r_1.2.2.2.2).bind fun r_5=>
  (pn r_1.1).bind fun r_6=>
  (nT r_1.1).bind fun r_7=>
  if(r_2.2 != r_3.2)=true then
   some false
  else
   (lM r_2.1 r_3.1).bind fun r_8=>
   if r_8=true then
    if(r_4.2 != r_5.2)=true then
     some false
    else
     if(r_6.2 != r_7.2)=true then
      some false
     else
      if r_4.2=true then
       (nc r_6.1).bind fun r_9=>
       if r_9=true then
        (qR r_6.1 r_4.1).bind fun r_10=>
        if r_10=true then
         (lM r_4.1.1 r_1.2.1).bind fun r_11=>
         if r_11=true then
          (ry r_6.1 r_4.1).bind fun r_12=>
          (lM r_12 r_2.1).bind fun r_13=>
          some r_13
         else
          some false
        else
         some false
       else
        some false
      else
       some ((r_4.1.2.length:Int)==0)
   else
    some false
instance zZ{code:fI}:iH (pY code) fun rr=>lz Tryz.prog 3 [(gN 1 (kD .u8)) code] (bD rr):=⟨@fun rr h=>by
 delta pY at h;refine fn3.jO (gv ?_);delta mc3;refine iL ?_;exact od⟩
end Go.Proofs.YtelhemjlfkbkeaaGreat
