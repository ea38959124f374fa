/- A part of the proof about FnExactTwoProof (S4, S3, L1, E1, E2). -/
import Derived.Test.YtjgbnaihpicpgabGreatTc
import Derived.Test.YtjgbnaihpicpgabGreatTo
set_option linter.all false
noncomputable section
namespace Go.Proofs.YtjgbnaihpicpgabGreat
open Go oq
attribute [local irreducible] uy zk yt nN mY oR kj C7 D_ BZ D9 Be vL mA oG Dk ju lM
set_option maxHeartbeats 4000000
set_option maxRecDepth 4000
instance:Cl jw:=Cl.agg _ (fun _=>rfl) (fun _=>rfl)
instance:Cl iC:=Cl.agg _ (fun _=>rfl) (fun _=>rfl)
instance:Cl iU:=Cl.agg _ (fun _=>rfl) (fun _=>rfl)
instance:Cl kN:=Cl.agg _ (fun _=>rfl) (fun _=>rfl)
instance:Cl iX:=Cl.agg _ (fun _=>rfl) (fun _=>rfl)
instance:Cl jJ:=Cl.agg _ (fun _=>rfl) (fun _=>rfl)
instance:Cl iP:=Cl.agg _ (fun _=>rfl) (fun _=>rfl)
instance:Cl lO:=Cl.agg _ (fun _=>rfl) (fun _=>rfl)
attribute [-go_sem] sat sset
theorem tX{i:Nat}:jz i []=[]:=rfl
theorem tW{i:Nat}{x:Ob}{r:iM}:jz i ((i,x)::r)=(i,.dead)::jz i r:=by simp[jz]
theorem qB{i j:Nat}{x:Ob}{r:iM}(h:j≠i):jz i ((j,x)::r)=(j,x.kill i)::jz i r:=by simp[jz,h]
theorem tV{i:Nat}:rS i []=[]:=rfl
theorem tU{i:Nat}{x:Ob}{r:iM}:rS i ((i,x)::r)=rS i r:=by simp[rS]
theorem qA{i j:Nat}{x:Ob}{r:iM}(h:j≠i):rS i ((j,x)::r)=(j,x.kill i)::rS i r:=by simp[rS,h]
theorem tR{i j:Nat}{ob:Ob}:lQ i j ob []=[(j,ob)]:=rfl
theorem tQ{i j:Nat}{ob x:Ob}{r:iM}:lQ i j ob ((i,x)::r)=lQ i j ob r:=by simp[lQ]
theorem qx{i j:Nat}{ob x:Ob}{r:iM}:lQ i j ob ((j,x)::r)=lQ i j ob r:=by simp[lQ]
theorem qy{i j q:Nat}{ob x:Ob}{r:iM}(h:q≠i)(h':q≠j):lQ i j ob ((q,x)::r)=(q,x.jY (lP i j))::lQ i j ob r:=by simp[lQ,h,h']
def zE:iJ:=
 (.seq (.iE (sq 2 [bo 2 37 0]++sq 4 [.alloc 4 31 [.sl 0 (some true) []],mb false])) (.seq (.iE (sq 16 [la 2 2,mv 1,cf 24 [16,17]]++sq 15 [mv 18]++sq 19 [ex 15 0,ex 15 1,ex 15 2,ex 15 3]++sq 6 [.alloc 6 47 [.sl 0 (some true) [],.sl 0 (some true) [],.sl 0 (some true) [],.lit (.int .i64 0),.lit (.int .i64 0),.lit (.int .i64 0)]]++s0 (sr 6 6 19)++sq 7 [mv 20,mv 21,mv 22])) (.seq (.seq (.iE (sq 23 [mv 9,nt 23])) (.cond (t0 24) (.seq (.iE (sq 25 [.build [.sl 0 (some true) []] []]++s0 (sr 1 4 25)++sq 5 [mb false])) .ret) .skip)) (.seq (.draw (sq 26 [fa 0 2,la 1 26,fa 0 6,ld 28,fa 0 2,la 1 30,fa 1 2,ld 32,fa 5 6,ld 34,ix 2 33 35,fa 0 36,ld 37,fa 3 6,ld 39,cf 26 [31,38,40],cf 25 [27,29,41]]++sq 10 [mv 42]) [[],[0],[],[2],[],[4],[],[6],[],[8],[7,9],[10],[11],[],[13],[5,12,14],[1,3,15,15],[16,16,0,1,2,3,4,5,6,7,8,9,10,11,12,13,14,15,16]]) (.seq (.iE (sq 44 [la 2 2,fa 0 6,ld 45,mv 10,fa 4 6,ld 48,mv 7,mv 1,cf 27 [44,46,47,49,50,51]]++sq 43 [mv 52]++sq 53 [ex 43 0,ex 43 1]++sq 11 [.alloc 11 63 [.lit (.int .i64 0),.sl 0 (some true) [],.sl 0 (some true) [],.sl 0 (some true) []]]++s0 (sr 4 11 53)++sq 12 [mv 54])) (.seq (.iE (sq 56 [la 2 2,fa 0 6,ld 57,fa 5 6,ld 59,mv 8,mv 1,.mB 27 [(t0 56),(t0 58),(i0 0),(t0 60),(t0 61),(t0 62)]]++sq 55 [mv 63]++sq 64 [ex 55 0,ex 55 1]++sq 13 [.alloc 13 63 [.lit (.int .i64 0),.sl 0 (some true) [],.sl 0 (some true) [],.sl 0 (some true) []]]++s0 (sr 4 13 64)++sq 14 [mv 65])) (.seq (.seq (.iE (sq 66 [mv 12,nt 66,mv 67]++sg 68 false 69 [mv 14,nt 69]++sq 71 [po 68 70])) (.cond (t0 71) (.seq (.iE (sq 72 [.build [.sl 0 (some true) []] []]++s0 (sr 1 4 72)++sq 5 [mb false])) .ret) .skip)) (.seq (.iE (sq 73 [la 4 11,la 4 13,.nY 75 2 1 [(i0 0),(i0 1)],.build [.lit (.int .i64 0),.sl 0 (some true) [],.sl 0 (some true) [],.sl 0 (some true) []] [(0,1,(i0 9)),(3,1,(t0 75))],.Fx 77 63 4 [(t0 73),(t0 74),(t0 76)],.build [.sl 0 (some true) []] [(0,1,(t0 77))]]++s0 (sr 1 4 78)++sq 5 [mb true])) .ret))))))))
theorem Dp:jV Tryz.prog 7 zE 79 [.cell 4 1 true,.tmp 5]:=mf Tryz.func7 Tryz.ntmps7
def sx(sys:gW)(steps:Int):Option (gY×Bool):=
 (tu sys steps).bind fun r=>
 if r.2.2.2=true then
  if 0<=r.1.2.2.2.2.2/\r.1.2.2.2.2.2<(sys.2.length:Int)then
   (uN sys.1 ((sys.2.getD r.1.2.2.2.2.2.toNat default).1) r.1.2.2.2.1).bind fun r_1=>
   (qS sys.1 r.1.1 r_1).bind fun r_2=>
   (oc sys r.1.1 r_2 r.1.2.2.2.2.1 r.2.1 steps).bind fun r_3=>
   (oc sys r.1.1 0 r.1.2.2.2.2.2 r.2.2.1 steps).bind fun r_4=>
   if r_3.2.2.2.2=true then
    if r_4.2.2.2.2=true then
     some ([(r_3.1,r_3.2.1,r_3.2.2.1,r_3.2.2.2.1),(r_4.1,r_4.2.1,r_4.2.2.1,r_4.2.2.2.1),(9,[],[],[0,1])],true)
    else
     some ([],false)
   else
    some ([],false)
  else none
 else
  some ([],false)
instance Fy{sys:gW}{steps:Int}:jf (sx sys steps) fun rr=>iR Tryz.prog 7 [.d (.agg [iH 1 iD sys.1,iH 2 iC sys.2]),.d (iD steps)] [] 0 fun xx ss=>xx=.kZ [.agg [.own 4 900000 (List.map iP rr.1)],.d (bD rr.2)]/\ss=[(900000,.lI 63 4 rr.1.length (je (List.map iP rr.1)))]:=⟨@fun rr h=>by
 delta sx at h;refine Dp.sk (iB ?_);delta zE;refine jd ?_;refine TP h fun r hr h=>?_
 refine it h (fun hc h=>?_) fun hc h=>?_
 ·refine jZ h fun hp h=>?_
  refine dC h fun r_1 hr_1 h=>?_
  refine dC h fun r_2 hr_2 h=>?_
  refine jM (by kernel_rfl) (jd ?_);refine tg [] [(900000,52),(900001,200000),(900002,200001)] h fun r_3 hr_3 h=>?_
  refine tg [] [(900000,63),(900001,200002),(900002,200003)] h fun r_4 hr_4 h=>?_
  refine it h (fun hc h=>?_) fun hc h=>?_
  ·refine it h (fun hc h=>?_) fun hc h=>?_
   ·refine oS ?_;cases h;refine iV.trans (iV.ou [2,4,6,11,13] (by simp)) ?_;simp only[go_sem,tX,tW,qB,tV,tU,qA,lU,tR,tQ,qx,qy,Ob.jY,Ob.kill,AV.ji,AV.jY,iQ,lP,oB,jg,bK,bG,Nat.reduceEqDiff,Nat.reduceLT,↓reduceIte,aH,reduceCtorEq,dP,b_];refine iV.trans (iV.xF 77 52 1 rfl rfl iA (by decide) (Whole.flat (t:=2) (n:=r_3.2.1.length) (by first|rfl|(simp[sat,lQ,sset,jz,rS,lU,Ob.jY,Ob.kill,jg];done)) (by simp))) ?_;simp only[go_sem,tX,tW,qB,tV,tU,qA,lU,tR,tQ,qx,qy,Ob.jY,Ob.kill,AV.ji,AV.jY,iQ,lP,oB,jg,bK,bG,Nat.reduceEqDiff,Nat.reduceLT,↓reduceIte,aH,reduceCtorEq,dP,b_];refine iV.trans (iV.ou [52] (by simp)) ?_;simp only[go_sem,tX,tW,qB,tV,tU,qA,lU,tR,tQ,qx,qy,Ob.jY,Ob.kill,AV.ji,AV.jY,iQ,lP,oB,jg,bK,bG,Nat.reduceEqDiff,Nat.reduceLT,↓reduceIte,aH,reduceCtorEq,dP,b_];refine iV.trans (iV.xF 77 200000 2 rfl rfl iA (by decide) (Whole.deep (t:=22) (n:=r_3.2.2.1.length) (by first|rfl|(simp[sat,lQ,sset,jz,rS,lU,Ob.jY,Ob.kill,jg];done)) (by simp))) ?_;simp only[go_sem,tX,tW,qB,tV,tU,qA,lU,tR,tQ,qx,qy,Ob.jY,Ob.kill,AV.ji,AV.jY,iQ,lP,oB,jg,bK,bG,Nat.reduceEqDiff,Nat.reduceLT,↓reduceIte,aH,reduceCtorEq,dP,b_];refine iV.trans (iV.ou [200000] (by simp)) ?_;simp only[go_sem,tX,tW,qB,tV,tU,qA,lU,tR,tQ,qx,qy,Ob.jY,Ob.kill,AV.ji,AV.jY,iQ,lP,oB,jg,bK,bG,Nat.reduceEqDiff,Nat.reduceLT,↓reduceIte,aH,reduceCtorEq,dP,b_];refine iV.trans (iV.xF 77 200001 3 rfl rfl iA (by decide) (Whole.flat (t:=2) (n:=r_3.2.2.2.1.length) (by first|rfl|(simp[sat,lQ,sset,jz,rS,lU,Ob.jY,Ob.kill,jg];done)) (by simp))) ?_
    simp only[go_sem,tX,tW,qB,tV,tU,qA,lU,tR,tQ,qx,qy,Ob.jY,Ob.kill,AV.ji,AV.jY,iQ,lP,oB,jg,bK,bG,Nat.reduceEqDiff,Nat.reduceLT,↓reduceIte,aH,reduceCtorEq,dP,b_];refine iV.trans (iV.ou [200001] (by simp)) ?_;simp only[go_sem,tX,tW,qB,tV,tU,qA,lU,tR,tQ,qx,qy,Ob.jY,Ob.kill,AV.ji,AV.jY,iQ,lP,oB,jg,bK,bG,Nat.reduceEqDiff,Nat.reduceLT,↓reduceIte,aH,reduceCtorEq,dP,b_];refine iV.trans (iV.xF 77 63 5 rfl rfl iA (by decide) (Whole.flat (t:=2) (n:=r_4.2.1.length) (by first|rfl|(simp[sat,lQ,sset,jz,rS,lU,Ob.jY,Ob.kill,jg];done)) (by simp))) ?_;simp only[go_sem,tX,tW,qB,tV,tU,qA,lU,tR,tQ,qx,qy,Ob.jY,Ob.kill,AV.ji,AV.jY,iQ,lP,oB,jg,bK,bG,Nat.reduceEqDiff,Nat.reduceLT,↓reduceIte,aH,reduceCtorEq,dP,b_];refine iV.trans (iV.ou [63] (by simp)) ?_;simp only[go_sem,tX,tW,qB,tV,tU,qA,lU,tR,tQ,qx,qy,Ob.jY,Ob.kill,AV.ji,AV.jY,iQ,lP,oB,jg,bK,bG,Nat.reduceEqDiff,Nat.reduceLT,↓reduceIte,aH,reduceCtorEq,dP,b_];refine iV.trans (iV.xF 77 200002 6 rfl rfl iA (by decide) (Whole.deep (t:=22) (n:=r_4.2.2.1.length) (by first|rfl|(simp[sat,lQ,sset,jz,rS,lU,Ob.jY,Ob.kill,jg];done)) (by simp))) ?_;simp only[go_sem,tX,tW,qB,tV,tU,qA,lU,tR,tQ,qx,qy,Ob.jY,Ob.kill,AV.ji,AV.jY,iQ,lP,oB,jg,bK,bG,Nat.reduceEqDiff,Nat.reduceLT,↓reduceIte,aH,reduceCtorEq,dP,b_];refine iV.trans (iV.ou [200002] (by simp)) ?_;simp only[go_sem,tX,tW,qB,tV,tU,qA,lU,tR,tQ,qx,qy,Ob.jY,Ob.kill,AV.ji,AV.jY,iQ,lP,oB,jg,bK,bG,Nat.reduceEqDiff,Nat.reduceLT,↓reduceIte,aH,reduceCtorEq,dP,b_]
    refine iV.trans (iV.xF 77 200003 7 rfl rfl iA (by decide) (Whole.flat (t:=2) (n:=r_4.2.2.2.1.length) (by first|rfl|(simp[sat,lQ,sset,jz,rS,lU,Ob.jY,Ob.kill,jg];done)) (by simp))) ?_;simp only[go_sem,tX,tW,qB,tV,tU,qA,lU,tR,tQ,qx,qy,Ob.jY,Ob.kill,AV.ji,AV.jY,iQ,lP,oB,jg,bK,bG,Nat.reduceEqDiff,Nat.reduceLT,↓reduceIte,aH,reduceCtorEq,dP,b_];refine iV.trans (iV.ou [200003] (by simp)) ?_;simp only[go_sem,tX,tW,qB,tV,tU,qA,lU,tR,tQ,qx,qy,Ob.jY,Ob.kill,AV.ji,AV.jY,iQ,lP,oB,jg,bK,bG,Nat.reduceEqDiff,Nat.reduceLT,↓reduceIte,aH,reduceCtorEq,dP,b_];refine iV.trans (iV.xF (xs':=List.map iD [0,1]) 77 75 11 rfl rfl iA (by decide) (Whole.flat (f:=iD) (xs:=[0,1]) (t:=2) (n:=2) (by first|rfl|(simp[sat,lQ,sset,jz,rS,lU,Ob.jY,Ob.kill,jg];done)) (by simp))) ?_;simp only[go_sem,tX,tW,qB,tV,tU,qA,lU,tR,tQ,qx,qy,Ob.jY,Ob.kill,AV.ji,AV.jY,iQ,lP,oB,jg,bK,bG,Nat.reduceEqDiff,Nat.reduceLT,↓reduceIte,aH,reduceCtorEq,dP,b_];refine iV.trans (iV.ou [75] (by simp)) ?_;simp only[go_sem,tX,tW,qB,tV,tU,qA,lU,tR,tQ,qx,qy,Ob.jY,Ob.kill,AV.ji,AV.jY,iQ,lP,oB,jg,bK,bG,Nat.reduceEqDiff,Nat.reduceLT,↓reduceIte,aH,reduceCtorEq,dP,b_];refine iV.trans (iV.TE 77 (je (List.map iP [(r_3.1,r_3.2.1,r_3.2.2.1,r_3.2.2.2.1),(r_4.1,r_4.2.1,r_4.2.2.1,r_4.2.2.2.1),(9,[],[],[0,1])])) rfl (by exact⟨.inl rfl,.inl rfl,.inl rfl,.inl rfl,.inl rfl,.inl rfl,.inl rfl,.inl rfl,.inl rfl,.inr (.inr ⟨_,_,rfl,rfl⟩),.inr (.inr ⟨_,_,rfl,rfl⟩),.inl rfl,trivial⟩)) ?_
    simp only[go_sem,tX,tW,qB,tV,tU,qA,lU,tR,tQ,qx,qy,Ob.jY,Ob.kill,AV.ji,AV.jY,iQ,lP,oB,jg,bK,bG,Nat.reduceEqDiff,Nat.reduceLT,↓reduceIte,aH,reduceCtorEq,dP,b_];refine iV.trans (iV.move 77 900000 (ob:=.lI 63 4 3 (je (List.map iP [(r_3.1,r_3.2.1,r_3.2.2.1,r_3.2.2.2.1),(r_4.1,r_4.2.1,r_4.2.2.1,r_4.2.2.2.1),(9,[],[],[0,1])]))) iA iA iA rfl (by first|rfl|(simp;done)|(simp[sat,lQ,sset,jz,rS,lU,Ob.jY,Ob.kill,jg];done))) ?_;simp only[go_sem,tX,tW,qB,tV,tU,qA,lU,tR,tQ,qx,qy,Ob.jY,Ob.kill,AV.ji,AV.jY,iQ,lP,oB,jg,bK,bG,Nat.reduceEqDiff,Nat.reduceLT,↓reduceIte,aH,reduceCtorEq,dP,b_];exact iV.told zP nh
   cases h;exact iV.trans ((iV.trans (iV.IG 900000 63 4 (.kZ [.agg [.own 4 900000 (List.map iP [])],.d (bD false)]) (by first|rfl|simp[sat]) (by repeat' (first|exact TW.nil|refine TW.kZ ?_|refine TW.Co ?_|refine TW.agg ?_|refine Bc.cons ?_ ?_|exact Bc.nil|exact TW.refl))) (iV.ou [2,4,6,11,13,52,63,200000,200001,200002,200003] (by simp)))) (iV.told zP nh)
  cases h;exact iV.trans ((iV.trans (iV.IG 900000 63 4 (.kZ [.agg [.own 4 900000 (List.map iP [])],.d (bD false)]) (by first|rfl|simp[sat]) (by repeat' (first|exact TW.nil|refine TW.kZ ?_|refine TW.Co ?_|refine TW.agg ?_|refine Bc.cons ?_ ?_|exact Bc.nil|exact TW.refl))) (iV.ou [2,4,6,11,13,52,63,200000,200001,200002,200003] (by simp)))) (iV.told zP nh)
 cases h;exact iV.trans ((iV.trans (iV.IG 900000 63 4 (.kZ [.agg [.own 4 900000 (List.map iP [])],.d (bD false)]) (by first|rfl|simp[sat]) (by repeat' (first|exact TW.nil|refine TW.kZ ?_|refine TW.Co ?_|refine TW.agg ?_|refine Bc.cons ?_ ?_|exact Bc.nil|exact TW.refl))) (iV.ou [2,4,6] (by simp)))) (iV.told zP nh)⟩
end Go.Proofs.YtjgbnaihpicpgabGreat
namespace Go.Proofs.YtjgbnaihpicpgabGreat
open Go oq
attribute [local irreducible] uy zk yt nN mY oR kj C7 D_ BZ D9 Be vL mA oG Dk ju lM
set_option maxHeartbeats 4000000
set_option maxRecDepth 4000
def AE(x:gI):D:=.agg [(iH 1 iD) x]
def mX(x:gM):D:=.agg [(iH 1 iD) x.1,(iH 1 iD) x.2]
def nG(x:gW):D:=.agg [(iH 1 iD) x.1,(iH 2 mX) x.2]
instance:sW AE 1:=⟨fun _=>rfl⟩
instance:sW mX 2:=⟨fun _=>rfl⟩
instance:sW nG 2:=⟨fun _=>rfl⟩
attribute [go_sem] AE mX nG
def ad5:iJ:=
 (.seq (.iE (sq 4 [mi 0])) (.seq (.iE (sq 5 [mv 1,mv 0,ln 6,bn .sub 5 7]++sq 1 [mv 8])) (.seq (.seq (.iE (sq 9 [mv 1,bi .lss 9 0])) (.cond (t0 10) (.seq (.iE (sq 4 [mi (-1)])) .ret) .skip)) (.seq (.iE (sq 11 [mv 1]++sq 4 [mv 11])) .ret))))
theorem afx:jV Tryz.prog 35 ad5 12 [.tmp 4]:=mf Tryz.func35 Tryz.ntmps35
def oh(a:gI)(left:Int):Option Int:=
 if(decide ((IntKind.i64.wrap (left-(a.length:Int)))<0))=true then
  some (-1)
 else
  some (IntKind.i64.wrap (left-(a.length:Int)))
instance Rf{a:gI}{left:Int}:jf (oh a left) fun rr=>jK Tryz.prog 35 [(iH 1 iD) a,iD left] (iD rr):=⟨@fun rr h=>by
 delta oh at h;refine afx.jv (iB ?_);delta ad5;refine jd ?_;exact lW⟩
def adP:iJ:=
 (.seq (.iE (sq 2 [bo 2 24 0]++sq 4 [mi 0])) (.seq (.iE (sq 5 [fa 0 2,ld 5,mv 1,cf 35 [6,7]]++sq 1 [mv 8])) (.seq (.seq (.iE (sq 9 [mv 1,bi .lss 9 0])) (.cond (t0 10) (.seq (.iE (sq 4 [mi (-1)])) .ret) .skip)) (.seq (.iE (sq 11 [mv 1]++sq 4 [mv 11])) .ret))))
theorem afh:jV Tryz.prog 13 adP 12 [.tmp 4]:=mf Tryz.func13 Tryz.ntmps13
def yw(a:gI)(left:Int):Option Int:=
 (oh a left).bind fun r=>
 if(decide (r<0))=true then
  some (-1)
 else
  some r
instance VP{a:gI}{left:Int}:jf (yw a left) fun rr=>jK Tryz.prog 13 [AE a,iD left] (iD rr):=⟨@fun rr h=>by
 delta yw at h;refine afh.jv (iB ?_);delta adP;refine jd ?_;exact lW⟩
def ad6:iJ:=
 (.seq (.iE (sq 2 [bo 2 78 0]++sq 4 [mi 0])) (.seq (.iE (sq 5 [fa 0 2,ld 5,mv 1,cf 35 [6,7]]++sq 1 [mv 8])) (.seq (.seq (.iE (sq 9 [mv 1,bi .lss 9 0])) (.cond (t0 10) (.seq (.iE (sq 4 [mi (-1)])) .ret) .skip)) (.seq (.iE (sq 11 [fa 1 2,ld 11,mv 1,cf 35 [12,13]]++sq 1 [mv 14])) (.seq (.seq (.iE (sq 15 [mv 1,bi .lss 15 0])) (.cond (t0 16) (.seq (.iE (sq 4 [mi (-1)])) .ret) .skip)) (.seq (.iE (sq 17 [mv 1]++sq 4 [mv 17])) .ret))))))
theorem afy:jV Tryz.prog 36 ad6 18 [.tmp 4]:=mf Tryz.func36 Tryz.ntmps36
def uR(a:gM)(left:Int):Option Int:=
 (oh a.1 left).bind fun r=>
 if(decide (r<0))=true then
  some (-1)
 else
  (oh a.2 r).bind fun r_1=>
  if(decide (r_1<0))=true then
   some (-1)
  else
   some r_1
instance UX{a:gM}{left:Int}:jf (uR a left) fun rr=>jK Tryz.prog 36 [mX a,iD left] (iD rr):=⟨@fun rr h=>by
 delta uR at h;refine afy.jv (iB ?_);delta ad6;refine jd ?_;exact lW⟩
def adQ:iJ:=
 (.seq (.iE (sq 4 [mi 0])) (.seq (.iE (sq 6 [mv 1,mv 0,ln 7,bn .sub 6 8]++sq 1 [mv 9])) (.seq (.seq (.iE (sq 10 [mv 1,bi .lss 10 0])) (.cond (t0 11) (.seq (.iE (sq 4 [mi (-1)])) .ret) .skip)) (.seq (.seq (.iE (sq 5 [mi 0])) (.block 0 (.loop (.seq (.seq (.iE (sq 12 [mv 5,mv 0,ln 13,bn .lss 12 14])) (.cond (t0 15) .skip (.exit 0))) (.seq (.block 1 (.seq (.iE (sq 18 [mv 0,mv 5,ix 2 18 19,la 2 20,mv 1,cf 36 [21,22]]++sq 1 [mv 23])) (.seq (.iE (sq 24 [mv 1,bi .lss 24 0])) (.cond (t0 25) (.seq (.iE (sq 4 [mi (-1)])) .ret) .skip)))) (.iE (sq 16 [mv 5,bi .add 16 1]++sq 5 [mv 17]))))))) (.seq (.iE (sq 26 [mv 1]++sq 4 [mv 26])) .ret)))))
theorem afi:jV Tryz.prog 14 adQ 27 [.tmp 4]:=mf Tryz.func14 Tryz.ntmps14
def qg(a:gR):gP->Option ie
 |(left_1,i)=>
  if(decide (i<(a.length:Int)))=true then
   if 0<=i/\i<(a.length:Int)then
    (uR ((a.getD i.toNat default).1,(a.getD i.toNat default).2) left_1).bind fun r=>
    if(decide (r<0))=true then
     Option.map Sum.inr (
      some (-1))
    else
     some (.inl (r,(IntKind.i64.wrap (i+1))))
   else none
  else
   Option.map Sum.inr (
    some left_1)
def tE(a:gR)(left:Int):Option Int:=
 if(decide ((IntKind.i64.wrap (left-(a.length:Int)))<0))=true then
  some (-1)
 else
  iL (qg a) ((IntKind.i64.wrap (left-(a.length:Int))),0)
instance Sc{a:gR}{left:Int}:jf (tE a left) fun rr=>jK Tryz.prog 14 [(iH 2 mX) a,iD left] (iD rr):=⟨@fun rr h=>by
 delta tE at h;refine afi.jv (iB ?_);delta adQ;refine jd ?_;refine iF h fun hc h=>?_
 refine kH h [1,4,5,12,13,14,15,16,17,18,19,20,21,22,23,24,25] (fun pp=>[(1,.d (iD pp.1)),(5,.d (iD pp.2))]) (fun pp=>[]) ?_;rintro⟨left_1,i⟩ t1 h hb1;unfold qg at h;try dsimp only at h
 refine iB (jd ?_);exact lW⟩
def mc4:iJ:=
 (.seq (.iE (sq 2 [bo 2 27 0]++sq 4 [mi 0])) (.seq (.iE (sq 5 [fa 0 2,la 1 5,mv 1,cf 13 [6,7]]++sq 1 [mv 8])) (.seq (.seq (.iE (sq 9 [mv 1,bi .lss 9 0])) (.cond (t0 10) (.seq (.iE (sq 4 [mi (-1)])) .ret) .skip)) (.seq (.iE (sq 11 [fa 1 2,ld 11,mv 1,cf 14 [12,13]]++sq 1 [mv 14])) (.seq (.seq (.iE (sq 15 [mv 1,bi .lss 15 0])) (.cond (t0 16) (.seq (.iE (sq 4 [mi (-1)])) .ret) .skip)) (.seq (.iE (sq 17 [mv 1]++sq 4 [mv 17])) .ret))))))
theorem fn4:jV Tryz.prog 4 mc4 18 [.tmp 4]:=mf Tryz.func4 Tryz.ntmps4
def sE(a:gW)(left:Int):Option Int:=
 (yw a.1 left).bind fun r=>
 if(decide (r<0))=true then
  some (-1)
 else
  (tE a.2 r).bind fun r_1=>
  if(decide (r_1<0))=true then
   some (-1)
  else
   some r_1
instance Rg{a:gW}{left:Int}:jf (sE a left) fun rr=>jK Tryz.prog 4 [nG a,iD left] (iD rr):=⟨@fun rr h=>by
 delta sE at h;refine fn4.jv (iB ?_);delta mc4;refine jd ?_;exact lW⟩
def aeB:iJ:=
 (.seq (.iE (sq 4 [mb false])) (.seq (.seq (.iE (sq 6 [mv 0,ln 6,mv 1,ln 8,bn .neq 7 9])) (.cond (t0 10) (.seq (.iE (sq 4 [mb false])) .ret) .skip)) (.seq (.seq (.iE (sq 5 [mi 0])) (.block 0 (.loop (.seq (.seq (.iE (sq 11 [mv 5,mv 0,ln 12,bn .lss 11 13])) (.cond (t0 14) .skip (.exit 0))) (.seq (.block 1 (.seq (.draw (sq 17 [mv 0,mv 5,ix 1 17 18,ld 19,mv 1,mv 5,ix 1 21 22,ld 23,bn .neq 20 24]) [[],[],[0,1],[2],[],[],[4,5],[6],[3,7]]) (.cond (t0 25) (.seq (.iE (sq 4 [mb false])) .ret) .skip))) (.iE (sq 15 [mv 5,bi .add 15 1]++sq 5 [mv 16]))))))) (.seq (.iE (sq 4 [mb true])) .ret))))
theorem af4:jV Tryz.prog 71 aeB 26 [.tmp 4]:=mf Tryz.func71 Tryz.ntmps71
def rX(a:gI)(b:gI):Int->Option gV
 |i=>
  if(decide (i<(a.length:Int)))=true then
   if 0<=i/\i<(a.length:Int)then
    if 0<=i/\i<(b.length:Int)then
     if((a.getD i.toNat default) != (b.getD i.toNat default))=true then
      Option.map Sum.inr (
       some false)
     else
      some (.inl (IntKind.i64.wrap (i+1)))
    else none
   else none
  else
   Option.map Sum.inr (
    some true)
def lC(a:gI)(b:gI):Option Bool:=
 if((a.length:Int) != (b.length:Int))=true then
  some false
 else
  iL (rX a b) 0
instance Re{a:gI}{b:gI}:jf (lC a b) fun rr=>jK Tryz.prog 71 [(iH 1 iD) a,(iH 1 iD) b] (bD rr):=⟨@fun rr h=>by
 delta lC at h;refine af4.jv (iB ?_);delta aeB;refine jd ?_;refine iF h fun hc h=>?_
 refine kH h [4,5,11,12,13,14,15,16,17,18,19,20,21,22,23,24,25] (fun pp=>[(5,.d (iD pp))]) (fun pp=>[]) ?_;rintro i t1 h hb1;unfold rX at h;try dsimp only at h
 refine iB (jd ?_);exact lW⟩
def ad2:iJ:=
 (.seq (.iE (sq 2 [bo 2 34 0,bo 3 34 1,mb false])) (.seq (.seq (.iE (sq 5 [fa 0 2,ld 5,fa 0 3,ld 7,cf 71 [6,8],nt 9])) (.cond (t0 10) (.seq (.iE (sq 4 [mb false])) .ret) .skip)) (.seq (.iE (sq 4 [mb true])) .ret)))
theorem afu:jV Tryz.prog 29 ad2 11 [.tmp 4]:=mf Tryz.func29 Tryz.ntmps29
def yu(a:gI)(b:gI):Option Bool:=
 (lC a b).bind fun r=>
 if r=true then
  some true
 else
  some false
instance VO{a:gI}{b:gI}:jf (yu a b) fun rr=>jK Tryz.prog 29 [jw a,jw b] (bD rr):=⟨@fun rr h=>by
 delta yu at h;refine afu.jv (iB ?_);delta ad2;refine jd ?_;exact lW⟩
def aeC:iJ:=
 (.seq (.iE (sq 2 [bo 2 54 0,bo 3 54 1,mb false])) (.seq (.seq (.iE (sq 5 [fa 0 2,ld 5,fa 0 3,ld 7,cf 71 [6,8],nt 9])) (.cond (t0 10) (.seq (.iE (sq 4 [mb false])) .ret) .skip)) (.seq (.seq (.iE (sq 11 [fa 1 2,ld 11,fa 1 3,ld 13,cf 71 [12,14],nt 15])) (.cond (t0 16) (.seq (.iE (sq 4 [mb false])) .ret) .skip)) (.seq (.iE (sq 4 [mb true])) .ret))))
theorem af5:jV Tryz.prog 72 aeC 17 [.tmp 4]:=mf Tryz.func72 Tryz.ntmps72
def uQ(a:gM)(b:gM):Option Bool:=
 (lC a.1 b.1).bind fun r=>
 if r=true then
  (lC a.2 b.2).bind fun r_1=>
  if r_1=true then
   some true
  else
   some false
 else
  some false
instance UW{a:gM}{b:gM}:jf (uQ a b) fun rr=>jK Tryz.prog 72 [iC a,iC b] (bD rr):=⟨@fun rr h=>by
 delta uQ at h;refine af5.jv (iB ?_);delta aeC;refine jd ?_;exact lW⟩
def ad3:iJ:=
 (.seq (.iE (sq 4 [mb false])) (.seq (.seq (.iE (sq 6 [mv 0,ln 6,mv 1,ln 8,bn .neq 7 9])) (.cond (t0 10) (.seq (.iE (sq 4 [mb false])) .ret) .skip)) (.seq (.seq (.iE (sq 5 [mi 0])) (.block 0 (.loop (.seq (.seq (.iE (sq 11 [mv 5,mv 0,ln 12,bn .lss 11 13])) (.cond (t0 14) .skip (.exit 0))) (.seq (.block 1 (.seq (.draw (sq 17 [mv 0,mv 5,ix 2 17 18,la 2 19,mv 1,mv 5,ix 2 21 22,la 2 23,cf 72 [20,24],nt 25]) [[],[],[0,1],[2],[],[],[4,5],[6],[3,7],[8]]) (.cond (t0 26) (.seq (.iE (sq 4 [mb false])) .ret) .skip))) (.iE (sq 15 [mv 5,bi .add 15 1]++sq 5 [mv 16]))))))) (.seq (.iE (sq 4 [mb true])) .ret))))
theorem afv:jV Tryz.prog 30 ad3 27 [.tmp 4]:=mf Tryz.func30 Tryz.ntmps30
def s_(a:gR)(b:gR):Int->Option gV
 |i=>
  if(decide (i<(a.length:Int)))=true then
   if 0<=i/\i<(a.length:Int)then
    if 0<=i/\i<(b.length:Int)then
     (uQ ((a.getD i.toNat default).1,(a.getD i.toNat default).2) ((b.getD i.toNat default).1,(b.getD i.toNat default).2)).bind fun r=>
     if r=true then
      some (.inl (IntKind.i64.wrap (i+1)))
     else
      Option.map Sum.inr (
       some false)
    else none
   else none
  else
   Option.map Sum.inr (
    some true)
def tD(a:gR)(b:gR):Option Bool:=
 if((a.length:Int) != (b.length:Int))=true then
  some false
 else
  iL (s_ a b) 0
instance Sa{a:gR}{b:gR}:jf (tD a b) fun rr=>jK Tryz.prog 30 [(iH 2 iC) a,(iH 2 iC) b] (bD rr):=⟨@fun rr h=>by
 delta tD at h;refine afv.jv (iB ?_);delta ad3;refine jd ?_;refine iF h fun hc h=>?_
 refine kH h [4,5,11,12,13,14,15,16,17,18,19,20,21,22,23,24,25,26] (fun pp=>[(5,.d (iD pp))]) (fun pp=>[]) ?_;rintro i t1 h hb1;unfold s_ at h;try dsimp only at h
 refine iB (jd ?_);exact lW⟩
def mc9:iJ:=
 (.seq (.iE (sq 2 [bo 2 37 0,bo 3 37 1,mb false])) (.seq (.seq (.iE (sq 5 [fa 0 2,la 1 5,fa 0 3,la 1 7,cf 29 [6,8],nt 9])) (.cond (t0 10) (.seq (.iE (sq 4 [mb false])) .ret) .skip)) (.seq (.seq (.iE (sq 11 [fa 1 2,ld 11,fa 1 3,ld 13,cf 30 [12,14],nt 15])) (.cond (t0 16) (.seq (.iE (sq 4 [mb false])) .ret) .skip)) (.seq (.iE (sq 4 [mb true])) .ret))))
theorem fn9:jV Tryz.prog 9 mc9 17 [.tmp 4]:=mf Tryz.func9 Tryz.ntmps9
def sC(a:gW)(b:gW):Option Bool:=
 (yu a.1 b.1).bind fun r=>
 if r=true then
  (tD a.2 b.2).bind fun r_1=>
  if r_1=true then
   some true
  else
   some false
 else
  some false
instance Fz{a:gW}{b:gW}:jf (sC a b) fun rr=>jK Tryz.prog 9 [iU a,iU b] (bD rr):=⟨@fun rr h=>by
 delta sC at h;refine fn9.jv (iB ?_);delta mc9;refine jd ?_;exact lW⟩
def aeD:iJ:=
 (.seq (.iE (sq 4 [mi 0])) (.seq (.seq (.iE (sq 5 [mi 0])) (.block 0 (.loop (.seq (.seq (.iE (sq 6 [mv 5,mv 0,ln 7,bn .lss 6 8])) (.cond (t0 9) .skip (.exit 0))) (.seq (.block 1 (.seq (.seq (.iE (sq 12 [mv 0,mv 5,ix 1 12 13,ld 14,mv 1,bn .neq 15 16])) (.cond (t0 17) (.seq (.iE (sq 4 [mi (-1)])) .ret) .skip)) (.iE (sq 18 [mv 1,bi .add 18 1]++sq 1 [mv 19])))) (.iE (sq 10 [mv 5,bi .add 10 1]++sq 5 [mv 11]))))))) (.seq (.iE (sq 20 [mv 1]++sq 4 [mv 20])) .ret)))
theorem af6:jV Tryz.prog 75 aeD 21 [.tmp 4]:=mf Tryz.func75 Tryz.ntmps75
def qf(a:gI):gP->Option ie
 |(k_1,i)=>
  if(decide (i<(a.length:Int)))=true then
   if 0<=i/\i<(a.length:Int)then
    if((a.getD i.toNat default) != k_1)=true then
     Option.map Sum.inr (
      some (-1))
    else
     some (.inl ((IntKind.i64.wrap (k_1+1)),(IntKind.i64.wrap (i+1))))
   else none
  else
   Option.map Sum.inr (
    some k_1)
def mJ(a:gI)(k:Int):Option Int:=
 iL (qf a) (k,0)
instance NO{a:gI}{k:Int}:jf (mJ a k) fun rr=>jK Tryz.prog 75 [(iH 1 iD) a,iD k] (iD rr):=⟨@fun rr h=>by
 delta mJ at h;refine af6.jv (iB ?_);delta aeD;refine jd ?_;refine kH h [1,4,5,6,7,8,9,10,11,12,13,14,15,16,17,18,19] (fun pp=>[(1,.d (iD pp.1)),(5,.d (iD pp.2))]) (fun pp=>[]) ?_;rintro⟨k_1,i⟩ t1 h hb1;unfold qf at h;try dsimp only at h
 refine iB (jd ?_);exact lW⟩
def YF:iJ:=
 (.seq (.iE (sq 4 [mb false])) (.seq (.seq (.iE (sq 6 [mv 0,ln 6,mv 1,ln 8,bn .neq 7 9])) (.cond (t0 10) (.seq (.iE (sq 4 [mb false])) .ret) .skip)) (.seq (.seq (.iE (sq 5 [mi 0])) (.block 0 (.loop (.seq (.seq (.iE (sq 11 [mv 5,mv 0,ln 12,bn .lss 11 13])) (.cond (t0 14) .skip (.exit 0))) (.seq (.block 1 (.seq (.draw (sq 17 [mv 0,mv 5,ix 1 17 18,ld 19,mv 1,mv 5,ix 1 21 22,ld 23,cf 71 [20,24],nt 25]) [[],[],[0,1],[2],[],[],[4,5],[6],[3,7],[8]]) (.cond (t0 26) (.seq (.iE (sq 4 [mb false])) .ret) .skip))) (.iE (sq 15 [mv 5,bi .add 15 1]++sq 5 [mv 16]))))))) (.seq (.iE (sq 4 [mb true])) .ret))))
theorem abL:jV Tryz.prog 116 YF 27 [.tmp 4]:=mf Tryz.func116 Tryz.ntmps116
def qO(a:gJ)(b:gJ):Int->Option gV
 |i=>
  if(decide (i<(a.length:Int)))=true then
   if 0<=i/\i<(a.length:Int)then
    if 0<=i/\i<(b.length:Int)then
     (lC (a.getD i.toNat default) (b.getD i.toNat default)).bind fun r=>
     if r=true then
      some (.inl (IntKind.i64.wrap (i+1)))
     else
      Option.map Sum.inr (
       some false)
    else none
   else none
  else
   Option.map Sum.inr (
    some true)
def qY(a:gJ)(b:gJ):Option Bool:=
 if((a.length:Int) != (b.length:Int))=true then
  some false
 else
  iL (qO a b) 0
instance Pq{a:gJ}{b:gJ}:jf (qY a b) fun rr=>jK Tryz.prog 116 [(iH 1 (iH 1 iD)) a,(iH 1 (iH 1 iD)) b] (bD rr):=⟨@fun rr h=>by
 delta qY at h;refine abL.jv (iB ?_);delta YF;refine jd ?_;refine iF h fun hc h=>?_
 refine kH h [4,5,11,12,13,14,15,16,17,18,19,20,21,22,23,24,25,26] (fun pp=>[(5,.d (iD pp))]) (fun pp=>[]) ?_;rintro i t1 h hb1;unfold qO at h;try dsimp only at h
 refine iB (jd ?_);exact lW⟩
def aeA:iJ:=
 (.seq (.iE (sq 2 [bo 2 63 0,bo 3 63 1,mb false])) (.seq (.seq (.iE (sq 5 [fa 0 2,ld 5,fa 0 3,ld 7,bn .neq 6 8])) (.cond (t0 9) (.seq (.iE (sq 4 [mb false])) .ret) .skip)) (.seq (.seq (.iE (sq 10 [fa 1 2,ld 10,fa 1 3,ld 12,cf 71 [11,13],nt 14])) (.cond (t0 15) (.seq (.iE (sq 4 [mb false])) .ret) .skip)) (.seq (.seq (.iE (sq 16 [fa 2 2,ld 16,fa 2 3,ld 18,cf 116 [17,19],nt 20])) (.cond (t0 21) (.seq (.iE (sq 4 [mb false])) .ret) .skip)) (.seq (.seq (.iE (sq 22 [fa 3 2,ld 22,fa 3 3,ld 24,cf 71 [23,25],nt 26])) (.cond (t0 27) (.seq (.iE (sq 4 [mb false])) .ret) .skip)) (.seq (.iE (sq 4 [mb true])) .ret))))))
theorem af3:jV Tryz.prog 70 aeA 28 [.tmp 4]:=mf Tryz.func70 Tryz.ntmps70
def uP(a:gQ)(b:gQ):Option Bool:=
 if(a.1 != b.1)=true then
  some false
 else
  (lC a.2.1 b.2.1).bind fun r=>
  if r=true then
   (qY a.2.2.1 b.2.2.1).bind fun r_1=>
   if r_1=true then
    (lC a.2.2.2 b.2.2.2).bind fun r_2=>
    if r_2=true then
     some true
    else
     some false
   else
    some false
  else
   some false
instance UU{a:gQ}{b:gQ}:jf (uP a b) fun rr=>jK Tryz.prog 70 [iP a,iP b] (bD rr):=⟨@fun rr h=>by
 delta uP at h;refine af3.jv (iB ?_);delta aeA;refine jd ?_;exact lW⟩
def ad1:iJ:=
 (.seq (.iE (sq 4 [mb false])) (.seq (.seq (.iE (sq 6 [mv 0,ln 6,mv 1,ln 8,bn .neq 7 9])) (.cond (t0 10) (.seq (.iE (sq 4 [mb false])) .ret) .skip)) (.seq (.seq (.iE (sq 5 [mi 0])) (.block 0 (.loop (.seq (.seq (.iE (sq 11 [mv 5,mv 0,ln 12,bn .lss 11 13])) (.cond (t0 14) .skip (.exit 0))) (.seq (.block 1 (.seq (.draw (sq 17 [mv 0,mv 5,ix 4 17 18,la 4 19,mv 1,mv 5,ix 4 21 22,la 4 23,cf 70 [20,24],nt 25]) [[],[],[0,1],[2],[],[],[4,5],[6],[3,7],[8]]) (.cond (t0 26) (.seq (.iE (sq 4 [mb false])) .ret) .skip))) (.iE (sq 15 [mv 5,bi .add 15 1]++sq 5 [mv 16]))))))) (.seq (.iE (sq 4 [mb true])) .ret))))
theorem aft:jV Tryz.prog 28 ad1 27 [.tmp 4]:=mf Tryz.func28 Tryz.ntmps28
def sZ(a:gY)(b:gY):Int->Option gV
 |i=>
  if(decide (i<(a.length:Int)))=true then
   if 0<=i/\i<(a.length:Int)then
    if 0<=i/\i<(b.length:Int)then
     (uP ((a.getD i.toNat default).1,(a.getD i.toNat default).2.1,(a.getD i.toNat default).2.2.1,(a.getD i.toNat default).2.2.2) ((b.getD i.toNat default).1,(b.getD i.toNat default).2.1,(b.getD i.toNat default).2.2.1,(b.getD i.toNat default).2.2.2)).bind fun r=>
     if r=true then
      some (.inl (IntKind.i64.wrap (i+1)))
     else
      Option.map Sum.inr (
       some false)
    else none
   else none
  else
   Option.map Sum.inr (
    some true)
def tB(a:gY)(b:gY):Option Bool:=
 if((a.length:Int) != (b.length:Int))=true then
  some false
 else
  iL (sZ a b) 0
instance R_{a:gY}{b:gY}:jf (tB a b) fun rr=>jK Tryz.prog 28 [(iH 4 iP) a,(iH 4 iP) b] (bD rr):=⟨@fun rr h=>by
 delta tB at h;refine aft.jv (iB ?_);delta ad1;refine jd ?_;refine iF h fun hc h=>?_
 refine kH h [4,5,11,12,13,14,15,16,17,18,19,20,21,22,23,24,25,26] (fun pp=>[(5,.d (iD pp))]) (fun pp=>[]) ?_;rintro i t1 h hb1;unfold sZ at h;try dsimp only at h
 refine iB (jd ?_);exact lW⟩
def mc8:iJ:=
 (.seq (.iE (sq 2 [bo 2 31 0,bo 3 31 1,mb false])) (.seq (.seq (.iE (sq 5 [fa 0 2,ld 5,fa 0 3,ld 7,cf 28 [6,8],nt 9])) (.cond (t0 10) (.seq (.iE (sq 4 [mb false])) .ret) .skip)) (.seq (.iE (sq 4 [mb true])) .ret)))
theorem fn8:jV Tryz.prog 8 mc8 11 [.tmp 4]:=mf Tryz.func8 Tryz.ntmps8
def tC(a:gY)(b:gY):Option Bool:=
 (tB a b).bind fun r=>
 if r=true then
  some true
 else
  some false
instance Gg{a:gY}{b:gY}:jf (tC a b) fun rr=>jK Tryz.prog 8 [lR a,lR b] (bD rr):=⟨@fun rr h=>by
 delta tC at h;refine fn8.jv (iB ?_);delta mc8;refine jd ?_;exact lW⟩
def aeE:iJ:=
 (.seq (.iE (sq 4 [mi 0])) (.seq (.seq (.iE (sq 5 [mi 0])) (.block 0 (.loop (.seq (.seq (.iE (sq 6 [mv 5,mv 0,ln 7,bn .lss 6 8])) (.cond (t0 9) .skip (.exit 0))) (.seq (.block 1 (.seq (.iE (sq 12 [mv 0,mv 5,ix 1 12 13,ld 14,mv 1,cf 75 [15,16]]++sq 1 [mv 17])) (.seq (.iE (sq 18 [mv 1,bi .lss 18 0])) (.cond (t0 19) (.seq (.iE (sq 4 [mi (-1)])) .ret) .skip)))) (.iE (sq 10 [mv 5,bi .add 10 1]++sq 5 [mv 11]))))))) (.seq (.iE (sq 20 [mv 1]++sq 4 [mv 20])) .ret)))
theorem af7:jV Tryz.prog 76 aeE 21 [.tmp 4]:=mf Tryz.func76 Tryz.ntmps76
def pP(a:gJ):gP->Option ie
 |(k_1,i)=>
  if(decide (i<(a.length:Int)))=true then
   if 0<=i/\i<(a.length:Int)then
    (mJ (a.getD i.toNat default) k_1).bind fun r=>
    if(decide (r<0))=true then
     Option.map Sum.inr (
      some (-1))
    else
     some (.inl (r,(IntKind.i64.wrap (i+1))))
   else none
  else
   Option.map Sum.inr (
    some k_1)
def o_(a:gJ)(k:Int):Option Int:=
 iL (pP a) (k,0)
instance L1{a:gJ}{k:Int}:jf (o_ a k) fun rr=>jK Tryz.prog 76 [(iH 1 (iH 1 iD)) a,iD k] (iD rr):=⟨@fun rr h=>by
 delta o_ at h;refine af7.jv (iB ?_);delta aeE;refine jd ?_;refine kH h [1,4,5,6,7,8,9,10,11,12,13,14,15,16,17,18,19] (fun pp=>[(1,.d (iD pp.1)),(5,.d (iD pp.2))]) (fun pp=>[]) ?_;rintro⟨k_1,i⟩ t1 h hb1;unfold pP at h;try dsimp only at h
 refine iB (jd ?_);exact lW⟩
def ad4:iJ:=
 (.seq (.iE (sq 4 [mi 0])) (.seq (.seq (.iE (sq 5 [mi 0])) (.block 0 (.loop (.seq (.seq (.iE (sq 6 [mv 5,mv 0,ln 7,bn .lss 6 8])) (.cond (t0 9) .skip (.exit 0))) (.seq (.block 1 (.seq (.seq (.iE (sq 12 [mv 0,mv 5,ix 4 12 13,fa 0 14,ld 15,mv 1,bn .neq 16 17])) (.cond (t0 18) (.seq (.iE (sq 4 [mi (-1)])) .ret) .skip)) (.seq (.iE (sq 19 [mv 1,bi .add 19 1]++sq 1 [mv 20])) (.seq (.iE (sq 21 [mv 0,mv 5,ix 4 21 22,fa 1 23,ld 24,mv 1,cf 75 [25,26]]++sq 1 [mv 27])) (.seq (.seq (.iE (sq 28 [mv 1,bi .lss 28 0])) (.cond (t0 29) (.seq (.iE (sq 4 [mi (-1)])) .ret) .skip)) (.seq (.iE (sq 30 [mv 0,mv 5,ix 4 30 31,fa 2 32,ld 33,mv 1,cf 76 [34,35]]++sq 1 [mv 36])) (.seq (.seq (.iE (sq 37 [mv 1,bi .lss 37 0])) (.cond (t0 38) (.seq (.iE (sq 4 [mi (-1)])) .ret) .skip)) (.seq (.iE (sq 39 [mv 0,mv 5,ix 4 39 40,fa 3 41,ld 42,mv 1,cf 75 [43,44]]++sq 1 [mv 45])) (.seq (.iE (sq 46 [mv 1,bi .lss 46 0])) (.cond (t0 47) (.seq (.iE (sq 4 [mi (-1)])) .ret) .skip)))))))))) (.iE (sq 10 [mv 5,bi .add 10 1]++sq 5 [mv 11]))))))) (.seq (.iE (sq 48 [mv 1]++sq 4 [mv 48])) .ret)))
theorem afw:jV Tryz.prog 34 ad4 49 [.tmp 4]:=mf Tryz.func34 Tryz.ntmps34
def qP(a:gY):gP->Option ie
 |(k_1,i)=>
  if(decide (i<(a.length:Int)))=true then
   if 0<=i/\i<(a.length:Int)then
    if((a.getD i.toNat default).1 != k_1)=true then
     Option.map Sum.inr (
      some (-1))
    else
     if 0<=i/\i<(a.length:Int)then
      (mJ ((a.getD i.toNat default).2.1) (IntKind.i64.wrap (k_1+1))).bind fun r=>
      if(decide (r<0))=true then
       Option.map Sum.inr (
        some (-1))
      else
       if 0<=i/\i<(a.length:Int)then
        (o_ ((a.getD i.toNat default).2.2.1) r).bind fun r_1=>
        if(decide (r_1<0))=true then
         Option.map Sum.inr (
          some (-1))
        else
         if 0<=i/\i<(a.length:Int)then
          (mJ ((a.getD i.toNat default).2.2.2) r_1).bind fun r_2=>
          if(decide (r_2<0))=true then
           Option.map Sum.inr (
            some (-1))
          else
           some (.inl (r_2,(IntKind.i64.wrap (i+1))))
         else none
       else none
     else none
   else none
  else
   Option.map Sum.inr (
    some k_1)
def oK(a:gY)(k:Int):Option Int:=
 iL (qP a) (k,0)
instance Pt{a:gY}{k:Int}:jf (oK a k) fun rr=>jK Tryz.prog 34 [(iH 4 iP) a,iD k] (iD rr):=⟨@fun rr h=>by
 delta oK at h;refine afw.jv (iB ?_);delta ad4;refine jd ?_;refine kH h [1,4,5,6,7,8,9,10,11,12,13,14,15,16,17,18,19,20,21,22,23,24,25,26,27,28,29,30,31,32,33,34,35,36,37,38,39,40,41,42,43,44,45,46,47] (fun pp=>[(1,.d (iD pp.1)),(5,.d (iD pp.2))]) (fun pp=>[]) ?_;rintro⟨k_1,i⟩ t1 h hb1;unfold qP at h;try dsimp only at h
 refine iB (jd ?_);exact lW⟩
def adO:iJ:=
 (.seq (.iE (sq 2 [bo 2 31 0]++sq 4 [mi 0])) (.seq (.iE (sq 5 [fa 0 2,ld 5,mv 1,cf 34 [6,7]]++sq 1 [mv 8])) (.seq (.seq (.iE (sq 9 [mv 1,bi .lss 9 0])) (.cond (t0 10) (.seq (.iE (sq 4 [mi (-1)])) .ret) .skip)) (.seq (.iE (sq 11 [mv 1]++sq 4 [mv 11])) .ret))))
theorem afg:jV Tryz.prog 12 adO 12 [.tmp 4]:=mf Tryz.func12 Tryz.ntmps12
def qZ(a:gY)(k:Int):Option Int:=
 (oK a k).bind fun r=>
 if(decide (r<0))=true then
  some (-1)
 else
  some r
instance En{a:gY}{k:Int}:jf (qZ a k) fun rr=>jK Tryz.prog 12 [lR a,iD k] (iD rr):=⟨@fun rr h=>by
 delta qZ at h;refine afg.jv (iB ?_);delta adO;refine jd ?_;exact lW⟩
end Go.Proofs.YtjgbnaihpicpgabGreat
namespace Go.Proofs.YtjgbnaihpicpgabGreat
open Go oq
attribute [local irreducible] uy zk yt nN mY oR kj C7 D_ BZ D9 Be vL mA oG Dk ju lM
set_option maxHeartbeats 4000000
instance:Cl mX:=Cl.agg _ (fun _=>rfl) (fun _=>rfl)
instance:Cl nG:=Cl.agg _ (fun _=>rfl) (fun _=>rfl)
def ZD:iJ:=
 (.seq (.iE (sq 2 [.mv (.const (.slice none 0 0))])) (.seq (.iE (sq 5 [mv 0,ln 5,.BI 7 2 1 8 [.lit (.int .i64 0)] false (t0 6) (t0 6)]++sq 3 [mv 7])) (.seq (.seq (.iE (sq 4 [mi 0])) (.block 0 (.loop (.seq (.seq (.iE (sq 8 [mv 4,mv 0,ln 9,bn .lss 8 10])) (.cond (t0 11) .skip (.exit 0))) (.seq (.block 1 (.iE (sq 14 [mv 3,mv 4,mv 0,mv 4,ix 1 16 17,ld 18,ix 1 14 15]++s0 (sr 1 20 19)))) (.iE (sq 12 [mv 4,bi .add 12 1]++sq 4 [mv 13]))))))) (.seq (.iE (sq 21 [mv 3]++sq 2 [mv 21])) .ret))))
theorem acR:jV Tryz.prog 54 ZD 22 [.tmp 2]:=mf Tryz.func54 Tryz.ntmps54
def uW(a:gI):(Int×gI)->Option ((Int×gI)⊕gI)
 |(i,out)=>
  if(decide (i<(a.length:Int)))=true then
   if 0<=i/\i<(a.length:Int)/\i<(out.length:Int)then
    some (.inl ((IntKind.i64.wrap (i+1)),out.set i.toNat (a.getD i.toNat default)))
   else none
  else
   Option.map Sum.inr (some out)
def tM(a:gI):Option gI:=
 if 0<=(a.length:Int)/\8*(a.length:Int)<=281474976710656/\(a.length:Int)<4611686018427387904 then
  iL (uW a) (0,List.replicate a.length 0)
 else none
instance Yb{a:gI}:jf (tM a) fun rr=>iR Tryz.prog 54 [.d ((iH 1 iD) a)] [] 0 fun xx ss=>xx=.kU 1 900000 a.length/\ss=[(900000,.kT 1 a.length (je (List.map iD rr)))]:=⟨@fun rr h=>by
 delta tM at h;refine acR.sk (iB ?_);delta ZD;refine jd ?_;refine jZ h fun hp h=>?_
 refine nL h [4,8,9,10,11,12,13,14,15,16,17,18,19,20] (fun pp=>[(4,.d (iD pp.1))]) (fun pp=>[(7,.kT 1 a.length (je (List.map iD pp.2)))]) ?_ ?_
 ·try dsimp only
  refine(iW.KV 7 (je (List.map iD (List.replicate a.length 0))) rfl (II _)).trans ?_;exact wk
 rintro⟨i,out⟩ t1 h hb1;unfold uW at h;try dsimp only at h
 refine iB (jd ?_);refine it h (fun hc h=>?_) fun hc h=>?_
 ·refine jZ h fun hp h=>?_
  cases h;refine⟨_,rfl,?_⟩;refine(iW.KV 7 (je (List.map iD (out.set i.toNat (a.getD i.toNat default)))) rfl (by(try simp only[go_sem,EK,EJ,jg,AV.ji,AV.jY]);exact EV (i:=i.toNat) iA iA iA rfl)).trans ?_;exact wk
 replace h:=jD h hb1;cases h;exact iV.trans (iV.move 7 900000 (ob:=.kT 1 a.length (je (List.map iD rr))) iA iA iA rfl (by first|rfl|(simp[sat,lQ,Ob.jY,jg];done))) (iV.told zP nh)⟩
def ZB:iJ:=
 (.seq (.iE (sq 1 [bo 1 24 0,.alloc 2 34 [.sl 0 (some true) []]])) (.seq (.iE (sq 3 [.alloc 3 34 [.sl 0 (some true) []]])) (.seq (.iE (sq 4 [fa 0 1,ld 4,cf 54 [5],fa 0 3]++s0 (sr 1 7 6))) (.seq (.iE (sq 8 [la 1 3]++s0 (sr 1 2 8))) .ret))))
theorem acP:jV Tryz.prog 22 ZB 9 [.cell 2 1 true]:=mf Tryz.func22 Tryz.ntmps22
def Df(x:gI):Option gI:=
 (tM x).bind fun r0=>
 some r0
instance abf{x:gI}:jf (Df x) fun rr=>iR Tryz.prog 22 [.d (.agg [(iH 1 iD) x])] [] 0 fun xx ss=>xx=.agg [.kU 1 900000 x.length]/\ss=[(900000,.kT 1 x.length (je (List.map iD rr)))]:=⟨@fun rr h=>by
 delta Df at h;refine acP.sk (iB ?_);delta ZB;refine jd ?_;refine tg [] [(900000,6)] h fun r0 hr0 h=>?_
 refine oS ?_;cases h;exact iV.trans ((iV.trans (iV.move 6 900000 (ob:=.kT 1 x.length (je (List.map iD rr))) iA iA iA rfl (by first|rfl|(simp[sat,lQ,Ob.jY,jg];done))) (iV.ou [1,2,3] (by simp)))) (iV.told zP nh)⟩
def ZE:iJ:=
 (.seq (.iE (sq 1 [bo 1 78 0,.alloc 2 54 [.sl 0 (some true) [],.sl 0 (some true) []]])) (.seq (.iE (sq 3 [.alloc 3 54 [.sl 0 (some true) [],.sl 0 (some true) []]])) (.seq (.iE (sq 4 [fa 0 1,ld 4,cf 54 [5],fa 0 3]++s0 (sr 1 7 6))) (.seq (.iE (sq 8 [fa 1 1,ld 8,cf 54 [9],fa 1 3]++s0 (sr 1 11 10))) (.seq (.iE (sq 12 [la 2 3]++s0 (sr 2 2 12))) .ret)))))
theorem acS:jV Tryz.prog 55 ZE 13 [.cell 2 2 true]:=mf Tryz.func55 Tryz.ntmps55
def Aa(x:gM):Option gM:=
 (tM x.1).bind fun r0=>
 (tM x.2).bind fun r1=>
 some (r0,r1)
instance aao{x:gM}:jf (Aa x) fun rr=>iR Tryz.prog 55 [.d (.agg [(iH 1 iD) x.1,(iH 1 iD) x.2])] [] 0 fun xx ss=>xx=.agg [.kU 1 900000 x.1.length,.kU 1 900001 x.2.length]/\ss=[(900000,.kT 1 x.1.length (je (List.map iD rr.1))),(900001,.kT 1 x.2.length (je (List.map iD rr.2)))]:=⟨@fun rr h=>by
 delta Aa at h;refine acS.sk (iB ?_);delta ZE;refine jd ?_;refine tg [] [(900000,6)] h fun r0 hr0 h=>?_
 refine oS ?_;refine tg [] [(900000,10)] h fun r1 hr1 h=>?_
 refine oS ?_;cases h;exact iV.trans ((iV.trans (iV.move 6 900000 (ob:=.kT 1 x.1.length (je (List.map iD r0))) iA iA iA rfl (by first|rfl|(simp[sat,lQ,Ob.jY,jg];done))) (iV.trans (iV.move 10 900001 (ob:=.kT 1 x.2.length (je (List.map iD r1))) iA iA iA rfl (by first|rfl|(simp[sat,lQ,Ob.jY,jg];done))) (iV.ou [1,2,3] (by simp))))) (iV.told zP nh)⟩
def ZC:iJ:=
 (.seq (.iE (sq 2 [.mv (.const (.slice none 0 0))])) (.seq (.iE (sq 5 [mv 0,ln 5,.BI 7 54 2 48 [.sl 0 (some true) [],.sl 0 (some true) []] false (t0 6) (t0 6)]++sq 3 [mv 7])) (.seq (.seq (.iE (sq 4 [mi 0])) (.block 0 (.loop (.seq (.seq (.iE (sq 8 [mv 4,mv 0,ln 9,bn .lss 8 10])) (.cond (t0 11) .skip (.exit 0))) (.seq (.block 1 (.iE (sq 14 [mv 3,mv 4,mv 0,mv 4,ix 2 16 17,la 2 18,cf 55 [19],ix 2 14 15]++s0 (sr 2 21 20)))) (.iE (sq 12 [mv 4,bi .add 12 1]++sq 4 [mv 13]))))))) (.seq (.iE (sq 22 [mv 3]++sq 2 [mv 22])) .ret))))
theorem acQ:jV Tryz.prog 23 ZC 23 [.tmp 2]:=mf Tryz.func23 Tryz.ntmps23
def wz(a:List gM):(Int×List gM)->Option ((Int×List gM)⊕List gM)
 |(i,out)=>
  if(decide (i<(a.length:Int)))=true then
   if 0<=i/\i<(a.length:Int)/\i<(out.length:Int)then
    (Aa (a.getD i.toNat default)).bind fun r=>
    some (.inl ((IntKind.i64.wrap (i+1)),out.set i.toNat r))
   else none
  else
   Option.map Sum.inr (some out)
def yV(a:List gM):Option gR:=
 if 0<=(a.length:Int)/\48*(a.length:Int)<=281474976710656/\(a.length:Int)<4611686018427387904 then
  iL (wz a) (0,List.replicate a.length ([],[]))
 else none
instance aae{a:List gM}:jf (yV a) fun rr=>iR Tryz.prog 23 [.d ((iH 2 mX) a)] [] 0 fun xx ss=>xx=.kU 2 900000 a.length/\ss=[(900000,.kT 2 a.length (je (List.map iC rr)))]:=⟨@fun rr h=>by
 delta yV at h;refine acQ.sk (iB ?_);delta ZC;refine jd ?_;refine jZ h fun hp h=>?_
 refine nL h [4,8,9,10,11,12,13,14,15,16,17,18,19,20,21] (fun pp=>[(4,.d (iD pp.1))]) (fun pp=>[(7,.kT 2 a.length (je (List.map iC pp.2)))]) ?_ ?_
 ·try dsimp only
  refine(iW.agP (id:=7) (f:=iC) ([],[]) rfl (by exact⟨Z3.ae5,⟨Z3.ae5,trivial⟩⟩)).trans ?_;exact wk
 rintro⟨i,out⟩ t1 h hb1;unfold wz at h;try dsimp only at h
 refine iB (jd ?_);refine it h (fun hc h=>?_) fun hc h=>?_
 ·refine jZ h fun hp h=>?_
  refine tg [] [(900000,20),(900001,200001)] h fun r hr h=>?_
  refine oS ?_;cases h;refine⟨_,rfl,?_⟩;refine(iW.RH (f':=iD) (ys:=r.1) (m:=(a.getD i.toNat default).1.length) (m':=(a.getD i.toNat default).1.length) 7 20 0 rfl rfl (by first|rfl|(simp[sat,rS,sset,jz,Ob.kill,Ob.jY,jg];done)) rfl (by decide) iA (by decide)).trans ?_;refine(iW.RH (f':=iD) (ys:=r.2) (m:=(a.getD i.toNat default).2.length) (m':=(a.getD i.toNat default).2.length) 7 200001 1 rfl rfl (by first|rfl|(simp[sat,rS,sset,jz,Ob.kill,Ob.jY,jg];done)) rfl (by decide) iA (by decide)).trans ?_;refine(iW.drop 20 iA).trans ?_;refine(iW.drop 200001 iA).trans ?_;refine(iW.KV 7 (je (List.map iC (out.set i.toNat r))) rfl (by(try simp only[go_sem,EK,EJ,jg,AV.ji,AV.jY]);exact EV (i:=i.toNat) iA iA iA rfl)).trans ?_;exact wk
 replace h:=jD h hb1;cases h;exact iV.trans (iV.move 7 900000 (ob:=.kT 2 a.length (je (List.map iC rr))) iA iA iA rfl (by first|rfl|(simp[sat,lQ,Ob.jY,jg];done))) (iV.told zP nh)⟩
def ae2:iJ:=
 (.seq (.iE (sq 1 [bo 1 27 0,.alloc 2 37 [.sl 0 (some true) [],.sl 0 (some true) []]])) (.seq (.iE (sq 3 [.alloc 3 37 [.sl 0 (some true) [],.sl 0 (some true) []]])) (.seq (.iE (sq 4 [fa 0 1,la 1 4,cf 22 [5],fa 0 3]++s0 (sr 1 7 6))) (.seq (.iE (sq 8 [fa 1 1,ld 8,cf 23 [9],fa 1 3]++s0 (sr 1 11 10))) (.seq (.iE (sq 12 [la 2 3]++s0 (sr 2 2 12))) .ret)))))
theorem agv:jV Tryz.prog 6 ae2 13 [.cell 2 2 true]:=mf Tryz.func6 Tryz.ntmps6
def rT(x:gW):Option gW:=
 (Df x.1).bind fun r0=>
 (yV x.2).bind fun r1=>
 some (r0,r1)
instance J4{x:gW}:jf (rT x) fun rr=>iR Tryz.prog 6 [.d (.agg [(iH 1 iD) x.1,(iH 2 mX) x.2])] [] 0 fun xx ss=>xx=.agg [.kU 1 900000 x.1.length,.kU 2 900001 x.2.length]/\ss=[(900000,.kT 1 x.1.length (je (List.map iD rr.1))),(900001,.kT 2 x.2.length (je (List.map iC rr.2)))]:=⟨@fun rr h=>by
 delta rT at h;refine agv.sk (iB ?_);delta ae2;refine jd ?_;refine tg [] [(900000,6)] h fun r0 hr0 h=>?_
 refine oS ?_;refine tg [] [(900000,10)] h fun r1 hr1 h=>?_
 refine oS ?_;cases h;exact iV.trans ((iV.trans (iV.move 6 900000 (ob:=.kT 1 x.1.length (je (List.map iD r0))) iA iA iA rfl (by first|rfl|(simp[sat,lQ,Ob.jY,jg];done))) (iV.trans (iV.move 10 900001 (ob:=.kT 2 x.2.length (je (List.map iC r1))) iA iA iA rfl (by first|rfl|(simp[sat,lQ,Ob.jY,jg];done))) (iV.ou [1,2,3] (by simp))))) (iV.told zP nh)⟩
def yz(x:gW):Option gW:=(rT x).bind fun r=>if x.1.length=r.1.length/\x.2.length=r.2.length then some r else none
instance VR{x:gW}:jf (yz x) fun rr=>jK Tryz.prog 6 [(.agg [(iH 1 iD) x.1,(iH 2 mX) x.2])] (.agg [(iH 1 iD) rr.1,(iH 2 iC) rr.2]):=⟨@fun rr h=>by
 obtain⟨r,h1,h2⟩:=bind_some h;obtain⟨hp,h2⟩:=sV h2;cases h2;exact iR.pub (dz:=[(.agg [(iH 1 iD) x.1,(iH 2 mX) x.2])]) (tl:=[(900000,1,List.map iD rr.1),(900001,2,List.map iC rr.2)]) ((J4).c h1) (by simp[toks];try omega) (.agg (.cons (O8.tok (f:=iD) (by simp[toks,sat];try omega) iA) (.cons (O8.tok (f:=iC) (by simp[toks,sat];try omega) iA) .nil)))⟩
def q_(n0:Nat)(n1:Nat)(x0:gW)(x1:Int):Option (gY×Bool):=if n0=x0.1.length/\n1=x0.2.length then sx x0 x1 else none
instance LV{n0:Nat}{n1:Nat}{x0:gW}{x1:Int}:jf (q_ n0 n1 x0 x1) fun rr=>iR Tryz.prog 7 [.agg [.kU 1 0 n0,.kU 2 1 n1],.d (iD x1)] [(0,.kT 1 n0 (je (List.map iD x0.1))),(1,.kT 2 n1 (je (List.map iC x0.2)))] 2 fun xx ss=>xx=.kZ [.agg [.kU 4 900000 rr.1.length],.d (bD rr.2)]/\ss=[(0,.kT 1 n0 (je (List.map iD x0.1))),(1,.kT 2 n1 (je (List.map iC x0.2))),(900000,.kT 4 rr.1.length (je (List.map iP rr.1)))]:=⟨@fun rr h=>by
 obtain⟨hp,h⟩:=sV h;have h1:=iR.kT (y:=.kZ [.agg [.own 4 900000 (List.map iP rr.1)],.d (bD rr.2)]) ((Fy).c h) (fun p hp=>by
  simp only[ox,xz,aZ,bz,aT,bA,ei,or_false]at hp;subst hp;exact Whole.deep (by rfl) (by simp)) rfl rfl
 refine iR.eq (iR.ac0 (dz:=[(.agg [(iH 1 iD) x0.1,(iH 2 iC) x0.2]),(iD x1)]) h1 rfl (args:=[.agg [.kU 1 0 n0,.kU 2 1 n1],.d (iD x1)]) (s:=[(0,.kT 1 n0 (je (List.map iD x0.1))),(1,.kT 2 n1 (je (List.map iC x0.2)))]) (k:=2) (.cons (.agg (.cons (A_.tok (f:=iD) rfl iA) (.cons (A_.tok (f:=iC) rfl iA) .nil))) (.cons (.le (AV.le_refl _)) .nil)) (by simp[ox,xz]) (fun p hp=>?_)) (by simp[H7,Mc]) (by simp[toks,ox,xz]);simp only[ox,xz,aZ,bz,aT,bA,ei,or_false]at hp;subst hp;exact uq.2⟩
def p_(n0:Nat)(x0:gY)(x1:gY):Option Bool:=if n0=x0.length then tC x0 x1 else none
instance NJ{n0:Nat}{x0:gY}{x1:gY}:jf (p_ n0 x0 x1) fun rr=>iR Tryz.prog 8 [.agg [.kU 4 0 n0],.d (.agg [(iH 4 iP) x1])] [(0,.kT 4 n0 (je (List.map iP x0)))] 1 fun xx ss=>xx=.d (bD rr)/\ss=[(0,.kT 4 n0 (je (List.map iP x0)))]:=⟨@fun rr h=>by
 obtain⟨hp,h⟩:=sV h;exact iR.acZ ((Gg).c h) (.cons (.agg (.cons (A_.tok (f:=iP) rfl iA) .nil)) (.cons (.le (AV.le_refl _)) .nil))⟩
def ue(n0:Nat)(n1:Nat)(n2:Nat)(n3:Nat)(x0:gW)(x1:gW):Option Bool:=if n0=x0.1.length/\n1=x0.2.length/\n2=x1.1.length/\n3=x1.2.length then sC x0 x1 else none
instance LW{n0:Nat}{n1:Nat}{n2:Nat}{n3:Nat}{x0:gW}{x1:gW}:jf (ue n0 n1 n2 n3 x0 x1) fun rr=>iR Tryz.prog 9 [.agg [.kU 1 0 n0,.kU 2 1 n1],.agg [.kU 1 2 n2,.kU 2 3 n3]] [(0,.kT 1 n0 (je (List.map iD x0.1))),(1,.kT 2 n1 (je (List.map iC x0.2))),(2,.kT 1 n2 (je (List.map iD x1.1))),(3,.kT 2 n3 (je (List.map iC x1.2)))] 4 fun xx ss=>xx=.d (bD rr)/\ss=[(0,.kT 1 n0 (je (List.map iD x0.1))),(1,.kT 2 n1 (je (List.map iC x0.2))),(2,.kT 1 n2 (je (List.map iD x1.1))),(3,.kT 2 n3 (je (List.map iC x1.2)))]:=⟨@fun rr h=>by
 obtain⟨hp,h⟩:=sV h;exact iR.acZ ((Fz).c h) (.cons (.agg (.cons (A_.tok (f:=iD) rfl iA) (.cons (A_.tok (f:=iC) rfl iA) .nil))) (.cons (.agg (.cons (A_.tok (f:=iD) rfl iA) (.cons (A_.tok (f:=iC) rfl iA) .nil))) .nil))⟩
def Zz:iJ:=
 (.seq (.iE (sq 4 [mi 0])) (.seq (.seq (.iE (sq 5 [mi 0])) (.block 0 (.loop (.seq (.seq (.iE (sq 6 [mv 5,mv 0,ln 7,bn .lss 6 8])) (.cond (t0 9) .skip (.exit 0))) (.seq (.block 1 (.seq (.iE (sq 12 [mv 0,mv 5,mv 1,ix 1 12 13]++s0 (sr 1 15 14))) (.iE (sq 16 [mv 1,bi .add 16 1]++sq 1 [mv 17])))) (.iE (sq 10 [mv 5,bi .add 10 1]++sq 5 [mv 11]))))))) (.seq (.iE (sq 18 [mv 1]++sq 4 [mv 18])) .ret)))
theorem acN:jV Tryz.prog 73 Zz 19 [.tmp 4]:=mf Tryz.func73 Tryz.ntmps73
def xC(n:Nat):gL->Option (gL⊕gT)
 |(k,i,b)=>
  if(decide (i<(n:Int)))=true then
   if 0<=i/\i<(n:Int)/\i<(b.length:Int)then
    some (.inl ((IntKind.i64.wrap (k+1)),(IntKind.i64.wrap (i+1)),b.set i.toNat k))
   else none
  else
   Option.map Sum.inr (some (b,k))
def oE(n:Nat)(a:gI)(k:Int):Option gT:=iL (xC n) (k,0,a)
instance X8{n:Nat}{a:gI}{k:Int}:jf (oE n a k) fun rr=>iR Tryz.prog 73 [.kU 1 0 n,.d (iD k)] [(0,.kT 1 n (je (List.map iD a)))] 1 fun xx ss=>xx=.d (iD rr.2)/\ss=[(0,.kT 1 n (je (List.map iD rr.1)))]:=⟨@fun rr h=>by
 delta oE at h;refine acN.sk (iB ?_);delta Zz;refine jd ?_;refine nL h [1,5,6,7,8,9,10,11,12,13,14,15,16,17] (fun pp=>[(1,.d (iD pp.1)),(5,.d (iD pp.2.1))]) (fun pp=>[(0,.kT 1 n (je (List.map iD pp.2.2)))]) ?_ ?_
 ·try dsimp only
  exact wk
 rintro⟨k,i,b⟩ t1 h hb1;unfold xC at h;try dsimp only at h
 refine iB (jd ?_);refine it h (fun hc h=>?_) fun hc h=>?_
 ·refine jZ h fun hp h=>?_
  refine oS ?_;cases h;refine⟨_,rfl,?_⟩;refine(iW.KV 0 (je (List.map iD (b.set i.toNat k))) rfl (EV (i:=i.toNat) iA iA iA rfl)).trans ?_;exact wk
 replace h:=jD h hb1;cases h;exact iV.told zP nh⟩
def Zw:iJ:=
 (.seq (.iE (sq 2 [.Fw 64 2 34 (t0 0)]++sq 4 [mi 0])) (.seq (.iE (sq 5 [fa 0 2,ld 5,mv 1,cf 73 [6,7]]++sq 1 [mv 8])) (.seq (.iE (sq 9 [mv 1]++sq 4 [mv 9])) .ret)))
theorem acK:jV Tryz.prog 31 Zw 10 [.tmp 4]:=mf Tryz.func31 Tryz.ntmps31
def Da(n0:Nat)(x:gI)(k:Int):Option gT:=
 (oE n0 x k).bind fun r0=>
 some (r0.1,r0.2)
instance abe{n0:Nat}{x:gI}{k:Int}:jf (Da n0 x k) fun rr=>iR Tryz.prog 31 [.agg [.kU 1 0 n0],.d (iD k)] [(0,.kT 1 n0 (je (List.map iD x)))] 1 fun xx ss=>xx=.d (iD rr.2)/\ss=[(0,.kT 1 n0 (je (List.map iD rr.1)))]:=⟨@fun rr h=>by
 delta Da at h;refine acK.sk (iB ?_);delta Zw;refine jd ?_;refine tg [(0,0)] [] h fun r0 hr0 h=>?_
 refine oS ?_;cases h;exact iV.trans (iV.ou [64] (by simp)) (iV.told zP nh)⟩
def Zx:iJ:=
 (.seq (.iE (sq 4 [mi 0])) (.seq (.seq (.iE (sq 5 [mi 0])) (.block 0 (.loop (.seq (.seq (.iE (sq 6 [mv 5,mv 0,ln 7,bn .lss 6 8])) (.cond (t0 9) .skip (.exit 0))) (.seq (.block 1 (.seq (.ghost (.iE (sq 12 [mv 0,mv 5,ix 2 12 13,fa 0 14,ld 15,mv 1,cf 73 [16,17]]++sq 1 [mv 18]))) (.ghost (.iE (sq 19 [mv 0,mv 5,ix 2 19 20,fa 1 21,ld 22,mv 1,cf 73 [23,24]]++sq 1 [mv 25]))))) (.iE (sq 10 [mv 5,bi .add 10 1]++sq 5 [mv 11]))))))) (.seq (.iE (sq 26 [mv 1]++sq 4 [mv 26])) .ret)))
theorem acL:jV Tryz.prog 32 Zx 27 [.tmp 4]:=mf Tryz.func32 Tryz.ntmps32
def yy(n:Nat):(Int×Int×List gM)->Option ((Int×Int×List gM)⊕(List gM×Int))
 |(k,i,b)=>
  if(decide (i<(n:Int)))=true then
   if 0<=i/\i<(n:Int)/\i<(b.length:Int)then
    (oE ((b.getD i.toNat default).1).length ((b.getD i.toNat default).1) k).bind fun r1=>
    (oE ((b.getD i.toNat default).2).length ((b.getD i.toNat default).2) r1.2).bind fun r2=>
    some (.inl (r2.2,(IntKind.i64.wrap (i+1)),b.set i.toNat (r1.1,r2.1)))
   else none
  else
   Option.map Sum.inr (some (b,k))
def yS(n:Nat)(a:List gM)(k:Int):Option (List gM×Int):=iL (yy n) (k,0,a)
instance aad{n:Nat}{a:List gM}{k:Int}:jf (yS n a k) fun rr=>iR Tryz.prog 32 [.kU 2 0 n,.d (iD k)] [(0,.kT 2 n (je (List.map iC a)))] 1 fun xx ss=>xx=.d (iD rr.2)/\ss=[(0,.kT 2 n (je (List.map iC rr.1)))]:=⟨@fun rr h=>by
 delta yS at h;refine acL.sk (iB ?_);delta Zx;refine jd ?_;refine nL h [1,5,6,7,8,9,10,11,12,13,14,15,16,17,18,19,20,21,22,23,24,25] (fun pp=>[(1,.d (iD pp.1)),(5,.d (iD pp.2.1))]) (fun pp=>[(0,.kT 2 n (je (List.map iC pp.2.2)))]) ?_ ?_
 ·try dsimp only
  exact wk
 rintro⟨k,i,b⟩ t1 h hb1;unfold yy at h;try dsimp only at h
 refine iB (jd ?_);refine it h (fun hc h=>?_) fun hc h=>?_
 ·refine jZ h fun hp h=>?_
  refine kj.of ((iW.KV 0 (je (List.map iC (b.set i.toNat ((b.getD i.toNat default).1,(b.getD i.toNat default).2)))) rfl (by rw[He iA])).trans (iW.PV (f:=iC) (f':=iD) (xs:=b) (y:=((b.getD i.toNat default).1,(b.getD i.toNat default).2)) (ys:=((b.getD i.toNat default).1)) 0 501 i.toNat 0 rfl iA (by decide) (m:=i.toNat*2) iA rfl rfl iA)) ?_;refine jd ?_;refine oS ?_;refine tg [(0,501)] [] h fun r1 hr1 h=>?_
  refine oS ?_;refine kj.of ((iW.O9 (f:=iC) (f':=iD) (xs:=b) (y:=((b.getD i.toNat default).1,(b.getD i.toNat default).2)) (y':=(r1.1,(b.getD i.toNat default).2)) (ys:=r1.1) 0 501 i.toNat 0 rfl rfl rfl iA (by decide) iA (by decide) rfl iA (by decide)).trans (iW.PV (f:=iC) (f':=iD) (xs:=b) (y:=(r1.1,(b.getD i.toNat default).2)) (ys:=((b.getD i.toNat default).2)) 0 502 i.toNat 1 rfl iA (by decide) (m:=i.toNat*2+1) iA rfl rfl iA)) ?_;refine jd ?_;refine oS ?_;refine tg [(0,502)] [] h fun r2 hr2 h=>?_
  refine oS ?_;cases h;refine⟨_,rfl,?_⟩;refine(iW.O9 (f:=iC) (f':=iD) (xs:=b) (y:=(r1.1,(b.getD i.toNat default).2)) (y':=(r1.1,r2.1)) (ys:=r2.1) 0 502 i.toNat 1 rfl rfl rfl iA (by decide) iA (by decide) rfl iA (by decide)).trans ?_;exact wk
 replace h:=jD h hb1;cases h;exact iV.told zP nh⟩
def Zu:iJ:=
 (.seq (.iE (sq 2 [.Fw 64 2 37 (t0 0)]++sq 4 [mi 0])) (.seq (.iE (sq 5 [fa 0 2,la 1 5,mv 1,cf 31 [6,7]]++sq 1 [mv 8])) (.seq (.iE (sq 9 [fa 1 2,ld 9,mv 1,cf 32 [10,11]]++sq 1 [mv 12])) (.seq (.iE (sq 13 [mv 1]++sq 4 [mv 13])) .ret))))
theorem acI:jV Tryz.prog 10 Zu 14 [.tmp 4]:=mf Tryz.func10 Tryz.ntmps10
def xM(n0:Nat)(n1:Nat)(x:gW)(k:Int):Option (gW×Int):=
 (Da n0 x.1 k).bind fun r0=>
 (yS n1 x.2 r0.2).bind fun r1=>
 some ((r0.1,r1.1),r1.2)
instance X9{n0:Nat}{n1:Nat}{x:gW}{k:Int}:jf (xM n0 n1 x k) fun rr=>iR Tryz.prog 10 [.agg [.kU 1 0 n0,.kU 2 1 n1],.d (iD k)] [(0,.kT 1 n0 (je (List.map iD x.1))),(1,.kT 2 n1 (je (List.map iC x.2)))] 2 fun xx ss=>xx=.d (iD rr.2)/\ss=[(0,.kT 1 n0 (je (List.map iD rr.1.1))),(1,.kT 2 n1 (je (List.map iC rr.1.2)))]:=⟨@fun rr h=>by
 delta xM at h;refine acI.sk (iB ?_);delta Zu;refine jd ?_;refine tg [(0,0)] [] h fun r0 hr0 h=>?_
 refine oS ?_;refine tg [(0,1)] [] h fun r1 hr1 h=>?_
 refine oS ?_;cases h;exact iV.trans (iV.ou [64] (by simp)) (iV.told zP nh)⟩
def ZA:iJ:=
 (.seq (.iE (sq 4 [mi 0])) (.seq (.seq (.iE (sq 5 [mi 0])) (.block 0 (.loop (.seq (.seq (.iE (sq 6 [mv 5,mv 0,ln 7,bn .lss 6 8])) (.cond (t0 9) .skip (.exit 0))) (.seq (.block 1 (.ghost (.iE (sq 12 [mv 0,mv 5,ix 1 12 13,ld 14,mv 1,cf 73 [15,16]]++sq 1 [mv 17])))) (.iE (sq 10 [mv 5,bi .add 10 1]++sq 5 [mv 11]))))))) (.seq (.iE (sq 18 [mv 1]++sq 4 [mv 18])) .ret)))
theorem acO:jV Tryz.prog 74 ZA 19 [.tmp 4]:=mf Tryz.func74 Tryz.ntmps74
def vV(n:Nat):(Int×Int×List gI)->Option ((Int×Int×List gI)⊕(List gI×Int))
 |(k,i,b)=>
  if(decide (i<(n:Int)))=true then
   if 0<=i/\i<(n:Int)/\i<(b.length:Int)then
    (oE (b.getD i.toNat default).length (b.getD i.toNat default) k).bind fun r1=>
    some (.inl (r1.2,(IntKind.i64.wrap (i+1)),b.set i.toNat r1.1))
   else none
  else
   Option.map Sum.inr (some (b,k))
def vU(n:Nat)(a:List gI)(k:Int):Option (List gI×Int):=iL (vV n) (k,0,a)
instance VQ{n:Nat}{a:List gI}{k:Int}:jf (vU n a k) fun rr=>iR Tryz.prog 74 [.kU 1 0 n,.d (iD k)] [(0,.kT 1 n (je (List.map (iH 1 iD) a)))] 1 fun xx ss=>xx=.d (iD rr.2)/\ss=[(0,.kT 1 n (je (List.map (iH 1 iD) rr.1)))]:=⟨@fun rr h=>by
 delta vU at h;refine acO.sk (iB ?_);delta ZA;refine jd ?_;refine nL h [1,5,6,7,8,9,10,11,12,13,14,15,16,17] (fun pp=>[(1,.d (iD pp.1)),(5,.d (iD pp.2.1))]) (fun pp=>[(0,.kT 1 n (je (List.map (iH 1 iD) pp.2.2)))]) ?_ ?_
 ·try dsimp only
  exact wk
 rintro⟨k,i,b⟩ t1 h hb1;unfold vV at h;try dsimp only at h
 refine iB (jd ?_);refine it h (fun hc h=>?_) fun hc h=>?_
 ·refine jZ h fun hp h=>?_
  refine kj.of ((iW.KV 0 (je (List.map (iH 1 iD) (b.set i.toNat (b.getD i.toNat default)))) rfl (by rw[He iA])).trans (iW.PV (f:=(iH 1 iD)) (f':=iD) (xs:=b) (y:=(b.getD i.toNat default)) (ys:=(b.getD i.toNat default)) 0 501 i.toNat 0 rfl iA (by decide) (m:=i.toNat) iA rfl rfl iA)) ?_;refine jd ?_;refine oS ?_;refine tg [(0,501)] [] h fun r1 hr1 h=>?_
  refine oS ?_;cases h;refine⟨_,rfl,?_⟩;refine(iW.O9 (f:=(iH 1 iD)) (f':=iD) (xs:=b) (y:=(b.getD i.toNat default)) (y':=r1.1) (ys:=r1.1) 0 501 i.toNat 0 rfl rfl rfl iA (by decide) iA (by decide) rfl iA (by decide)).trans ?_;exact wk
 replace h:=jD h hb1;cases h;exact iV.told zP nh⟩
def Zy:iJ:=
 (.seq (.iE (sq 4 [mi 0])) (.seq (.seq (.iE (sq 5 [mi 0])) (.block 0 (.loop (.seq (.seq (.iE (sq 6 [mv 5,mv 0,ln 7,bn .lss 6 8])) (.cond (t0 9) .skip (.exit 0))) (.seq (.block 1 (.seq (.ghost (.iE (sq 12 [mv 0,mv 5,mv 1,ix 4 12 13,fa 0 15]++s0 (sr 1 16 14)))) (.seq (.iE (sq 17 [mv 1,bi .add 17 1]++sq 1 [mv 18])) (.seq (.ghost (.iE (sq 19 [mv 0,mv 5,ix 4 19 20,fa 1 21,ld 22,mv 1,cf 73 [23,24]]++sq 1 [mv 25]))) (.seq (.ghost (.iE (sq 26 [mv 0,mv 5,ix 4 26 27,fa 2 28,ld 29,mv 1,cf 74 [30,31]]++sq 1 [mv 32]))) (.ghost (.iE (sq 33 [mv 0,mv 5,ix 4 33 34,fa 3 35,ld 36,mv 1,cf 73 [37,38]]++sq 1 [mv 39])))))))) (.iE (sq 10 [mv 5,bi .add 10 1]++sq 5 [mv 11]))))))) (.seq (.iE (sq 40 [mv 1]++sq 4 [mv 40])) .ret)))
theorem acM:jV Tryz.prog 33 Zy 41 [.tmp 4]:=mf Tryz.func33 Tryz.ntmps33
def yx(n:Nat):(Int×Int×List gQ)->Option ((Int×Int×List gQ)⊕(List gQ×Int))
 |(k,i,b)=>
  if(decide (i<(n:Int)))=true then
   if 0<=i/\i<(n:Int)/\i<(b.length:Int)then
    (oE ((b.getD i.toNat default).2.1).length ((b.getD i.toNat default).2.1) (IntKind.i64.wrap (k+1))).bind fun r1=>
    (vU ((b.getD i.toNat default).2.2.1).length ((b.getD i.toNat default).2.2.1) r1.2).bind fun r2=>
    (oE ((b.getD i.toNat default).2.2.2).length ((b.getD i.toNat default).2.2.2) r2.2).bind fun r3=>
    some (.inl (r3.2,(IntKind.i64.wrap (i+1)),b.set i.toNat (k,r1.1,r2.1,r3.1)))
   else none
  else
   Option.map Sum.inr (some (b,k))
def yQ(n:Nat)(a:List gQ)(k:Int):Option (List gQ×Int):=iL (yx n) (k,0,a)
instance aab{n:Nat}{a:List gQ}{k:Int}:jf (yQ n a k) fun rr=>iR Tryz.prog 33 [.kU 4 0 n,.d (iD k)] [(0,.kT 4 n (je (List.map iP a)))] 1 fun xx ss=>xx=.d (iD rr.2)/\ss=[(0,.kT 4 n (je (List.map iP rr.1)))]:=⟨@fun rr h=>by
 delta yQ at h;refine acM.sk (iB ?_);delta Zy;refine jd ?_;refine nL h [1,5,6,7,8,9,10,11,12,13,14,15,16,17,18,19,20,21,22,23,24,25,26,27,28,29,30,31,32,33,34,35,36,37,38,39] (fun pp=>[(1,.d (iD pp.1)),(5,.d (iD pp.2.1))]) (fun pp=>[(0,.kT 4 n (je (List.map iP pp.2.2)))]) ?_ ?_
 ·try dsimp only
  exact wk
 rintro⟨k,i,b⟩ t1 h hb1;unfold yx at h;try dsimp only at h
 refine iB (jd ?_);refine it h (fun hc h=>?_) fun hc h=>?_
 ·refine jZ h fun hp h=>?_
  refine kj.of (iW.KV 0 (je (List.map iP (b.set i.toNat ((b.getD i.toNat default).1,(b.getD i.toNat default).2.1,(b.getD i.toNat default).2.2.1,(b.getD i.toNat default).2.2.2)))) rfl (by rw[He iA])) (oS ?_);refine kj.of ((iW.KV 0 (je (List.map iP (b.set i.toNat (k,(b.getD i.toNat default).2.1,(b.getD i.toNat default).2.2.1,(b.getD i.toNat default).2.2.2)))) rfl (by exact QG (i:=i.toNat) (k:=0) iA (by decide) iA iA rfl rfl)).trans (iW.PV (f:=iP) (f':=iD) (xs:=b) (y:=(k,(b.getD i.toNat default).2.1,(b.getD i.toNat default).2.2.1,(b.getD i.toNat default).2.2.2)) (ys:=((b.getD i.toNat default).2.1)) 0 501 i.toNat 1 rfl iA (by decide) (m:=i.toNat*4+1) iA rfl rfl iA)) ?_;refine jd ?_;refine oS ?_;refine tg [(0,501)] [] h fun r1 hr1 h=>?_
  refine oS ?_;refine kj.of ((iW.O9 (f:=iP) (f':=iD) (xs:=b) (y:=(k,(b.getD i.toNat default).2.1,(b.getD i.toNat default).2.2.1,(b.getD i.toNat default).2.2.2)) (y':=(k,r1.1,(b.getD i.toNat default).2.2.1,(b.getD i.toNat default).2.2.2)) (ys:=r1.1) 0 501 i.toNat 1 rfl rfl rfl iA (by decide) iA (by decide) rfl iA (by decide)).trans (iW.PV (f:=iP) (f':=(iH 1 iD)) (xs:=b) (y:=(k,r1.1,(b.getD i.toNat default).2.2.1,(b.getD i.toNat default).2.2.2)) (ys:=((b.getD i.toNat default).2.2.1)) 0 502 i.toNat 2 rfl iA (by decide) (m:=i.toNat*4+2) iA rfl rfl iA)) ?_;refine jd ?_;refine oS ?_;refine tg [(0,502)] [] h fun r2 hr2 h=>?_
  refine oS ?_;refine kj.of ((iW.O9 (f:=iP) (f':=(iH 1 iD)) (xs:=b) (y:=(k,r1.1,(b.getD i.toNat default).2.2.1,(b.getD i.toNat default).2.2.2)) (y':=(k,r1.1,r2.1,(b.getD i.toNat default).2.2.2)) (ys:=r2.1) 0 502 i.toNat 2 rfl rfl rfl iA (by decide) iA (by decide) rfl iA (by decide)).trans (iW.PV (f:=iP) (f':=iD) (xs:=b) (y:=(k,r1.1,r2.1,(b.getD i.toNat default).2.2.2)) (ys:=((b.getD i.toNat default).2.2.2)) 0 503 i.toNat 3 rfl iA (by decide) (m:=i.toNat*4+3) iA rfl rfl iA)) ?_;refine jd ?_;refine oS ?_;refine tg [(0,503)] [] h fun r3 hr3 h=>?_
  refine oS ?_;cases h;refine⟨_,rfl,?_⟩;refine(iW.O9 (f:=iP) (f':=iD) (xs:=b) (y:=(k,r1.1,r2.1,(b.getD i.toNat default).2.2.2)) (y':=(k,r1.1,r2.1,r3.1)) (ys:=r3.1) 0 503 i.toNat 3 rfl rfl rfl iA (by decide) iA (by decide) rfl iA (by decide)).trans ?_;exact wk
 replace h:=jD h hb1;cases h;exact iV.told zP nh⟩
def Zv:iJ:=
 (.seq (.iE (sq 2 [.Fw 64 2 31 (t0 0)]++sq 4 [mi 0])) (.seq (.iE (sq 5 [fa 0 2,ld 5,mv 1,cf 33 [6,7]]++sq 1 [mv 8])) (.seq (.iE (sq 9 [mv 1]++sq 4 [mv 9])) .ret)))
theorem acJ:jV Tryz.prog 11 Zv 10 [.tmp 4]:=mf Tryz.func11 Tryz.ntmps11
def yR(n0:Nat)(x:gY)(k:Int):Option (gY×Int):=
 (yQ n0 x k).bind fun r0=>
 some (r0.1,r0.2)
instance aac{n0:Nat}{x:gY}{k:Int}:jf (yR n0 x k) fun rr=>iR Tryz.prog 11 [.agg [.kU 4 0 n0],.d (iD k)] [(0,.kT 4 n0 (je (List.map iP x)))] 1 fun xx ss=>xx=.d (iD rr.2)/\ss=[(0,.kT 4 n0 (je (List.map iP rr.1)))]:=⟨@fun rr h=>by
 delta yR at h;refine acJ.sk (iB ?_);delta Zv;refine jd ?_;refine tg [(0,0)] [] h fun r0 hr0 h=>?_
 refine oS ?_;cases h;exact iV.trans (iV.ou [64] (by simp)) (iV.told zP nh)⟩
def qh(n0:Nat)(x0:gY)(x1:Int):Option Int:=if n0=x0.length then qZ x0 x1 else none
instance Lu{n0:Nat}{x0:gY}{x1:Int}:jf (qh n0 x0 x1) fun rr=>iR Tryz.prog 12 [.agg [.kU 4 0 n0],.d (iD x1)] [(0,.kT 4 n0 (je (List.map iP x0)))] 1 fun xx ss=>xx=.d (iD rr)/\ss=[(0,.kT 4 n0 (je (List.map iP x0)))]:=⟨@fun rr h=>by
 obtain⟨hp,h⟩:=sV h;exact iR.acZ ((En).c h) (.cons (.agg (.cons (A_.tok (f:=iP) rfl iA) .nil)) (.cons (.le (AV.le_refl _)) .nil))⟩
end Go.Proofs.YtjgbnaihpicpgabGreat
namespace Go.Proofs.YtjgbnaihpicpgabGreat
open Go oq
attribute [local irreducible] uy zk yt nN mY oR kj C7 D_ BZ D9 Be vL mA oG Dk ju lM
set_option maxHeartbeats 4000000
attribute [-go_sem] sat sset
def mc3:iJ:=
 (.seq (.iE (sq 2 [bo 2 27 0]++sq 4 [mb false])) (.seq (.iE (sq 5 [mi 1048576])) (.seq (.iE (sq 16 [la 2 2,mv 5,cf 4 [16,17]]++sq 5 [mv 18])) (.seq (.seq (.iE (sq 19 [mv 5,bi .lss 19 0])) (.cond (t0 20) (.seq (.iE (sq 4 [mb true])) .ret) .skip)) (.seq (.iE (sq 22 [la 2 2,cf 6 [22],mv 1,cf 5 [23,24]]++sq 21 [mv 25]++sq 26 [ex 21 0,ex 21 1]++sq 6 [.alloc 6 31 [.sl 0 (some true) []]]++s0 (sr 1 6 26)++sq 7 [mv 27])) (.seq (.iE (sq 28 [la 2 2,cf 6 [28]]++sq 8 [.alloc 8 37 [.sl 0 (some true) [],.sl 0 (some true) []]]++s0 (sr 2 8 29))) (.seq (.iE (sq 31 [la 2 8,mv 1,cf 7 [31,32]]++sq 30 [mv 33]++sq 34 [ex 30 0,ex 30 1]++sq 9 [.alloc 9 31 [.sl 0 (some true) []]]++s0 (sr 1 9 34)++sq 10 [mv 35])) (.seq (.seq (.iE (sq 36 [la 1 9,la 1 6,cf 8 [36,37],nt 38,mv 39]++sg 40 false 41 [mv 10,mv 7,.Fv true (t0 41) (t0 42)]++sq 44 [po 40 43])) (.cond (t0 44) (.seq (.iE (sq 4 [mb false])) .ret) .skip)) (.seq (.seq (.draw (sq 45 [la 2 8,la 2 2,cf 6 [46],cf 9 [45,47],nt 48]) [[],[],[1],[0,2,2],[3]]) (.cond (t0 49) (.seq (.iE (sq 4 [mb false])) .ret) .skip)) (.seq (.iE (sq 11 [mi 1])) (.seq (.iE (sq 50 [la 2 8,mv 11,cf 10 [50,51]]++sq 11 [mv 52])) (.seq (.seq (.iE (sq 53 [mv 11,bi .lss 53 0,mv 54]++sg 55 false 56 [la 1 9,la 1 6,cf 8 [56,57],nt 58]++sq 60 [po 55 59,mv 60]++sg 61 false 62 [mv 10,mv 7,.Fv true (t0 62) (t0 63)]++sq 65 [po 61 64])) (.cond (t0 65) (.seq (.iE (sq 4 [mb false])) .ret) .skip)) (.seq (.iE (sq 12 [mi 1])) (.seq (.iE (sq 66 [la 1 9,mv 12,cf 11 [66,67]]++sq 12 [mv 68])) (.seq (.iE (sq 13 [mi 1])) (.seq (.iE (sq 69 [la 1 9,mv 13,cf 12 [69,70]]++sq 13 [mv 71])) (.seq (.seq (.iE (sq 72 [mv 13,bi .lss 72 0])) (.cond (t0 73) (.seq (.iE (sq 4 [mb false])) .ret) .skip)) (.seq (.seq (.iE (sq 74 [mv 13,mv 12,bn .neq 74 75])) (.cond (t0 76) (.seq (.iE (sq 4 [mb false])) .ret) .skip)) (.seq (.iE (sq 78 [la 2 2,cf 6 [78],mv 1,cf 7 [79,80]]++sq 77 [mv 81]++sq 82 [ex 77 0,ex 77 1]++sq 14 [.alloc 14 31 [.sl 0 (some true) []]]++s0 (sr 1 14 82)++sq 15 [mv 83])) (.seq (.seq (.iE (sq 84 [la 1 14,la 1 6,cf 8 [84,85],nt 86,mv 87]++sg 88 false 89 [mv 15,mv 7,.Fv true (t0 89) (t0 90)]++sq 92 [po 88 91])) (.cond (t0 92) (.seq (.iE (sq 4 [mb false])) .ret) .skip)) (.seq (.iE (sq 13 [mi 1])) (.seq (.iE (sq 93 [la 1 9,mv 13,cf 12 [93,94]]++sq 13 [mv 95])) (.seq (.seq (.iE (sq 96 [mv 13,bi .lss 96 0])) (.cond (t0 97) (.seq (.iE (sq 4 [mb false])) .ret) .skip)) (.seq (.seq (.iE (sq 98 [mv 13,mv 12,bn .neq 98 99])) (.cond (t0 100) (.seq (.iE (sq 4 [mb false])) .ret) .skip)) (.seq (.iE (sq 4 [mb true])) .ret)))))))))))))))))))))))))
theorem fn3:jV Tryz.prog 3 mc3 101 [.tmp 4]:=mf Tryz.func3 Tryz.ntmps3
def oy(aSys:gW)(aSteps:Int):Option Bool:=
 (sE aSys 1048576).bind fun r=>
 if(decide (r<0))=true then
  some true
 else
  (yz aSys).bind fun v=>
  (sG v aSteps).bind fun r_1=>
  (rT aSys).bind fun v_1=>
  (q_ aSys.1.length aSys.2.length v_1 aSteps).bind fun g=>
  (p_ g.1.length g.1 r_1.1).bind fun q=>
  if q=true then
   if(g.2 != r_1.2)=true then
    some false
   else
    (rT aSys).bind fun v_2=>
    (ue aSys.1.length aSys.2.length aSys.1.length aSys.2.length v_1 v_2).bind fun q_1=>
    if q_1=true then
     (xM aSys.1.length aSys.2.length v_1 1).bind fun m=>
     if(decide (m.2<0))=true then
      some false
     else
      (p_ g.1.length g.1 r_1.1).bind fun q_2=>
      if q_2=true then
       if(g.2 != r_1.2)=true then
        some false
       else
        (yR g.1.length g.1 1).bind fun m_1=>
        (qh g.1.length m_1.1 1).bind fun q_3=>
        if(decide (q_3<0))=true then
         some false
        else
         if(q_3 != m_1.2)=true then
          some false
         else
          (rT aSys).bind fun v_3=>
          (q_ aSys.1.length aSys.2.length v_3 aSteps).bind fun g_1=>
          (p_ g_1.1.length g_1.1 r_1.1).bind fun q_4=>
          if q_4=true then
           if(g_1.2 != r_1.2)=true then
            some false
           else
            (qh g.1.length m_1.1 1).bind fun q_5=>
            if(decide (q_5<0))=true then
             some false
            else
             if(q_5 != m_1.2)=true then
              some false
             else
              some true
          else
           some false
      else
       some false
    else
     some false
  else
   some false
instance AI{aSys:gW}{aSteps:Int}:jf (oy aSys aSteps) fun rr=>jK Tryz.prog 3 [nG aSys,iD aSteps] (bD rr):=⟨@fun rr h=>by
 delta oy at h;refine fn3.jv (iB ?_);delta mc3;refine jd ?_;refine rC h fun r hr h=>?_
 refine iF h fun hc h=>?_
 refine rC h fun v hv h=>?_
 refine TP h fun r_1 hr_1 h=>?_
 refine tg [] [(900000,29),(900001,200000)] h fun v_1 hv_1 h=>?_
 refine tg [(0,29),(1,200000)] [(900000,33)] h fun g hg h=>?_
 refine tg [(0,33)] [] h fun q hq h=>?_
 refine iT h fun hc h=>?_
 refine iF h fun hc h=>?_
 refine JH [] [(900000,47),(900001,200001)] h fun v_2 hv_2 h=>?_
 refine JH [(0,29),(1,200000),(2,47),(3,200001)] [] h fun q_1 hq_1 h=>?_
 refine jM (by kernel_rfl) (jd ?_);refine iT h fun hc h=>?_
 refine tg [(0,29),(1,200000)] [] h fun m hm h=>?_
 refine iF h fun hc h=>?_
 refine tg [(0,33)] [] h fun q_2 hq_2 h=>?_
 refine iT h fun hc h=>?_
 refine iF h fun hc h=>?_
 refine tg [(0,33)] [] h fun m_1 hm_1 h=>?_
 refine tg [(0,33)] [] h fun q_3 hq_3 h=>?_
 refine iF h fun hc h=>?_
 refine iF h fun hc h=>?_
 refine tg [] [(900000,79),(900001,200002)] h fun v_3 hv_3 h=>?_
 refine tg [(0,79),(1,200002)] [(900000,81)] h fun g_1 hg_1 h=>?_
 refine tg [(0,81)] [] h fun q_4 hq_4 h=>?_
 refine iT h fun hc h=>?_
 refine iF h fun hc h=>?_
 refine tg [(0,33)] [] h fun q_5 hq_5 h=>?_
 exact lW⟩
end Go.Proofs.YtjgbnaihpicpgabGreat
