/- A part of the proof about FnExactTwoProof (S1, S2). -/
import Derived.Test.YtjgbnaihpicpgabGreatTf
import Derived.Test.YtjgbnaihpicpgabGreatTg
set_option linter.all false
noncomputable section
namespace Go.Proofs.YtjgbnaihpicpgabGreat
open Go oq
attribute [local irreducible] uy zk yt nN mY oR kj C7 D_ BZ D9 Be vL mA oG Dk ju lM
set_option maxHeartbeats 4000000
set_option maxRecDepth 4000
def ad7:iJ:=
 (.seq (.iE (sq 1 [bo 1 37 0,.mv (.const (.slice none 0 0)),mb false])) (.seq (.seq (.iE (sq 4 [la 2 1,cf 16 [4],nt 5])) (.cond (t0 6) (.seq (.iE (sq 7 [.nY 7 47 6 []]++sq 2 [mv 7,mb false])) .ret) .skip)) (.seq (.iE (sq 8 [la 2 1,cf 77 [8],ex 9 0,ex 9 1]++sq 2 [mv 10,mv 11])) .ret)))
theorem afz:jV Tryz.prog 37 ad7 12 [.tmp 2,.tmp 3]:=mf Tryz.func37 Tryz.ntmps37
def tF(sys:gW):Option iw:=
 (om sys).bind fun r=>
 if r=true then
  (xD sys).bind fun r_1=>
  some r_1
 else
  some ([],false)
instance Sd{sys:gW}:jf (tF sys) fun rr=>mO Tryz.prog 37 [iU sys] [(iH 6 kN) rr.1,bD rr.2]:=⟨@fun rr h=>by
 delta tF at h;refine afz.mz (iB ?_);delta ad7;refine jd ?_;exact lW⟩
def ad8:iJ:=
 (.seq (.iE (sq 4 [.mv (.const (.slice none 0 0)),.mv (.const (.slice none 0 0)),mb false])) (.seq (.seq (.iE (sq 7 [mi 0])) (.block 0 (.loop (.seq (.seq (.iE (sq 9 [mv 7,mv 0,ln 10,bn .lss 9 11])) (.cond (t0 12) .skip (.exit 0))) (.seq (.block 1 (.seq (.iE (sq 8 [mi 0])) (.block 2 (.loop (.seq (.seq (.iE (sq 15 [mv 8,mv 1,ln 16,bn .lss 15 17])) (.cond (t0 18) .skip (.exit 2))) (.seq (.block 3 (.seq (.draw (sq 21 [mv 0,mv 7,ix 1 21 22,ld 23,mv 1,mv 8,ix 1 25 26,ld 27,cf 78 [24,28],nt 29]) [[],[],[0,1],[2],[],[],[4,5],[6],[3,7],[8]]) (.cond (t0 30) (.seq (.draw (sq 31 [mv 0,mv 7,ix 1 31 32,ld 33,mv 1,mv 8,ix 1 35 36,ld 37]++sq 4 [mv 34,mv 38,mb true]) [[],[],[0,1],[2],[],[],[4,5],[6],[3,0,1,2,3],[7,8,0,1,2,3,4,5,6,7,8],[9,0,1,2,3,4,5,6,7,8,9]]) .ret) .skip))) (.iE (sq 19 [mv 8,bi .add 19 1]++sq 8 [mv 20])))))))) (.iE (sq 13 [mv 7,bi .add 13 1]++sq 7 [mv 14]))))))) (.seq (.iE (sq 39 [.nY 39 2 1 [],.nY 40 2 1 []]++sq 4 [mv 39,mv 40,mb false])) .ret)))
theorem afA:jV Tryz.prog 38 ad8 41 [.tmp 4,.tmp 5,.tmp 6]:=mf Tryz.func38 Tryz.ntmps38
def lH(dz':gJ)(bs:gJ)(i:Int):Int->Option (Int⊕(Int⊕(gI×gI×Bool)))
 |k=>
  if(decide (k<(bs.length:Int)))=true then
   if 0<=i/\i<(dz'.length:Int)then
    if 0<=k/\k<(bs.length:Int)then
     (lT (dz'.getD i.toNat default) (bs.getD k.toNat default)).bind fun r=>
     if r=true then
      some (.inl (IntKind.i64.wrap (k+1)))
     else
      if 0<=i/\i<(dz'.length:Int)then
       if 0<=k/\k<(bs.length:Int)then
        Option.map Sum.inr (
         Option.map Sum.inr (
          some ((dz'.getD i.toNat default),(bs.getD k.toNat default),true)))
       else none
      else none
    else none
   else none
  else
   Option.map Sum.inr (
    some (.inl (IntKind.i64.wrap (i+1))))
def mU(dz':gJ)(bs:gJ):Int->Option (Int⊕(gI×gI×Bool))
 |i=>
  if(decide (i<(dz'.length:Int)))=true then
   iL (lH dz' bs i) 0
  else
   Option.map Sum.inr (
    some ([],[],false))
def uk(dz':gJ)(bs:gJ):Option (gI×gI×Bool):=
 iL (mU dz' bs) 0
instance Px{dz':gJ}{bs:gJ}:jf (uk dz' bs) fun rr=>mO Tryz.prog 38 [(iH 1 (iH 1 iD)) dz',(iH 1 (iH 1 iD)) bs] [(iH 1 iD) rr.1,(iH 1 iD) rr.2.1,bD rr.2.2]:=⟨@fun rr h=>by
 delta uk at h;refine afA.mz (iB ?_);delta ad8;refine jd ?_;refine kH h [4,5,6,7,8,9,10,11,12,13,14,15,16,17,18,19,20,21,22,23,24,25,26,27,28,29,30,31,32,33,34,35,36,37,38] (fun pp=>[(7,.d (iD pp))]) (fun pp=>[]) ?_;rintro i t1 h hb1;unfold mU at h;try dsimp only at h
 refine iB (jd ?_);refine iT h fun hc h=>?_
 refine kH h [4,5,6,8,15,16,17,18,19,20,21,22,23,24,25,26,27,28,29,30,31,32,33,34,35,36,37,38] (fun pp=>[(8,.d (iD pp))]) (fun pp=>[]) ?_;rintro k t2 h hb2;unfold lH at h;try dsimp only at h
 refine iB (jd ?_);exact lW⟩
def adR:iJ:=
 (.seq (.iE (sq 2 [bo 2 37 0]++sq 4 [.alloc 4 47 [.sl 0 (some true) [],.sl 0 (some true) [],.sl 0 (some true) [],.lit (.int .i64 0),.lit (.int .i64 0),.lit (.int .i64 0)],.mv (.const (.slice none 0 0)),.mv (.const (.slice none 0 0)),mb false])) (.seq (.iE (sq 15 [la 2 2,cf 37 [15]]++sq 14 [mv 16]++sq 17 [ex 14 0,ex 14 1]++sq 8 [mv 17,mv 18])) (.seq (.seq (.iE (sq 10 [mi 0])) (.block 0 (.loop (.seq (.seq (.iE (sq 19 [mv 9,mv 19]++sg 20 true 21 [mv 10,mv 8,ln 22,bn .lss 21 23]++sq 25 [pa 20 24])) (.cond (t0 25) .skip (.exit 0))) (.seq (.block 1 (.seq (.draw (sq 29 [la 2 2,mv 8,mv 10,ix 6 30 31,fa 1 32,ld 33,mv 1,cf 39 [29,34,35],la 2 2,mv 8,mv 10,ix 6 38 39,fa 2 40,ld 41,mv 1,cf 39 [37,42,43],cf 38 [36,44]]++sq 28 [mv 45]++sq 46 [ex 28 0,ex 28 1,ex 28 2]++sq 11 [mv 46,mv 47,mv 48]) [[],[],[],[1,2],[3],[4],[],[0,5,6],[],[],[],[9,10],[11],[12],[],[8,13,14,7],[7,15,15],[16],[17],[17],[17],[18,16,0,1,2,3,4,5,6,7,8,9,10,11,12,13,14,15,16,17,18],[19,21,0,1,2,3,4,5,6,7,8,9,10,11,12,13,14,15,16,17,18,19,21],[20,22,0,1,2,3,4,5,6,7,8,9,10,11,12,13,14,15,16,17,18,19,20,21,22]]) (.seq (.iE (sq 49 [mv 13])) (.cond (t0 49) (.seq (.iE (sq 50 [mv 8,mv 10,ix 6 50 51,la 6 52,mv 11,mv 12]++s0 (sr 6 4 53)++sq 5 [mv 54,mv 55,mb true])) .ret) .skip)))) (.iE (sq 26 [mv 10,bi .add 26 1]++sq 10 [mv 27]))))))) (.seq (.iE (sq 56 [.build [.sl 0 (some true) [],.sl 0 (some true) [],.sl 0 (some true) [],.lit (.int .i64 0),.lit (.int .i64 0),.lit (.int .i64 0)] [],.nY 57 2 1 [],.nY 58 2 1 []]++s0 (sr 6 4 56)++sq 5 [mv 57,mv 58,mb false])) .ret))))
theorem afj:jV Tryz.prog 15 adR 59 [.cell 4 6 true,.tmp 5,.tmp 6,.tmp 7]:=mf Tryz.func15 Tryz.ntmps15
def lK(sys:gW)(steps:Int)(r:iw):Int->Option (Int⊕iy)
 |i=>
  if r.2=true then
   if(decide (i<(r.1.length:Int)))=true then
    if 0<=i/\i<(r.1.length:Int)then
     (oM sys ((r.1.getD i.toNat default).2.1) steps).bind fun r_1=>
     if 0<=i/\i<(r.1.length:Int)then
      (oM sys ((r.1.getD i.toNat default).2.2.1) steps).bind fun r_2=>
      (uk r_1 r_2).bind fun r_3=>
      if r_3.2.2=true then
       if 0<=i/\i<(r.1.length:Int)then
        Option.map Sum.inr (
         some (((r.1.getD i.toNat default).1,(r.1.getD i.toNat default).2.1,(r.1.getD i.toNat default).2.2.1,(r.1.getD i.toNat default).2.2.2.1,(r.1.getD i.toNat default).2.2.2.2.1,(r.1.getD i.toNat default).2.2.2.2.2),r_3.1,r_3.2.1,true))
       else none
      else
       some (.inl (IntKind.i64.wrap (i+1)))
     else none
    else none
   else
    Option.map Sum.inr (
     some (([],[],[],0,0,0),[],[],false))
  else
   Option.map Sum.inr (
    some (([],[],[],0,0,0),[],[],false))
def tG(sys:gW)(steps:Int):Option iy:=
 (tF sys).bind fun r=>
 iL (lK sys steps r) 0
instance Sf{sys:gW}{steps:Int}:jf (tG sys steps) fun rr=>mO Tryz.prog 15 [iU sys,iD steps] [kN rr.1,(iH 1 iD) rr.2.1,(iH 1 iD) rr.2.2.1,bD rr.2.2.2]:=⟨@fun rr h=>by
 delta tG at h;refine afj.mz (iB ?_);delta adR;refine jd ?_;refine TP h fun r hr h=>?_
 refine kH h [5,6,7,10,11,12,13,19,20,21,22,23,24,25,26,27,28,29,30,31,32,33,34,35,36,37,38,39,40,41,42,43,44,45,46,47,48,49,50,51,52,53,54,55] (fun pp=>[(10,.d (iD pp))]) (fun pp=>[(2,.obj 37 [.d (iH 1 iD sys.1),.d (iH 2 iC sys.2)]),(4,.obj 47 [.d (.sl 0 (some true) []),.d (.sl 0 (some true) []),.d (.sl 0 (some true) []),.d (iD 0),.d (iD 0),.d (iD 0)])]) ?_;rintro i t1 h hb1;unfold lK at h;try dsimp only at h
 refine iB (jd ?_);exact lW⟩
def iP(x:gQ):D:=.agg [iD x.1,(iH 1 iD) x.2.1,(iH 1 (iH 1 iD)) x.2.2.1,(iH 1 iD) x.2.2.2]
def lR(x:gY):D:=.agg [(iH 4 iP) x]
def jJ(x:gX):D:=.agg [(iH 1 iD) x.1,(iH 3 iX) x.2]
instance:sW iP 4:=⟨fun _=>rfl⟩
instance:sW lR 1:=⟨fun _=>rfl⟩
instance:sW jJ 2:=⟨fun _=>rfl⟩
attribute [go_sem] iP lR jJ
def aeN:iJ:=
 (.seq (.iE (sq 4 [mb false])) (.seq (.iE (sq 5 [mv 1,mv 0,ln 6,bi .sub 7 1,.mB 44 [(t0 5),(i0 0),(t0 8)]]++sq 4 [mv 9])) .ret))
theorem agf:jV Tryz.prog 85 aeN 10 [.tmp 4]:=mf Tryz.func85 Tryz.ntmps85
def rB(t:gI)(iY:Int):Option Bool:=
 (kF iY 0 (IntKind.i64.wrap ((t.length:Int)-1))).bind fun r=>
 some r
instance Sl{t:gI}{iY:Int}:jf (rB t iY) fun rr=>jK Tryz.prog 85 [(iH 1 iD) t,iD iY] (bD rr):=⟨@fun rr h=>by
 delta rB at h;refine agf.jv (iB ?_);delta aeN;refine jd ?_;exact lW⟩
def aee:iJ:=
 (.seq (.iE (sq 3 [bo 3 34 0]++sq 6 [mb false])) (.seq (.iE (sq 7 [la 1 3,mv 1,cf 42 [7,8],mv 9]++sg 10 true 11 [mv 1,mv 2,cf 85 [11,12]]++sq 14 [pa 10 13]++sq 6 [mv 14])) .ret))
theorem afH:jV Tryz.prog 45 aee 15 [.tmp 6]:=mf Tryz.func45 Tryz.ntmps45
def wg(sig:gI)(t:gI)(iY:Int):Option Bool:=
 (nH sig t).bind fun r=>
 if r=true then
  (rB t iY).bind fun r_1=>
  some r_1
 else
  some false
instance Sw{sig:gI}{t:gI}{iY:Int}:jf (wg sig t iY) fun rr=>jK Tryz.prog 45 [jw sig,(iH 1 iD) t,iD iY] (bD rr):=⟨@fun rr h=>by
 delta wg at h;refine afH.jv (iB ?_);delta aee;refine jd ?_;exact lW⟩
def aec:iJ:=
 (.seq (.iE (sq 3 [bo 3 34 0]++sq 6 [.mv (.const (.slice none 0 0))])) (.seq (.iE (sq 10 [.nY 10 2 1 []]++sq 7 [mv 10])) (.seq (.iE (sq 11 [mv 2,bi .add 11 1]++sq 8 [mv 12])) (.seq (.seq (.draw (sq 13 [la 1 3,mv 1,mv 2,ix 1 14 15,ld 16,cf 84 [13,17]]++sq 9 [mv 18]) [[],[],[],[1,2],[3],[0,4],[5,5,0,1,2,3,4,5]]) (.block 0 (.loop (.seq (.seq (.iE (sq 19 [mv 9,bi .gtr 19 0])) (.cond (t0 20) .skip (.exit 0))) (.seq (.block 1 (.seq (.iE (sq 23 [mv 7,mv 8,.nY 25 2 1 [(t0 24)],ap 26 2 1 8 23 25]++sq 7 [mv 26])) (.iE (sq 27 [la 1 3,mv 1,mv 8,cf 83 [27,28,29]]++sq 8 [mv 30])))) (.iE (sq 21 [mv 9,bi .sub 21 1]++sq 9 [mv 22]))))))) (.seq (.iE (sq 31 [mv 7]++sq 6 [mv 31])) .ret)))))
theorem afF:jV Tryz.prog 43 aec 32 [.tmp 6]:=mf Tryz.func43 Tryz.ntmps43
def oP(sig:gI)(t:gI):(gI×Int×Int)->Option ((gI×Int×Int)⊕gI)
 |(out,p,k)=>
  if(decide (0<k))=true then
   if(out.length+1)*8<=140737488355328 then
    (nK sig t p).bind fun r_1=>
    some (.inl ((out++[p]),r_1,(IntKind.i64.wrap (k-1))))
   else none
  else
   Option.map Sum.inr (
    some out)
def sS(sig:gI)(t:gI)(iY:Int):Option gI:=
 if 0<=iY/\iY<(t.length:Int)then
  (rA sig (t.getD iY.toNat default)).bind fun r=>
  iL (oP sig t) ([],(IntKind.i64.wrap (iY+1)),r)
 else none
instance U8{sig:gI}{t:gI}{iY:Int}:jf (sS sig t iY) fun rr=>jK Tryz.prog 43 [jw sig,(iH 1 iD) t,iD iY] ((iH 1 iD) rr):=⟨@fun rr h=>by
 delta sS at h;refine afF.jv (iB ?_);delta aec;refine jd ?_;refine jZ h fun hp h=>?_
 refine dC h fun r hr h=>?_
 refine jM (by kernel_rfl) (jd ?_);refine kH h [7,8,9,19,20,21,22,23,24,25,26,27,28,29,30] (fun pp=>[(7,.own 1 10 (List.map iD pp.1)),(8,.d (iD pp.2.1)),(9,.d (iD pp.2.2))]) (fun pp=>[(3,.obj 34 [.d (iH 1 iD sig)]),(10,.tok 2 1 pp.1.length)]) ?_;rintro⟨out,p,k⟩ t1 h hb1;unfold oP at h;try dsimp only at h
 refine iB (jd ?_);refine iT h fun hc h=>?_
 refine jZ h fun hp h=>?_
 refine rC h fun r_1 hr_1 h=>?_
 cases h;refine⟨_,rfl,?_⟩;refine(iW.drop 25 iA).trans ?_;exact wk⟩
def aeO:iJ:=
 (.seq (.iE (sq 4 [bo 4 34 0]++sq 8 [mb false])) (.seq (.iE (sq 9 [mv 3,mv 2,la 1 4,mv 1,mv 2,cf 83 [11,12,13],bi .sub 14 1,cf 44 [9,10,15]]++sq 8 [mv 16])) .ret))
theorem agh:jV Tryz.prog 86 aeO 17 [.tmp 8]:=mf Tryz.func86 Tryz.ntmps86
def sJ(sig:gI)(t:gI)(iY:Int)(p:Int):Option Bool:=
 (nK sig t iY).bind fun r=>
 (kF p iY (IntKind.i64.wrap (r-1))).bind fun r_1=>
 some r_1
instance Rr{sig:gI}{t:gI}{iY:Int}{p:Int}:jf (sJ sig t iY p) fun rr=>jK Tryz.prog 86 [jw sig,(iH 1 iD) t,iD iY,iD p] (bD rr):=⟨@fun rr h=>by
 delta sJ at h;refine agh.jv (iB ?_);delta aeO;refine jd ?_;exact lW⟩
def aef:iJ:=
 (.seq (.iE (sq 3 [bo 3 34 0]++sq 6 [.mv (.const (.slice none 0 0))])) (.seq (.iE (sq 11 [.nY 11 2 1 []]++sq 7 [mv 11])) (.seq (.iE (sq 8 [mi 0])) (.seq (.block 0 (.loop (.seq (.seq (.iE (sq 12 [mv 8,mv 2,bn .neq 12 13])) (.cond (t0 14) .skip (.exit 0))) (.block 1 (.seq (.iE (sq 15 [la 1 3,mv 1,mv 8,cf 43 [15,16,17]]++sq 9 [mv 18])) (.seq (.iE (sq 10 [mi 0])) (.block 2 (.loop (.seq (.seq (.iE (sq 19 [mv 10,mv 9,ln 20,bn .lss 19 21])) (.cond (t0 22) .skip (.exit 2))) (.seq (.block 3 (.seq (.draw (sq 25 [la 1 3,mv 1,mv 9,mv 10,ix 1 27 28,ld 29,mv 2,cf 86 [25,26,30,31]]) [[],[],[],[],[2,3],[4],[],[0,1,5,6]]) (.cond (t0 32) (.seq (.iE (sq 33 [mv 7,mv 10,.nY 35 2 1 [(t0 34)],ap 36 2 1 8 33 35]++sq 7 [mv 36])) (.seq (.iE (sq 37 [mv 9,mv 10,ix 1 37 38,ld 39]++sq 8 [mv 40])) (.exit 2))) .skip))) (.iE (sq 23 [mv 10,bi .add 23 1]++sq 10 [mv 24])))))))))))) (.seq (.iE (sq 41 [mv 7]++sq 6 [mv 41])) .ret)))))
theorem afI:jV Tryz.prog 46 aef 42 [.tmp 6]:=mf Tryz.func46 Tryz.ntmps46
def rJ(sig:gI)(t:gI)(iY:Int)(out:gI)(p:Int)(r:gI):Int->Option (Int⊕iq)
 |k=>
  if(decide (k<(r.length:Int)))=true then
   if 0<=k/\k<(r.length:Int)then
    (sJ sig t (r.getD k.toNat default) iY).bind fun r_1=>
    if r_1=true then
     if(out.length+1)*8<=140737488355328 then
      if 0<=k/\k<(r.length:Int)then
       Option.map Sum.inr (
        some (.inl ((out++[k]),(r.getD k.toNat default))))
      else none
     else none
    else
     some (.inl (IntKind.i64.wrap (k+1)))
   else none
  else
   Option.map Sum.inr (
    some (.inl (out,p)))
def rI(sig:gI)(t:gI)(iY:Int):gT->Option iq
 |(out,p)=>
  if(p != iY)=true then
   (sS sig t p).bind fun r=>
   iL (rJ sig t iY out p r) 0
  else
   Option.map Sum.inr (
    some out)
def xE(sig:gI)(t:gI)(iY:Int):Option gI:=
 iL (rI sig t iY) ([],0)
instance Va{sig:gI}{t:gI}{iY:Int}:jf (xE sig t iY) fun rr=>jK Tryz.prog 46 [jw sig,(iH 1 iD) t,iD iY] ((iH 1 iD) rr):=⟨@fun rr h=>by
 delta xE at h;refine afI.jv (iB ?_);delta aef;refine jd ?_;refine kH h [7,8,9,10,12,13,14,15,16,17,18,19,20,21,22,23,24,25,26,27,28,29,30,31,32,33,34,35,36,37,38,39,40] (fun pp=>[(7,.own 1 11 (List.map iD pp.1)),(8,.d (iD pp.2))]) (fun pp=>[(3,.obj 34 [.d (iH 1 iD sig)]),(11,.tok 2 1 pp.1.length)]) ?_;rintro⟨out,p⟩ t1 h hb1;unfold rI at h;try dsimp only at h
 refine iB (jd ?_);refine iT h fun hc h=>?_
 refine rC h fun r hr h=>?_
 refine kH h [7,8,10,19,20,21,22,23,24,25,26,27,28,29,30,31,32,33,34,35,36,37,38,39,40] (fun pp=>[(7,.own 1 11 (List.map iD out)),(8,.d (iD p)),(10,.d (iD pp))]) (fun pp=>[(3,.obj 34 [.d (iH 1 iD sig)]),(11,.tok 2 1 out.length)]) ?_;rintro k t2 h hb2;unfold rJ at h;try dsimp only at h
 refine iB (jd ?_);refine iT h fun hc h=>?_
 refine jZ h fun hp h=>?_
 refine dC h fun r_1 hr_1 h=>?_
 refine jM (by kernel_rfl) (jd ?_);refine iT h fun hc h=>?_
 refine jZ h fun hp h=>?_
 refine jZ h fun hp h=>?_
 replace h:=jD h hb2;cases h;refine⟨_,rfl,?_⟩;refine(iW.drop 35 iA).trans ?_;exact wk⟩
def adU:iJ:=
 (.seq (.iE (sq 3 [bo 3 34 0]++sq 6 [.mv (.const (.slice none 0 0))])) (.seq (.seq (.iE (sq 7 [la 1 3,mv 1,mv 2,cf 45 [7,8,9],nt 10])) (.cond (t0 11) (.seq (.iE (sq 12 [.nY 12 2 1 []]++sq 6 [mv 12])) .ret) .skip)) (.seq (.iE (sq 13 [la 1 3,mv 1,mv 2,cf 46 [13,14,15]]++sq 6 [mv 16])) .ret)))
theorem afm:jV Tryz.prog 18 adU 17 [.tmp 6]:=mf Tryz.func18 Tryz.ntmps18
def sO(sig:gI)(t:gI)(iY:Int):Option gI:=
 (wg sig t iY).bind fun r=>
 if r=true then
  (xE sig t iY).bind fun r_1=>
  some r_1
 else
  some []
instance UZ{sig:gI}{t:gI}{iY:Int}:jf (sO sig t iY) fun rr=>jK Tryz.prog 18 [jw sig,(iH 1 iD) t,iD iY] ((iH 1 iD) rr):=⟨@fun rr h=>by
 delta sO at h;refine afm.jv (iB ?_);delta adU;refine jd ?_;exact lW⟩
def adT:iJ:=
 (.seq (.iE (sq 3 [bo 3 34 0]++sq 6 [mi 0])) (.seq (.seq (.iE (sq 10 [la 1 3,mv 1,cf 42 [10,11],nt 12])) (.cond (t0 13) (.seq (.iE (sq 6 [mi (-1)])) .ret) .skip)) (.seq (.iE (sq 7 [mi 0])) (.seq (.seq (.iE (sq 8 [mi 0])) (.block 0 (.loop (.seq (.seq (.iE (sq 14 [mv 8,mv 2,ln 15,bn .lss 14 16])) (.cond (t0 17) .skip (.exit 0))) (.seq (.block 1 (.seq (.iE (sq 20 [la 1 3,mv 1,mv 7,cf 43 [20,21,22]]++sq 9 [mv 23])) (.seq (.seq (.iE (sq 24 [mv 2,mv 8,ix 1 24 25,ld 26,mv 9,ln 28,bi .sub 29 1,.mB 44 [(t0 27),(i0 0),(t0 30)],nt 31])) (.cond (t0 32) (.seq (.iE (sq 6 [mi (-1)])) .ret) .skip)) (.iE (sq 33 [mv 9,mv 2,mv 8,ix 1 34 35,ld 36,ix 1 33 37,ld 38]++sq 7 [mv 39]))))) (.iE (sq 18 [mv 8,bi .add 18 1]++sq 8 [mv 19]))))))) (.seq (.iE (sq 40 [mv 7]++sq 6 [mv 40])) .ret)))))
theorem afl:jV Tryz.prog 17 adT 41 [.tmp 6]:=mf Tryz.func17 Tryz.ntmps17
def qk(sig:gI)(t:gI)(path:gI):gP->Option ie
 |(p,i)=>
  if(decide (i<(path.length:Int)))=true then
   (sS sig t p).bind fun r_1=>
   if 0<=i/\i<(path.length:Int)then
    (kF (path.getD i.toNat default) 0 (IntKind.i64.wrap ((r_1.length:Int)-1))).bind fun r_2=>
    if r_2=true then
     if 0<=i/\i<(path.length:Int)then
      if 0<=(path.getD i.toNat default)/\(path.getD i.toNat default)<(r_1.length:Int)then
       some (.inl ((r_1.getD (path.getD i.toNat default).toNat default),(IntKind.i64.wrap (i+1))))
      else none
     else none
    else
     Option.map Sum.inr (
      some (-1))
   else none
  else
   Option.map Sum.inr (
    some p)
def rq(sig:gI)(t:gI)(path:gI):Option Int:=
 (nH sig t).bind fun r=>
 if r=true then
  iL (qk sig t path) (0,0)
 else
  some (-1)
instance Se{sig:gI}{t:gI}{path:gI}:jf (rq sig t path) fun rr=>jK Tryz.prog 17 [jw sig,(iH 1 iD) t,(iH 1 iD) path] (iD rr):=⟨@fun rr h=>by
 delta rq at h;refine afl.jv (iB ?_);delta adT;refine jd ?_;refine rC h fun r hr h=>?_
 refine iT h fun hc h=>?_
 refine kH h [6,7,8,9,14,15,16,17,18,19,20,21,22,23,24,25,26,27,28,29,30,31,32,33,34,35,36,37,38,39] (fun pp=>[(7,.d (iD pp.1)),(8,.d (iD pp.2))]) (fun pp=>[(3,.obj 34 [.d (iH 1 iD sig)])]) ?_;rintro⟨p,i⟩ t1 h hb1;unfold qk at h;try dsimp only at h
 refine iB (jd ?_);exact lW⟩
def aeg:iJ:=
 (.seq (.iE (sq 4 [bo 4 37 0]++sq 8 [.mv (.const (.slice none 0 0)),mb false])) (.seq (.seq (.iE (sq 10 [la 2 4,mv 1,cf 87 [10,11],nt 12,mv 13]++sg 14 false 15 [mv 1,mv 2,cf 85 [15,16],nt 17]++sq 19 [po 14 18,mv 19]++sg 20 false 21 [mv 3,fa 1 4,ld 22,ln 23,bi .sub 24 1,.mB 44 [(t0 21),(i0 0),(t0 25)],nt 26]++sq 28 [po 20 27])) (.cond (t0 28) (.seq (.iE (sq 29 [.nY 29 2 1 []]++sq 8 [mv 29,mb false])) .ret) .skip)) (.seq (.iE (sq 30 [la 2 4,mv 1,mv 2,mv 3,cf 88 [30,31,32,33],ex 34 0,ex 34 1]++sq 8 [mv 35,mv 36])) .ret)))
theorem afJ:jV Tryz.prog 47 aeg 37 [.tmp 8,.tmp 9]:=mf Tryz.func47 Tryz.ntmps47
def sP(sys:gW)(t:gI)(iY:Int)(rule:Int):Option ir:=
 (mM sys t).bind fun r=>
 if r=true then
  (rB t iY).bind fun r_1=>
  if r_1=true then
   (kF rule 0 (IntKind.i64.wrap ((sys.2.length:Int)-1))).bind fun r_2=>
   if r_2=true then
    (sU sys t iY rule).bind fun r_3=>
    some r_3
   else
    some ([],false)
  else
   some ([],false)
 else
  some ([],false)
instance U1{sys:gW}{t:gI}{iY:Int}{rule:Int}:jf (sP sys t iY rule) fun rr=>mO Tryz.prog 47 [iU sys,(iH 1 iD) t,iD iY,iD rule] [(iH 1 iD) rr.1,bD rr.2]:=⟨@fun rr h=>by
 delta sP at h;refine afJ.mz (iB ?_);delta aeg;refine jd ?_;exact lW⟩
def aeS:iJ:=
 (.seq (.iE (sq 2 [bo 2 115 0]++sq 4 [.alloc 4 57 [.sl 0 (some true) [],.sl 0 (some true) []]])) (.seq (.iE (sq 8 [.nY 8 95 3 []]++sq 5 [mv 8])) (.seq (.block 0 (.loop (.seq (.seq (.iE (sq 9 [fa 1 2,ld 9,mv 1,ix 1 10 11,ld 12,bi .geq 13 0])) (.cond (t0 14) .skip (.exit 0))) (.block 1 (.seq (.iE (sq 15 [mv 5,fa 2 2,ld 16,mv 1,ix 3 17 18,la 3 19,.nY 21 95 3 [(t0 20)],ap 22 95 3 40 15 21]++sq 5 [mv 22])) (.iE (sq 23 [fa 1 2,ld 23,mv 1,ix 1 24 25,ld 26]++sq 1 [mv 27]))))))) (.seq (.iE (sq 28 [fa 0 2,ld 28,.xR 1 (t0 29) (i0 0),ld 30,cf 53 [31],.build [.sl 0 (some true) [],.sl 0 (some true) []] [(0,1,(t0 32))]]++sq 6 [.alloc 6 57 [.sl 0 (some true) [],.sl 0 (some true) []]]++s0 (sr 2 6 33))) (.seq (.seq (.iE (sq 34 [mv 5,ln 34,bi .sub 35 1]++sq 7 [mv 36])) (.block 2 (.loop (.seq (.seq (.iE (sq 37 [mv 7,bi .geq 37 0])) (.cond (t0 38) .skip (.exit 2))) (.seq (.block 3 (.draw (sq 41 [fa 1 6,ld 41,mv 5,mv 7,ix 3 43 44,fa 0 45,ld 46,mv 5,mv 7,ix 3 48 49,fa 1 50,ld 51,mv 5,mv 7,ix 3 53 54,fa 2 55,ld 56,cf 53 [57],.build [.lit (.int .i64 0),.lit (.int .i64 0),.sl 0 (some true) []] [(0,1,(t0 47)),(1,1,(t0 52)),(2,1,(t0 58))],.nY 60 95 3 [(t0 59)],ap 61 95 3 40 42 60,fa 1 6]++s0 (sr 1 62 61)) [[],[0],[],[],[2,3],[4],[5],[],[],[7,8],[9],[10],[],[],[12,13],[14],[15],[16],[6,11,17],[18],[1,19,17],[0,1,2,3,4,5,6,7,8,9,10,11,12,13,14,15,16,17,18,19,20],[21,20,20,0,1,2,3,4,5,6,7,8,9,10,11,12,13,14,15,16,17,18,19,20]])) (.iE (sq 39 [mv 7,bi .sub 39 1]++sq 7 [mv 40]))))))) (.seq (.iE (sq 63 [la 2 6]++s0 (sr 2 4 63))) .ret))))))
theorem agl:jV Tryz.prog 90 aeS 64 [.cell 4 2 true]:=mf Tryz.func90 Tryz.ntmps90
def rM(back:gS)(r:gI):iz->Option (iz⊕gX)
 |(i,w)=>
  if(decide (0<=i))=true then
   if 0<=i/\i<(back.length:Int)then
    if 0<=i/\i<(back.length:Int)then
     if 0<=i/\i<(back.length:Int)then
      (jQ ((back.getD i.toNat default).2.2)).bind fun r_1=>
      if(w.length+1)*40<=140737488355328 then
       some (.inl ((IntKind.i64.wrap (i-1)),(w++[((back.getD i.toNat default).1,(back.getD i.toNat default).2.1,r_1)])))
      else none
     else none
    else none
   else none
  else
   Option.map Sum.inr (
    some (r,w))
def oQ(f:gZ):iz->Option (iz⊕gX)
 |(at'_1,back)=>
  if 0<=at'_1/\at'_1<(f.2.1.length:Int)then
   if(decide (0<=(f.2.1.getD at'_1.toNat default)))=true then
    if 0<=at'_1/\at'_1<(f.2.2.1.length:Int)then
     if(back.length+1)*40<=140737488355328 then
      if 0<=at'_1/\at'_1<(f.2.1.length:Int)then
       some (.inl ((f.2.1.getD at'_1.toNat default),(back++[((f.2.2.1.getD at'_1.toNat default).1,(f.2.2.1.getD at'_1.toNat default).2.1,(f.2.2.1.getD at'_1.toNat default).2.2)])))
      else none
     else none
    else none
   else
    Option.map Sum.inr (
     if 0<=0/\0<(f.1.length:Int)then
      (jQ (f.1.getD 0 default)).bind fun r=>
      iL (rM back r) ((IntKind.i64.wrap ((back.length:Int)-1)),[])
     else none)
  else none
def uV(f:gZ)(iY:Int):Option gX:=
 iL (oQ f) (iY,[])
instance Vd{f:gZ}{iY:Int}:jf (uV f iY) fun rr=>jK Tryz.prog 90 [vM f,iD iY] (jJ rr):=⟨@fun rr h=>by
 delta uV at h;refine agl.jv (iB ?_);delta aeS;refine jd ?_;refine kH h [1,5,9,10,11,12,13,14,15,16,17,18,19,20,21,22,23,24,25,26,27] (fun pp=>[(1,.d (iD pp.1)),(5,.own 3 8 (List.map iX pp.2))]) (fun pp=>[(2,.obj 115 [.d (iH 1 (iH 1 iD) f.1),.d (iH 1 iD f.2.1),.d (iH 3 iX f.2.2.1),.d (iH 1 iD f.2.2.2.1),.d (bD f.2.2.2.2)]),(4,.obj 57 [.d (.sl 0 (some true) []),.d (.sl 0 (some true) [])]),(8,.tok 95 3 pp.2.length)]) ?_;rintro⟨at'_1,back⟩ t1 h hb1;unfold oQ at h;try dsimp only at h
 refine iB (jd ?_);refine jZ h fun hp h=>?_
 refine it h (fun hc h=>?_) fun hc h=>?_
 ·refine jZ h fun hp h=>?_
  refine jZ h fun hp h=>?_
  refine jZ h fun hp h=>?_
  cases h;refine⟨_,rfl,?_⟩;refine(iW.drop 21 iA).trans ?_;exact wk
 replace h:=jD h hb1;refine jZ h fun hp h=>?_
 refine tg [] [(3,32)] h fun r hr h=>?_
 refine nL h [7,37,38,39,40,41,42,43,44,45,46,47,48,49,50,51,52,53,54,55,56,57,58,59,60,61,62] (fun pp=>[(7,.d (iD pp.1))]) (fun pp=>[(2,.obj 115 [.d (iH 1 (iH 1 iD) f.1),.d (iH 1 iD f.2.1),.d (iH 3 iX f.2.2.1),.d (iH 1 iD f.2.2.2.1),.d (bD f.2.2.2.2)]),(4,.obj 57 [.d (.sl 0 (some true) []),.d (.sl 0 (some true) [])]),(6,.obj 57 [.own 1 32 (List.map iD r),.own 3 61 (List.map iX pp.2)]),(8,.tok 95 3 back.length),(32,.tok 2 1 r.length),(61,.tok 95 3 pp.2.length)]) ?_ ?_
 ·try dsimp only
  refine(iW.wT 6 1 61 95 3 rfl rfl rfl).trans ?_;exact wk
 rintro⟨i,w⟩ t1 h hb1;unfold rM at h;try dsimp only at h
 refine iB (jd ?_);refine iT h fun hc h=>?_
 refine jZ h fun hp h=>?_
 refine jZ h fun hp h=>?_
 refine jZ h fun hp h=>?_
 refine JH [] [(3,58)] h fun r_1 hr_1 h=>?_
 refine jZ h fun hp h=>?_
 refine jM (by kernel_rfl) (jd ?_);cases h;refine⟨_,rfl,?_⟩;refine(iW.drop 58 iA).trans ?_;refine(iW.drop 60 iA).trans ?_;exact wk⟩
def aeh:iJ:=
 (.seq (.iE (sq 4 [bo 4 37 0]++sq 8 [.alloc 8 57 [.sl 0 (some true) [],.sl 0 (some true) []],mb false])) (.seq (.seq (.iE (sq 12 [la 2 4,mv 1,mv 3,cf 79 [12,13,14],nt 15,mv 16]++sg 17 false 18 [la 2 4,mv 2,mv 3,cf 79 [18,19,20],nt 21]++sq 23 [po 17 22])) (.cond (t0 23) (.seq (.iE (sq 24 [.build [.sl 0 (some true) [],.sl 0 (some true) []] []]++s0 (sr 2 8 24)++sq 9 [mb false])) .ret) .skip)) (.seq (.iE (sq 25 [la 2 4,mv 1,mv 3,cf 80 [25,26,27]]++sq 10 [.alloc 10 115 [.sl 0 (some true) [],.sl 0 (some true) [],.sl 0 (some true) [],.sl 0 (some true) [],.lit (.bool false)]]++s0 (sr 5 10 28))) (.seq (.iE (sq 29 [fa 0 10,ld 29,mv 2,cf 89 [30,31]]++sq 11 [mv 32])) (.seq (.seq (.iE (sq 33 [mv 11,bi .lss 33 0])) (.cond (t0 34) (.seq (.iE (sq 35 [.build [.sl 0 (some true) [],.sl 0 (some true) []] []]++s0 (sr 2 8 35)++sq 9 [mb false])) .ret) .skip)) (.seq (.iE (sq 36 [la 5 10,mv 11,cf 90 [36,37]]++s0 (sr 2 8 38)++sq 9 [mb true])) .ret))))))
theorem afK:jV Tryz.prog 48 aeh 39 [.cell 8 2 true,.tmp 9]:=mf Tryz.func48 Tryz.ntmps48
def uT(sys:gW)(t:gI)(u:gI)(steps:Int):Option (gX×Bool):=
 (pI sys t steps).bind fun r=>
 if r=true then
  (pI sys u steps).bind fun r_1=>
  if r_1=true then
   (oF sys t steps).bind fun r_2=>
   (nB r_2.1 u).bind fun r_3=>
   if(decide (r_3<0))=true then
    some (([],[]),false)
   else
    (uV r_2 r_3).bind fun r_4=>
    some (r_4,true)
  else
   some (([],[]),false)
 else
  some (([],[]),false)
instance U4{sys:gW}{t:gI}{u:gI}{steps:Int}:jf (uT sys t u steps) fun rr=>mO Tryz.prog 48 [iU sys,(iH 1 iD) t,(iH 1 iD) u,iD steps] [jJ rr.1,bD rr.2]:=⟨@fun rr h=>by
 delta uT at h;refine afK.mz (iB ?_);delta aeh;refine jd ?_;exact lW⟩
def aeT:iJ:=
 (.seq (.iE (sq 2 [bo 2 37 0,bo 3 57 1,mb false])) (.seq (.seq (.iE (sq 9 [la 2 2,fa 0 3,ld 10,cf 87 [9,11],nt 12,mv 13]++sg 14 false 15 [fa 1 3,ld 15,ln 16,bi .gtr 17 60]++sq 19 [po 14 18])) (.cond (t0 19) (.seq (.iE (sq 4 [mb false])) .ret) .skip)) (.seq (.iE (sq 20 [fa 0 3,ld 20]++sq 5 [mv 21])) (.seq (.seq (.iE (sq 6 [mi 0])) (.block 0 (.loop (.seq (.seq (.iE (sq 22 [mv 6,fa 1 3,ld 23,ln 24,bn .lss 22 25])) (.cond (t0 26) .skip (.exit 0))) (.seq (.block 1 (.seq (.draw (sq 30 [la 2 2,mv 5,fa 1 3,ld 32,mv 6,ix 3 33 34,fa 0 35,ld 36,fa 1 3,ld 38,mv 6,ix 3 39 40,fa 1 41,ld 42,cf 47 [30,31,37,43]]++sq 29 [mv 44]++sq 45 [ex 29 0,ex 29 1]++sq 7 [mv 45,mv 46]) [[],[],[],[2],[],[3,4],[5],[6],[],[8],[],[9,10],[11],[12],[0,1,7,13],[14],[15],[15],[16,14,0,1,2,3,4,5,6,7,8,9,10,11,12,13,14,15,16],[17,18,0,1,2,3,4,5,6,7,8,9,10,11,12,13,14,15,16,17,18]]) (.seq (.seq (.iE (sq 47 [mv 8,nt 47,mv 48]++sg 49 false 50 [mv 7,fa 1 3,ld 51,mv 6,ix 3 52 53,fa 2 54,ld 55,cf 78 [50,56],nt 57]++sq 59 [po 49 58])) (.cond (t0 59) (.seq (.iE (sq 4 [mb false])) .ret) .skip)) (.iE (sq 60 [mv 7]++sq 5 [mv 60]))))) (.iE (sq 27 [mv 6,bi .add 27 1]++sq 6 [mv 28]))))))) (.seq (.iE (sq 4 [mb true])) .ret)))))
theorem agm:jV Tryz.prog 91 aeT 61 [.tmp 4]:=mf Tryz.func91 Tryz.ntmps91
def uj(sys:gW)(w:gX):gT->Option (gT⊕Bool)
 |(now,i)=>
  if(decide (i<(w.2.length:Int)))=true then
   if 0<=i/\i<(w.2.length:Int)then
    if 0<=i/\i<(w.2.length:Int)then
     (sP sys now ((w.2.getD i.toNat default).1) ((w.2.getD i.toNat default).2.1)).bind fun r_1=>
     if r_1.2=true then
      if 0<=i/\i<(w.2.length:Int)then
       (lT r_1.1 ((w.2.getD i.toNat default).2.2)).bind fun r_2=>
       if r_2=true then
        some (.inl (r_1.1,(IntKind.i64.wrap (i+1))))
       else
        Option.map Sum.inr (
         some false)
      else none
     else
      Option.map Sum.inr (
       some false)
    else none
   else none
  else
   Option.map Sum.inr (
    some true)
def sQ(sys:gW)(w:gX):Option Bool:=
 (mM sys w.1).bind fun r=>
 if r=true then
  if(decide (60<(w.2.length:Int)))=true then
   some false
  else
   iL (uj sys w) (w.1,0)
 else
  some false
instance U3{sys:gW}{w:gX}:jf (sQ sys w) fun rr=>jK Tryz.prog 91 [iU sys,jJ w] (bD rr):=⟨@fun rr h=>by
 delta sQ at h;refine agm.jv (iB ?_);delta aeT;refine jd ?_;refine rC h fun r hr h=>?_
 refine iT h fun hc h=>?_
 refine iF h fun hc h=>?_
 refine kH h [4,5,6,7,8,22,23,24,25,26,27,28,29,30,31,32,33,34,35,36,37,38,39,40,41,42,43,44,45,46,47,48,49,50,51,52,53,54,55,56,57,58,59,60] (fun pp=>[(5,.d (iH 1 iD pp.1)),(6,.d (iD pp.2))]) (fun pp=>[(2,.obj 37 [.d (iH 1 iD sys.1),.d (iH 2 iC sys.2)]),(3,.obj 57 [.d (iH 1 iD w.1),.d (iH 3 iX w.2)])]) ?_;rintro⟨now,i⟩ t1 h hb1;unfold uj at h;try dsimp only at h
 refine iB (jd ?_);exact lW⟩
def aeU:iJ:=
 (.seq (.iE (sq 1 [bo 1 57 0,.mv (.const (.slice none 0 0))])) (.seq (.seq (.iE (sq 3 [fa 1 1,ld 3,ln 4,bi .eql 5 0])) (.cond (t0 6) (.seq (.iE (sq 7 [fa 0 1,ld 7,cf 53 [8]]++sq 2 [mv 9])) .ret) .skip)) (.seq (.iE (sq 10 [fa 1 1,ld 10,fa 1 1,ld 12,ln 13,bi .sub 14 1,ix 3 11 15,fa 2 16,ld 17,cf 53 [18]]++sq 2 [mv 19])) .ret)))
theorem agn:jV Tryz.prog 92 aeU 20 [.tmp 2]:=mf Tryz.func92 Tryz.ntmps92
def wj(w:gX):Option gI:=
 if((w.2.length:Int)==0)=true then
  (jQ w.1).bind fun r=>
  some r
 else
  if 0<=(IntKind.i64.wrap ((w.2.length:Int)-1))/\(IntKind.i64.wrap ((w.2.length:Int)-1))<(w.2.length:Int)then
   (jQ ((w.2.getD (IntKind.i64.wrap ((w.2.length:Int)-1)).toNat default).2.2)).bind fun r_1=>
   some r_1
  else none
instance VX{w:gX}:jf (wj w) fun rr=>jK Tryz.prog 92 [jJ w] ((iH 1 iD) rr):=⟨@fun rr h=>by
 delta wj at h;refine agn.jv (iB ?_);delta aeU;refine jd ?_;refine it h (fun hc h=>?_) fun hc h=>?_
 ·refine tg [] [(3,9)] h fun r hr h=>?_
  exact lW
 refine jZ h fun hp h=>?_
 refine tg [] [(3,19)] h fun r_1 hr_1 h=>?_
 exact lW⟩
def aeV:iJ:=
 (.seq (.iE (sq 2 [.mv (.const (.slice none 0 0))])) (.seq (.iE (sq 5 [.nY 5 95 3 []]++sq 3 [mv 5])) (.seq (.seq (.iE (sq 4 [mi 0])) (.block 0 (.loop (.seq (.seq (.iE (sq 6 [mv 4,mv 0,ln 7,bn .lss 6 8])) (.cond (t0 9) .skip (.exit 0))) (.seq (.block 1 (.draw (sq 12 [mv 3,mv 0,mv 4,ix 3 13 14,fa 0 15,ld 16,mv 0,mv 4,ix 3 18 19,fa 1 20,ld 21,mv 0,mv 4,ix 3 23 24,fa 2 25,ld 26,cf 53 [27],.build [.lit (.int .i64 0),.lit (.int .i64 0),.sl 0 (some true) []] [(0,1,(t0 17)),(1,1,(t0 22)),(2,1,(t0 28))],.nY 30 95 3 [(t0 29)],ap 31 95 3 40 12 30]++sq 3 [mv 31]) [[],[],[],[1,2],[3],[4],[],[],[6,7],[8],[9],[],[],[11,12],[13],[14],[15],[5,10,16],[17],[0,18,16],[19,19,0,1,2,3,4,5,6,7,8,9,10,11,12,13,14,15,16,17,18,19]])) (.iE (sq 10 [mv 4,bi .add 10 1]++sq 4 [mv 11]))))))) (.seq (.iE (sq 32 [mv 3]++sq 2 [mv 32])) .ret))))
theorem ago:jV Tryz.prog 93 aeV 33 [.tmp 2]:=mf Tryz.func93 Tryz.ntmps93
def pR(list:gS):(gS×Int)->Option ((gS×Int)⊕gS)
 |(out,i)=>
  if(decide (i<(list.length:Int)))=true then
   if 0<=i/\i<(list.length:Int)then
    if 0<=i/\i<(list.length:Int)then
     if 0<=i/\i<(list.length:Int)then
      (jQ ((list.getD i.toNat default).2.2)).bind fun r=>
      if(out.length+1)*40<=140737488355328 then
       some (.inl ((out++[((list.getD i.toNat default).1,(list.getD i.toNat default).2.1,r)]),(IntKind.i64.wrap (i+1))))
      else none
     else none
    else none
   else none
  else
   Option.map Sum.inr (
    some out)
def nC(list:gS):Option gS:=
 iL (pR list) ([],0)
instance L6{list:gS}:jf (nC list) fun rr=>iR Tryz.prog 93 [.d (iH 3 iX list)] [] 0 fun xx ss=>xx=.own 3 5 (List.map iX rr)/\ss=[(5,.tok 95 3 rr.length)]:=⟨@fun rr h=>by
 delta nC at h;refine ago.oo (iB ?_);delta aeV;refine jd ?_;refine kH h [3,4,6,7,8,9,10,11,12,13,14,15,16,17,18,19,20,21,22,23,24,25,26,27,28,29,30,31] (fun pp=>[(3,.own 3 5 (List.map iX pp.1)),(4,.d (iD pp.2))]) (fun pp=>[(5,.tok 95 3 pp.1.length)]) ?_;rintro⟨out,i⟩ t1 h hb1;unfold pR at h;try dsimp only at h
 refine iB (jd ?_);refine iT h fun hc h=>?_
 refine jZ h fun hp h=>?_
 refine jZ h fun hp h=>?_
 refine jZ h fun hp h=>?_
 refine JH [] [(3,28)] h fun r hr h=>?_
 refine jZ h fun hp h=>?_
 refine jM (by kernel_rfl) (jd ?_);cases h;refine⟨_,rfl,?_⟩;refine(iW.drop 28 iA).trans ?_;refine(iW.drop 30 iA).trans ?_;exact wk⟩
def aei:iJ:=
 (.seq (.iE (sq 3 [bo 3 37 0,bo 4 57 1,bo 5 57 2,.alloc 6 57 [.sl 0 (some true) [],.sl 0 (some true) []],mb false])) (.seq (.seq (.draw (sq 8 [la 2 3,la 2 4,cf 91 [8,9],nt 10,mv 11]++sg 12 false 13 [la 2 3,la 2 5,cf 91 [13,14],nt 15]++sq 17 [po 12 16,mv 17]++sg 18 false 19 [la 2 4,cf 92 [19],fa 0 5,ld 21,cf 78 [20,22],nt 23]++sq 25 [po 18 24,mv 25]++sg 26 false 27 [fa 1 4,ld 27,ln 28,fa 1 5,ld 30,ln 31,bn .add 29 32,bi .gtr 33 60]++sq 35 [po 26 34]) [[],[],[0,1],[2],[3,2],[4],[4],[5,6,4,4],[7,4],[4,8],[9,7],[10],[11,10,10],[10],[13,10],[12,14,12,10],[15,10],[10,16],[17,15],[18],[19,18],[20,18],[18],[22,18],[23,18],[21,24,18],[25,18],[18,26]]) (.cond (t0 35) (.seq (.iE (sq 36 [.build [.sl 0 (some true) [],.sl 0 (some true) []] []]++s0 (sr 2 6 36)++sq 7 [mb false])) .ret) .skip)) (.seq (.draw (sq 37 [fa 0 4,ld 37,cf 53 [38],fa 1 4,ld 40,cf 93 [41],fa 1 5,ld 43,cf 93 [44],ap 46 95 3 40 42 45,.build [.sl 0 (some true) [],.sl 0 (some true) []] [(0,1,(t0 39)),(1,1,(t0 46))]]++s0 (sr 2 6 47)++sq 7 [mb true]) [[],[0],[1],[],[3],[4,2],[],[6],[7,5],[5,8,8],[2,9],[10,9,0,1,2,3,4,5,6,7,8,9,10],[11,0,1,2,3,4,5,6,7,8,9,10,11]]) .ret)))
theorem afL:jV Tryz.prog 49 aei 48 [.cell 6 2 true,.tmp 7]:=mf Tryz.func49 Tryz.ntmps49
def qj(sys:gW)(a:gX)(b:gX):Option (gX×Bool):=
 (sQ sys a).bind fun r=>
 if r=true then
  (sQ sys b).bind fun r_1=>
  if r_1=true then
   (wj a).bind fun r_2=>
   (lT r_2 b.1).bind fun r_3=>
   if r_3=true then
    if(decide (60<(IntKind.i64.wrap ((a.2.length:Int)+(b.2.length:Int)))))=true then
     some (([],[]),false)
    else
     (jQ a.1).bind fun r_4=>
     (nC a.2).bind fun r_5=>
     (nC b.2).bind fun r_6=>
     if(r_5.length+r_6.length)*40<=140737488355328 then
      some ((r_4,(r_5++r_6)),true)
     else none
   else
    some (([],[]),false)
  else
   some (([],[]),false)
 else
  some (([],[]),false)
instance NP{sys:gW}{a:gX}{b:gX}:jf (qj sys a b) fun rr=>mO Tryz.prog 49 [iU sys,jJ a,jJ b] [jJ rr.1,bD rr.2]:=⟨@fun rr h=>by
 delta qj at h;refine afL.mz (iB ?_);delta aei;refine jd ?_;refine dC h fun r hr h=>?_
 refine iT h fun hc h=>?_
 refine dC h fun r_1 hr_1 h=>?_
 refine iT h fun hc h=>?_
 refine dC h fun r_2 hr_2 h=>?_
 refine dC h fun r_3 hr_3 h=>?_
 refine iT h fun hc h=>?_
 refine jM (by kernel_rfl) (jd ?_);refine iF h fun hc h=>?_
 refine JH [] [(3,39)] h fun r_4 hr_4 h=>?_
 refine JH [] [(5,42)] h fun r_5 hr_5 h=>?_
 refine JH [] [(5,45)] h fun r_6 hr_6 h=>?_
 exact lW⟩
def adV:iJ:=
 (.seq (.iE (sq 6 [bo 6 37 0]++sq 12 [.alloc 12 57 [.sl 0 (some true) [],.sl 0 (some true) []],mb false])) (.seq (.iE (sq 19 [la 2 6,mv 1,mv 2,mv 3,cf 47 [19,20,21,22]]++sq 18 [mv 23]++sq 24 [ex 18 0,ex 18 1]++sq 14 [mv 24,mv 25])) (.seq (.iE (sq 27 [la 2 6,mv 14,mv 4,mv 5,cf 48 [27,28,29,30]]++sq 26 [mv 31]++sq 32 [ex 26 0,ex 26 1]++sq 16 [.alloc 16 57 [.sl 0 (some true) [],.sl 0 (some true) []]]++s0 (sr 2 16 32)++sq 17 [mv 33])) (.seq (.seq (.iE (sq 34 [mv 15,nt 34,mv 35]++sg 36 false 37 [mv 17,nt 37]++sq 39 [po 36 38])) (.cond (t0 39) (.seq (.iE (sq 40 [.build [.sl 0 (some true) [],.sl 0 (some true) []] []]++s0 (sr 2 12 40)++sq 13 [mb false])) .ret) .skip)) (.seq (.iE (sq 41 [la 2 6,mv 1,mv 2,mv 3,mv 14,.build [.lit (.int .i64 0),.lit (.int .i64 0),.sl 0 (some true) []] [(0,1,(t0 43)),(1,1,(t0 44)),(2,1,(t0 45))],.nY 47 95 3 [(t0 46)],.build [.sl 0 (some true) [],.sl 0 (some true) []] [(0,1,(t0 42)),(1,1,(t0 47))],la 2 16,cf 49 [41,48,49],ex 50 0,ex 50 1]++s0 (sr 2 12 51)++sq 13 [mv 52])) .ret)))))
theorem afn:jV Tryz.prog 19 adV 53 [.cell 12 2 true,.tmp 13]:=mf Tryz.func19 Tryz.ntmps19
def rH(sys:gW)(t:gI)(iY:Int)(rule:Int)(u:gI)(steps:Int):Option (gX×Bool):=
 (sP sys t iY rule).bind fun r=>
 (uT sys r.1 u steps).bind fun r_1=>
 if r.2=true then
  if r_1.2=true then
   (qj sys (t,[(iY,rule,r.1)]) r_1.1).bind fun r_2=>
   some r_2
  else
   some (([],[]),false)
 else
  some (([],[]),false)
instance Sv{sys:gW}{t:gI}{iY:Int}{rule:Int}{u:gI}{steps:Int}:jf (rH sys t iY rule u steps) fun rr=>mO Tryz.prog 19 [iU sys,(iH 1 iD) t,iD iY,iD rule,(iH 1 iD) u,iD steps] [jJ rr.1,bD rr.2]:=⟨@fun rr h=>by
 delta rH at h;refine afn.mz (iB ?_);delta adV;refine jd ?_;exact lW⟩
def ae0:iJ:=
 (.seq (.iE (sq 2 [mb false])) (.seq (.iE (sq 3 [mv 0,ln 3,.mB 44 [(t0 4),(i0 1),(i0 60)]]++sq 2 [mv 5])) .ret))
theorem agt:jV Tryz.prog 98 ae0 6 [.tmp 2]:=mf Tryz.func98 Tryz.ntmps98
def rD(t:gI):Option Bool:=
 (kF (t.length:Int) 1 60).bind fun r=>
 some r
instance So{t:gI}:jf (rD t) fun rr=>jK Tryz.prog 98 [(iH 1 iD) t] (bD rr):=⟨@fun rr h=>by
 delta rD at h;refine agt.jv (iB ?_);delta ae0;refine jd ?_;exact lW⟩
def aek:iJ:=
 (.seq (.iE (sq 1 [bo 1 57 0,mb false])) (.seq (.iE (sq 3 [fa 1 1,ld 3,ln 4,bi .leq 5 60,mv 6]++sg 7 true 8 [fa 0 1,ld 8,cf 98 [9]]++sq 11 [pa 7 10]++sq 2 [mv 11])) .ret))
theorem afN:jV Tryz.prog 51 aek 12 [.tmp 2]:=mf Tryz.func51 Tryz.ntmps51
def vX(w:gX):Option Bool:=
 if(decide ((w.2.length:Int)<=60))=true then
  (rD w.1).bind fun r=>
  some r
 else
  some false
instance Sq{w:gX}:jf (vX w) fun rr=>jK Tryz.prog 51 [jJ w] (bD rr):=⟨@fun rr h=>by
 delta vX at h;refine afN.jv (iB ?_);delta aek;refine jd ?_;exact lW⟩
def ael:iJ:=
 (.seq (.iE (sq 1 [bo 1 57 0,.mv (.const (.slice none 0 0))])) (.seq (.iE (sq 5 [.nY 5 2 1 []]++sq 3 [mv 5])) (.seq (.seq (.iE (sq 4 [mi 0])) (.block 0 (.loop (.seq (.seq (.iE (sq 6 [mv 4,fa 1 1,ld 7,ln 8,bn .lss 6 9])) (.cond (t0 10) .skip (.exit 0))) (.seq (.block 1 (.draw (sq 13 [mv 3,fa 1 1,ld 14,mv 4,ix 3 15 16,fa 0 17,ld 18,fa 1 1,ld 20,mv 4,ix 3 21 22,fa 1 23,ld 24,.nY 26 2 1 [(t0 19),(t0 25)],ap 27 2 1 8 13 26]++sq 3 [mv 27]) [[],[],[1],[],[2,3],[4],[5],[],[7],[],[8,9],[10],[11],[6,12],[0,13],[14,14,0,1,2,3,4,5,6,7,8,9,10,11,12,13,14]])) (.iE (sq 11 [mv 4,bi .add 11 1]++sq 4 [mv 12]))))))) (.seq (.iE (sq 28 [mv 3]++sq 2 [mv 28])) .ret))))
theorem afO:jV Tryz.prog 52 ael 29 [.tmp 2]:=mf Tryz.func52 Tryz.ntmps52
def qo(w:gX):gT->Option iq
 |(out,i)=>
  if(decide (i<(w.2.length:Int)))=true then
   if 0<=i/\i<(w.2.length:Int)then
    if 0<=i/\i<(w.2.length:Int)then
     if(out.length+2)*8<=140737488355328 then
      some (.inl ((out++[(w.2.getD i.toNat default).1,(w.2.getD i.toNat default).2.1]),(IntKind.i64.wrap (i+1))))
     else none
    else none
   else none
  else
   Option.map Sum.inr (
    some out)
def tH(w:gX):Option gI:=
 iL (qo w) ([],0)
instance Sn{w:gX}:jf (tH w) fun rr=>jK Tryz.prog 52 [jJ w] ((iH 1 iD) rr):=⟨@fun rr h=>by
 delta tH at h;refine afO.jv (iB ?_);delta ael;refine jd ?_;refine kH h [3,4,6,7,8,9,10,11,12,13,14,15,16,17,18,19,20,21,22,23,24,25,26,27] (fun pp=>[(3,.own 1 5 (List.map iD pp.1)),(4,.d (iD pp.2))]) (fun pp=>[(1,.obj 57 [.d (iH 1 iD w.1),.d (iH 3 iX w.2)]),(5,.tok 2 1 pp.1.length)]) ?_;rintro⟨out,i⟩ t1 h hb1;unfold qo at h;try dsimp only at h
 refine iB (jd ?_);refine iT h fun hc h=>?_
 refine jZ h fun hp h=>?_
 refine jZ h fun hp h=>?_
 refine jZ h fun hp h=>?_
 refine jM (by kernel_rfl) (jd ?_);cases h;refine⟨_,rfl,?_⟩;refine(iW.drop 26 iA).trans ?_;exact wk⟩
def adX:iJ:=
 (.seq (.iE (sq 1 [bo 1 57 0,.alloc 2 63 [.lit (.int .i64 0),.sl 0 (some true) [],.sl 0 (some true) [],.sl 0 (some true) []]])) (.seq (.seq (.iE (sq 3 [la 2 1,cf 51 [3],nt 4])) (.cond (t0 5) (.seq (.iE (sq 6 [.build [.lit (.int .i64 0),.sl 0 (some true) [],.sl 0 (some true) [],.sl 0 (some true) []] []]++s0 (sr 4 2 6))) .ret) .skip)) (.seq (.draw (sq 7 [la 2 1,cf 52 [7],fa 0 1,ld 9,cf 53 [10],.nY 12 22 1 [(t0 11)],.build [.lit (.int .i64 0),.sl 0 (some true) [],.sl 0 (some true) [],.sl 0 (some true) []] [(0,1,(i0 1)),(1,1,(t0 8)),(2,1,(t0 12))]]++s0 (sr 4 2 13)) [[],[0],[],[2],[3,1],[4],[1,5],[6,4,0,1,2,3,4,5,6]]) .ret)))
theorem afp:jV Tryz.prog 21 adX 14 [.cell 2 4 true]:=mf Tryz.func21 Tryz.ntmps21
def od(w:gX):Option gQ:=
 (vX w).bind fun r=>
 if r=true then
  (tH w).bind fun r_1=>
  (jQ w.1).bind fun r_2=>
  some (1,r_1,[r_2],[])
 else
  some (0,[],[],[])
instance NQ{w:gX}:jf (od w) fun rr=>jK Tryz.prog 21 [jJ w] (iP rr):=⟨@fun rr h=>by
 delta od at h;refine afp.jv (iB ?_);delta adX;refine jd ?_;refine rC h fun r hr h=>?_
 refine iT h fun hc h=>?_
 refine dC h fun r_1 hr_1 h=>?_
 refine JH [] [(3,11)] h fun r_2 hr_2 h=>?_
 exact lW⟩
def aeX:iJ:=
 (.seq (.iE (sq 2 [bo 2 63 0]++sq 4 [mb false])) (.seq (.seq (.iE (sq 7 [mv 1,bi .lss 7 0,mv 8]++sg 9 false 10 [fa 0 2,ld 10,.mB 44 [(t0 11),(i0 1),(i0 12)],nt 12]++sq 14 [po 9 13,mv 14]++sg 15 false 16 [fa 1 2,ld 16,ln 17,bi .gtr 18 200]++sq 20 [po 15 19,mv 20]++sg 21 false 22 [fa 2 2,ld 22,ln 23,bi .gtr 24 61]++sq 26 [po 21 25,mv 26]++sg 27 false 28 [fa 3 2,ld 28,ln 29,bi .gtr 30 64]++sq 32 [po 27 31])) (.cond (t0 32) (.seq (.iE (sq 4 [mb false])) .ret) .skip)) (.seq (.seq (.iE (sq 5 [mi 0])) (.block 0 (.loop (.seq (.seq (.iE (sq 33 [mv 5,fa 2 2,ld 34,ln 35,bn .lss 33 36])) (.cond (t0 37) .skip (.exit 0))) (.seq (.block 1 (.seq (.iE (sq 40 [fa 2 2,ld 40,mv 5,ix 1 41 42,ld 43,cf 98 [44],nt 45])) (.cond (t0 46) (.seq (.iE (sq 4 [mb false])) .ret) .skip))) (.iE (sq 38 [mv 5,bi .add 38 1]++sq 5 [mv 39]))))))) (.seq (.seq (.iE (sq 6 [mi 0])) (.block 2 (.loop (.seq (.seq (.iE (sq 47 [mv 6,fa 3 2,ld 48,ln 49,bn .lss 47 50])) (.cond (t0 51) .skip (.exit 2))) (.seq (.block 3 (.seq (.iE (sq 54 [fa 3 2,ld 54,mv 6,ix 1 55 56,ld 57,mv 1,bi .sub 59 1,.mB 44 [(t0 58),(i0 0),(t0 60)],nt 61])) (.cond (t0 62) (.seq (.iE (sq 4 [mb false])) .ret) .skip))) (.iE (sq 52 [mv 6,bi .add 52 1]++sq 6 [mv 53]))))))) (.seq (.iE (sq 4 [mb true])) .ret)))))
theorem agq:jV Tryz.prog 95 aeX 63 [.tmp 4]:=mf Tryz.func95 Tryz.ntmps95
def oL(n:gQ)(many:Int):Int->Option gV
 |i_1=>
  if(decide (i_1<(n.2.2.2.length:Int)))=true then
   if 0<=i_1/\i_1<(n.2.2.2.length:Int)then
    (kF (n.2.2.2.getD i_1.toNat default) 0 (IntKind.i64.wrap (many-1))).bind fun r_2=>
    if r_2=true then
     some (.inl (IntKind.i64.wrap (i_1+1)))
    else
     Option.map Sum.inr (
      some false)
   else none
  else
   Option.map Sum.inr (
    some true)
def uf(n:gQ)(many:Int):Int->Option gV
 |i=>
  if(decide (i<(n.2.2.1.length:Int)))=true then
   if 0<=i/\i<(n.2.2.1.length:Int)then
    (rD (n.2.2.1.getD i.toNat default)).bind fun r_1=>
    if r_1=true then
     some (.inl (IntKind.i64.wrap (i+1)))
    else
     Option.map Sum.inr (
      some false)
   else none
  else
   Option.map Sum.inr (
    iL (oL n many) 0)
def qE(n:gQ)(many:Int):Option Bool:=
 if(decide (many<0))=true then
  some false
 else
  (kF n.1 1 12).bind fun r=>
  if r=true then
   if(decide (200<(n.2.1.length:Int)))=true then
    some false
   else
    if(decide (61<(n.2.2.1.length:Int)))=true then
     some false
    else
     if(decide (64<(n.2.2.2.length:Int)))=true then
      some false
     else
      iL (uf n many) 0
  else
   some false
instance UY{n:gQ}{many:Int}:jf (qE n many) fun rr=>jK Tryz.prog 95 [iP n,iD many] (bD rr):=⟨@fun rr h=>by
 delta qE at h;refine agq.jv (iB ?_);delta aeX;refine jd ?_;refine iF h fun hc h=>?_
 refine rC h fun r hr h=>?_
 refine iT h fun hc h=>?_
 refine iF h fun hc h=>?_
 refine iF h fun hc h=>?_
 refine iF h fun hc h=>?_
 refine kH h [4,5,33,34,35,36,37,38,39,40,41,42,43,44,45,46] (fun pp=>[(5,.d (iD pp))]) (fun pp=>[(2,.obj 63 [.d (iD n.1),.d (iH 1 iD n.2.1),.d (iH 1 (iH 1 iD) n.2.2.1),.d (iH 1 iD n.2.2.2)])]) ?_;rintro i t1 h hb1;unfold uf at h;try dsimp only at h
 refine iB (jd ?_);refine iF h fun hc h=>?_
 replace h:=jD h hb1;refine kH h [4,6,47,48,49,50,51,52,53,54,55,56,57,58,59,60,61,62] (fun pp=>[(6,.d (iD pp))]) (fun pp=>[(2,.obj 63 [.d (iD n.1),.d (iH 1 iD n.2.1),.d (iH 1 (iH 1 iD) n.2.2.1),.d (iH 1 iD n.2.2.2)])]) ?_;rintro i_1 t1 h hb1;unfold oL at h;try dsimp only at h
 refine iB (jd ?_);exact lW⟩
def aeW:iJ:=
 (.seq (.iE (sq 1 [bo 1 31 0,mb false])) (.seq (.seq (.iE (sq 3 [mi 0])) (.block 0 (.loop (.seq (.seq (.iE (sq 4 [mv 3,fa 0 1,ld 5,ln 6,bn .lss 4 7])) (.cond (t0 8) .skip (.exit 0))) (.seq (.block 1 (.seq (.iE (sq 11 [fa 0 1,ld 11,mv 3,ix 4 12 13,la 4 14,mv 3,cf 95 [15,16],nt 17])) (.cond (t0 18) (.seq (.iE (sq 2 [mb false])) .ret) .skip))) (.iE (sq 9 [mv 3,bi .add 9 1]++sq 3 [mv 10]))))))) (.seq (.iE (sq 2 [mb true])) .ret)))
theorem agp:jV Tryz.prog 94 aeW 19 [.tmp 2]:=mf Tryz.func94 Tryz.ntmps94
def si(p:gY):Int->Option gV
 |i=>
  if(decide (i<(p.length:Int)))=true then
   if 0<=i/\i<(p.length:Int)then
    (qE ((p.getD i.toNat default).1,(p.getD i.toNat default).2.1,(p.getD i.toNat default).2.2.1,(p.getD i.toNat default).2.2.2) i).bind fun r=>
    if r=true then
     some (.inl (IntKind.i64.wrap (i+1)))
    else
     Option.map Sum.inr (
      some false)
   else none
  else
   Option.map Sum.inr (
    some true)
def sI(p:gY):Option Bool:=
 iL (si p) 0
instance Rn{p:gY}:jf (sI p) fun rr=>jK Tryz.prog 94 [lR p] (bD rr):=⟨@fun rr h=>by
 delta sI at h;refine agp.jv (iB ?_);delta aeW;refine jd ?_;refine kH h [2,3,4,5,6,7,8,9,10,11,12,13,14,15,16,17,18] (fun pp=>[(3,.d (iD pp))]) (fun pp=>[(1,.obj 31 [.d (iH 4 iP p)])]) ?_;rintro i t1 h hb1;unfold si at h;try dsimp only at h
 refine iB (jd ?_);exact lW⟩
def YO:iJ:=
 (.seq (.iE (sq 2 [.mv (.const (.slice none 0 0))])) (.seq (.iE (sq 5 [.nY 5 22 1 []]++sq 3 [mv 5])) (.seq (.seq (.iE (sq 4 [mi 0])) (.block 0 (.loop (.seq (.seq (.iE (sq 6 [mv 4,mv 0,ln 7,bn .lss 6 8])) (.cond (t0 9) .skip (.exit 0))) (.seq (.block 1 (.iE (sq 12 [mv 3,mv 0,mv 4,ix 1 13 14,ld 15,cf 53 [16],.nY 18 22 1 [(t0 17)],ap 19 22 1 24 12 18]++sq 3 [mv 19]))) (.iE (sq 10 [mv 4,bi .add 10 1]++sq 4 [mv 11]))))))) (.seq (.iE (sq 20 [mv 3]++sq 2 [mv 20])) .ret))))
theorem abU:jV Tryz.prog 125 YO 21 [.tmp 2]:=mf Tryz.func125 Tryz.ntmps125
def ng(list:gJ):(gJ×Int)->Option ((gJ×Int)⊕gJ)
 |(out,i)=>
  if(decide (i<(list.length:Int)))=true then
   if 0<=i/\i<(list.length:Int)then
    (jQ (list.getD i.toNat default)).bind fun r=>
    if(out.length+1)*24<=140737488355328 then
     some (.inl ((out++[r]),(IntKind.i64.wrap (i+1))))
    else none
   else none
  else
   Option.map Sum.inr (
    some out)
def pH(list:gJ):Option gJ:=
 iL (ng list) ([],0)
instance L3{list:gJ}:jf (pH list) fun rr=>jK Tryz.prog 125 [(iH 1 (iH 1 iD)) list] ((iH 1 (iH 1 iD)) rr):=⟨@fun rr h=>by
 delta pH at h;refine abU.jv (iB ?_);delta YO;refine jd ?_;refine kH h [3,4,6,7,8,9,10,11,12,13,14,15,16,17,18,19] (fun pp=>[(3,.own 1 5 (List.map (iH 1 iD) pp.1)),(4,.d (iD pp.2))]) (fun pp=>[(5,.tok 22 1 pp.1.length)]) ?_;rintro⟨out,i⟩ t1 h hb1;unfold ng at h;try dsimp only at h
 refine iB (jd ?_);refine iT h fun hc h=>?_
 refine jZ h fun hp h=>?_
 refine tg [] [(3,17)] h fun r hr h=>?_
 refine jZ h fun hp h=>?_
 cases h;refine⟨_,rfl,?_⟩;refine(iW.drop 17 iA).trans ?_;refine(iW.drop 18 iA).trans ?_;exact wk⟩
def aeZ:iJ:=
 (.seq (.iE (sq 1 [bo 1 63 0,.alloc 2 63 [.lit (.int .i64 0),.sl 0 (some true) [],.sl 0 (some true) [],.sl 0 (some true) []]])) (.seq (.draw (sq 3 [fa 0 1,ld 3,fa 1 1,ld 5,cf 53 [6],fa 2 1,ld 8,cf 125 [9],fa 3 1,ld 11,cf 53 [12],.build [.lit (.int .i64 0),.sl 0 (some true) [],.sl 0 (some true) [],.sl 0 (some true) []] [(0,1,(t0 4)),(1,1,(t0 7)),(2,1,(t0 10)),(3,1,(t0 13))]]++s0 (sr 4 2 14)) [[],[0],[],[2],[3],[],[5],[6,4],[],[8],[9,7],[1,4,7,10],[11,10,0,1,2,3,4,5,6,7,8,9,10,11]]) .ret))
theorem ags:jV Tryz.prog 97 aeZ 15 [.cell 2 4 true]:=mf Tryz.func97 Tryz.ntmps97
def lu(n:gQ):Option gQ:=
 (jQ n.2.1).bind fun r=>
 (pH n.2.2.1).bind fun r_1=>
 (jQ n.2.2.2).bind fun r_2=>
 some (n.1,r,r_1,r_2)
instance L5{n:gQ}:jf (lu n) fun rr=>jK Tryz.prog 97 [iP n] (iP rr):=⟨@fun rr h=>by
 delta lu at h;refine ags.jv (iB ?_);delta aeZ;refine jd ?_;refine JH [] [(3,7)] h fun r hr h=>?_
 refine dC h fun r_1 hr_1 h=>?_
 refine JH [] [(3,13)] h fun r_2 hr_2 h=>?_
 exact lW⟩
def aeY:iJ:=
 (.seq (.iE (sq 1 [bo 1 31 0,.alloc 2 31 [.sl 0 (some true) []]])) (.seq (.iE (sq 5 [.build [.sl 0 (some true) []] []]++sq 3 [.alloc 3 31 [.sl 0 (some true) []]]++s0 (sr 1 3 5))) (.seq (.seq (.iE (sq 4 [mi 0])) (.block 0 (.loop (.seq (.seq (.iE (sq 6 [mv 4,fa 0 1,ld 7,ln 8,bn .lss 6 9])) (.cond (t0 10) .skip (.exit 0))) (.seq (.block 1 (.draw (sq 13 [fa 0 3,ld 13,fa 0 1,ld 15,mv 4,ix 4 16 17,la 4 18,cf 97 [19],.nY 21 63 4 [(t0 20)],ap 22 63 4 80 14 21,fa 0 3]++s0 (sr 1 23 22)) [[],[0],[],[2],[],[3,4],[5],[6],[7],[1,8,7],[0,1,2,3,4,5,6,7,8,9],[10,9,9,0,1,2,3,4,5,6,7,8,9]])) (.iE (sq 11 [mv 4,bi .add 11 1]++sq 4 [mv 12]))))))) (.seq (.iE (sq 24 [la 1 3]++s0 (sr 1 2 24))) .ret))))
theorem agr:jV Tryz.prog 96 aeY 25 [.cell 2 1 true]:=mf Tryz.func96 Tryz.ntmps96
def zq(p:gY):(Int×gY)->Option ((Int×gY)⊕gY)
 |(i,out)=>
  if(decide (i<(p.length:Int)))=true then
   if 0<=i/\i<(p.length:Int)then
    (lu ((p.getD i.toNat default).1,(p.getD i.toNat default).2.1,(p.getD i.toNat default).2.2.1,(p.getD i.toNat default).2.2.2)).bind fun r=>
    if(out.length+1)*80<=140737488355328 then
     some (.inl ((IntKind.i64.wrap (i+1)),(out++[r])))
    else none
   else none
  else
   Option.map Sum.inr (
    some out)
def Bj(p:gY):Option gY:=
 iL (zq p) (0,[])
instance Sm{p:gY}:jf (Bj p) fun rr=>jK Tryz.prog 96 [lR p] (lR rr):=⟨@fun rr h=>by
 delta Bj at h;refine agr.jv (iB ?_);delta aeY;refine jd ?_;refine nL h [4,6,7,8,9,10,11,12,13,14,15,16,17,18,19,20,21,22,23] (fun pp=>[(4,.d (iD pp.1))]) (fun pp=>[(1,.obj 31 [.d (iH 4 iP p)]),(2,.obj 31 [.d (.sl 0 (some true) [])]),(3,.obj 31 [.own 4 22 (List.map iP pp.2)]),(22,.tok 63 4 pp.2.length)]) ?_ ?_
 ·try dsimp only
  refine(iW.wT 3 0 22 63 4 rfl rfl rfl).trans ?_;exact wk
 rintro⟨i,out⟩ t1 h hb1;unfold zq at h;try dsimp only at h
 refine iB (jd ?_);refine iT h fun hc h=>?_
 refine jZ h fun hp h=>?_
 refine dC h fun r hr h=>?_
 refine jZ h fun hp h=>?_
 refine jM (by kernel_rfl) (jd ?_);cases h;refine⟨_,rfl,?_⟩;refine(iW.drop 21 iA).trans ?_;exact wk⟩
def xT:iJ:=
 (.seq (.iE (sq 1 [bo 1 31 0,.alloc 2 31 [.sl 0 (some true) []]])) (.seq (.iE (sq 5 [.build [.sl 0 (some true) []] []]++sq 3 [.alloc 3 31 [.sl 0 (some true) []]]++s0 (sr 1 3 5))) (.seq (.seq (.iE (sq 4 [mi 0])) (.block 0 (.loop (.seq (.seq (.iE (sq 6 [mv 4,fa 0 1,ld 7,ln 8,bn .lss 6 9])) (.cond (t0 10) .skip (.exit 0))) (.seq (.block 1 (.draw (sq 13 [fa 0 3,ld 13,fa 0 1,ld 15,mv 4,ix 4 16 17,la 4 18,cf 97 [19],.nY 21 63 4 [(t0 20)],.F9 22 63 4 80 (t0 14) (t0 21),fa 0 3]++s0 (sr 1 23 22)) [[],[0],[],[2],[],[3,4],[5],[6],[7],[1,8,7],[0,1,2,3,4,5,6,7,8,9],[10,9,9,0,1,2,3,4,5,6,7,8,9]])) (.iE (sq 11 [mv 4,bi .add 11 1]++sq 4 [mv 12]))))))) (.seq (.iE (sq 24 [la 1 3]++s0 (sr 1 2 24))) .ret))))
theorem Bx:jV Tryz.prog 96 xT 25 [.cell 2 1 true]:=mf Tryz.func96 Tryz.ntmps96
def qn(p:gY):(Int×gY)->Option ((Int×gY)⊕gY)
 |(i,g22)=>
  if(decide (i<(p.length:Int)))=true then
   if 0<=i/\i<(p.length:Int)then
    (lu ((p.getD i.toNat default).1,(p.getD i.toNat default).2.1,(p.getD i.toNat default).2.2.1,(p.getD i.toNat default).2.2.2)).bind fun r=>
    if(g22.length+1)*80<=140737488355328 then
     some (.inl ((IntKind.i64.wrap (i+1)),(g22++[r])))
    else none
   else none
  else
   Option.map Sum.inr (
    some g22)
def qm(p:gY):Option gY:=
 iL (qn p) (0,[])
instance NS{p:gY}:jf (qm p) fun rr=>iR Tryz.prog 96 [.d (.agg [iH 4 iP p])] [] 0 fun xx ss=>xx=.agg [.kU 4 900000 rr.length]/\ss=[(900000,.lZ 63 4 rr.length (lF iP rr))]:=⟨@fun rr h=>by
 delta qm at h;refine Bx.sk (iB ?_);delta xT;refine jd ?_;refine nL h [4,6,7,8,9,10,11,12,13,14,15,16,17,18,19,20,21,22,23] (fun pp=>[(4,.d (iD pp.1))]) (fun pp=>[(1,.obj 31 [.d (iH 4 iP p)]),(2,.obj 31 [.d (.sl 0 (some true) [])]),(3,.obj 31 [.kU 4 22 pp.2.length]),(22,.lZ 63 4 pp.2.length (lF iP pp.2))]) ?_ ?_
 ·try dsimp only
  refine(iW.QF 3 0 22 63 4 rfl rfl rfl).trans ?_;exact wk
 rintro⟨i,g22⟩ t1 h hb1;unfold qn at h;try dsimp only at h
 refine iB (jd ?_);refine it h (fun hc h=>?_) fun hc h=>?_
 ·refine jZ h fun hp h=>?_
  refine dC h fun r hr h=>?_
  refine jZ h fun hp h=>?_
  refine jM (by kernel_rfl) (jd ?_);cases h;refine⟨_,rfl,?_⟩;refine(iW.leS (s':=[(1,.obj 31 [.d (iH 4 iP p)]),(2,.obj 31 [.d (.sl 0 (some true) [])]),(3,.obj 31 [.kU 4 22 ((g22++[r]).length)]),(21,.tok 63 4 1),(22,.lZ 63 4 ((g22++[r]).length) (lF iP (g22++[r])))]) (ju.refl _) (by exact(xy (vl.refl _) (xy (vl.refl _) (xy ⟨rfl,nh⟩ (xy (vl.refl _) (xy ⟨rfl,rfl,by simp,Kt nh⟩ D1))))))).trans ?_;refine(iW.drop 21 iA).trans ?_;exact wk
 replace h:=jD h hb1;cases h;exact iV.trans ((iV.trans (iV.move 22 900000 (ob:=.lZ 63 4 rr.length (lF iP rr)) iA iA iA rfl (by first|rfl|(simp;done)|(simp[sat,lQ,sset,jz,rS,lU,Ob.jY,Ob.kill,jg];done))) (iV.ou [1,2,3] (by simp)))) (iV.told zP nh)⟩
def aej:iJ:=
 (.seq (.iE (sq 2 [bo 2 31 0,bo 3 63 1,.alloc 4 31 [.sl 0 (some true) []],mb false])) (.seq (.seq (.iE (sq 7 [fa 0 2,ld 7,ln 8,bi .geq 9 64,mv 10]++sg 11 false 12 [la 1 2,cf 94 [12],nt 13]++sq 15 [po 11 14,mv 15]++sg 16 false 17 [la 4 3,fa 0 2,ld 18,ln 19,cf 95 [17,20],nt 21]++sq 23 [po 16 22])) (.cond (t0 23) (.seq (.iE (sq 24 [.build [.sl 0 (some true) []] []]++s0 (sr 1 4 24)++sq 5 [mb false])) .ret) .skip)) (.seq (.iE (sq 25 [la 1 2,cf 96 [25]]++sq 6 [.alloc 6 31 [.sl 0 (some true) []]]++s0 (sr 1 6 26))) (.seq (.draw (sq 27 [fa 0 6,ld 27,la 4 3,cf 97 [29],.nY 31 63 4 [(t0 30)],ap 32 63 4 80 28 31,fa 0 6]++s0 (sr 1 33 32)) [[],[0],[],[2],[3],[1,4,3],[0,1,2,3,4,5],[6,5,5,0,1,2,3,4,5]]) (.seq (.iE (sq 34 [la 1 6]++s0 (sr 1 4 34)++sq 5 [mb true])) .ret)))))
theorem afM:jV Tryz.prog 50 aej 35 [.cell 4 1 true,.tmp 5]:=mf Tryz.func50 Tryz.ntmps50
def rm(p:gY)(n:gQ):Option (gY×Bool):=
 if(decide (64<=(p.length:Int)))=true then
  some ([],false)
 else
  (sI p).bind fun r=>
  if r=true then
   (qE n (p.length:Int)).bind fun r_1=>
   if r_1=true then
    (qm p).bind fun r_2=>
    (lu n).bind fun r_3=>
    if(r_2.length+1)*80<=140737488355328 then
     some ((r_2++[r_3]),true)
    else none
   else
    some ([],false)
  else
   some ([],false)
instance Pu{p:gY}{n:gQ}:jf (rm p n) fun rr=>mO Tryz.prog 50 [lR p,iP n] [lR rr.1,bD rr.2]:=⟨@fun rr h=>by
 delta rm at h;refine afM.aaU (iB ?_);delta aej;refine jd ?_;refine it h (fun hc h=>?_) fun hc h=>?_
 ·cases h;exact⟨_,_,iV.refl,zP⟩
 refine rC h fun r hr h=>?_
 refine it h (fun hc h=>?_) fun hc h=>?_
 ·refine rC h fun r_1 hr_1 h=>?_
  refine it h (fun hc h=>?_) fun hc h=>?_
  ·refine tg [] [(900000,26)] h fun r_2 hr_2 h=>?_
   refine dC h fun r_3 hr_3 h=>?_
   refine jZ h fun hp h=>?_
   refine jM (by kernel_rfl) (jd ?_);cases h;exact⟨_,_,(iV.trans (iV.told (t:=[(2,.obj 31 [.d (iH 4 iP p)]),(3,.obj 63 [.d (iD n.1),.d (iH 1 iD n.2.1),.d (iH 1 (iH 1 iD) n.2.2.1),.d (iH 1 iD n.2.2.2)]),(4,.obj 31 [.kU 4 26 ((r_2++[r_3]).length)]),(6,.obj 31 [.kU 4 26 ((r_2++[r_3]).length)]),(26,.lZ 63 4 ((r_2++[r_3]).length) (lF iP (r_2++[r_3]))),(31,.tok 63 4 1)]) (AV.le_refl _) (by exact(xy (vl.refl _) (xy (vl.refl _) (xy ⟨rfl,nh⟩ (xy ⟨rfl,nh⟩ (xy ⟨rfl,rfl,by simp,Kt nh⟩ (xy (vl.refl _) D1)))))))) (iV.fz 26 iP rfl (r_2++[r_3]))),zP⟩
  cases h;exact⟨_,_,iV.refl,zP⟩
 cases h;exact⟨_,_,iV.refl,zP⟩⟩
def adW:iJ:=
 (.seq (.iE (sq 2 [.alloc 2 31 [.sl 0 (some true) []],mb false])) (.seq (.iE (sq 8 [.build [.sl 0 (some true) []] []]++sq 4 [.alloc 4 31 [.sl 0 (some true) []]]++s0 (sr 1 4 8))) (.seq (.seq (.iE (sq 5 [mi 0])) (.block 0 (.loop (.seq (.seq (.iE (sq 9 [mv 5,mv 0,ln 10,bn .lss 9 11])) (.cond (t0 12) .skip (.exit 0))) (.seq (.block 1 (.seq (.draw (sq 16 [la 1 4,mv 0,mv 5,ix 4 17 18,la 4 19,cf 50 [16,20]]++sq 15 [mv 21]++sq 22 [ex 15 0,ex 15 1]++sq 6 [.alloc 6 31 [.sl 0 (some true) []]]++s0 (sr 1 6 22)++sq 7 [mv 23]) [[],[],[],[1,2],[3],[0,4],[5],[6],[6],[],[9,7,5,0,1,2,3,4,5,6,7,9],[8,10,0,1,2,3,4,5,6,7,8,9,10]]) (.seq (.seq (.iE (sq 24 [mv 7,nt 24])) (.cond (t0 25) (.seq (.iE (sq 26 [.build [.sl 0 (some true) []] []]++s0 (sr 1 2 26)++sq 3 [mb false])) .ret) .skip)) (.iE (sq 27 [la 1 6]++s0 (sr 1 4 27)))))) (.iE (sq 13 [mv 5,bi .add 13 1]++sq 5 [mv 14]))))))) (.seq (.iE (sq 28 [la 1 4,mv 0,ln 29,bi .gtr 30 0]++s0 (sr 1 2 28)++sq 3 [mv 31])) .ret))))
theorem afo:jV Tryz.prog 20 adW 32 [.cell 2 1 true,.tmp 3]:=mf Tryz.func20 Tryz.ntmps20
def rG(nodes:gY):(Int×gY)->Option ((Int×gY)⊕(gY×Bool))
 |(i,p)=>
  if(decide (i<(nodes.length:Int)))=true then
   if 0<=i/\i<(nodes.length:Int)then
    (rm p ((nodes.getD i.toNat default).1,(nodes.getD i.toNat default).2.1,(nodes.getD i.toNat default).2.2.1,(nodes.getD i.toNat default).2.2.2)).bind fun r=>
    if r.2=true then
     some (.inl ((IntKind.i64.wrap (i+1)),r.1))
    else
     Option.map Sum.inr (
      some ([],false))
   else none
  else
   Option.map Sum.inr (
    some (p,(decide (0<(nodes.length:Int)))))
def uU(nodes:gY):Option (gY×Bool):=
 iL (rG nodes) (0,[])
instance U_{nodes:gY}:jf (uU nodes) fun rr=>mO Tryz.prog 20 [(iH 4 iP) nodes] [lR rr.1,bD rr.2]:=⟨@fun rr h=>by
 delta uU at h;refine afo.mz (iB ?_);delta adW;refine jd ?_;refine kH h [3,5,6,7,9,10,11,12,13,14,15,16,17,18,19,20,21,22,23,24,25,26,27] (fun pp=>[(5,.d (iD pp.1))]) (fun pp=>[(2,.obj 31 [.d (.sl 0 (some true) [])]),(4,.obj 31 [.d (iH 4 iP pp.2)])]) ?_;rintro⟨i,p⟩ t1 h hb1;unfold rG at h;try dsimp only at h
 refine iB (jd ?_);refine iT h fun hc h=>?_
 refine jZ h fun hp h=>?_
 refine dCN h fun r hr h=>?_
 refine jM (by kernel_rfl) (jd ?_);refine iT h fun hc h=>?_
 cases h;refine⟨_,rfl,?_⟩;refine(iW.drop 6 iA).trans ?_;exact wk⟩
def mc5:iJ:=
 (.seq (.iE (sq 2 [bo 2 37 0]++sq 4 [.alloc 4 31 [.sl 0 (some true) []],mb false])) (.seq (.iE (sq 16 [la 2 2,mv 1,cf 15 [16,17]]++sq 15 [mv 18]++sq 19 [ex 15 0,ex 15 1,ex 15 2,ex 15 3]++sq 6 [.alloc 6 47 [.sl 0 (some true) [],.sl 0 (some true) [],.sl 0 (some true) [],.lit (.int .i64 0),.lit (.int .i64 0),.lit (.int .i64 0)]]++s0 (sr 6 6 19)++sq 7 [mv 20,mv 21,mv 22])) (.seq (.seq (.iE (sq 23 [la 2 2,cf 16 [23],nt 24,mv 25]++sg 26 false 27 [mv 9,nt 27]++sq 29 [po 26 28])) (.cond (t0 29) (.seq (.iE (sq 30 [.build [.sl 0 (some true) []] []]++s0 (sr 1 4 30)++sq 5 [mb false])) .ret) .skip)) (.seq (.draw (sq 31 [fa 0 2,la 1 31,fa 0 6,ld 33,fa 0 2,la 1 35,fa 1 2,ld 37,fa 5 6,ld 39,ix 2 38 40,fa 0 41,ld 42,fa 3 6,ld 44,cf 18 [36,43,45],cf 17 [32,34,46]]++sq 10 [mv 47]) [[],[0],[],[2],[],[4],[],[6],[],[8],[7,9],[10],[11],[],[13],[5,12,14],[1,3,15,15],[16,16,0,1,2,3,4,5,6,7,8,9,10,11,12,13,14,15,16]]) (.seq (.iE (sq 49 [la 2 2,fa 0 6,ld 50,mv 10,fa 4 6,ld 53,mv 7,mv 1,cf 19 [49,51,52,54,55,56]]++sq 48 [mv 57]++sq 58 [ex 48 0,ex 48 1]++sq 11 [.alloc 11 57 [.sl 0 (some true) [],.sl 0 (some true) []]]++s0 (sr 2 11 58)++sq 12 [mv 59])) (.seq (.iE (sq 61 [la 2 2,fa 0 6,ld 62,fa 5 6,ld 64,mv 8,mv 1,.mB 19 [(t0 61),(t0 63),(i0 0),(t0 65),(t0 66),(t0 67)]]++sq 60 [mv 68]++sq 69 [ex 60 0,ex 60 1]++sq 13 [.alloc 13 57 [.sl 0 (some true) [],.sl 0 (some true) []]]++s0 (sr 2 13 69)++sq 14 [mv 70])) (.seq (.seq (.iE (sq 71 [mv 12,nt 71,mv 72]++sg 73 false 74 [mv 14,nt 74]++sq 76 [po 73 75])) (.cond (t0 76) (.seq (.iE (sq 77 [.build [.sl 0 (some true) []] []]++s0 (sr 1 4 77)++sq 5 [mb false])) .ret) .skip)) (.seq (.draw (sq 78 [la 2 11,cf 21 [78],la 2 13,cf 21 [80],.nY 82 2 1 [(i0 0),(i0 1)],.build [.lit (.int .i64 0),.sl 0 (some true) [],.sl 0 (some true) [],.sl 0 (some true) []] [(0,1,(i0 9)),(3,1,(t0 82))],.nY 84 63 4 [(t0 79),(t0 81),(t0 83)],cf 20 [84],ex 85 0,ex 85 1]++s0 (sr 1 4 86)++sq 5 [mv 87]) [[],[0],[],[2,1],[],[4],[1,3,5],[6,3],[7],[7],[8,7,0,1,2,3,4,5,6,7,8,9],[9,10,0,1,2,3,4,5,6,7,8,9,10]]) .ret))))))))
theorem fn5:jV Tryz.prog 5 mc5 88 [.cell 4 1 true,.tmp 5]:=mf Tryz.func5 Tryz.ntmps5
def sG(sys:gW)(steps:Int):Option (gY×Bool):=
 (tG sys steps).bind fun r=>
 (om sys).bind fun r_1=>
 if r_1=true then
  if r.2.2.2=true then
   if 0<=r.1.2.2.2.2.2/\r.1.2.2.2.2.2<(sys.2.length:Int)then
    (sO sys.1 ((sys.2.getD r.1.2.2.2.2.2.toNat default).1) r.1.2.2.2.1).bind fun r_2=>
    (rq sys.1 r.1.1 r_2).bind fun r_3=>
    (rH sys r.1.1 r_3 r.1.2.2.2.2.1 r.2.1 steps).bind fun r_4=>
    (rH sys r.1.1 0 r.1.2.2.2.2.2 r.2.2.1 steps).bind fun r_5=>
    if r_4.2=true then
     if r_5.2=true then
      (od r_4.1).bind fun r_6=>
      (od r_5.1).bind fun r_7=>
      (uU [r_6,r_7,(9,[],[],[0,1])]).bind fun r_8=>
      some r_8
     else
      some ([],false)
    else
     some ([],false)
   else none
  else
   some ([],false)
 else
  some ([],false)
instance Rk{sys:gW}{steps:Int}:jf (sG sys steps) fun rr=>mO Tryz.prog 5 [iU sys,iD steps] [lR rr.1,bD rr.2]:=⟨@fun rr h=>by
 delta sG at h;refine fn5.mz (iB ?_);delta mc5;refine jd ?_;exact lW⟩
end Go.Proofs.YtjgbnaihpicpgabGreat
