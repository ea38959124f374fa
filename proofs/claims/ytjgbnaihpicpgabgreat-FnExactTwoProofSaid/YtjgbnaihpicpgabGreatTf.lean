/- A part of the proof about FnExactTwoProof (G3, IT, G4, N3, N4). -/
import Derived.Test.YtjgbnaihpicpgabGreatTd
set_option linter.all false
noncomputable section
namespace Go.Proofs.YtjgbnaihpicpgabGreat
open Go oq
attribute [local irreducible] uy zk yt nN mY oR kj C7 D_ BZ D9 Be vL mA oG Dk ju lM
set_option maxHeartbeats 4000000
set_option maxRecDepth 4000
def iX(x:gL):D:=.agg [iD x.1,iD x.2.1,(iH 1 iD) x.2.2]
instance:sW iX 3:=⟨fun _=>rfl⟩
attribute [go_sem] iX
def Zm:iJ:=
 (.seq (.iE (sq 3 [bo 3 34 0]++sq 6 [mb false])) (.seq (.iE (sq 10 [la 1 3,mv 1,mv 2,cf 138 [10,11,12]]++sq 9 [mv 13]++sq 14 [ex 9 0,ex 9 1]++sq 7 [.alloc 7 158 [.sl 0 (some true) []]]++s0 (sr 1 7 14)++sq 8 [mv 15])) (.seq (.iE (sq 16 [mv 8]++sq 6 [mv 16])) .ret)))
theorem acz:jV Tryz.prog 169 Zm 17 [.tmp 6]:=mf Tryz.func169 Tryz.ntmps169
def sy(sig:gI)(p:gI)(t:gI):Option Bool:=
 (uc sig p t).bind fun r=>
 some r.2
instance Q9{sig:gI}{p:gI}{t:gI}:jf (sy sig p t) fun rr=>jK Tryz.prog 169 [jw sig,(iH 1 iD) p,(iH 1 iD) t] (bD rr):=⟨@fun rr h=>by
 delta sy at h;refine acz.jv (iB ?_);delta Zm;refine jd ?_;exact lW⟩
def Zf:iJ:=
 (.seq (.iE (sq 4 [bo 4 37 0]++sq 8 [mb false])) (.seq (.draw (sq 9 [fa 0 4,la 1 9,fa 1 4,ld 11,mv 3,ix 2 12 13,fa 0 14,ld 15,fa 0 4,la 1 17,mv 1,mv 2,cf 139 [18,19,20],cf 169 [10,16,21]]++sq 8 [mv 22]) [[],[0],[],[2],[],[3,4],[5],[6],[],[8],[],[],[9,10,11],[1,7,12,12],[13,13,0,1,2,3,4,5,6,7,8,9,10,11,12,13]]) .ret))
theorem acp:jV Tryz.prog 157 Zf 23 [.tmp 8]:=mf Tryz.func157 Tryz.ntmps157
def rW(sys:gW)(t:gI)(iY:Int)(rule:Int):Option Bool:=
 if 0<=rule/\rule<(sys.2.length:Int)then
  (kX sys.1 t iY).bind fun r=>
  (sy sys.1 ((sys.2.getD rule.toNat default).1) r).bind fun r_1=>
  some r_1
 else none
instance VL{sys:gW}{t:gI}{iY:Int}{rule:Int}:jf (rW sys t iY rule) fun rr=>jK Tryz.prog 157 [iU sys,(iH 1 iD) t,iD iY,iD rule] (bD rr):=⟨@fun rr h=>by
 delta rW at h;refine acp.jv (iB ?_);delta Zf;refine jd ?_;exact lW⟩
def pW(n:Int):Option gI:=if 0<=n/\n*8<=140737488355328 then some []else none
instance Hy{n:Int}:jf (pW n) fun rr=>iR Tryz.prog 167 [.d (.sl 0 (some true) []),.d (iD n)] [] 0 fun xx ss=>xx=.own 1 0 (List.map iD rr)/\ss=[(0,.tok 2 1 rr.length)]:=⟨fun h=>by
 obtain⟨hp,h⟩:=sV h;cases h;exact S3 (i0:=Tryz.t2) (z:=_) Tryz.Wi (by kernel_rfl) rfl (by decide) (by decide) (by decide) (by decide) hp.1 hp.2⟩
def Zb:iJ:=
 (.seq (.iE (sq 2 [.mv (.const (.slice none 0 0))])) (.seq (.iE (sq 3 [mi 0])) (.seq (.seq (.iE (sq 9 [mv 0,ln 9,mi 0])) (.block 0 (.loop (.seq (.iE (sq 12 [bn .lss 11 10])) (.seq (.cond (t0 12) .skip (.exit 0)) (.seq (.block 1 (.seq (.iE (sq 13 [ix 1 9 11,ld 13]++sq 5 [mv 14])) (.seq (.iE (sq 15 [mv 3,mv 5,ln 16,bn .add 15 17]++sq 3 [mv 18])) (.seq (.iE (sq 19 [mv 3,bi .lss 19 0])) (.cond (t0 20) (.iE (sq 21 [.DG 9 (.const (.string {data:=#[108,101,110,32,111,117,116,32,111,102,32,114,97,110,103,101]}))]++s0 (.Hz (t0 21)))) .skip))))) (.iE (sq 22 [bi .add 11 1]++sq 11 [mv 22])))))))) (.seq (.iE (sq 23 [mv 3,.mB 167 [(.const (.slice none 0 0)),(t0 23)]]++sq 6 [mv 24])) (.seq (.seq (.iE (sq 25 [mv 0,ln 25,mi 0])) (.block 2 (.loop (.seq (.iE (sq 28 [bn .lss 27 26])) (.seq (.cond (t0 28) .skip (.exit 2)) (.seq (.block 3 (.seq (.iE (sq 29 [ix 1 25 27,ld 29]++sq 8 [mv 30])) (.iE (sq 31 [mv 6,mv 8,ap 33 2 1 8 31 32]++sq 6 [mv 33])))) (.iE (sq 34 [bi .add 27 1]++sq 27 [mv 34])))))))) (.seq (.iE (sq 35 [mv 6]++sq 2 [mv 35])) .ret))))))
theorem ack:jV Tryz.prog 153 Zb 36 [.tmp 2]:=mf Tryz.func153 Tryz.ntmps153
def nu(slices:gJ):gT->Option iq
 |(newslice,v27)=>
  if(decide (v27<(slices.length:Int)))=true then
   if 0<=v27/\v27<(slices.length:Int)then
    if(newslice.length+(slices.getD v27.toNat default).length)*8<=140737488355328 then
     some (.inl ((newslice++(slices.getD v27.toNat default)),(IntKind.i64.wrap (v27+1))))
    else none
   else none
  else
   Option.map Sum.inr (
    some newslice)
def nr(slices:gJ):gP->Option (gP⊕gI)
 |(size,v11)=>
  if(decide (v11<(slices.length:Int)))=true then
   if 0<=v11/\v11<(slices.length:Int)then
    if(decide ((IntKind.i64.wrap (size+((slices.getD v11.toNat default).length:Int)))<0))=true then
     none
    else
     some (.inl ((IntKind.i64.wrap (size+((slices.getD v11.toNat default).length:Int))),(IntKind.i64.wrap (v11+1))))
   else none
  else
   Option.map Sum.inr (
    (pW size).bind fun r=>
    iL (nu slices) (r,0))
def kz(slices:gJ):Option gI:=
 iL (nr slices) (0,0)
instance FH{slices:gJ}:jf (kz slices) fun rr=>iR Tryz.prog 153 [.d (iH 1 (iH 1 iD) slices)] [] 0 fun xx ss=>xx=.own 1 24 (List.map iD rr)/\ss=[(24,.tok 2 1 rr.length)]:=⟨@fun rr h=>by
 delta kz at h;refine ack.oo (iB ?_);delta Zb;refine jd ?_;refine kH h [3,5,11,12,13,14,15,16,17,18,19,20,21,22] (fun pp=>[(3,.d (iD pp.1)),(11,.d (iD pp.2))]) (fun pp=>[]) ?_;rintro⟨size,v11⟩ t1 h hb1;unfold nr at h;try dsimp only at h
 refine iB (jd ?_);refine iF h fun hc h=>?_
 replace h:=jD h hb1;refine tg [] [(0,24)] h fun r hr h=>?_
 refine kH h [6,8,27,28,29,30,31,32,33,34] (fun pp=>[(6,.own 1 24 (List.map iD pp.1)),(27,.d (iD pp.2))]) (fun pp=>[(24,.tok 2 1 pp.1.length)]) ?_;rintro⟨newslice,v27⟩ t1 h hb1;unfold nu at h;try dsimp only at h
 refine iB (jd ?_);exact lW⟩
def YT:iJ:=
 (.seq (.iE (sq 4 [bo 4 34 0]++sq 8 [.mv (.const (.slice none 0 0)),mb false])) (.seq (.draw (sq 11 [mv 1,mv 2,.slc (t0 11) 1 none (some (t0 12)) none,mv 3,mv 1,la 1 4,mv 1,mv 2,cf 108 [16,17,18],.slc (t0 15) 1 (some (t0 19)) none none,.nY 21 22 1 [(t0 13),(t0 14),(t0 20)],cf 153 [21]]++sq 10 [mv 22]) [[],[],[0,1],[],[],[],[],[],[5,6,7],[4,8],[2,3,9],[10,8],[11,11,0,1,2,3,4,5,6,7,8,9,10,11]]) (.seq (.seq (.iE (sq 23 [mv 10,ln 23,bi .gtr 24 60])) (.cond (t0 25) (.seq (.iE (sq 8 [.mv (.const (.slice none 0 0)),mb false])) .ret) .skip)) (.seq (.iE (sq 26 [mv 10]++sq 8 [mv 26,mb true])) .ret))))
theorem abZ:jV Tryz.prog 131 YT 27 [.tmp 8,.tmp 9]:=mf Tryz.func131 Tryz.ntmps131
def tA(sig:gI)(t:gI)(iY:Int)(u:gI):Option ir:=
 if 0<=iY/\iY<=(t.length:Int)then
  (mF sig t iY).bind fun r=>
  if 0<=r/\r<=(t.length:Int)then
   (kz [(t.take iY.toNat),u,(t.drop r.toNat)]).bind fun r_1=>
   if(decide (60<(r_1.length:Int)))=true then
    some ([],false)
   else
    some (r_1,true)
  else none
 else none
instance aaa{sig:gI}{t:gI}{iY:Int}{u:gI}:jf (tA sig t iY u) fun rr=>mO Tryz.prog 131 [jw sig,(iH 1 iD) t,iD iY,(iH 1 iD) u] [(iH 1 iD) rr.1,bD rr.2]:=⟨@fun rr h=>by
 delta tA at h;refine abZ.mz (iB ?_);delta YT;refine jd ?_;refine jZ h fun hp h=>?_
 refine dC h fun r hr h=>?_
 refine jZ h fun hp h=>?_
 refine JH [] [(24,22)] h fun r_1 hr_1 h=>?_
 exact lW⟩
def YA:iJ:=
 (.seq (.iE (sq 4 [bo 4 37 0]++sq 8 [.mv (.const (.slice none 0 0)),mb false])) (.seq (.draw (sq 14 [fa 0 4,la 1 14,fa 1 4,ld 16,mv 3,ix 2 17 18,fa 0 19,ld 20,fa 0 4,la 1 22,mv 1,mv 2,cf 139 [23,24,25],cf 138 [15,21,26]]++sq 13 [mv 27]++sq 28 [ex 13 0,ex 13 1]++sq 10 [.alloc 10 158 [.sl 0 (some true) []]]++s0 (sr 1 10 28)++sq 11 [mv 29]) [[],[0],[],[2],[],[3,4],[5],[6],[],[8],[],[],[9,10,11],[1,7,12,12],[13],[14],[14],[],[17,15,13,0,1,2,3,4,5,6,7,8,9,10,11,12,13,14,15,17],[16,18,0,1,2,3,4,5,6,7,8,9,10,11,12,13,14,15,16,17,18]]) (.seq (.seq (.iE (sq 30 [mv 11,nt 30])) (.cond (t0 31) (.seq (.iE (sq 8 [.mv (.const (.slice none 0 0)),mb false])) .ret) .skip)) (.seq (.draw (sq 33 [la 1 10,fa 1 4,ld 34,mv 3,ix 2 35 36,fa 1 37,ld 38,cf 140 [33,39]]++sq 32 [mv 40]++sq 41 [ex 32 0,ex 32 1]++sq 12 [mv 41]++sq 11 [mv 42]) [[],[],[1],[],[2,3],[4],[5],[0,6],[7],[8],[8],[9,7,0,1,2,3,4,5,6,7,8,9],[10,11,0,1,2,3,4,5,6,7,8,9,10,11]]) (.seq (.seq (.iE (sq 43 [mv 11,nt 43])) (.cond (t0 44) (.seq (.iE (sq 8 [.mv (.const (.slice none 0 0)),mb false])) .ret) .skip)) (.seq (.iE (sq 45 [fa 0 4,la 1 45,mv 1,mv 2,mv 12,cf 131 [46,47,48,49],ex 50 0,ex 50 1]++sq 8 [mv 51,mv 52])) .ret))))))
theorem abG:jV Tryz.prog 110 YA 53 [.tmp 8,.tmp 9]:=mf Tryz.func110 Tryz.ntmps110
def vu(sys:gW)(t:gI)(iY:Int)(rule:Int):Option ir:=
 if 0<=rule/\rule<(sys.2.length:Int)then
  (kX sys.1 t iY).bind fun r=>
  (uc sys.1 ((sys.2.getD rule.toNat default).1) r).bind fun r_1=>
  if r_1.2=true then
   if 0<=rule/\rule<(sys.2.length:Int)then
    (vt r_1.1 ((sys.2.getD rule.toNat default).2)).bind fun r_2=>
    if r_2.2=true then
     (tA sys.1 t iY r_2.1).bind fun r_3=>
     some r_3
    else
     some ([],false)
   else none
  else
   some ([],false)
 else none
instance X7{sys:gW}{t:gI}{iY:Int}{rule:Int}:jf (vu sys t iY rule) fun rr=>mO Tryz.prog 110 [iU sys,(iH 1 iD) t,iD iY,iD rule] [(iH 1 iD) rr.1,bD rr.2]:=⟨@fun rr h=>by
 delta vu at h;refine abG.mz (iB ?_);delta YA;refine jd ?_;exact lW⟩
def YN:iJ:=
 (.seq (.iE (sq 4 [bo 4 34 0]++sq 8 [.mv (.const (.slice none 0 0)),mb false])) (.seq (.iE (sq 11 [mv 1,mv 2,.slc (t0 11) 1 none (some (t0 12)) none,cf 53 [13],mv 3,ap 16 2 1 8 14 15]++sq 10 [mv 16])) (.seq (.iE (sq 17 [mv 10,mv 1,la 1 4,mv 1,mv 2,cf 83 [19,20,21],.slc (t0 18) 1 (some (t0 22)) none none,ap 24 2 1 8 17 23]++sq 10 [mv 24])) (.seq (.seq (.iE (sq 25 [mv 10,ln 25,bi .gtr 26 60])) (.cond (t0 27) (.seq (.iE (sq 28 [.nY 28 2 1 []]++sq 8 [mv 28,mb false])) .ret) .skip)) (.seq (.iE (sq 29 [mv 10]++sq 8 [mv 29,mb true])) .ret)))))
theorem abT:jV Tryz.prog 124 YN 30 [.tmp 8,.tmp 9]:=mf Tryz.func124 Tryz.ntmps124
def we(sig:gI)(t:gI)(iY:Int)(u:gI):Option ir:=
 if 0<=iY/\iY<=(t.length:Int)then
  (jQ (t.take iY.toNat)).bind fun r=>
  if(r.length+u.length)*8<=140737488355328 then
   (nK sig t iY).bind fun r_1=>
   if 0<=r_1/\r_1<=(t.length:Int)then
    if((r++u).length+(t.drop r_1.toNat).length)*8<=140737488355328 then
     if(decide (60<(((r++u)++(t.drop r_1.toNat)).length:Int)))=true then
      some ([],false)
     else
      some (((r++u)++(t.drop r_1.toNat)),true)
    else none
   else none
  else none
 else none
instance VW{sig:gI}{t:gI}{iY:Int}{u:gI}:jf (we sig t iY u) fun rr=>mO Tryz.prog 124 [jw sig,(iH 1 iD) t,iD iY,(iH 1 iD) u] [(iH 1 iD) rr.1,bD rr.2]:=⟨@fun rr h=>by
 delta we at h;refine abT.mz (iB ?_);delta YN;refine jd ?_;refine jZ h fun hp h=>?_
 refine tg [] [(3,14)] h fun r hr h=>?_
 exact lW⟩
def aeQ:iJ:=
 (.seq (.iE (sq 4 [bo 4 37 0]++sq 8 [.mv (.const (.slice none 0 0)),mb false])) (.seq (.iE (sq 15 [fa 1 4,ld 15,mv 3,ix 2 16 17,la 2 18]++sq 10 [.alloc 10 54 [.sl 0 (some true) [],.sl 0 (some true) []]]++s0 (sr 2 10 19))) (.seq (.draw (sq 21 [fa 0 4,la 1 21,fa 0 10,ld 23,fa 0 4,la 1 25,mv 1,mv 2,cf 122 [26,27,28],cf 121 [22,24,29]]++sq 20 [mv 30]++sq 31 [ex 20 0,ex 20 1]++sq 11 [.alloc 11 158 [.sl 0 (some true) []]]++s0 (sr 1 11 31)++sq 12 [mv 32]) [[],[0],[],[2],[],[4],[],[],[5,6,7],[1,3,8,8],[9],[10],[10],[],[13,11,9,0,1,2,3,4,5,6,7,8,9,10,11,13],[12,14,0,1,2,3,4,5,6,7,8,9,10,11,12,13,14]]) (.seq (.seq (.iE (sq 33 [mv 12,nt 33])) (.cond (t0 34) (.seq (.iE (sq 35 [.nY 35 2 1 []]++sq 8 [mv 35,mb false])) .ret) .skip)) (.seq (.iE (sq 37 [la 1 11,fa 1 10,ld 38,cf 123 [37,39]]++sq 36 [mv 40]++sq 41 [ex 36 0,ex 36 1]++sq 13 [mv 41,mv 42])) (.seq (.seq (.iE (sq 43 [mv 14,nt 43])) (.cond (t0 44) (.seq (.iE (sq 45 [.nY 45 2 1 []]++sq 8 [mv 45,mb false])) .ret) .skip)) (.seq (.iE (sq 46 [fa 0 4,la 1 46,mv 1,mv 2,mv 13,cf 124 [47,48,49,50],ex 51 0,ex 51 1]++sq 8 [mv 52,mv 53])) .ret)))))))
theorem agj:jV Tryz.prog 88 aeQ 54 [.tmp 8,.tmp 9]:=mf Tryz.func88 Tryz.ntmps88
def sU(sys:gW)(t:gI)(iY:Int)(rule:Int):Option ir:=
 if 0<=rule/\rule<(sys.2.length:Int)then
  (sd sys.1 t iY).bind fun r=>
  (rK sys.1 ((sys.2.getD rule.toNat default).1) r).bind fun r_1=>
  if r_1.2=true then
   (qb r_1.1 ((sys.2.getD rule.toNat default).2)).bind fun r_2=>
   if r_2.2=true then
    (we sys.1 t iY r_2.1).bind fun r_3=>
    some r_3
   else
    some ([],false)
  else
   some ([],false)
 else none
instance Vb{sys:gW}{t:gI}{iY:Int}{rule:Int}:jf (sU sys t iY rule) fun rr=>mO Tryz.prog 88 [iU sys,(iH 1 iD) t,iD iY,iD rule] [(iH 1 iD) rr.1,bD rr.2]:=⟨@fun rr h=>by
 delta sU at h;refine agj.mz (iB ?_);delta aeQ;refine jd ?_;exact lW⟩
def YI:iJ:=
 (.seq (.iE (sq 2 [bo 2 37 0]++sq 4 [.mv (.const (.slice none 0 0))])) (.seq (.iE (sq 10 [.nY 10 95 3 []]++sq 5 [mv 10])) (.seq (.seq (.iE (sq 6 [mi 0])) (.block 0 (.loop (.seq (.seq (.iE (sq 11 [mv 6,mv 1,ln 12,bn .lss 11 13])) (.cond (t0 14) .skip (.exit 0))) (.seq (.block 1 (.seq (.iE (sq 7 [mi 0])) (.block 2 (.loop (.seq (.seq (.iE (sq 17 [mv 7,fa 1 2,ld 18,ln 19,bn .lss 17 20])) (.cond (t0 21) .skip (.exit 2))) (.seq (.block 3 (.seq (.iE (sq 25 [la 2 2,mv 1,mv 6,mv 7,cf 88 [25,26,27,28]]++sq 24 [mv 29]++sq 30 [ex 24 0,ex 24 1]++sq 8 [mv 30,mv 31])) (.seq (.iE (sq 32 [mv 9])) (.cond (t0 32) (.iE (sq 33 [mv 5,mv 6,mv 7,mv 8,.build [.lit (.int .i64 0),.lit (.int .i64 0),.sl 0 (some true) []] [(0,1,(t0 34)),(1,1,(t0 35)),(2,1,(t0 36))],.nY 38 95 3 [(t0 37)],ap 39 95 3 40 33 38]++sq 5 [mv 39])) .skip)))) (.iE (sq 22 [mv 7,bi .add 22 1]++sq 7 [mv 23])))))))) (.iE (sq 15 [mv 6,bi .add 15 1]++sq 6 [mv 16]))))))) (.seq (.iE (sq 40 [mv 5]++sq 4 [mv 40])) .ret))))
theorem abO:jV Tryz.prog 119 YI 41 [.tmp 4]:=mf Tryz.func119 Tryz.ntmps119
def qq(sys:gW)(t:gI)(iY:Int):(gS×Int)->Option ((gS×Int)⊕((gS×Int)⊕gS))
 |(out_1,rule)=>
  if(decide (rule<(sys.2.length:Int)))=true then
   (sU sys t iY rule).bind fun r=>
   if r.2=true then
    if(out_1.length+1)*40<=140737488355328 then
     some (.inl ((out_1++[(iY,rule,r.1)]),(IntKind.i64.wrap (rule+1))))
    else none
   else
    some (.inl (out_1,(IntKind.i64.wrap (rule+1))))
  else
   Option.map Sum.inr (
    some (.inl (out_1,(IntKind.i64.wrap (iY+1)))))
def qp(sys:gW)(t:gI):(gS×Int)->Option ((gS×Int)⊕gS)
 |(out,iY)=>
  if(decide (iY<(t.length:Int)))=true then
   iL (qq sys t iY) (out,0)
  else
   Option.map Sum.inr (
    some out)
def tL(sys:gW)(t:gI):Option gS:=
 iL (qp sys t) ([],0)
instance Sz{sys:gW}{t:gI}:jf (tL sys t) fun rr=>jK Tryz.prog 119 [iU sys,(iH 1 iD) t] ((iH 3 iX) rr):=⟨@fun rr h=>by
 delta tL at h;refine abO.jv (iB ?_);delta YI;refine jd ?_;refine kH h [5,6,7,8,9,11,12,13,14,15,16,17,18,19,20,21,22,23,24,25,26,27,28,29,30,31,32,33,34,35,36,37,38,39] (fun pp=>[(5,.own 3 10 (List.map iX pp.1)),(6,.d (iD pp.2))]) (fun pp=>[(2,.obj 37 [.d (iH 1 iD sys.1),.d (iH 2 iC sys.2)]),(10,.tok 95 3 pp.1.length)]) ?_;rintro⟨out,iY⟩ t1 h hb1;unfold qp at h;try dsimp only at h
 refine iB (jd ?_);refine iT h fun hc h=>?_
 refine kH h [5,7,8,9,17,18,19,20,21,22,23,24,25,26,27,28,29,30,31,32,33,34,35,36,37,38,39] (fun pp=>[(5,.own 3 10 (List.map iX pp.1)),(7,.d (iD pp.2))]) (fun pp=>[(2,.obj 37 [.d (iH 1 iD sys.1),.d (iH 2 iC sys.2)]),(10,.tok 95 3 pp.1.length)]) ?_;rintro⟨out_1,rule⟩ t2 h hb2;unfold qq at h;try dsimp only at h
 refine iB (jd ?_);refine iT h fun hc h=>?_
 refine TP h fun r hr h=>?_
 refine iT h fun hc h=>?_
 refine jZ h fun hp h=>?_
 cases h;refine⟨_,rfl,?_⟩;refine(iW.drop 38 iA).trans ?_;exact wk⟩
def YJ:iJ:=
 (.seq (.iE (sq 2 [bo 2 37 0]++sq 4 [mi 0])) (.seq (.iE (sq 5 [mi 0])) (.seq (.seq (.iE (sq 6 [mi 0])) (.block 0 (.loop (.seq (.seq (.iE (sq 10 [mv 6,mv 1,ln 11,bn .lss 10 12])) (.cond (t0 13) .skip (.exit 0))) (.seq (.block 1 (.seq (.iE (sq 7 [mi 0])) (.block 2 (.loop (.seq (.seq (.iE (sq 16 [mv 7,fa 1 2,ld 17,ln 18,bn .lss 16 19])) (.cond (t0 20) .skip (.exit 2))) (.seq (.block 3 (.seq (.draw (sq 24 [fa 0 2,la 1 24,fa 1 2,ld 26,mv 7,ix 2 27 28,fa 0 29,ld 30,fa 0 2,la 1 32,mv 1,mv 6,cf 122 [33,34,35],cf 121 [25,31,36]]++sq 23 [mv 37]++sq 38 [ex 23 0,ex 23 1]++sq 8 [.alloc 8 158 [.sl 0 (some true) []]]++s0 (sr 1 8 38)++sq 9 [mv 39]) [[],[0],[],[2],[],[3,4],[5],[6],[],[8],[],[],[9,10,11],[1,7,12,12],[13],[14],[14],[],[17,15,13,0,1,2,3,4,5,6,7,8,9,10,11,12,13,14,15,17],[16,18,0,1,2,3,4,5,6,7,8,9,10,11,12,13,14,15,16,17,18]]) (.seq (.iE (sq 40 [mv 9])) (.cond (t0 40) (.iE (sq 41 [mv 5,bi .add 41 1]++sq 5 [mv 42])) .skip)))) (.iE (sq 21 [mv 7,bi .add 21 1]++sq 7 [mv 22])))))))) (.iE (sq 14 [mv 6,bi .add 14 1]++sq 6 [mv 15]))))))) (.seq (.iE (sq 43 [mv 5]++sq 4 [mv 43])) .ret))))
theorem abP:jV Tryz.prog 120 YJ 44 [.tmp 4]:=mf Tryz.func120 Tryz.ntmps120
def uC(sys:gW)(t:gI)(iY:Int):gP->Option (gP⊕ie)
 |(many_1,rule)=>
  if(decide (rule<(sys.2.length:Int)))=true then
   if 0<=rule/\rule<(sys.2.length:Int)then
    (sd sys.1 t iY).bind fun r=>
    (rK sys.1 ((sys.2.getD rule.toNat default).1) r).bind fun r_1=>
    if r_1.2=true then
     some (.inl ((IntKind.i64.wrap (many_1+1)),(IntKind.i64.wrap (rule+1))))
    else
     some (.inl (many_1,(IntKind.i64.wrap (rule+1))))
   else none
  else
   Option.map Sum.inr (
    some (.inl (many_1,(IntKind.i64.wrap (iY+1)))))
def uB(sys:gW)(t:gI):gP->Option ie
 |(many,iY)=>
  if(decide (iY<(t.length:Int)))=true then
   iL (uC sys t iY) (many,0)
  else
   Option.map Sum.inr (
    some many)
def rL(sys:gW)(t:gI):Option Int:=
 iL (uB sys t) (0,0)
instance Py{sys:gW}{t:gI}:jf (rL sys t) fun rr=>jK Tryz.prog 120 [iU sys,(iH 1 iD) t] (iD rr):=⟨@fun rr h=>by
 delta rL at h;refine abP.jv (iB ?_);delta YJ;refine jd ?_;refine kH h [5,6,7,8,9,10,11,12,13,14,15,16,17,18,19,20,21,22,23,24,25,26,27,28,29,30,31,32,33,34,35,36,37,38,39,40,41,42] (fun pp=>[(5,.d (iD pp.1)),(6,.d (iD pp.2))]) (fun pp=>[(2,.obj 37 [.d (iH 1 iD sys.1),.d (iH 2 iC sys.2)])]) ?_;rintro⟨many,iY⟩ t1 h hb1;unfold uB at h;try dsimp only at h
 refine iB (jd ?_);refine iT h fun hc h=>?_
 refine kH h [5,7,8,9,16,17,18,19,20,21,22,23,24,25,26,27,28,29,30,31,32,33,34,35,36,37,38,39,40,41,42] (fun pp=>[(5,.d (iD pp.1)),(7,.d (iD pp.2))]) (fun pp=>[(2,.obj 37 [.d (iH 1 iD sys.1),.d (iH 2 iC sys.2)])]) ?_;rintro⟨many_1,rule⟩ t2 h hb2;unfold uC at h;try dsimp only at h
 refine iB (jd ?_);refine iT h fun hc h=>?_
 refine jZ h fun hp h=>?_
 refine dC h fun r hr h=>?_
 refine dCN h fun r_1 hr_1 h=>?_
 refine jM (by kernel_rfl) (jd ?_);refine it h (fun hc h=>?_) fun hc h=>?_
 ·cases h;refine⟨_,rfl,?_⟩;refine(iW.drop 8 iA).trans ?_;exact wk
 cases h;refine⟨_,rfl,?_⟩;refine(iW.drop 8 iA).trans ?_;exact wk⟩
end Go.Proofs.YtjgbnaihpicpgabGreat
namespace Go.Proofs.YtjgbnaihpicpgabGreat
open Go oq
attribute [local irreducible] uy zk yt nN mY oR kj C7 D_ BZ D9 Be vL mA oG Dk ju lM Ft
set_option maxHeartbeats 4000000
abbrev LD:=gI×List gM
abbrev Bl:=gL×Bool
def xK(sys:LD)(t:gI)(iY:Nat):Nat->Option (List Bl)
 |0=>some []
 |k+1=>
  if(decide (t.getD iY default<0))=true then xK sys t iY k
  else
   (rW sys t (iY:Int) ((sys.2.length-(k+1):Nat):Int)).bind fun r=>
   if r=true then
    (vu sys t (iY:Int) ((sys.2.length-(k+1):Nat):Int)).bind fun v=>
    (xK sys t iY k).map fun l=>(((iY:Int),((sys.2.length-(k+1):Nat):Int),v.1),v.2)::l
   else xK sys t iY k
def zg(sys:LD)(t:gI):Nat->Option (List Bl)
 |0=>some []
 |k+1=>(xK sys t (t.length-(k+1)) sys.2.length).bind fun xs=>(zg sys t k).map fun ys=>xs++ys
def AF(sys:LD)(t:gI):Option (List Bl):=zg sys t t.length
theorem S5{P:Program}{l:Nat}{ms:List jo}(pre post:List jo)(d:Nat)(g:Operand)(args:List Operand){Q:wX}{env:List AV}{x:List D}{r:List (List D)}(hms:ms=pre++⟨some d,.pJ g args,none⟩::post)
 (hpre:xA P 0 pre env [] (fun env' s'=>∃env1,iW 0 env' s' env1 []/\AV.ji (fun _=>none) env1=env1/\ev env1 g=.d (.lit (.func (.yield l) #[] #[]))/\args.map (ev env1)=x.map .d/\
  ∀b,xA P 0 post (env1.set d (.d (bD b))) [] (fun env' s'=>∃env2,iW 0 env' s' env2 []/\AV.ji (fun _=>none) env2=env2/\Q .normal env2 (if b then some r else none)))):Ft P l (.iE ms) Q env (some (x::r)):=by
 subst hms;exact N8 hpre
def Zl:iJ:=
 (.seq (.iE (sq 9 [ld 1,ln 9,mi 0])) (.block 0 (.loop (.seq (.iE (sq 12 [bn .lss 11 10])) (.seq (.cond (t0 12) .skip (.exit 0)) (.seq (.block 1 (.seq (.iE (sq 13 [mv 11,ix 1 9 11,ld 14]++sq 4 [mv 13,mv 15])) (.seq (.iE (sq 16 [fa 1 2,ld 16,ln 17,mi 0])) (.block 2 (.loop (.seq (.iE (sq 20 [bn .lss 19 18])) (.seq (.cond (t0 20) .skip (.exit 2)) (.seq (.block 3 (.seq (.iE (sq 21 [mv 19]++sq 6 [mv 21])) (.seq (.seq (.iE (sq 22 [mv 5,bi .lss 22 0,mv 23]++sg 24 false 25 [la 2 2,ld 1,mv 4,mv 6,cf 157 [25,26,27,28],nt 29]++sq 31 [po 24 30])) (.cond (t0 31) (.exit 3) .skip)) (.seq (.iE (sq 33 [la 2 2,ld 1,mv 4,mv 6,cf 110 [33,34,35,36]]++sq 32 [mv 37]++sq 38 [ex 32 0,ex 32 1]++sq 7 [mv 38,mv 39])) (.seq (.iE (sq 40 [mv 0,mv 4,mv 6,mv 7,.build [.lit (.int .i64 0),.lit (.int .i64 0),.sl 0 (some true) []] [(0,1,(t0 41)),(1,1,(t0 42)),(2,1,(t0 43))],mv 8,.pJ (t0 40) [(t0 44),(t0 45)],nt 46])) (.cond (t0 47) .ret .skip)))))) (.iE (sq 48 [bi .add 19 1]++sq 19 [mv 48])))))))))) (.iE (sq 49 [bi .add 11 1]++sq 11 [mv 49]))))))))
theorem acy:jV Tryz.prog 168 Zl 50 []:=mf Tryz.func168 Tryz.ntmps168
def Zc:iJ:=
 (.seq (.iE (sq 2 [bo 2 37 0,bo 3 22 1,.mv (.const .nilFunc)])) (.seq (.iE (sq 5 [.EI 168 [] [(t0 3),(t0 2)]]++sq 4 [mv 5])) .ret))
theorem acm:jV Tryz.prog 154 Zc 6 [.tmp 4]:=mf Tryz.func154 Tryz.ntmps154
section
variable(sys:LD)(t:gI)(l:Nat)
def Mu(iY:Nat):List AV:=[.d (.lit (.func (.yield l) #[] #[])),.pv [iH 1 iD t],.pv [iH 1 iD sys.1,iH 2 iC sys.2]]++List.replicate 6 .iO++[.d (iH 1 iD t),.d (iD (t.length:Int)),.d (iD (iY:Int))]++List.replicate 38 .iO
def Ij(iY rule:Nat):List AV:=[.d (.lit (.func (.yield l) #[] #[])),.pv [iH 1 iD t],.pv [iH 1 iD sys.1,iH 2 iC sys.2],.iO,.d (iD (iY:Int)),.d (iD (t.getD iY default)),.iO,.iO,.iO,.d (iH 1 iD t),.d (iD (t.length:Int)),.d (iD (iY:Int))]++List.replicate 5 .iO++[.d (iH 2 iC sys.2),.d (iD (sys.2.length:Int)),.d (iD (rule:Int))]++List.replicate 30 .iO
def it6(iY rule:Nat):List AV:=[.d (.lit (.func (.yield l) #[] #[])),.pv [iH 1 iD t],.pv [iH 1 iD sys.1,iH 2 iC sys.2],.iO,.d (iD (iY:Int)),.d (iD (t.getD iY default)),.d (iD (rule:Int)),.iO,.iO,.d (iH 1 iD t),.d (iD (t.length:Int)),.d (iD (iY:Int))]++List.replicate 5 .iO++[.d (iH 2 iC sys.2),.d (iD (sys.2.length:Int)),.d (iD (rule:Int))]++List.replicate 30 .iO
def it8(iY rule:Nat)(v:gI×Bool):List AV:=[.d (.lit (.func (.yield l) #[] #[])),.pv [iH 1 iD t],.pv [iH 1 iD sys.1,iH 2 iC sys.2],.iO,.d (iD (iY:Int)),.d (iD (t.getD iY default)),.d (iD (rule:Int)),.d (iH 1 iD v.1),.d (bD v.2),.d (iH 1 iD t),.d (iD (t.length:Int)),.d (iD (iY:Int))]++List.replicate 5 .iO++[.d (iH 2 iC sys.2),.d (iD (sys.2.length:Int)),.d (iD (rule:Int))]++List.replicate 30 .iO
def itY(iY rule:Nat)(v:gI×Bool):List AV:=[.d (.lit (.func (.yield l) #[] #[])),.pv [iH 1 iD t],.pv [iH 1 iD sys.1,iH 2 iC sys.2],.iO,.d (iD (iY:Int)),.d (iD (t.getD iY default)),.iO,.iO,.iO,.d (iH 1 iD t),.d (iD (t.length:Int)),.d (iD (iY:Int))]++List.replicate 5 .iO++[.d (iH 2 iC sys.2),.d (iD (sys.2.length:Int)),.d (iD (rule:Int))]++List.replicate 20 .iO++[.d (.lit (.func (.yield l) #[] #[])),.iO,.iO,.iO,.d (iX ((iY:Int),(rule:Int),v.1)),.d (bD v.2)]++List.replicate 4 .iO
def itB(iY rule:Nat)(b:Bool):List AV:=[.d (.lit (.func (.yield l) #[] #[])),.pv [iH 1 iD t],.pv [iH 1 iD sys.1,iH 2 iC sys.2],.iO,.d (iD (iY:Int)),.d (iD (t.getD iY default)),.iO,.iO,.iO,.d (iH 1 iD t),.d (iD (t.length:Int)),.d (iD (iY:Int))]++List.replicate 5 .iO++[.d (iH 2 iC sys.2),.d (iD (sys.2.length:Int)),.d (iD (rule:Int))]++List.replicate 27 .iO++[.d (bD (!b)),.iO,.iO]
end
theorem HK{sys:LD}{t:gI}{els:List Bl}(h0:AF sys t=some els):Iter Tryz.prog 168 [.pv [iH 1 iD t],.pv [iH 1 iD sys.1,iH 2 iC sys.2]] (els.map fun x=>[iX x.1,bD x.2]):=by
 refine I_ acy (by kernel_rfl) rfl fun l=>GF (p:=t.length<2^63) (fun X a W hst=>by have:=G3 (i:=1) (cs1:=[]) (cs2:=[]) (ds:=t.map iD) (e:=1) (nl:=none) hst rfl;simpa using this) fun hlen=>?_
 refine GF (p:=sys.2.length<2^63) (fun X a W hst=>by have:=G3 (i:=2) (cs1:=[iH 1 iD sys.1]) (cs2:=[]) (ds:=sys.2.map iC) (e:=2) (nl:=none) hst rfl;simpa using this) fun hlen2=>?_
 delta Zl;refine mh (kE rfl (iB ?_));show uy _ _ _ _ ([.d (.lit (.func (.yield l) #[] #[])),.pv [iH 1 iD t],.pv [iH 1 iD sys.1,iH 2 iC sys.2]]++List.replicate 47 .iO) [];refine jd ?_;refine⟨Mu sys t l 0,(by delta Mu;exact wk),rfl,vh ?_⟩;refine EC (ι:=Nat×List Bl) (fun p=>Mu sys t l p.1) (fun p=>some (p.2.map fun x=>[iX x.1,bD x.2])) (fun p=>p.1<=t.length/\zg sys t (t.length-p.1)=some p.2) (fun p=>t.length-p.1) (0,els) ⟨cS _,h0⟩ .refl (fun _=>rfl) ?_;rintro⟨iY,r⟩ ⟨hat,h⟩;simp only at hat h⊢;refine mh (kE rfl (iB ?_));delta Mu;by_cases hlt:iY<t.length
 rotate_left
 ·have hc:decide ((iY:Int)<(t.length:Int))=false:=by simpa using hlt
  refine uE hc ?_;refine⟨[.d (.lit (.func (.yield l) #[] #[])),.pv [iH 1 iD t],.pv [iH 1 iD sys.1,iH 2 iC sys.2]]++List.replicate 6 .iO++[.d (iH 1 iD t),.d (iD (t.length:Int)),.d (iD (iY:Int)),.d (bD false)]++List.replicate 37 .iO,wk,rfl,mh (kE rfl (iB ?_))⟩;refine jd ?_;have:iY=t.length:=by omega
  subst this;rw[cN]at h;cases h;exact⟨Mu sys t l t.length,(by delta Mu;exact wk),rfl,.inl rfl,.inl rfl⟩
 have hc:decide ((iY:Int)<(t.length:Int))=true:=by simpa using hlt
 refine uE hc ?_;refine⟨[.d (.lit (.func (.yield l) #[] #[])),.pv [iH 1 iD t],.pv [iH 1 iD sys.1,iH 2 iC sys.2]]++List.replicate 6 .iO++[.d (iH 1 iD t),.d (iD (t.length:Int)),.d (iD (iY:Int)),.d (bD true)]++List.replicate 37 .iO,wk,rfl,mh (kE rfl (iB ?_))⟩;refine jd ?_;refine⟨Mu sys t l iY,(by delta Mu;exact wk),rfl,?_⟩;obtain⟨k0,hk0⟩:∃k0,t.length-iY=k0+1:=⟨t.length-iY-1,iA⟩;rw[hk0]at h;simp only[zg]at h;rw[show t.length-(k0+1)=iY by omega]at h;obtain⟨xs,hxs,h⟩:=av.1 h;obtain⟨rest,hrest,hr⟩:=aB.1 h;subst hr;clear h;refine mh (vh (mh (kE rfl (iB ?_))));delta Mu;refine jd ?_;repeat(refine CQ iA ?_;refine jd ?_)
 refine⟨[.d (.lit (.func (.yield l) #[] #[])),.pv [iH 1 iD t],.pv [iH 1 iD sys.1,iH 2 iC sys.2],.iO,.d (iD (iY:Int)),.d (iD (t.getD iY default)),.iO,.iO,.iO,.d (iH 1 iD t),.d (iD (t.length:Int)),.d (iD (iY:Int))]++List.replicate 38 .iO,wk,rfl,mh (kE rfl (iB ?_))⟩;refine jd ?_;refine⟨Ij sys t l iY 0,(by delta Ij;exact wk),rfl,vh ?_⟩;refine EC (ι:=Nat×List Bl) (fun p=>Ij sys t l iY p.1) (fun p=>some ((fun p:Nat×List Bl=>(p.2++rest).map fun x=>[iX x.1,bD x.2]) p)) (fun p=>p.1<=sys.2.length/\xK sys t iY (sys.2.length-p.1)=some p.2) (fun p=>sys.2.length-p.1) (0,xs) ⟨cS _,hxs⟩ .refl (fun _=>rfl) ?_;clear hxs;rintro⟨rule,ys⟩ ⟨hru,h⟩;simp only at hru h⊢;refine mh (kE rfl (iB ?_));delta Ij;by_cases hlr:rule<sys.2.length
 rotate_left
 ·have hc:decide ((rule:Int)<(sys.2.length:Int))=false:=by simpa using hlr
  refine uE hc ?_;refine⟨[.d (.lit (.func (.yield l) #[] #[])),.pv [iH 1 iD t],.pv [iH 1 iD sys.1,iH 2 iC sys.2],.iO,.d (iD (iY:Int)),.d (iD (t.getD iY default)),.iO,.iO,.iO,.d (iH 1 iD t),.d (iD (t.length:Int)),.d (iD (iY:Int))]++List.replicate 5 .iO++[.d (iH 2 iC sys.2),.d (iD (sys.2.length:Int)),.d (iD (rule:Int)),.d (bD false)]++List.replicate 29 .iO,wk,rfl,mh (kE rfl (iB ?_))⟩;refine jd ?_;have:rule=sys.2.length:=by omega
  subst this;rw[cN]at h;cases h;refine⟨Mu sys t l iY,(by delta Mu;exact wk),rfl,?_⟩;show Ft _ _ _ _ _ _;refine kE rfl (iB ?_);delta Mu;refine jd ?_;have hw1:IntKind.i64.wrap ((iY:Int)+1)=((iY+1:Nat):Int):=by rw[wrap_i64 iA iA];omega
  rw[hw1];refine⟨Mu sys t l (iY+1),(by delta Mu;exact wk),rfl,(iY+1,rest),⟨⟨iA,?_⟩,by simp only;omega⟩,.refl,rfl⟩;simp only;rw[show t.length-(iY+1)=k0 by omega];exact hrest
 have hc:decide ((rule:Int)<(sys.2.length:Int))=true:=by simpa using hlr
 refine uE hc ?_;refine⟨[.d (.lit (.func (.yield l) #[] #[])),.pv [iH 1 iD t],.pv [iH 1 iD sys.1,iH 2 iC sys.2],.iO,.d (iD (iY:Int)),.d (iD (t.getD iY default)),.iO,.iO,.iO,.d (iH 1 iD t),.d (iD (t.length:Int)),.d (iD (iY:Int))]++List.replicate 5 .iO++[.d (iH 2 iC sys.2),.d (iD (sys.2.length:Int)),.d (iD (rule:Int)),.d (bD true)]++List.replicate 29 .iO,wk,rfl,mh (kE rfl (iB ?_))⟩;refine jd ?_;refine⟨Ij sys t l iY rule,(by delta Ij;exact wk),rfl,?_⟩;obtain⟨k1,hk1⟩:∃k1,sys.2.length-rule=k1+1:=⟨sys.2.length-rule-1,iA⟩;rw[hk1]at h;simp only[xK]at h;rw[show sys.2.length-(k1+1)=rule by omega]at h;have hnext:∀ys',xK sys t iY k1=some ys'->∀env1,iW 0 env1 [] (Ij sys t l iY rule) []->Ft Tryz.prog l (.iE (sq 48 [bi .add 19 1]++sq 19 [mv 48])) (Oa (fun p:Nat×List Bl=>Ij sys t l iY p.1) (fun p:Nat×List Bl=>some ((fun p:Nat×List Bl=>(p.2++rest).map fun x=>[iX x.1,bD x.2]) p)) (fun i':Nat×List Bl=>(i'.1<=sys.2.length/\xK sys t iY (sys.2.length-i'.1)=some i'.2)/\sys.2.length-i'.1<sys.2.length-rule) (S7 2 (S7 1 (adL Tryz.prog l (.iE (sq 49 [bi .add 11 1]++sq 11 [mv 49])) (Oa (fun p:Nat×List Bl=>Mu sys t l p.1) (fun p:Nat×List Bl=>some (p.2.map fun x=>[iX x.1,bD x.2])) (fun i':Nat×List Bl=>(i'.1<=t.length/\zg sys t (t.length-i'.1)=some i'.2)/\t.length-i'.1<t.length-iY) (S7 0 fun e env' r=>(e=.normal\/e=.ret)/\(r=some []\/r=none))))))) env1 (some ((ys'++rest).map fun x=>[iX x.1,bD x.2])):=fun ys' hys' env1 hw=>by
  refine Mp hw rfl (kE rfl (iB ?_));delta Ij;refine jd ?_;have hw1:IntKind.i64.wrap ((rule:Int)+1)=((rule+1:Nat):Int):=by rw[wrap_i64 iA iA];omega
  rw[hw1];refine⟨Ij sys t l iY (rule+1),(by delta Ij;exact wk),rfl,(rule+1,ys'),⟨⟨iA,?_⟩,by simp only;omega⟩,.refl,rfl⟩;simp only;rw[show sys.2.length-(rule+1)=k1 by omega];exact hys'
 refine mh (vh (mh (kE rfl (iB ?_))));delta Ij;refine jd ?_;refine⟨it6 sys t l iY rule,(by delta it6;exact wk),rfl,mh (kE rfl (iB ?_))⟩;delta it6;by_cases hneg:t.getD iY default<0
 ·have hc:decide (t.getD iY default<0)=true:=by simpa using hneg
  simp only[hc,aA]at h;refine uE hc ?_;exact⟨Ij sys t l iY rule,(by delta Ij;exact wk),rfl,hnext ys h _ .refl⟩
 have hc:decide (t.getD iY default<0)=false:=by simpa using hneg
 simp only[hc,aq,aE]at h;refine uE hc ?_;refine rC h fun b hb h=>?_
 cases b with
 |false=>
  simp only[aq,aE]at h;refine jd ?_;exact⟨Ij sys t l iY rule,(by delta Ij;exact wk),rfl,hnext ys h _ .refl⟩
 |true=>
 simp only[aA]at h;refine jd ?_;refine⟨it6 sys t l iY rule,(by delta it6;exact wk),rfl,mh (kE rfl (iB ?_))⟩;delta it6;refine jd ?_;refine TP h fun v hv h=>?_
 obtain⟨ys',hys',hy⟩:=aB.1 h;subst hy;refine⟨it8 sys t l iY rule v,(by delta it8;exact wk),rfl,mh (S5 (sq 40 [mv 0,mv 4,mv 6,mv 7,.build [.lit (.int .i64 0),.lit (.int .i64 0),.sl 0 (some true) []] [(0,1,(t0 41)),(1,1,(t0 42)),(2,1,(t0 43))],mv 8]) (sq 47 [nt 46]) 46 (t0 40) [(t0 44),(t0 45)] rfl (qC ?_))⟩;delta it8;refine jd ?_;refine⟨itY sys t l iY rule v,(by delta itY;exact wk),rfl,rfl,rfl,fun b=>qC ?_⟩;delta itY;refine jd ?_;refine⟨itB sys t l iY rule b,(by delta itB;exact wk),rfl,kE rfl (iB ?_)⟩;delta itB;cases b with
 |false=>refine jd ?_;exact⟨Ij sys t l iY rule,(by delta Ij;exact wk),rfl,.inr rfl,.inr rfl⟩
 |true=>refine jd ?_;exact⟨Ij sys t l iY rule,(by delta Ij;exact wk),rfl,hnext ys' hys' _ .refl⟩
def vS(sys:LD)(t:gI):Option Unit:=some ()
instance NN{sys:LD}{t:gI}:jf (vS sys t) fun _=>iR Tryz.prog 154 [.d (iU sys),.d (iH 1 iD t)] [] 0 fun xx ss=>xx=.fn 168 [] [.pv [iH 1 iD t],.pv [iH 1 iD sys.1,iH 2 iC sys.2]]/\ss=[]:=⟨@fun rr h=>by
 have h1:iR Tryz.prog 154 [.d (iU sys),.d (iH 1 iD t)] [] 0 fun xx ss=>xx=.fn 168 [] [.ptr 3 0,.ptr 2 0]/\ss=(2,.obj 37 ([iH 1 iD sys.1,iH 2 iC sys.2].map .d))::[(3,.obj 22 [.d (iH 1 iD t)])]:=by
  refine acm.oo (iB ?_);delta Zc;refine jd ?_;exact⟨[],by simp,nh⟩
 have h2:=h1.pvs rfl rfl rfl;have h3:iR Tryz.prog 154 [.d (iU sys),.d (iH 1 iD t)] [] 0 fun xx ss=>xx=.fn 168 [] [.ptr 3 0,.pv [iH 1 iD sys.1,iH 2 iC sys.2]]/\ss=(3,.obj 22 ([iH 1 iD t].map .d))::[]:=h2
 exact h3.pvs rfl rfl rfl⟩
end Go.Proofs.YtjgbnaihpicpgabGreat
namespace Go.Proofs.YtjgbnaihpicpgabGreat
open Go oq
attribute [local irreducible] uy zk yt nN mY oR kj C7 D_ BZ D9 Be vL mA oG Dk ju lM
set_option maxHeartbeats 4000000
set_option maxRecDepth 4000
def YV:iJ:=
 (.seq (.iE (sq 2 [bo 2 37 0]++sq 4 [.mv (.const (.slice none 0 0)),mb false])) (.seq (.iE (sq 6 [.alloc 6 55 [.sl 0 (some true) []]])) (.seq (.iE (sq 7 [.alloc 7 4 [.lit (.bool false)]]++s0 (.store 1 (t0 7) (.const (.bool false))))) (.seq (.seq (.iE (sq 10 [la 2 2,mv 1,cf 154 [10,11]])) (.block 0 (.HR (t0 12) [13,14] (.seq (.iE (sq 8 [.alloc 8 95 [.lit (.int .i64 0),.lit (.int .i64 0),.sl 0 (some true) []]]++s0 (sr 3 8 13))) (.iE (sq 9 [mv 14]))) (.block 1 (.seq (.iE (sq 15 [mv 9])) (.cond (t0 15) (.iE (sq 16 [ld 6,la 3 8,.nY 18 95 3 [(t0 17)],ap 19 95 3 40 16 18]++s0 (sr 1 6 19))) (.iE (s0 (.store 1 (t0 7) (.const (.bool true))))))))))) (.seq (.draw (sq 20 [ld 6,ld 7]++sq 4 [mv 20,mv 21]) [[],[],[0,0],[1,2,0,1,2]]) .ret)))))
theorem ab1:jV Tryz.prog 134 YV 22 [.tmp 4,.tmp 5]:=mf Tryz.func134 Tryz.ntmps134
def mQ(els:(List (gL×Bool))):(Nat×gS×Bool)->Option ((Nat×gS×Bool)⊕(gS×Bool))
 |(jj,out,long)=>
  if jj<els.length then
   if(els.getD jj default).2=true then
    if(out.length+1)*40<=140737488355328 then
     some (.inl (jj+1,(out++[((els.getD jj default).1.1,(els.getD jj default).1.2.1,(els.getD jj default).1.2.2)]),long))
    else none
   else
    some (.inl (jj+1,out,true))
  else
   Option.map Sum.inr (
    some (out,long))
def qX(sys:gW)(t:gI):Option (gS×Bool):=
 (vS sys t).bind fun r=>
 (AF sys t).bind fun els=>
 iL (mQ els) (0,[],false)
instance Pp{sys:gW}{t:gI}:jf (qX sys t) fun rr=>mO Tryz.prog 134 [iU sys,(iH 1 iD) t] [(iH 3 iX) rr.1,bD rr.2]:=⟨@fun rr h=>by
 delta qX at h;refine ab1.mz (iB ?_);delta YV;refine jd ?_;refine tg [] [] h fun r hr h=>?_
 obtain⟨els,hels,h⟩:=av.1 h;refine aaG (xs:=els) h (HK hels) 8 (fun pp=>[(2,.obj 37 [.d (iH 1 iD sys.1),.d (iH 2 iC sys.2)]),(6,.obj 55 [.own 3 19 (List.map iX pp.1)]),(7,.obj 4 [.d (bD pp.2)]),(19,.tok 95 3 pp.1.length)]) ?_ ?_ ?_
 ·try dsimp only
  refine(iW.wT 6 0 19 95 3 rfl rfl rfl).trans ?_;exact wk
 ·rintro jj ⟨out,long⟩ t1 hj h hb1;unfold mQ at h;try dsimp only at h
  rw[ah hj]at h;refine jd ?_;refine it h (fun hc h=>?_) fun hc h=>?_
  ·refine jZ h fun hp h=>?_
   cases h;refine⟨_,rfl,?_⟩;exact⟨_,(iW.drop 8 iA).trans ((iW.drop 18 iA).trans (wk (ju.refl _)))⟩
  cases h;refine⟨_,rfl,?_⟩;exact⟨_,(iW.drop 8 iA).trans (wk (ju.refl _))⟩
 ·rintro⟨out,long⟩ t1 h hb1;unfold mQ at h;try dsimp only at h
  rw[aj (eP _)]at h;refine jd ?_;exact lW⟩
def lO(x:gO):D:=.agg [(iH 1 iD) x.1,iD x.2.1,iD x.2.2.1,iD x.2.2.2.1,(iH 1 iD) x.2.2.2.2.1,iD x.2.2.2.2.2]
instance:sW lO 6:=⟨fun _=>rfl⟩
attribute [go_sem] lO
def Yt:iJ:=
 (.seq (.iE (sq 3 [bo 3 37 0]++sq 6 [mb false])) (.seq (.seq (.iE (sq 9 [la 2 3,cf 56 [9],nt 10,mv 11]++sg 12 false 13 [mv 1,bi .lss 13 0]++sq 15 [po 12 14,mv 15]++sg 16 false 17 [mv 1,bi .gtr 17 20]++sq 19 [po 16 18])) (.cond (t0 19) (.seq (.iE (sq 6 [mb false])) .ret) .skip)) (.seq (.seq (.iE (sq 20 [mv 2,ln 20,mi 0])) (.block 0 (.loop (.seq (.iE (sq 23 [bn .lss 22 21])) (.seq (.cond (t0 23) .skip (.exit 0)) (.seq (.block 1 (.seq (.iE (sq 24 [ix 1 20 22,ld 24]++sq 8 [mv 25])) (.seq (.iE (sq 26 [fa 0 3,la 1 26,mv 8,cf 61 [27,28],nt 29])) (.cond (t0 30) (.seq (.iE (sq 6 [mb false])) .ret) .skip)))) (.iE (sq 31 [bi .add 22 1]++sq 22 [mv 31])))))))) (.seq (.iE (sq 6 [mb true])) .ret))))
theorem abz:jV Tryz.prog 103 Yt 32 [.tmp 6]:=mf Tryz.func103 Tryz.ntmps103
def jX(sys:gW)(ts:gJ):Int->Option gV
 |v22=>
  if(decide (v22<(ts.length:Int)))=true then
   if 0<=v22/\v22<(ts.length:Int)then
    (oC sys.1 (ts.getD v22.toNat default)).bind fun r_1=>
    if r_1=true then
     some (.inl (IntKind.i64.wrap (v22+1)))
    else
     Option.map Sum.inr (
      some false)
   else none
  else
   Option.map Sum.inr (
    some true)
def nQ(sys:gW)(steps:Int)(ts:gJ):Option Bool:=
 (pZ sys).bind fun r=>
 if r=true then
  if(decide (steps<0))=true then
   some false
  else
   if(decide (20<steps))=true then
    some false
   else
    iL (jX sys ts) 0
 else
  some false
instance R9{sys:gW}{steps:Int}{ts:gJ}:jf (nQ sys steps ts) fun rr=>jK Tryz.prog 103 [iU sys,iD steps,(iH 1 (iH 1 iD)) ts] (bD rr):=⟨@fun rr h=>by
 delta nQ at h;refine abz.jv (iB ?_);delta Yt;refine jd ?_;refine rC h fun r hr h=>?_
 refine iT h fun hc h=>?_
 refine iF h fun hc h=>?_
 refine iF h fun hc h=>?_
 refine kH h [6,8,22,23,24,25,26,27,28,29,30,31] (fun pp=>[(22,.d (iD pp))]) (fun pp=>[(3,.obj 37 [.d (iH 1 iD sys.1),.d (iH 2 iC sys.2)])]) ?_;rintro v22 t1 h hb1;unfold jX at h;try dsimp only at h
 refine iB (jd ?_);exact lW⟩
def Ze:iJ:=
 (.seq (.iE (sq 2 [bo 2 143 0,mb false])) (.seq (.iE (sq 4 [fa 0 2,ld 4,ld 1,cf 106 [5,6]]++sq 3 [mv 7])) .ret))
theorem aco:jV Tryz.prog 156 Ze 8 [.tmp 3]:=mf Tryz.func156 Tryz.ntmps156
def vP(r:gO)(o0:gI):Option Bool:=
 (jG r.1 o0).bind fun r_1=>
 some r_1
instance R5{r:gO}{o0:gI}:jf (vP r o0) fun rr=>iR Tryz.prog 156 [.d (.agg [iH 1 iD r.1,iD r.2.1,iD r.2.2.1,iD r.2.2.2.1,iH 1 iD r.2.2.2.2.1,iD r.2.2.2.2.2]),.ptr 0 0] [(0,.obj 22 [.d (iH 1 iD o0)])] 1 fun xx ss=>xx=.d (bD rr)/\ss=[(0,.obj 22 [.d (iH 1 iD o0)])]:=⟨@fun rr h=>by
 delta vP at h;refine aco.oo (iB ?_);delta Ze;refine jd ?_;refine rC h fun r_1 hr_1 h=>?_
 cases h;exact⟨[2],by simp,nh,nh⟩⟩
def Zd:iJ:=
 (.seq (.iE (sq 4 [mi 0])) (.seq (.seq (.iE (sq 6 [mv 0,ln 6,mi 0])) (.block 0 (.loop (.seq (.iE (sq 9 [bn .lss 8 7])) (.seq (.cond (t0 9) .skip (.exit 0)) (.seq (.block 1 (.seq (.iE (sq 10 [mv 8]++sq 5 [mv 10])) (.seq (.iE (sq 11 [mv 1,mv 0,mv 5,ix 6 12 13,la 6 14,.pJ (t0 11) [(t0 15)]])) (.cond (t0 16) (.seq (.iE (sq 17 [mv 5]++sq 4 [mv 17])) .ret) .skip)))) (.iE (sq 18 [bi .add 8 1]++sq 8 [mv 18])))))))) (.seq (.iE (sq 4 [mi (-1)])) .ret)))
theorem acn:jV Tryz.prog 155 Zd 19 [.tmp 4]:=mf Tryz.func155 Tryz.ntmps155
def jO(s:ig)(o0:gI):Int->Option (Int⊕Int)
 |v8=>
  if(decide (v8<(s.length:Int)))=true then
   if 0<=v8/\v8<(s.length:Int)then
    (vP ((s.getD v8.toNat default).1,(s.getD v8.toNat default).2.1,(s.getD v8.toNat default).2.2.1,(s.getD v8.toNat default).2.2.2.1,(s.getD v8.toNat default).2.2.2.2.1,(s.getD v8.toNat default).2.2.2.2.2) o0).bind fun r=>
    if r=true then
     Option.map Sum.inr (
      some v8)
    else
     some (.inl (IntKind.i64.wrap (v8+1)))
   else none
  else
   Option.map Sum.inr (
    some (-1))
def jC(s:ig)(o0:gI):Option Int:=
 iL (jO s o0) 0
instance Ae{s:ig}{o0:gI}:jf (jC s o0) fun rr=>iR Tryz.prog 155 [.d (iH 6 lO s),.fn 156 [] [.ptr 0 0]] [(0,.obj 22 [.d (iH 1 iD o0)])] 1 fun xx ss=>xx=.d (iD rr)/\ss=[(0,.obj 22 [.d (iH 1 iD o0)])]:=⟨@fun rr h=>by
 delta jC at h;refine acn.oo (iB ?_);delta Zd;refine jd ?_;refine kH h [4,5,8,9,10,11,12,13,14,15,16,17,18] (fun pp=>[(8,.d (iD pp))]) (fun pp=>[(0,.obj 22 [.d (iH 1 iD o0)])]) ?_;rintro v8 t1 h hb1;unfold jO at h;try dsimp only at h
 refine iB (jd ?_);refine iT h fun hc h=>?_
 refine jZ h fun hp h=>?_
 refine CQ (by kernel_rfl) ?_;refine tg [(0,0)] [] h fun r hr h=>?_
 exact lW⟩
def YW:iJ:=
 (.seq (.iE (sq 3 [bo 3 22 1,mi 0])) (.seq (.iE (sq 5 [mv 0,.EI 156 [] [(t0 3)],cf 155 [5,6]]++sq 4 [mv 7])) .ret))
theorem ab2:jV Tryz.prog 135 YW 8 [.tmp 4]:=mf Tryz.func135 Tryz.ntmps135
def ua(all:ig)(t:gI):Option Int:=
 (jC all t).bind fun r=>
 some r
instance VG{all:ig}{t:gI}:jf (ua all t) fun rr=>jK Tryz.prog 135 [(iH 6 lO) all,(iH 1 iD) t] (iD rr):=⟨@fun rr h=>by
 delta ua at h;refine ab2.jv (iB ?_);delta YW;refine jd ?_;refine tg [(0,3)] [] h fun r hr h=>?_
 exact lW⟩
def Yu:iJ:=
 (.seq (.iE (sq 3 [bo 3 37 0]++sq 6 [.mv (.const (.slice none 0 0)),mb false])) (.seq (.iE (sq 14 [mv 1,cf 64 [14],.build [.sl 0 (some true) [],.lit (.int .i64 0),.lit (.int .i64 0),.lit (.int .i64 0),.sl 0 (some true) [],.lit (.int .i64 0)] [(0,1,(t0 15)),(1,1,(i0 (-1)))],.nY 17 143 6 [(t0 16)]]++sq 8 [mv 17])) (.seq (.seq (.iE (sq 9 [mi 0])) (.block 0 (.loop (.seq (.seq (.iE (sq 18 [mv 9,mv 8,ln 19,bn .lss 18 20])) (.cond (t0 21) .skip (.exit 0))) (.seq (.block 1 (.seq (.seq (.iE (sq 24 [mv 8,mv 9,ix 6 24 25,fa 5 26,ld 27,mv 2,bn .eql 28 29])) (.cond (t0 30) (.exit 1) .skip)) (.seq (.draw (sq 32 [la 2 3,mv 8,mv 9,ix 6 33 34,fa 0 35,ld 36,cf 134 [32,37]]++sq 31 [mv 38]++sq 39 [ex 31 0,ex 31 1]++sq 10 [mv 39,mv 40]) [[],[],[],[1,2],[3],[4],[0,5],[6],[7],[7],[8,6,0,1,2,3,4,5,6,7,8],[9,10,0,1,2,3,4,5,6,7,8,9,10]]) (.seq (.iE (sq 41 [mv 10,ln 41,mi 0])) (.block 2 (.loop (.seq (.iE (sq 44 [bn .lss 43 42])) (.seq (.cond (t0 44) .skip (.exit 2)) (.seq (.block 3 (.seq (.iE (sq 45 [ix 3 41 43,la 3 45]++sq 13 [.alloc 13 95 [.lit (.int .i64 0),.lit (.int .i64 0),.sl 0 (some true) []]]++s0 (sr 3 13 46))) (.seq (.seq (.iE (sq 47 [mv 8,fa 2 13,ld 48,cf 135 [47,49],bi .geq 50 0])) (.cond (t0 51) (.exit 3) .skip)) (.seq (.seq (.iE (sq 52 [mv 8,ln 52,bi .eql 53 60])) (.cond (t0 54) (.seq (.iE (sq 55 [mv 8]++sq 6 [mv 55,mb false])) .ret) .skip)) (.draw (sq 56 [mv 8,fa 2 13,ld 57,mv 9,la 3 13,mv 8,mv 9,ix 6 61 62,fa 5 63,ld 64,bi .add 65 1,.build [.sl 0 (some true) [],.lit (.int .i64 0),.lit (.int .i64 0),.lit (.int .i64 0),.sl 0 (some true) [],.lit (.int .i64 0)] [(0,1,(t0 58)),(1,1,(t0 59)),(2,3,(t0 60)),(5,1,(t0 66))],.nY 68 143 6 [(t0 67)],ap 69 143 6 80 56 68]++sq 8 [mv 69]) [[],[],[1],[],[],[],[],[5,6],[7],[8],[9],[2,3,4,10],[11],[0,12],[13,13,0,1,2,3,4,5,6,7,8,9,10,11,12,13]]))))) (.iE (sq 70 [bi .add 43 1]++sq 43 [mv 70]))))))))))) (.iE (sq 22 [mv 9,bi .add 22 1]++sq 9 [mv 23]))))))) (.seq (.iE (sq 71 [mv 8]++sq 6 [mv 71,mb true])) .ret))))
theorem abA:jV Tryz.prog 104 Yu 72 [.tmp 6,.tmp 7]:=mf Tryz.func104 Tryz.ntmps104
def lB(k:Int)(r_1:(gS×Bool)):(ig×Int)->Option ((ig×Int)⊕((ig×Int)⊕(ig×Bool)))
 |(all_1,v43)=>
  if(decide (v43<(r_1.1.length:Int)))=true then
   if 0<=v43/\v43<(r_1.1.length:Int)then
    (ua all_1 ((r_1.1.getD v43.toNat default).2.2)).bind fun r_2=>
    if(decide (0<=r_2))=true then
     some (.inl (all_1,(IntKind.i64.wrap (v43+1))))
    else
     if((all_1.length:Int)==60)=true then
      Option.map Sum.inr (
       Option.map Sum.inr (
        some (all_1,false)))
     else
      if 0<=k/\k<(all_1.length:Int)then
       if(all_1.length+1)*80<=140737488355328 then
        some (.inl ((all_1++[((r_1.1.getD v43.toNat default).2.2,k,(r_1.1.getD v43.toNat default).1,(r_1.1.getD v43.toNat default).2.1,(r_1.1.getD v43.toNat default).2.2,(IntKind.i64.wrap ((all_1.getD k.toNat default).2.2.2.2.2+1)))]),(IntKind.i64.wrap (v43+1))))
       else none
      else none
   else none
  else
   Option.map Sum.inr (
    some (.inl (all_1,(IntKind.i64.wrap (k+1)))))
def kJ(sys:gW)(steps:Int):(ig×Int)->Option ((ig×Int)⊕(ig×Bool))
 |(all,k)=>
  if(decide (k<(all.length:Int)))=true then
   if 0<=k/\k<(all.length:Int)then
    if((all.getD k.toNat default).2.2.2.2.2==steps)=true then
     some (.inl (all,(IntKind.i64.wrap (k+1))))
    else
     if 0<=k/\k<(all.length:Int)then
      (qX sys ((all.getD k.toNat default).1)).bind fun r_1=>
      iL (lB k r_1) (all,0)
     else none
   else none
  else
   Option.map Sum.inr (
    some (all,true))
def qe(sys:gW)(t:gI)(steps:Int):Option (ig×Bool):=
 (jr t).bind fun r=>
 iL (kJ sys steps) ([(r,(-1),0,0,[],0)],0)
instance VK{sys:gW}{t:gI}{steps:Int}:jf (qe sys t steps) fun rr=>mO Tryz.prog 104 [iU sys,(iH 1 iD) t,iD steps] [(iH 6 lO) rr.1,bD rr.2]:=⟨@fun rr h=>by
 delta qe at h;refine abA.mz (iB ?_);delta Yu;refine jd ?_;refine rC h fun r hr h=>?_
 refine kH h [6,7,8,9,10,11,13,18,19,20,21,22,23,24,25,26,27,28,29,30,31,32,33,34,35,36,37,38,39,40,41,42,43,44,45,46,47,48,49,50,51,52,53,54,55,56,57,58,59,60,61,62,63,64,65,66,67,68,69,70] (fun pp=>[(8,.own 6 17 (List.map lO pp.1)),(9,.d (iD pp.2))]) (fun pp=>[(3,.obj 37 [.d (iH 1 iD sys.1),.d (iH 2 iC sys.2)]),(17,.tok 143 6 pp.1.length)]) ?_;rintro⟨all,k⟩ t1 h hb1;unfold kJ at h;try dsimp only at h
 refine iB (jd ?_);refine iT h fun hc h=>?_
 refine jZ h fun hp h=>?_
 refine iF h fun hc h=>?_
 refine jZ h fun hp h=>?_
 refine dCN h fun r_1 hr_1 h=>?_
 refine jM (by kernel_rfl) (jd ?_);refine kH h [6,7,8,13,43,44,45,46,47,48,49,50,51,52,53,54,55,56,57,58,59,60,61,62,63,64,65,66,67,68,69,70] (fun pp=>[(8,.own 6 17 (List.map lO pp.1)),(43,.d (iD pp.2))]) (fun pp=>[(3,.obj 37 [.d (iH 1 iD sys.1),.d (iH 2 iC sys.2)]),(17,.tok 143 6 pp.1.length)]) ?_;rintro⟨all_1,v43⟩ t2 h hb2;unfold lB at h;try dsimp only at h
 refine iB (jd ?_);refine iT h fun hc h=>?_
 refine jZ h fun hp h=>?_
 refine rC h fun r_2 hr_2 h=>?_
 refine it h (fun hc h=>?_) fun hc h=>?_
 ·cases h;refine⟨_,rfl,?_⟩;refine(iW.drop 13 iA).trans ?_;exact wk
 refine iF h fun hc h=>?_
 refine jZ h fun hp h=>?_
 refine jZ h fun hp h=>?_
 refine jM (by kernel_rfl) (jd ?_);cases h;refine⟨_,rfl,?_⟩;refine(iW.drop 13 iA).trans ?_;refine(iW.drop 68 iA).trans ?_;exact wk⟩
def YX:iJ:=
 (.seq (.iE (sq 3 [bo 3 37 0]++sq 6 [mi 0])) (.seq (.seq (.iE (sq 8 [fa 1 3,ld 8,ln 9,mi 0])) (.block 0 (.loop (.seq (.iE (sq 12 [bn .lss 11 10])) (.seq (.cond (t0 12) .skip (.exit 0)) (.seq (.block 1 (.seq (.iE (sq 13 [mv 11]++sq 7 [mv 13])) (.seq (.iE (sq 14 [la 2 3,mv 1,mv 2,mv 7,cf 157 [14,15,16,17]])) (.cond (t0 18) (.seq (.iE (sq 19 [mv 7]++sq 6 [mv 19])) .ret) .skip)))) (.iE (sq 20 [bi .add 11 1]++sq 11 [mv 20])))))))) (.seq (.iE (sq 6 [mi (-1)])) .ret)))
theorem ab3:jV Tryz.prog 136 YX 21 [.tmp 6]:=mf Tryz.func136 Tryz.ntmps136
def ud(sys:gW)(t:gI)(iY:Int):Int->Option (Int⊕Int)
 |v11=>
  if(decide (v11<(sys.2.length:Int)))=true then
   (rW sys t iY v11).bind fun r=>
   if r=true then
    Option.map Sum.inr (
     some v11)
   else
    some (.inl (IntKind.i64.wrap (v11+1)))
  else
   Option.map Sum.inr (
    some (-1))
def uO(sys:gW)(t:gI)(iY:Int):Option Int:=
 iL (ud sys t iY) 0
instance US{sys:gW}{t:gI}{iY:Int}:jf (uO sys t iY) fun rr=>jK Tryz.prog 136 [iU sys,(iH 1 iD) t,iD iY] (iD rr):=⟨@fun rr h=>by
 delta uO at h;refine ab3.jv (iB ?_);delta YX;refine jd ?_;refine kH h [6,7,11,12,13,14,15,16,17,18,19,20] (fun pp=>[(11,.d (iD pp))]) (fun pp=>[(3,.obj 37 [.d (iH 1 iD sys.1),.d (iH 2 iC sys.2)])]) ?_;rintro v11 t1 h hb1;unfold ud at h;try dsimp only at h
 refine iB (jd ?_);exact lW⟩
def Yv:iJ:=
 (.seq (.iE (sq 2 [bo 2 37 0]++sq 4 [mb false])) (.seq (.seq (.iE (sq 7 [mv 1,ln 7,mi 0])) (.block 0 (.loop (.seq (.iE (sq 10 [bn .lss 9 8])) (.seq (.cond (t0 10) .skip (.exit 0)) (.seq (.block 1 (.seq (.iE (sq 11 [mv 9,ix 1 7 9,ld 12]++sq 5 [mv 11,mv 13])) (.seq (.iE (sq 14 [mv 6,bi .geq 14 0,mv 15]++sg 16 true 17 [la 2 2,mv 1,mv 5,cf 136 [17,18,19],bi .geq 20 0]++sq 22 [pa 16 21])) (.cond (t0 22) (.seq (.iE (sq 4 [mb false])) .ret) .skip)))) (.iE (sq 23 [bi .add 9 1]++sq 9 [mv 23])))))))) (.seq (.iE (sq 4 [mb true])) .ret)))
theorem abB:jV Tryz.prog 105 Yv 24 [.tmp 4]:=mf Tryz.func105 Tryz.ntmps105
def xj(sys:gW)(t:gI):Int->Option gV
 |v9=>
  if(decide (v9<(t.length:Int)))=true then
   if 0<=v9/\v9<(t.length:Int)then
    if(decide (0<=(t.getD v9.toNat default)))=true then
     (uO sys t v9).bind fun r=>
     if(decide (0<=r))=true then
      Option.map Sum.inr (
       some false)
     else
      some (.inl (IntKind.i64.wrap (v9+1)))
    else
     some (.inl (IntKind.i64.wrap (v9+1)))
   else none
  else
   Option.map Sum.inr (
    some true)
def uM(sys:gW)(t:gI):Option Bool:=
 iL (xj sys t) 0
instance UP{sys:gW}{t:gI}:jf (uM sys t) fun rr=>jK Tryz.prog 105 [iU sys,(iH 1 iD) t] (bD rr):=⟨@fun rr h=>by
 delta uM at h;refine abB.jv (iB ?_);delta Yv;refine jd ?_;refine kH h [4,5,6,9,10,11,12,13,14,15,16,17,18,19,20,21,22,23] (fun pp=>[(9,.d (iD pp))]) (fun pp=>[(2,.obj 37 [.d (iH 1 iD sys.1),.d (iH 2 iC sys.2)])]) ?_;rintro v9 t1 h hb1;unfold xj at h;try dsimp only at h
 refine iB (jd ?_);exact lW⟩
def aeq:iJ:=
 (.seq (.iE (sq 3 [bo 3 37 0]++sq 6 [.mv (.const (.slice none 0 0))])) (.seq (.seq (.iE (sq 12 [la 2 3,mv 2,mv 1,.nY 15 22 1 [(t0 14)],cf 103 [12,13,15],nt 16])) (.cond (t0 17) (.seq (.iE (sq 6 [.mv (.const (.slice none 0 0))])) .ret) .skip)) (.seq (.iE (sq 7 [.mv (.const (.slice none 0 0))])) (.seq (.iE (sq 19 [la 2 3,mv 1,mv 2,cf 104 [19,20,21]]++sq 18 [mv 22]++sq 23 [ex 18 0,ex 18 1]++sq 8 [mv 23,mv 24])) (.seq (.seq (.iE (sq 25 [mv 8,ln 25,mi 0])) (.block 0 (.loop (.seq (.iE (sq 28 [bn .lss 27 26])) (.seq (.cond (t0 28) .skip (.exit 0)) (.seq (.block 1 (.seq (.iE (sq 29 [ix 6 25 27,la 6 29]++sq 11 [.alloc 11 143 [.sl 0 (some true) [],.lit (.int .i64 0),.lit (.int .i64 0),.lit (.int .i64 0),.sl 0 (some true) [],.lit (.int .i64 0)]]++s0 (sr 6 11 30))) (.seq (.iE (sq 31 [la 2 3,fa 0 11,ld 32,cf 105 [31,33]])) (.cond (t0 34) (.iE (sq 35 [mv 7,fa 0 11,ld 36,.nY 38 22 1 [(t0 37)],ap 39 22 1 24 35 38]++sq 7 [mv 39])) .skip)))) (.iE (sq 40 [bi .add 27 1]++sq 27 [mv 40])))))))) (.seq (.iE (sq 41 [mv 7]++sq 6 [mv 41])) .ret))))))
theorem afT:jV Tryz.prog 59 aeq 42 [.tmp 6]:=mf Tryz.func59 Tryz.ntmps59
def qK(sys:gW)(r_1:(ig×Bool)):(gJ×Int)->Option ((gJ×Int)⊕gJ)
 |(out,v27)=>
  if(decide (v27<(r_1.1.length:Int)))=true then
   if 0<=v27/\v27<(r_1.1.length:Int)then
    (uM sys ((r_1.1.getD v27.toNat default).1)).bind fun r_2=>
    if r_2=true then
     if(out.length+1)*24<=140737488355328 then
      some (.inl ((out++[(r_1.1.getD v27.toNat default).1]),(IntKind.i64.wrap (v27+1))))
     else none
    else
     some (.inl (out,(IntKind.i64.wrap (v27+1))))
   else none
  else
   Option.map Sum.inr (
    some out)
def oH(sys:gW)(t:gI)(steps:Int):Option gJ:=
 (nQ sys steps [t]).bind fun r=>
 if r=true then
  (qe sys t steps).bind fun r_1=>
  iL (qK sys r_1) ([],0)
 else
  some []
instance Ph{sys:gW}{t:gI}{steps:Int}:jf (oH sys t steps) fun rr=>jK Tryz.prog 59 [iU sys,(iH 1 iD) t,iD steps] ((iH 1 (iH 1 iD)) rr):=⟨@fun rr h=>by
 delta oH at h;refine afT.jv (iB ?_);delta aeq;refine jd ?_;refine rC h fun r hr h=>?_
 refine iT h fun hc h=>?_
 refine TP h fun r_1 hr_1 h=>?_
 refine nL h [7,11,27,28,29,30,31,32,33,34,35,36,37,38,39,40] (fun pp=>[(7,.own 1 39 (List.map (iH 1 iD) pp.1)),(27,.d (iD pp.2))]) (fun pp=>[(3,.obj 37 [.d (iH 1 iD sys.1),.d (iH 2 iC sys.2)]),(15,.tok 22 1 1),(39,.tok 22 1 pp.1.length)]) ?_ ?_
 ·try dsimp only
  refine(iW.Ll 7 39 22 1 rfl rfl).trans ?_;exact wk
 rintro⟨out,v27⟩ t1 h hb1;unfold qK at h;try dsimp only at h
 refine iB (jd ?_);refine iT h fun hc h=>?_
 refine jZ h fun hp h=>?_
 refine rC h fun r_2 hr_2 h=>?_
 refine it h (fun hc h=>?_) fun hc h=>?_
 ·refine jZ h fun hp h=>?_
  cases h;refine⟨_,rfl,?_⟩;refine(iW.drop 11 iA).trans ?_;refine(iW.drop 38 iA).trans ?_;exact wk
 cases h;refine⟨_,rfl,?_⟩;refine(iW.drop 11 iA).trans ?_;exact wk⟩
def vM(x:gZ):D:=.agg [(iH 1 (iH 1 iD)) x.1,(iH 1 iD) x.2.1,(iH 3 iX) x.2.2.1,(iH 1 iD) x.2.2.2.1,bD x.2.2.2.2]
instance:sW vM 5:=⟨fun _=>rfl⟩
attribute [go_sem] vM
def aeP:iJ:=
 (.seq (.iE (sq 2 [bo 2 37 0]++sq 4 [mb false])) (.seq (.iE (sq 5 [la 2 2,cf 16 [5],mv 6]++sg 7 true 8 [fa 0 2,la 1 8,mv 1,cf 42 [9,10]]++sq 12 [pa 7 11]++sq 4 [mv 12])) .ret))
theorem agi:jV Tryz.prog 87 aeP 13 [.tmp 4]:=mf Tryz.func87 Tryz.ntmps87
def mM(sys:gW)(t:gI):Option Bool:=
 (om sys).bind fun r=>
 if r=true then
  (nH sys.1 t).bind fun r_1=>
  some r_1
 else
  some false
instance Sy{sys:gW}{t:gI}:jf (mM sys t) fun rr=>jK Tryz.prog 87 [iU sys,(iH 1 iD) t] (bD rr):=⟨@fun rr h=>by
 delta mM at h;refine agi.jv (iB ?_);delta aeP;refine jd ?_;exact lW⟩
def aeH:iJ:=
 (.seq (.iE (sq 3 [bo 3 37 0]++sq 6 [mb false])) (.seq (.iE (sq 7 [la 2 3,mv 1,cf 87 [7,8],mv 9]++sg 10 true 11 [mv 2,.mB 44 [(t0 11),(i0 0),(i0 20)]]++sq 13 [pa 10 12]++sq 6 [mv 13])) .ret))
theorem af_:jV Tryz.prog 79 aeH 14 [.tmp 6]:=mf Tryz.func79 Tryz.ntmps79
def pI(sys:gW)(t:gI)(steps:Int):Option Bool:=
 (mM sys t).bind fun r=>
 if r=true then
  (kF steps 0 20).bind fun r_1=>
  some r_1
 else
  some false
instance SA{sys:gW}{t:gI}{steps:Int}:jf (pI sys t steps) fun rr=>jK Tryz.prog 79 [iU sys,(iH 1 iD) t,iD steps] (bD rr):=⟨@fun rr h=>by
 delta pI at h;refine af_.jv (iB ?_);delta aeH;refine jd ?_;exact lW⟩
def aeR:iJ:=
 (.seq (.iE (sq 4 [mi 0])) (.seq (.seq (.iE (sq 5 [mi 0])) (.block 0 (.loop (.seq (.seq (.iE (sq 6 [mv 5,mv 0,ln 7,bn .lss 6 8])) (.cond (t0 9) .skip (.exit 0))) (.seq (.block 1 (.seq (.iE (sq 12 [mv 0,mv 5,ix 1 12 13,ld 14,mv 1,cf 78 [15,16]])) (.cond (t0 17) (.seq (.iE (sq 18 [mv 5]++sq 4 [mv 18])) .ret) .skip))) (.iE (sq 10 [mv 5,bi .add 10 1]++sq 5 [mv 11]))))))) (.seq (.iE (sq 4 [mi (-1)])) .ret)))
theorem agk:jV Tryz.prog 89 aeR 19 [.tmp 4]:=mf Tryz.func89 Tryz.ntmps89
def pQ(list:gJ)(t:gI):Int->Option (Int⊕Int)
 |i=>
  if(decide (i<(list.length:Int)))=true then
   if 0<=i/\i<(list.length:Int)then
    (lT (list.getD i.toNat default) t).bind fun r=>
    if r=true then
     Option.map Sum.inr (
      some i)
    else
     some (.inl (IntKind.i64.wrap (i+1)))
   else none
  else
   Option.map Sum.inr (
    some (-1))
def nB(list:gJ)(t:gI):Option Int:=
 iL (pQ list t) 0
instance L4{list:gJ}{t:gI}:jf (nB list t) fun rr=>jK Tryz.prog 89 [(iH 1 (iH 1 iD)) list,(iH 1 iD) t] (iD rr):=⟨@fun rr h=>by
 delta nB at h;refine agk.jv (iB ?_);delta aeR;refine jd ?_;refine kH h [4,5,6,7,8,9,10,11,12,13,14,15,16,17,18] (fun pp=>[(5,.d (iD pp))]) (fun pp=>[]) ?_;rintro i t1 h hb1;unfold pQ at h;try dsimp only at h
 refine iB (jd ?_);exact lW⟩
def aeI:iJ:=
 (.seq (.iE (sq 3 [bo 3 37 0]++sq 6 [.alloc 6 115 [.sl 0 (some true) [],.sl 0 (some true) [],.sl 0 (some true) [],.sl 0 (some true) [],.lit (.bool false)]])) (.seq (.iE (sq 11 [mv 1,cf 53 [11],.nY 13 22 1 [(t0 12)],.nY 14 2 1 [(i0 (-1))],.build [.lit (.int .i64 0),.lit (.int .i64 0),.sl 0 (some true) []] [],.nY 16 95 3 [(t0 15)],.nY 17 2 1 [(i0 0)],.build [.sl 0 (some true) [],.sl 0 (some true) [],.sl 0 (some true) [],.sl 0 (some true) [],.lit (.bool false)] [(0,1,(t0 13)),(1,1,(t0 14)),(2,1,(t0 16)),(3,1,(t0 17)),(4,1,(.const (.bool true)))]]++sq 7 [.alloc 7 115 [.sl 0 (some true) [],.sl 0 (some true) [],.sl 0 (some true) [],.sl 0 (some true) [],.lit (.bool false)]]++s0 (sr 5 7 18))) (.seq (.seq (.iE (sq 8 [mi 0])) (.block 0 (.loop (.seq (.seq (.iE (sq 19 [mv 8,fa 0 7,ld 20,ln 21,bn .lss 19 22])) (.cond (t0 23) .skip (.exit 0))) (.seq (.block 1 (.seq (.seq (.iE (sq 26 [fa 3 7,ld 26,mv 8,ix 1 27 28,ld 29,mv 2,bn .eql 30 31])) (.cond (t0 32) (.exit 1) .skip)) (.seq (.draw (sq 33 [la 2 3,fa 0 7,ld 34,mv 8,ix 1 35 36,ld 37,cf 119 [33,38]]++sq 9 [mv 39]) [[],[],[1],[],[2,3],[4],[0,5],[6,6,0,1,2,3,4,5,6]]) (.seq (.iE (sq 10 [mi 0])) (.block 2 (.loop (.seq (.seq (.iE (sq 40 [mv 10,mv 9,ln 41,bn .lss 40 42])) (.cond (t0 43) .skip (.exit 2))) (.seq (.block 3 (.seq (.seq (.draw (sq 46 [fa 0 7,ld 46,mv 9,mv 10,ix 3 48 49,fa 2 50,ld 51,cf 89 [47,52],bi .geq 53 0]) [[],[0],[],[],[2,3],[4],[5],[1,6],[7]]) (.cond (t0 54) (.exit 3) .skip)) (.seq (.seq (.iE (sq 55 [fa 0 7,ld 55,ln 56,bi .eql 57 60])) (.cond (t0 58) (.seq (.iE (sq 59 [fa 4 7]++s0 (.store 1 (t0 59) (.const (.bool false))))) (.seq (.iE (sq 60 [la 5 7]++s0 (sr 5 6 60))) .ret)) .skip)) (.seq (.draw (sq 61 [fa 0 7,ld 61,mv 9,mv 10,ix 3 63 64,fa 2 65,ld 66,.nY 68 22 1 [(t0 67)],ap 69 22 1 24 62 68,fa 0 7]++s0 (sr 1 70 69)) [[],[0],[],[],[2,3],[4],[5],[6],[1,7],[0,1,2,3,4,5,6,7,8],[9,8,8,0,1,2,3,4,5,6,7,8]]) (.seq (.iE (sq 71 [fa 1 7,ld 71,mv 8,.nY 74 2 1 [(t0 73)],ap 75 2 1 8 72 74,fa 1 7]++s0 (sr 1 76 75))) (.seq (.draw (sq 77 [fa 2 7,ld 77,mv 9,mv 10,ix 3 79 80,la 3 81,.nY 83 95 3 [(t0 82)],ap 84 95 3 40 78 83,fa 2 7]++s0 (sr 1 85 84)) [[],[0],[],[],[2,3],[4],[5],[1,6],[0,1,2,3,4,5,6,7],[8,7,7,0,1,2,3,4,5,6,7]]) (.draw (sq 86 [fa 3 7,ld 86,fa 3 7,ld 88,mv 8,ix 1 89 90,ld 91,bi .add 92 1,.nY 94 2 1 [(t0 93)],ap 95 2 1 8 87 94,fa 3 7]++s0 (sr 1 96 95)) [[],[0],[],[2],[],[3,4],[5],[6],[7],[1,8],[0,1,2,3,4,5,6,7,8,9],[10,9,9,0,1,2,3,4,5,6,7,8,9]]))))))) (.iE (sq 44 [mv 10,bi .add 44 1]++sq 10 [mv 45])))))))))) (.iE (sq 24 [mv 8,bi .add 24 1]++sq 8 [mv 25]))))))) (.seq (.iE (sq 97 [la 5 7]++s0 (sr 5 6 97))) .ret))))
theorem aga:jV Tryz.prog 80 aeI 98 [.cell 6 5 true]:=mf Tryz.func80 Tryz.ntmps80
def kW(i:Int)(r_1:gS):ij->Option (ij⊕(ij⊕gZ))
 |(k,f_4,f_5,f_6,f_7)=>
  if(decide (k<(r_1.length:Int)))=true then
   if 0<=k/\k<(r_1.length:Int)then
    (nB f_4 ((r_1.getD k.toNat default).2.2)).bind fun r_2=>
    if(decide (0<=r_2))=true then
     some (.inl ((IntKind.i64.wrap (k+1)),f_4,f_5,f_6,f_7))
    else
     if((f_4.length:Int)==60)=true then
      Option.map Sum.inr (
       Option.map Sum.inr (
        some (f_4,f_5,f_6,f_7,false)))
     else
      if 0<=k/\k<(r_1.length:Int)then
       if(f_4.length+1)*24<=140737488355328 then
        if(f_5.length+1)*8<=140737488355328 then
         if 0<=k/\k<(r_1.length:Int)then
          if(f_6.length+1)*40<=140737488355328 then
           if 0<=i/\i<(f_7.length:Int)then
            if(f_7.length+1)*8<=140737488355328 then
             some (.inl ((IntKind.i64.wrap (k+1)),(f_4++[(r_1.getD k.toNat default).2.2]),(f_5++[i]),(f_6++[((r_1.getD k.toNat default).1,(r_1.getD k.toNat default).2.1,(r_1.getD k.toNat default).2.2)]),(f_7++[(IntKind.i64.wrap ((f_7.getD i.toNat default)+1))])))
            else none
           else none
          else none
         else none
        else none
       else none
      else none
   else none
  else
   Option.map Sum.inr (
    some (.inl ((IntKind.i64.wrap (i+1)),f_4,f_5,f_6,f_7)))
def ke(sys:gW)(steps:Int):ij->Option (ij⊕gZ)
 |(i,f,f_1,f_2,f_3)=>
  if(decide (i<(f.length:Int)))=true then
   if 0<=i/\i<(f_3.length:Int)then
    if((f_3.getD i.toNat default)==steps)=true then
     some (.inl ((IntKind.i64.wrap (i+1)),f,f_1,f_2,f_3))
    else
     if 0<=i/\i<(f.length:Int)then
      (tL sys (f.getD i.toNat default)).bind fun r_1=>
      iL (kW i r_1) (0,f,f_1,f_2,f_3)
     else none
   else none
  else
   Option.map Sum.inr (
    some (f,f_1,f_2,f_3,true))
def oF(sys:gW)(t:gI)(steps:Int):Option gZ:=
 (jQ t).bind fun r=>
 iL (ke sys steps) (0,[r],[(-1)],[(0,0,[])],[0])
instance Vc{sys:gW}{t:gI}{steps:Int}:jf (oF sys t steps) fun rr=>jK Tryz.prog 80 [iU sys,(iH 1 iD) t,iD steps] (vM rr):=⟨@fun rr h=>by
 delta oF at h;refine aga.jv (iB ?_);delta aeI;refine jd ?_;refine tg [] [(3,12)] h fun r hr h=>?_
 refine kH h [8,9,10,19,20,21,22,23,24,25,26,27,28,29,30,31,32,33,34,35,36,37,38,39,40,41,42,43,44,45,46,47,48,49,50,51,52,53,54,55,56,57,58,59,60,61,62,63,64,65,66,67,68,69,70,71,72,73,74,75,76,77,78,79,80,81,82,83,84,85,86,87,88,89,90,91,92,93,94,95,96] (fun pp=>[(8,.d (iD pp.1))]) (fun pp=>[(3,.obj 37 [.d (iH 1 iD sys.1),.d (iH 2 iC sys.2)]),(6,.obj 115 [.d (.sl 0 (some true) []),.d (.sl 0 (some true) []),.d (.sl 0 (some true) []),.d (.sl 0 (some true) []),.d (bD false)]),(7,.obj 115 [.own 1 13 (List.map (iH 1 iD) pp.2.1),.own 1 14 (List.map iD pp.2.2.1),.own 3 16 (List.map iX pp.2.2.2.1),.own 1 17 (List.map iD pp.2.2.2.2),.d (bD true)]),(12,.tok 2 1 r.length),(13,.tok 22 1 pp.2.1.length),(14,.tok 2 1 pp.2.2.1.length),(16,.tok 95 3 pp.2.2.2.1.length),(17,.tok 2 1 pp.2.2.2.2.length)]) ?_;rintro⟨i,f,f_1,f_2,f_3⟩ t1 h hb1;unfold ke at h;try dsimp only at h
 refine iB (jd ?_);refine iT h fun hc h=>?_
 refine jZ h fun hp h=>?_
 refine iF h fun hc h=>?_
 refine jZ h fun hp h=>?_
 refine dC h fun r_1 hr_1 h=>?_
 refine jM (by kernel_rfl) (jd ?_);refine kH h [10,40,41,42,43,44,45,46,47,48,49,50,51,52,53,54,55,56,57,58,59,60,61,62,63,64,65,66,67,68,69,70,71,72,73,74,75,76,77,78,79,80,81,82,83,84,85,86,87,88,89,90,91,92,93,94,95,96] (fun pp=>[(10,.d (iD pp.1))]) (fun pp=>[(3,.obj 37 [.d (iH 1 iD sys.1),.d (iH 2 iC sys.2)]),(6,.obj 115 [.d (.sl 0 (some true) []),.d (.sl 0 (some true) []),.d (.sl 0 (some true) []),.d (.sl 0 (some true) []),.d (bD false)]),(7,.obj 115 [.own 1 13 (List.map (iH 1 iD) pp.2.1),.own 1 14 (List.map iD pp.2.2.1),.own 3 16 (List.map iX pp.2.2.2.1),.own 1 17 (List.map iD pp.2.2.2.2),.d (bD true)]),(12,.tok 2 1 r.length),(13,.tok 22 1 pp.2.1.length),(14,.tok 2 1 pp.2.2.1.length),(16,.tok 95 3 pp.2.2.2.1.length),(17,.tok 2 1 pp.2.2.2.2.length)]) ?_;rintro⟨k,f_4,f_5,f_6,f_7⟩ t2 h hb2;unfold kW at h;try dsimp only at h
 refine iB (jd ?_);refine iT h fun hc h=>?_
 refine jZ h fun hp h=>?_
 refine dC h fun r_2 hr_2 h=>?_
 refine jM (by kernel_rfl) (jd ?_);refine iF h fun hc h=>?_
 refine iF h fun hc h=>?_
 refine jZ h fun hp h=>?_
 refine jZ h fun hp h=>?_
 refine jM (by kernel_rfl) (jd ?_);refine jZ h fun hp h=>?_
 refine jZ h fun hp h=>?_
 refine jZ h fun hp h=>?_
 refine jM (by kernel_rfl) (jd ?_);refine jZ h fun hp h=>?_
 refine jZ h fun hp h=>?_
 refine jM (by kernel_rfl) (jd ?_);cases h;refine⟨_,rfl,?_⟩;refine(iW.drop 68 iA).trans ?_;refine(iW.drop 74 iA).trans ?_;refine(iW.drop 83 iA).trans ?_;refine(iW.drop 94 iA).trans ?_;exact wk⟩
def aeJ:iJ:=
 (.seq (.iE (sq 2 [bo 2 37 0]++sq 4 [mb false])) (.seq (.iE (sq 5 [la 2 2,mv 1,cf 87 [5,6],mv 7]++sg 8 true 9 [la 2 2,mv 1,cf 120 [9,10],bi .eql 11 0]++sq 13 [pa 8 12]++sq 4 [mv 13])) .ret))
theorem agb:jV Tryz.prog 81 aeJ 14 [.tmp 4]:=mf Tryz.func81 Tryz.ntmps81
def sF(sys:gW)(t:gI):Option Bool:=
 (mM sys t).bind fun r=>
 if r=true then
  (rL sys t).bind fun r_1=>
  some (r_1==0)
 else
  some false
instance Rh{sys:gW}{t:gI}:jf (sF sys t) fun rr=>jK Tryz.prog 81 [iU sys,(iH 1 iD) t] (bD rr):=⟨@fun rr h=>by
 delta sF at h;refine agb.jv (iB ?_);delta aeJ;refine jd ?_;exact lW⟩
def ad9:iJ:=
 (.seq (.iE (sq 3 [bo 3 37 0]++sq 6 [.mv (.const (.slice none 0 0))])) (.seq (.iE (sq 10 [.nY 10 22 1 []]++sq 7 [mv 10])) (.seq (.seq (.iE (sq 11 [la 2 3,mv 1,mv 2,cf 79 [11,12,13],nt 14])) (.cond (t0 15) (.seq (.iE (sq 16 [mv 7]++sq 6 [mv 16])) .ret) .skip)) (.seq (.iE (sq 17 [la 2 3,mv 1,mv 2,cf 80 [17,18,19]]++sq 8 [.alloc 8 115 [.sl 0 (some true) [],.sl 0 (some true) [],.sl 0 (some true) [],.sl 0 (some true) [],.lit (.bool false)]]++s0 (sr 5 8 20))) (.seq (.seq (.iE (sq 9 [mi 0])) (.block 0 (.loop (.seq (.seq (.iE (sq 21 [mv 9,fa 0 8,ld 22,ln 23,bn .lss 21 24])) (.cond (t0 25) .skip (.exit 0))) (.seq (.block 1 (.seq (.draw (sq 28 [la 2 3,fa 0 8,ld 29,mv 9,ix 1 30 31,ld 32,cf 81 [28,33]]) [[],[],[1],[],[2,3],[4],[0,5]]) (.cond (t0 34) (.iE (sq 35 [mv 7,fa 0 8,ld 36,mv 9,ix 1 37 38,ld 39,cf 53 [40],.nY 42 22 1 [(t0 41)],ap 43 22 1 24 35 42]++sq 7 [mv 43])) .skip))) (.iE (sq 26 [mv 9,bi .add 26 1]++sq 9 [mv 27]))))))) (.seq (.iE (sq 44 [mv 7]++sq 6 [mv 44])) .ret))))))
theorem afB:jV Tryz.prog 39 ad9 45 [.tmp 6]:=mf Tryz.func39 Tryz.ntmps39
def qQ(sys:gW)(r_1:gZ):(gJ×Int)->Option ((gJ×Int)⊕gJ)
 |(out,i)=>
  if(decide (i<(r_1.1.length:Int)))=true then
   if 0<=i/\i<(r_1.1.length:Int)then
    (sF sys (r_1.1.getD i.toNat default)).bind fun r_2=>
    if r_2=true then
     if 0<=i/\i<(r_1.1.length:Int)then
      (jQ (r_1.1.getD i.toNat default)).bind fun r_3=>
      if(out.length+1)*24<=140737488355328 then
       some (.inl ((out++[r_3]),(IntKind.i64.wrap (i+1))))
      else none
     else none
    else
     some (.inl (out,(IntKind.i64.wrap (i+1))))
   else none
  else
   Option.map Sum.inr (
    some out)
def oM(sys:gW)(t:gI)(steps:Int):Option gJ:=
 (pI sys t steps).bind fun r=>
 if r=true then
  (oF sys t steps).bind fun r_1=>
  iL (qQ sys r_1) ([],0)
 else
  some []
instance Pv{sys:gW}{t:gI}{steps:Int}:jf (oM sys t steps) fun rr=>jK Tryz.prog 39 [iU sys,(iH 1 iD) t,iD steps] ((iH 1 (iH 1 iD)) rr):=⟨@fun rr h=>by
 delta oM at h;refine afB.jv (iB ?_);delta ad9;refine jd ?_;refine rC h fun r hr h=>?_
 refine iT h fun hc h=>?_
 refine rC h fun r_1 hr_1 h=>?_
 refine kH h [7,9,21,22,23,24,25,26,27,28,29,30,31,32,33,34,35,36,37,38,39,40,41,42,43] (fun pp=>[(7,.own 1 10 (List.map (iH 1 iD) pp.1)),(9,.d (iD pp.2))]) (fun pp=>[(3,.obj 37 [.d (iH 1 iD sys.1),.d (iH 2 iC sys.2)]),(8,.obj 115 [.d (iH 1 (iH 1 iD) r_1.1),.d (iH 1 iD r_1.2.1),.d (iH 3 iX r_1.2.2.1),.d (iH 1 iD r_1.2.2.2.1),.d (bD r_1.2.2.2.2)]),(10,.tok 22 1 pp.1.length)]) ?_;rintro⟨out,i⟩ t1 h hb1;unfold qQ at h;try dsimp only at h
 refine iB (jd ?_);refine iT h fun hc h=>?_
 refine jZ h fun hp h=>?_
 refine dC h fun r_2 hr_2 h=>?_
 refine jM (by kernel_rfl) (jd ?_);refine iT h fun hc h=>?_
 refine jZ h fun hp h=>?_
 refine tg [] [(3,41)] h fun r_3 hr_3 h=>?_
 refine jZ h fun hp h=>?_
 cases h;refine⟨_,rfl,?_⟩;refine(iW.drop 41 iA).trans ?_;refine(iW.drop 42 iA).trans ?_;exact wk⟩
end Go.Proofs.YtjgbnaihpicpgabGreat
