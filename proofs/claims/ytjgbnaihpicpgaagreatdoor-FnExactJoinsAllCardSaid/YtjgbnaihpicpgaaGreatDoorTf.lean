/- A part of the proof about FnExactJoinsAll (G3, IT, G4, J1). -/
import Derived.Test.YtjgbnaihpicpgaaGreatDoorTc
import Derived.Test.YtjgbnaihpicpgaaGreatDoorTd
set_option linter.all false
noncomputable section
namespace Go.Proofs.YtjgbnaihpicpgaaGreatDoor
open Go lY
attribute [local irreducible] rA vi uM lW lP ng jX Ak Bj yP Bi yF tw lK nO A7 iG kj
set_option maxHeartbeats 4000000
set_option maxRecDepth 4000
def iq(x:gr):D:=.agg [iD x.1,iD x.2.1,(gS 1 iD) x.2.2]
instance:sU iq 3:=⟨fun _=>rfl⟩
attribute [go_sem] iq
def SJ:gV:=
 (.seq (.gQ (sq 3 [bo 3 30 0]++sq 6 [mb false])) (.seq (.gQ (sq 10 [la 1 3,mv 1,mv 2,cf 152 [10,11,12]]++sq 9 [mv 13]++sq 14 [ex 9 0,ex 9 1]++sq 7 [.alloc 7 180 [.sl 0 (some true) []]]++s0 (sr 1 7 14)++sq 8 [mv 15])) (.seq (.gQ (sq 16 [mv 8]++sq 6 [mv 16])) .ret)))
theorem We:jV Tryz.prog 164 SJ 17 [.tmp 6]:=mf Tryz.func164 Tryz.ntmps164
def qP(sig:gk)(p:gk)(t:gk):Option Bool:=
 (qj sig p t).bind fun r=>
 some r.2
instance Lr{sig:gk}{p:gk}{t:gk}:iH (qP sig p t) fun rr=>jF Tryz.prog 164 [iU sig,(gS 1 iD) p,(gS 1 iD) t] (bD rr):=⟨@fun rr h=>by
 delta qP at h;refine We.jf (gO ?_);delta SJ;refine iE ?_;exact nr⟩
def SB:gV:=
 (.seq (.gQ (sq 4 [bo 4 33 0]++sq 8 [mb false])) (.seq (.draw (sq 9 [fa 0 4,la 1 9,fa 1 4,ld 11,mv 3,ix 2 12 13,fa 0 14,ld 15,fa 0 4,la 1 17,mv 1,mv 2,cf 130 [18,19,20],cf 164 [10,16,21]]++sq 8 [mv 22]) [[],[0],[],[2],[],[3,4],[5],[6],[],[8],[],[],[9,10,11],[1,7,12,12],[13,13,0,1,2,3,4,5,6,7,8,9,10,11,12,13]]) .ret))
theorem V7:jV Tryz.prog 156 SB 23 [.tmp 8]:=mf Tryz.func156 Tryz.ntmps156
def rL(sys:gC)(t:gk)(at':Int)(rule:Int):Option Bool:=
 if 0<=rule/\rule<(sys.2.length:Int)then
  (jH sys.1 t at').bind fun r=>
  (qP sys.1 ((sys.2.getD rule.toNat default).1) r).bind fun r_1=>
  some r_1
 else none
instance Pv{sys:gC}{t:gk}{at':Int}{rule:Int}:iH (rL sys t at' rule) fun rr=>jF Tryz.prog 156 [ia sys,(gS 1 iD) t,iD at',iD rule] (bD rr):=⟨@fun rr h=>by
 delta rL at h;refine V7.jf (gO ?_);delta SB;refine iE ?_;exact nr⟩
def nk(n:Int):Option gk:=if 0<=n/\n*8<=140737488355328 then some []else none
instance C_{n:Int}:iH (nk n) fun rr=>h_ Tryz.prog 147 [.d (.sl 0 (some true) []),.d (iD n)] [] 0 fun xx ss=>xx=.own 1 0 (List.map iD rr)/\ss=[(0,.tok 2 1 rr.length)]:=⟨fun h=>by
 obtain⟨hp,h⟩:=rj h;cases h;exact MW (i0:=Tryz.t2) (z:=_) Tryz.P2 (by kernel_rfl) rfl (by decide) (by decide) (by decide) (by decide) hp.1 hp.2⟩
def Sk:gV:=
 (.seq (.gQ (sq 2 [.mv (.const (.slice none 0 0))])) (.seq (.gQ (sq 3 [mi 0])) (.seq (.seq (.gQ (sq 9 [mv 0,ln 9,mi 0])) (.block 0 (.loop (.seq (.gQ (sq 12 [bn .lss 11 10])) (.seq (.cond (t0 12) .skip (.exit 0)) (.seq (.block 1 (.seq (.gQ (sq 13 [ix 1 9 11,ld 13]++sq 5 [mv 14])) (.seq (.gQ (sq 15 [mv 3,mv 5,ln 16,bn .add 15 17]++sq 3 [mv 18])) (.seq (.gQ (sq 19 [mv 3,bi .lss 19 0])) (.cond (t0 20) (.gQ (sq 21 [.zT 9 (.const (.string {data:=#[108,101,110,32,111,117,116,32,111,102,32,114,97,110,103,101]}))]++s0 (.Da (t0 21)))) .skip))))) (.gQ (sq 22 [bi .add 11 1]++sq 11 [mv 22])))))))) (.seq (.gQ (sq 23 [mv 3,.me 147 [(.const (.slice none 0 0)),(t0 23)]]++sq 6 [mv 24])) (.seq (.seq (.gQ (sq 25 [mv 0,ln 25,mi 0])) (.block 2 (.loop (.seq (.gQ (sq 28 [bn .lss 27 26])) (.seq (.cond (t0 28) .skip (.exit 2)) (.seq (.block 3 (.seq (.gQ (sq 29 [ix 1 25 27,ld 29]++sq 8 [mv 30])) (.gQ (sq 31 [mv 6,mv 8,ap 33 2 1 8 31 32]++sq 6 [mv 33])))) (.gQ (sq 34 [bi .add 27 1]++sq 27 [mv 34])))))))) (.seq (.gQ (sq 35 [mv 6]++sq 2 [mv 35])) .ret))))))
theorem VR:jV Tryz.prog 131 Sk 36 [.tmp 2]:=mf Tryz.func131 Tryz.ntmps131
def kX(slices:gp):gH->Option (gH⊕gk)
 |(newslice,v27)=>
  if(decide (v27<(slices.length:Int)))=true then
   if 0<=v27/\v27<(slices.length:Int)then
    if(newslice.length+(slices.getD v27.toNat default).length)*8<=140737488355328 then
     some (.inl ((newslice++(slices.getD v27.toNat default)),(IntKind.i64.wrap (v27+1))))
    else none
   else none
  else
   Option.map Sum.inr (
    some newslice)
def kW(slices:gp):gG->Option (gG⊕gk)
 |(size,v11)=>
  if(decide (v11<(slices.length:Int)))=true then
   if 0<=v11/\v11<(slices.length:Int)then
    if(decide ((IntKind.i64.wrap (size+((slices.getD v11.toNat default).length:Int)))<0))=true then
     none
    else
     some (.inl ((IntKind.i64.wrap (size+((slices.getD v11.toNat default).length:Int))),(IntKind.i64.wrap (v11+1))))
   else none
  else
   Option.map Sum.inr (
    (nk size).bind fun r=>
    g_ (kX slices) (r,0))
def jr(slices:gp):Option gk:=
 g_ (kW slices) (0,0)
instance BA{slices:gp}:iH (jr slices) fun rr=>h_ Tryz.prog 131 [.d (gS 1 (gS 1 iD) slices)] [] 0 fun xx ss=>xx=.own 1 24 (List.map iD rr)/\ss=[(24,.tok 2 1 rr.length)]:=⟨@fun rr h=>by
 delta jr at h;refine VR.mm (gO ?_);delta Sk;refine iE ?_;refine kT h [3,5,11,12,13,14,15,16,17,18,19,20,21,22] (fun pp=>[(3,.d (iD pp.1)),(11,.d (iD pp.2))]) (fun pp=>[]) ?_;rintro⟨size,v11⟩ t1 h hb1;unfold kW at h;try dsimp only at h
 refine gO (iE ?_);refine iF h fun hc h=>?_
 replace h:=jg h hb1;refine vf [] [(0,24)] h fun r hr h=>?_
 refine kT h [6,8,27,28,29,30,31,32,33,34] (fun pp=>[(6,.own 1 24 (List.map iD pp.1)),(27,.d (iD pp.2))]) (fun pp=>[(24,.tok 2 1 pp.1.length)]) ?_;rintro⟨newslice,v27⟩ t1 h hb1;unfold kX at h;try dsimp only at h
 refine gO (iE ?_);exact nr⟩
def Xu:gV:=
 (.seq (.gQ (sq 4 [bo 4 30 0]++sq 8 [.mv (.const (.slice none 0 0)),mb false])) (.seq (.draw (sq 11 [mv 1,mv 2,.slc (t0 11) 1 none (some (t0 12)) none,mv 3,mv 1,la 1 4,mv 1,mv 2,cf 127 [16,17,18],.slc (t0 15) 1 (some (t0 19)) none none,.pF 21 22 1 [(t0 13),(t0 14),(t0 20)],cf 131 [21]]++sq 10 [mv 22]) [[],[],[0,1],[],[],[],[],[],[5,6,7],[4,8],[2,3,9],[10,8],[11,11,0,1,2,3,4,5,6,7,8,9,10,11]]) (.seq (.seq (.gQ (sq 23 [mv 10,ln 23,bi .gtr 24 60])) (.cond (t0 25) (.seq (.gQ (sq 8 [.mv (.const (.slice none 0 0)),mb false])) .ret) .skip)) (.seq (.gQ (sq 26 [mv 10]++sq 8 [mv 26,mb true])) .ret))))
theorem Zb:jV Tryz.prog 95 Xu 27 [.tmp 8,.tmp 9]:=mf Tryz.func95 Tryz.ntmps95
def pR(sig:gk)(t:gk)(at':Int)(u:gk):Option (gk×Bool):=
 if 0<=at'/\at'<=(t.length:Int)then
  (lB sig t at').bind fun r=>
  if 0<=r/\r<=(t.length:Int)then
   (jr [(t.take at'.toNat),u,(t.drop r.toNat)]).bind fun r_1=>
   if(decide (60<(r_1.length:Int)))=true then
    some ([],false)
   else
    some (r_1,true)
  else none
 else none
instance Tz{sig:gk}{t:gk}{at':Int}{u:gk}:iH (pR sig t at' u) fun rr=>oF Tryz.prog 95 [iU sig,(gS 1 iD) t,iD at',(gS 1 iD) u] [(gS 1 iD) rr.1,bD rr.2]:=⟨@fun rr h=>by
 delta pR at h;refine Zb.pG (gO ?_);delta Xu;refine iE ?_;refine jG h fun hp h=>?_
 refine dC h fun r hr h=>?_
 refine jG h fun hp h=>?_
 refine PM [] [(24,22)] h fun r_1 hr_1 h=>?_
 exact nr⟩
def Sl:gV:=
 (.seq (.gQ (sq 4 [bo 4 33 0]++sq 8 [.mv (.const (.slice none 0 0)),mb false])) (.seq (.draw (sq 14 [fa 0 4,la 1 14,fa 1 4,ld 16,mv 3,ix 2 17 18,fa 0 19,ld 20,fa 0 4,la 1 22,mv 1,mv 2,cf 130 [23,24,25],cf 152 [15,21,26]]++sq 13 [mv 27]++sq 28 [ex 13 0,ex 13 1]++sq 10 [.alloc 10 180 [.sl 0 (some true) []]]++s0 (sr 1 10 28)++sq 11 [mv 29]) [[],[0],[],[2],[],[3,4],[5],[6],[],[8],[],[],[9,10,11],[1,7,12,12],[13],[14],[14],[],[17,15,13,0,1,2,3,4,5,6,7,8,9,10,11,12,13,14,15,17],[16,18,0,1,2,3,4,5,6,7,8,9,10,11,12,13,14,15,16,17,18]]) (.seq (.seq (.gQ (sq 30 [mv 11,nt 30])) (.cond (t0 31) (.seq (.gQ (sq 8 [.mv (.const (.slice none 0 0)),mb false])) .ret) .skip)) (.seq (.draw (sq 33 [la 1 10,fa 1 4,ld 34,mv 3,ix 2 35 36,fa 1 37,ld 38,cf 153 [33,39]]++sq 32 [mv 40]++sq 41 [ex 32 0,ex 32 1]++sq 12 [mv 41]++sq 11 [mv 42]) [[],[],[1],[],[2,3],[4],[5],[0,6],[7],[8],[8],[9,7,0,1,2,3,4,5,6,7,8,9],[10,11,0,1,2,3,4,5,6,7,8,9,10,11]]) (.seq (.seq (.gQ (sq 43 [mv 11,nt 43])) (.cond (t0 44) (.seq (.gQ (sq 8 [.mv (.const (.slice none 0 0)),mb false])) .ret) .skip)) (.seq (.gQ (sq 45 [fa 0 4,la 1 45,mv 1,mv 2,mv 12,cf 95 [46,47,48,49],ex 50 0,ex 50 1]++sq 8 [mv 51,mv 52])) .ret))))))
theorem VS:jV Tryz.prog 135 Sl 53 [.tmp 8,.tmp 9]:=mf Tryz.func135 Tryz.ntmps135
def sZ(sys:gC)(t:gk)(at':Int)(rule:Int):Option (gk×Bool):=
 if 0<=rule/\rule<(sys.2.length:Int)then
  (jH sys.1 t at').bind fun r=>
  (qj sys.1 ((sys.2.getD rule.toNat default).1) r).bind fun r_1=>
  if r_1.2=true then
   if 0<=rule/\rule<(sys.2.length:Int)then
    (qZ r_1.1 ((sys.2.getD rule.toNat default).2)).bind fun r_2=>
    if r_2.2=true then
     (pR sys.1 t at' r_2.1).bind fun r_3=>
     some r_3
    else
     some ([],false)
   else none
  else
   some ([],false)
 else none
instance RB{sys:gC}{t:gk}{at':Int}{rule:Int}:iH (sZ sys t at' rule) fun rr=>oF Tryz.prog 135 [ia sys,(gS 1 iD) t,iD at',iD rule] [(gS 1 iD) rr.1,bD rr.2]:=⟨@fun rr h=>by
 delta sZ at h;refine VS.pG (gO ?_);delta Sl;refine iE ?_;exact nr⟩
def Sc:gV:=
 (.seq (.gQ (sq 4 [bo 4 30 0]++sq 8 [.mv (.const (.slice none 0 0)),mb false])) (.seq (.gQ (sq 11 [mv 1,mv 2,.slc (t0 11) 1 none (some (t0 12)) none,cf 87 [13],mv 3,ap 16 2 1 8 14 15]++sq 10 [mv 16])) (.seq (.gQ (sq 17 [mv 10,mv 1,la 1 4,mv 1,mv 2,cf 118 [19,20,21],.slc (t0 18) 1 (some (t0 22)) none none,ap 24 2 1 8 17 23]++sq 10 [mv 24])) (.seq (.seq (.gQ (sq 25 [mv 10,ln 25,bi .gtr 26 60])) (.cond (t0 27) (.seq (.gQ (sq 28 [.pF 28 2 1 []]++sq 8 [mv 28,mb false])) .ret) .skip)) (.seq (.gQ (sq 29 [mv 10]++sq 8 [mv 29,mb true])) .ret)))))
theorem VJ:jV Tryz.prog 122 Sc 30 [.tmp 8,.tmp 9]:=mf Tryz.func122 Tryz.ntmps122
def rS(sig:gk)(t:gk)(at':Int)(u:gk):Option (gk×Bool):=
 if 0<=at'/\at'<=(t.length:Int)then
  (kC (t.take at'.toNat)).bind fun r=>
  if(r.length+u.length)*8<=140737488355328 then
   (nL sig t at').bind fun r_1=>
   if 0<=r_1/\r_1<=(t.length:Int)then
    if((r++u).length+(t.drop r_1.toNat).length)*8<=140737488355328 then
     if(decide (60<(((r++u)++(t.drop r_1.toNat)).length:Int)))=true then
      some ([],false)
     else
      some (((r++u)++(t.drop r_1.toNat)),true)
    else none
   else none
  else none
 else none
instance PE{sig:gk}{t:gk}{at':Int}{u:gk}:iH (rS sig t at' u) fun rr=>oF Tryz.prog 122 [iU sig,(gS 1 iD) t,iD at',(gS 1 iD) u] [(gS 1 iD) rr.1,bD rr.2]:=⟨@fun rr h=>by
 delta rS at h;refine VJ.pG (gO ?_);delta Sc;refine iE ?_;refine jG h fun hp h=>?_
 refine vf [] [(3,14)] h fun r hr h=>?_
 exact nr⟩
def Xl:gV:=
 (.seq (.gQ (sq 4 [bo 4 33 0]++sq 8 [.mv (.const (.slice none 0 0)),mb false])) (.seq (.gQ (sq 15 [fa 1 4,ld 15,mv 3,ix 2 16 17,la 2 18]++sq 10 [.alloc 10 81 [.sl 0 (some true) [],.sl 0 (some true) []]]++s0 (sr 2 10 19))) (.seq (.draw (sq 21 [fa 0 4,la 1 21,fa 0 10,ld 23,fa 0 4,la 1 25,mv 1,mv 2,cf 120 [26,27,28],cf 119 [22,24,29]]++sq 20 [mv 30]++sq 31 [ex 20 0,ex 20 1]++sq 11 [.alloc 11 180 [.sl 0 (some true) []]]++s0 (sr 1 11 31)++sq 12 [mv 32]) [[],[0],[],[2],[],[4],[],[],[5,6,7],[1,3,8,8],[9],[10],[10],[],[13,11,9,0,1,2,3,4,5,6,7,8,9,10,11,13],[12,14,0,1,2,3,4,5,6,7,8,9,10,11,12,13,14]]) (.seq (.seq (.gQ (sq 33 [mv 12,nt 33])) (.cond (t0 34) (.seq (.gQ (sq 35 [.pF 35 2 1 []]++sq 8 [mv 35,mb false])) .ret) .skip)) (.seq (.gQ (sq 37 [la 1 11,fa 1 10,ld 38,cf 121 [37,39]]++sq 36 [mv 40]++sq 41 [ex 36 0,ex 36 1]++sq 13 [mv 41,mv 42])) (.seq (.seq (.gQ (sq 43 [mv 14,nt 43])) (.cond (t0 44) (.seq (.gQ (sq 45 [.pF 45 2 1 []]++sq 8 [mv 45,mb false])) .ret) .skip)) (.seq (.gQ (sq 46 [fa 0 4,la 1 46,mv 1,mv 2,mv 13,cf 122 [47,48,49,50],ex 51 0,ex 51 1]++sq 8 [mv 52,mv 53])) .ret)))))))
theorem Y4:jV Tryz.prog 86 Xl 54 [.tmp 8,.tmp 9]:=mf Tryz.func86 Tryz.ntmps86
def qJ(sys:gC)(t:gk)(at':Int)(rule:Int):Option (gk×Bool):=
 if 0<=rule/\rule<(sys.2.length:Int)then
  (qq sys.1 t at').bind fun r=>
  (pZ sys.1 ((sys.2.getD rule.toNat default).1) r).bind fun r_1=>
  if r_1.2=true then
   (nE r_1.1 ((sys.2.getD rule.toNat default).2)).bind fun r_2=>
   if r_2.2=true then
    (rS sys.1 t at' r_2.1).bind fun r_3=>
    some r_3
   else
    some ([],false)
  else
   some ([],false)
 else none
instance OS{sys:gC}{t:gk}{at':Int}{rule:Int}:iH (qJ sys t at' rule) fun rr=>oF Tryz.prog 86 [ia sys,(gS 1 iD) t,iD at',iD rule] [(gS 1 iD) rr.1,bD rr.2]:=⟨@fun rr h=>by
 delta qJ at h;refine Y4.pG (gO ?_);delta Xl;refine iE ?_;exact nr⟩
def Ss:gV:=
 (.seq (.gQ (sq 2 [bo 2 33 0]++sq 4 [.mv (.const (.slice none 0 0))])) (.seq (.gQ (sq 10 [.pF 10 95 3 []]++sq 5 [mv 10])) (.seq (.seq (.gQ (sq 6 [mi 0])) (.block 0 (.loop (.seq (.seq (.gQ (sq 11 [mv 6,mv 1,ln 12,bn .lss 11 13])) (.cond (t0 14) .skip (.exit 0))) (.seq (.block 1 (.seq (.gQ (sq 7 [mi 0])) (.block 2 (.loop (.seq (.seq (.gQ (sq 17 [mv 7,fa 1 2,ld 18,ln 19,bn .lss 17 20])) (.cond (t0 21) .skip (.exit 2))) (.seq (.block 3 (.seq (.gQ (sq 25 [la 2 2,mv 1,mv 6,mv 7,cf 86 [25,26,27,28]]++sq 24 [mv 29]++sq 30 [ex 24 0,ex 24 1]++sq 8 [mv 30,mv 31])) (.seq (.gQ (sq 32 [mv 9])) (.cond (t0 32) (.gQ (sq 33 [mv 5,mv 6,mv 7,mv 8,.build [.lit (.int .i64 0),.lit (.int .i64 0),.sl 0 (some true) []] [(0,1,(t0 34)),(1,1,(t0 35)),(2,1,(t0 36))],.pF 38 95 3 [(t0 37)],ap 39 95 3 40 33 38]++sq 5 [mv 39])) .skip)))) (.gQ (sq 22 [mv 7,bi .add 22 1]++sq 7 [mv 23])))))))) (.gQ (sq 15 [mv 6,bi .add 15 1]++sq 6 [mv 16]))))))) (.seq (.gQ (sq 40 [mv 5]++sq 4 [mv 40])) .ret))))
theorem VZ:jV Tryz.prog 143 Ss 41 [.tmp 4]:=mf Tryz.func143 Tryz.ntmps143
def nN(sys:gC)(t:gk)(at':Int):(gx×Int)->Option ((gx×Int)⊕((gx×Int)⊕gx))
 |(out_1,rule)=>
  if(decide (rule<(sys.2.length:Int)))=true then
   (qJ sys t at' rule).bind fun r=>
   if r.2=true then
    if(out_1.length+1)*40<=140737488355328 then
     some (.inl ((out_1++[(at',rule,r.1)]),(IntKind.i64.wrap (rule+1))))
    else none
   else
    some (.inl (out_1,(IntKind.i64.wrap (rule+1))))
  else
   Option.map Sum.inr (
    some (.inl (out_1,(IntKind.i64.wrap (at'+1)))))
def nM(sys:gC)(t:gk):(gx×Int)->Option ((gx×Int)⊕gx)
 |(out,at')=>
  if(decide (at'<(t.length:Int)))=true then
   g_ (nN sys t at') (out,0)
  else
   Option.map Sum.inr (
    some out)
def p_(sys:gC)(t:gk):Option gx:=
 g_ (nM sys t) ([],0)
instance Ms{sys:gC}{t:gk}:iH (p_ sys t) fun rr=>jF Tryz.prog 143 [ia sys,(gS 1 iD) t] ((gS 3 iq) rr):=⟨@fun rr h=>by
 delta p_ at h;refine VZ.jf (gO ?_);delta Ss;refine iE ?_;refine kT h [5,6,7,8,9,11,12,13,14,15,16,17,18,19,20,21,22,23,24,25,26,27,28,29,30,31,32,33,34,35,36,37,38,39] (fun pp=>[(5,.own 3 10 (List.map iq pp.1)),(6,.d (iD pp.2))]) (fun pp=>[(2,.obj 33 [.d (gS 1 iD sys.1),.d (gS 2 gP sys.2)]),(10,.tok 95 3 pp.1.length)]) ?_;rintro⟨out,at'⟩ t1 h hb1;unfold nM at h;try dsimp only at h
 refine gO (iE ?_);refine iT h fun hc h=>?_
 refine kT h [5,7,8,9,17,18,19,20,21,22,23,24,25,26,27,28,29,30,31,32,33,34,35,36,37,38,39] (fun pp=>[(5,.own 3 10 (List.map iq pp.1)),(7,.d (iD pp.2))]) (fun pp=>[(2,.obj 33 [.d (gS 1 iD sys.1),.d (gS 2 gP sys.2)]),(10,.tok 95 3 pp.1.length)]) ?_;rintro⟨out_1,rule⟩ t2 h hb2;unfold nN at h;try dsimp only at h
 refine gO (iE ?_);refine iT h fun hc h=>?_
 refine QI h fun r hr h=>?_
 refine iT h fun hc h=>?_
 refine jG h fun hp h=>?_
 cases h;refine⟨_,rfl,?_⟩;refine(ij.drop 38 gN).trans ?_;exact wk⟩
end Go.Proofs.YtjgbnaihpicpgaaGreatDoor
namespace Go.Proofs.YtjgbnaihpicpgaaGreatDoor
open Go lY
attribute [local irreducible] rA vi uM lW lP ng jX Ak Bj yP Bi yF tw lK nO A7 iG kj Bs
set_option maxHeartbeats 4000000
abbrev GY:=gk×List gm
abbrev xk:=gr×Bool
def sY(sys:GY)(t:gk)(at':Nat):Nat->Option (List xk)
 |0=>some []
 |k+1=>
  if(decide (t.getD at' default<0))=true then sY sys t at' k
  else
   (rL sys t (at':Int) ((sys.2.length-(k+1):Nat):Int)).bind fun r=>
   if r=true then
    (sZ sys t (at':Int) ((sys.2.length-(k+1):Nat):Int)).bind fun v=>
    (sY sys t at' k).map fun l=>(((at':Int),((sys.2.length-(k+1):Nat):Int),v.1),v.2)::l
   else sY sys t at' k
def uI(sys:GY)(t:gk):Nat->Option (List xk)
 |0=>some []
 |k+1=>(sY sys t (t.length-(k+1)) sys.2.length).bind fun xs=>(uI sys t k).map fun ys=>xs++ys
def wo(sys:GY)(t:gk):Option (List xk):=uI sys t t.length
theorem MX{P:Program}{l:Nat}{ms:List iw}(pre post:List iw)(d:Nat)(g:Operand)(args:List Operand){Q:sB}{env:List AV}{x:List D}{r:List (List D)}(hms:ms=pre++⟨some d,.mz g args,none⟩::post)
 (hpre:sS P 0 pre env [] (fun env' s'=>∃env1,ij 0 env' s' env1 []/\AV.iz (fun _=>none) env1=env1/\ev env1 g=.d (.lit (.func (.yield l) #[] #[]))/\args.map (ev env1)=x.map .d/\
  ∀b,sS P 0 post (env1.set d (.d (bD b))) [] (fun env' s'=>∃env2,ij 0 env' s' env2 []/\AV.iz (fun _=>none) env2=env2/\Q .normal env2 (if b then some r else none)))):Bs P l (.gQ ms) Q env (some (x::r)):=by
 subst hms;exact I9 hpre
def SA:gV:=
 (.seq (.gQ (sq 9 [ld 1,ln 9,mi 0])) (.block 0 (.loop (.seq (.gQ (sq 12 [bn .lss 11 10])) (.seq (.cond (t0 12) .skip (.exit 0)) (.seq (.block 1 (.seq (.gQ (sq 13 [mv 11,ix 1 9 11,ld 14]++sq 4 [mv 13,mv 15])) (.seq (.gQ (sq 16 [fa 1 2,ld 16,ln 17,mi 0])) (.block 2 (.loop (.seq (.gQ (sq 20 [bn .lss 19 18])) (.seq (.cond (t0 20) .skip (.exit 2)) (.seq (.block 3 (.seq (.gQ (sq 21 [mv 19]++sq 6 [mv 21])) (.seq (.seq (.gQ (sq 22 [mv 5,bi .lss 22 0,mv 23]++sg 24 false 25 [la 2 2,ld 1,mv 4,mv 6,cf 156 [25,26,27,28],nt 29]++sq 31 [po 24 30])) (.cond (t0 31) (.exit 3) .skip)) (.seq (.gQ (sq 33 [la 2 2,ld 1,mv 4,mv 6,cf 135 [33,34,35,36]]++sq 32 [mv 37]++sq 38 [ex 32 0,ex 32 1]++sq 7 [mv 38,mv 39])) (.seq (.gQ (sq 40 [mv 0,mv 4,mv 6,mv 7,.build [.lit (.int .i64 0),.lit (.int .i64 0),.sl 0 (some true) []] [(0,1,(t0 41)),(1,1,(t0 42)),(2,1,(t0 43))],mv 8,.mz (t0 40) [(t0 44),(t0 45)],nt 46])) (.cond (t0 47) .ret .skip)))))) (.gQ (sq 48 [bi .add 19 1]++sq 19 [mv 48])))))))))) (.gQ (sq 49 [bi .add 11 1]++sq 11 [mv 49]))))))))
theorem V6:jV Tryz.prog 155 SA 50 []:=mf Tryz.func155 Tryz.ntmps155
def Sn:gV:=
 (.seq (.gQ (sq 2 [bo 2 33 0,bo 3 22 1,.mv (.const .nilFunc)])) (.seq (.gQ (sq 5 [.zS 155 [] [(t0 3),(t0 2)]]++sq 4 [mv 5])) .ret))
theorem VU:jV Tryz.prog 138 Sn 6 [.tmp 4]:=mf Tryz.func138 Tryz.ntmps138
section
variable(sys:GY)(t:gk)(l:Nat)
def HK(at':Nat):List AV:=[.d (.lit (.func (.yield l) #[] #[])),.pv [gS 1 iD t],.pv [gS 1 iD sys.1,gS 2 gP sys.2]]++List.replicate 6 .gW++[.d (gS 1 iD t),.d (iD (t.length:Int)),.d (iD (at':Int))]++List.replicate 38 .gW
def DP(at' rule:Nat):List AV:=[.d (.lit (.func (.yield l) #[] #[])),.pv [gS 1 iD t],.pv [gS 1 iD sys.1,gS 2 gP sys.2],.gW,.d (iD (at':Int)),.d (iD (t.getD at' default)),.gW,.gW,.gW,.d (gS 1 iD t),.d (iD (t.length:Int)),.d (iD (at':Int))]++List.replicate 5 .gW++[.d (gS 2 gP sys.2),.d (iD (sys.2.length:Int)),.d (iD (rule:Int))]++List.replicate 30 .gW
def U4(at' rule:Nat):List AV:=[.d (.lit (.func (.yield l) #[] #[])),.pv [gS 1 iD t],.pv [gS 1 iD sys.1,gS 2 gP sys.2],.gW,.d (iD (at':Int)),.d (iD (t.getD at' default)),.d (iD (rule:Int)),.gW,.gW,.d (gS 1 iD t),.d (iD (t.length:Int)),.d (iD (at':Int))]++List.replicate 5 .gW++[.d (gS 2 gP sys.2),.d (iD (sys.2.length:Int)),.d (iD (rule:Int))]++List.replicate 30 .gW
def Zj(at' rule:Nat)(v:gk×Bool):List AV:=[.d (.lit (.func (.yield l) #[] #[])),.pv [gS 1 iD t],.pv [gS 1 iD sys.1,gS 2 gP sys.2],.gW,.d (iD (at':Int)),.d (iD (t.getD at' default)),.d (iD (rule:Int)),.d (gS 1 iD v.1),.d (bD v.2),.d (gS 1 iD t),.d (iD (t.length:Int)),.d (iD (at':Int))]++List.replicate 5 .gW++[.d (gS 2 gP sys.2),.d (iD (sys.2.length:Int)),.d (iD (rule:Int))]++List.replicate 30 .gW
def Zl(at' rule:Nat)(v:gk×Bool):List AV:=[.d (.lit (.func (.yield l) #[] #[])),.pv [gS 1 iD t],.pv [gS 1 iD sys.1,gS 2 gP sys.2],.gW,.d (iD (at':Int)),.d (iD (t.getD at' default)),.gW,.gW,.gW,.d (gS 1 iD t),.d (iD (t.length:Int)),.d (iD (at':Int))]++List.replicate 5 .gW++[.d (gS 2 gP sys.2),.d (iD (sys.2.length:Int)),.d (iD (rule:Int))]++List.replicate 20 .gW++[.d (.lit (.func (.yield l) #[] #[])),.gW,.gW,.gW,.d (iq ((at':Int),(rule:Int),v.1)),.d (bD v.2)]++List.replicate 4 .gW
def Zk(at' rule:Nat)(b:Bool):List AV:=[.d (.lit (.func (.yield l) #[] #[])),.pv [gS 1 iD t],.pv [gS 1 iD sys.1,gS 2 gP sys.2],.gW,.d (iD (at':Int)),.d (iD (t.getD at' default)),.gW,.gW,.gW,.d (gS 1 iD t),.d (iD (t.length:Int)),.d (iD (at':Int))]++List.replicate 5 .gW++[.d (gS 2 gP sys.2),.d (iD (sys.2.length:Int)),.d (iD (rule:Int))]++List.replicate 27 .gW++[.d (bD (!b)),.gW,.gW]
end
theorem Dp{sys:GY}{t:gk}{els:List xk}(h0:wo sys t=some els):Iter Tryz.prog 155 [.pv [gS 1 iD t],.pv [gS 1 iD sys.1,gS 2 gP sys.2]] (els.map fun x=>[iq x.1,bD x.2]):=by
 refine EA V6 (by kernel_rfl) rfl fun l=>Cu (p:=t.length<2^63) (fun X a W hst=>by have:=CM (i:=1) (cs1:=[]) (cs2:=[]) (ds:=t.map iD) (e:=1) (nl:=none) hst rfl;simpa using this) fun hlen=>?_
 refine Cu (p:=sys.2.length<2^63) (fun X a W hst=>by have:=CM (i:=2) (cs1:=[gS 1 iD sys.1]) (cs2:=[]) (ds:=sys.2.map gP) (e:=2) (nl:=none) hst rfl;simpa using this) fun hlen2=>?_
 delta SA;refine ku (jt rfl (gO ?_));show rA _ _ _ _ ([.d (.lit (.func (.yield l) #[] #[])),.pv [gS 1 iD t],.pv [gS 1 iD sys.1,gS 2 gP sys.2]]++List.replicate 47 .gW) [];refine iE ?_;refine⟨HK sys t l 0,(by delta HK;exact wk),rfl,qT ?_⟩;refine AK (ι:=Nat×List xk) (fun p=>HK sys t l p.1) (fun p=>some (p.2.map fun x=>[iq x.1,bD x.2])) (fun p=>p.1<=t.length/\uI sys t (t.length-p.1)=some p.2) (fun p=>t.length-p.1) (0,els) ⟨cQ _,h0⟩ .refl (fun _=>rfl) ?_;rintro⟨at',r⟩ ⟨hat,h⟩;simp only at hat h⊢;refine ku (jt rfl (gO ?_));delta HK;by_cases hlt:at'<t.length
 rotate_left
 ·have hc:decide ((at':Int)<(t.length:Int))=false:=by simpa using hlt
  refine qz hc ?_;refine⟨[.d (.lit (.func (.yield l) #[] #[])),.pv [gS 1 iD t],.pv [gS 1 iD sys.1,gS 2 gP sys.2]]++List.replicate 6 .gW++[.d (gS 1 iD t),.d (iD (t.length:Int)),.d (iD (at':Int)),.d (bD false)]++List.replicate 37 .gW,wk,rfl,ku (jt rfl (gO ?_))⟩;refine iE ?_;have:at'=t.length:=by omega
  subst this;rw[cL]at h;cases h;exact⟨HK sys t l t.length,(by delta HK;exact wk),rfl,.inl rfl,.inl rfl⟩
 have hc:decide ((at':Int)<(t.length:Int))=true:=by simpa using hlt
 refine qz hc ?_;refine⟨[.d (.lit (.func (.yield l) #[] #[])),.pv [gS 1 iD t],.pv [gS 1 iD sys.1,gS 2 gP sys.2]]++List.replicate 6 .gW++[.d (gS 1 iD t),.d (iD (t.length:Int)),.d (iD (at':Int)),.d (bD true)]++List.replicate 37 .gW,wk,rfl,ku (jt rfl (gO ?_))⟩;refine iE ?_;refine⟨HK sys t l at',(by delta HK;exact wk),rfl,?_⟩;obtain⟨k0,hk0⟩:∃k0,t.length-at'=k0+1:=⟨t.length-at'-1,gN⟩;rw[hk0]at h;simp only[uI]at h;rw[show t.length-(k0+1)=at' by omega]at h;obtain⟨xs,hxs,h⟩:=ai.1 h;obtain⟨rest,hrest,hr⟩:=ay.1 h;subst hr;clear h;refine ku (qT (ku (jt rfl (gO ?_))));delta HK;refine iE ?_;repeat(refine xN gN ?_;refine iE ?_)
 refine⟨[.d (.lit (.func (.yield l) #[] #[])),.pv [gS 1 iD t],.pv [gS 1 iD sys.1,gS 2 gP sys.2],.gW,.d (iD (at':Int)),.d (iD (t.getD at' default)),.gW,.gW,.gW,.d (gS 1 iD t),.d (iD (t.length:Int)),.d (iD (at':Int))]++List.replicate 38 .gW,wk,rfl,ku (jt rfl (gO ?_))⟩;refine iE ?_;refine⟨DP sys t l at' 0,(by delta DP;exact wk),rfl,qT ?_⟩;refine AK (ι:=Nat×List xk) (fun p=>DP sys t l at' p.1) (fun p=>some ((fun p:Nat×List xk=>(p.2++rest).map fun x=>[iq x.1,bD x.2]) p)) (fun p=>p.1<=sys.2.length/\sY sys t at' (sys.2.length-p.1)=some p.2) (fun p=>sys.2.length-p.1) (0,xs) ⟨cQ _,hxs⟩ .refl (fun _=>rfl) ?_;clear hxs;rintro⟨rule,ys⟩ ⟨hru,h⟩;simp only at hru h⊢;refine ku (jt rfl (gO ?_));delta DP;by_cases hlr:rule<sys.2.length
 rotate_left
 ·have hc:decide ((rule:Int)<(sys.2.length:Int))=false:=by simpa using hlr
  refine qz hc ?_;refine⟨[.d (.lit (.func (.yield l) #[] #[])),.pv [gS 1 iD t],.pv [gS 1 iD sys.1,gS 2 gP sys.2],.gW,.d (iD (at':Int)),.d (iD (t.getD at' default)),.gW,.gW,.gW,.d (gS 1 iD t),.d (iD (t.length:Int)),.d (iD (at':Int))]++List.replicate 5 .gW++[.d (gS 2 gP sys.2),.d (iD (sys.2.length:Int)),.d (iD (rule:Int)),.d (bD false)]++List.replicate 29 .gW,wk,rfl,ku (jt rfl (gO ?_))⟩;refine iE ?_;have:rule=sys.2.length:=by omega
  subst this;rw[cL]at h;cases h;refine⟨HK sys t l at',(by delta HK;exact wk),rfl,?_⟩;show Bs _ _ _ _ _ _;refine jt rfl (gO ?_);delta HK;refine iE ?_;have hw1:IntKind.i64.wrap ((at':Int)+1)=((at'+1:Nat):Int):=by rw[wrap_i64 gN gN];omega
  rw[hw1];refine⟨HK sys t l (at'+1),(by delta HK;exact wk),rfl,(at'+1,rest),⟨⟨gN,?_⟩,by simp only;omega⟩,.refl,rfl⟩;simp only;rw[show t.length-(at'+1)=k0 by omega];exact hrest
 have hc:decide ((rule:Int)<(sys.2.length:Int))=true:=by simpa using hlr
 refine qz hc ?_;refine⟨[.d (.lit (.func (.yield l) #[] #[])),.pv [gS 1 iD t],.pv [gS 1 iD sys.1,gS 2 gP sys.2],.gW,.d (iD (at':Int)),.d (iD (t.getD at' default)),.gW,.gW,.gW,.d (gS 1 iD t),.d (iD (t.length:Int)),.d (iD (at':Int))]++List.replicate 5 .gW++[.d (gS 2 gP sys.2),.d (iD (sys.2.length:Int)),.d (iD (rule:Int)),.d (bD true)]++List.replicate 29 .gW,wk,rfl,ku (jt rfl (gO ?_))⟩;refine iE ?_;refine⟨DP sys t l at' rule,(by delta DP;exact wk),rfl,?_⟩;obtain⟨k1,hk1⟩:∃k1,sys.2.length-rule=k1+1:=⟨sys.2.length-rule-1,gN⟩;rw[hk1]at h;simp only[sY]at h;rw[show sys.2.length-(k1+1)=rule by omega]at h;have hnext:∀ys',sY sys t at' k1=some ys'->∀env1,ij 0 env1 [] (DP sys t l at' rule) []->Bs Tryz.prog l (.gQ (sq 48 [bi .add 19 1]++sq 19 [mv 48])) (Jb (fun p:Nat×List xk=>DP sys t l at' p.1) (fun p:Nat×List xk=>some ((fun p:Nat×List xk=>(p.2++rest).map fun x=>[iq x.1,bD x.2]) p)) (fun i':Nat×List xk=>(i'.1<=sys.2.length/\sY sys t at' (sys.2.length-i'.1)=some i'.2)/\sys.2.length-i'.1<sys.2.length-rule) (MZ 2 (MZ 1 (Wo Tryz.prog l (.gQ (sq 49 [bi .add 11 1]++sq 11 [mv 49])) (Jb (fun p:Nat×List xk=>HK sys t l p.1) (fun p:Nat×List xk=>some (p.2.map fun x=>[iq x.1,bD x.2])) (fun i':Nat×List xk=>(i'.1<=t.length/\uI sys t (t.length-i'.1)=some i'.2)/\t.length-i'.1<t.length-at') (MZ 0 fun e env' r=>(e=.normal\/e=.ret)/\(r=some []\/r=none))))))) env1 (some ((ys'++rest).map fun x=>[iq x.1,bD x.2])):=fun ys' hys' env1 hw=>by
  refine HE hw rfl (jt rfl (gO ?_));delta DP;refine iE ?_;have hw1:IntKind.i64.wrap ((rule:Int)+1)=((rule+1:Nat):Int):=by rw[wrap_i64 gN gN];omega
  rw[hw1];refine⟨DP sys t l at' (rule+1),(by delta DP;exact wk),rfl,(rule+1,ys'),⟨⟨gN,?_⟩,by simp only;omega⟩,.refl,rfl⟩;simp only;rw[show sys.2.length-(rule+1)=k1 by omega];exact hys'
 refine ku (qT (ku (jt rfl (gO ?_))));delta DP;refine iE ?_;refine⟨U4 sys t l at' rule,(by delta U4;exact wk),rfl,ku (jt rfl (gO ?_))⟩;delta U4;by_cases hneg:t.getD at' default<0
 ·have hc:decide (t.getD at' default<0)=true:=by simpa using hneg
  simp only[hc,aB]at h;refine qz hc ?_;exact⟨DP sys t l at' rule,(by delta DP;exact wk),rfl,hnext ys h _ .refl⟩
 have hc:decide (t.getD at' default<0)=false:=by simpa using hneg
 simp only[hc,aj,aF]at h;refine qz hc ?_;refine rC h fun b hb h=>?_
 cases b with
 |false=>
  simp only[aj,aF]at h;refine iE ?_;exact⟨DP sys t l at' rule,(by delta DP;exact wk),rfl,hnext ys h _ .refl⟩
 |true=>
 simp only[aB]at h;refine iE ?_;refine⟨U4 sys t l at' rule,(by delta U4;exact wk),rfl,ku (jt rfl (gO ?_))⟩;delta U4;refine iE ?_;refine QI h fun v hv h=>?_
 obtain⟨ys',hys',hy⟩:=ay.1 h;subst hy;refine⟨Zj sys t l at' rule v,(by delta Zj;exact wk),rfl,ku (MX (sq 40 [mv 0,mv 4,mv 6,mv 7,.build [.lit (.int .i64 0),.lit (.int .i64 0),.sl 0 (some true) []] [(0,1,(t0 41)),(1,1,(t0 42)),(2,1,(t0 43))],mv 8]) (sq 47 [nt 46]) 46 (t0 40) [(t0 44),(t0 45)] rfl (nS ?_))⟩;delta Zj;refine iE ?_;refine⟨Zl sys t l at' rule v,(by delta Zl;exact wk),rfl,rfl,rfl,fun b=>nS ?_⟩;delta Zl;refine iE ?_;refine⟨Zk sys t l at' rule b,(by delta Zk;exact wk),rfl,jt rfl (gO ?_)⟩;delta Zk;cases b with
 |false=>refine iE ?_;exact⟨DP sys t l at' rule,(by delta DP;exact wk),rfl,.inr rfl,.inr rfl⟩
 |true=>refine iE ?_;exact⟨DP sys t l at' rule,(by delta DP;exact wk),rfl,hnext ys' hys' _ .refl⟩
def rM(sys:GY)(t:gk):Option Unit:=some ()
instance IV{sys:GY}{t:gk}:iH (rM sys t) fun _=>h_ Tryz.prog 138 [.d (ia sys),.d (gS 1 iD t)] [] 0 fun xx ss=>xx=.fn 155 [] [.pv [gS 1 iD t],.pv [gS 1 iD sys.1,gS 2 gP sys.2]]/\ss=[]:=⟨@fun rr h=>by
 have h1:h_ Tryz.prog 138 [.d (ia sys),.d (gS 1 iD t)] [] 0 fun xx ss=>xx=.fn 155 [] [.ptr 3 0,.ptr 2 0]/\ss=(2,.obj 33 ([gS 1 iD sys.1,gS 2 gP sys.2].map .d))::[(3,.obj 22 [.d (gS 1 iD t)])]:=by
  refine VU.mm (gO ?_);delta Sn;refine iE ?_;exact⟨[],by simp,oG⟩
 have h2:=h1.ZJ rfl rfl rfl;have h3:h_ Tryz.prog 138 [.d (ia sys),.d (gS 1 iD t)] [] 0 fun xx ss=>xx=.fn 155 [] [.ptr 3 0,.pv [gS 1 iD sys.1,gS 2 gP sys.2]]/\ss=(3,.obj 22 ([gS 1 iD t].map .d))::[]:=h2
 exact h3.ZJ rfl rfl rfl⟩
end Go.Proofs.YtjgbnaihpicpgaaGreatDoor
namespace Go.Proofs.YtjgbnaihpicpgaaGreatDoor
open Go lY
attribute [local irreducible] rA vi uM lW lP ng jX Ak Bj yP Bi yF tw lK nO A7 iG kj
set_option maxHeartbeats 4000000
set_option maxRecDepth 4000
def R3:gV:=
 (.seq (.gQ (sq 2 [bo 2 33 0]++sq 4 [.mv (.const (.slice none 0 0)),mb false])) (.seq (.gQ (sq 6 [.alloc 6 48 [.sl 0 (some true) []]])) (.seq (.gQ (sq 7 [.alloc 7 4 [.lit (.bool false)]]++s0 (.store 1 (t0 7) (.const (.bool false))))) (.seq (.seq (.gQ (sq 10 [la 2 2,mv 1,cf 138 [10,11]])) (.block 0 (.Dv (t0 12) [13,14] (.seq (.gQ (sq 8 [.alloc 8 95 [.lit (.int .i64 0),.lit (.int .i64 0),.sl 0 (some true) []]]++s0 (sr 3 8 13))) (.gQ (sq 9 [mv 14]))) (.block 1 (.seq (.gQ (sq 15 [mv 9])) (.cond (t0 15) (.gQ (sq 16 [ld 6,la 3 8,.pF 18 95 3 [(t0 17)],ap 19 95 3 40 16 18]++s0 (sr 1 6 19))) (.gQ (s0 (.store 1 (t0 7) (.const (.bool true))))))))))) (.seq (.draw (sq 20 [ld 6,ld 7]++sq 4 [mv 20,mv 21]) [[],[],[0,0],[1,2,0,1,2]]) .ret)))))
theorem VA:jV Tryz.prog 113 R3 22 [.tmp 4,.tmp 5]:=mf Tryz.func113 Tryz.ntmps113
def kI(els:(List (gr×Bool))):(Nat×gx×Bool)->Option ((Nat×gx×Bool)⊕(gx×Bool))
 |(jj,out,long)=>
  if jj<els.length then
   if(els.getD jj default).2=true then
    if(out.length+1)*40<=140737488355328 then
     some (.inl (jj+1,(out++[((els.getD jj default).1.1,(els.getD jj default).1.2.1,(els.getD jj default).1.2.2)]),long))
    else none
   else
    some (.inl (jj+1,out,true))
  else
   Option.map Sum.inr (
    some (out,long))
def oh(sys:gC)(t:gk):Option (gx×Bool):=
 (rM sys t).bind fun r=>
 (wo sys t).bind fun els=>
 g_ (kI els) (0,[],false)
instance Ka{sys:gC}{t:gk}:iH (oh sys t) fun rr=>oF Tryz.prog 113 [ia sys,(gS 1 iD) t] [(gS 3 iq) rr.1,bD rr.2]:=⟨@fun rr h=>by
 delta oh at h;refine VA.pG (gO ?_);delta R3;refine iE ?_;refine vf [] [] h fun r hr h=>?_
 obtain⟨els,hels,h⟩:=ai.1 h;refine T5 (xs:=els) h (Dp hels) 8 (fun pp=>[(2,.obj 33 [.d (gS 1 iD sys.1),.d (gS 2 gP sys.2)]),(6,.obj 48 [.own 3 19 (List.map iq pp.1)]),(7,.obj 4 [.d (bD pp.2)]),(19,.tok 95 3 pp.1.length)]) ?_ ?_ ?_
 ·try dsimp only
  refine(ij.wh 6 0 19 95 3 rfl rfl rfl).trans ?_;exact wk
 ·rintro jj ⟨out,long⟩ t1 hj h hb1;unfold kI at h;try dsimp only at h
  rw[ah hj]at h;refine iE ?_;refine it h (fun hc h=>?_) fun hc h=>?_
  ·refine jG h fun hp h=>?_
   cases h;refine⟨_,rfl,?_⟩;exact⟨_,(ij.drop 8 gN).trans ((ij.drop 18 gN).trans (wk (iG.refl _)))⟩
  cases h;refine⟨_,rfl,?_⟩;exact⟨_,(ij.drop 8 gN).trans (wk (iG.refl _))⟩
 ·rintro⟨out,long⟩ t1 h hb1;unfold kI at h;try dsimp only at h
  rw[ak (eB _)]at h;refine iE ?_;exact nr⟩
def lF(x:gI):D:=.agg [(gS 1 iD) x.1,(gS 3 iq) x.2]
def lG(x:gu):D:=.agg [(gS 1 iD) x.1,iD x.2.1,iD x.2.2.1,iD x.2.2.2.1,(gS 1 iD) x.2.2.2.2.1,iD x.2.2.2.2.2]
instance:sU lF 2:=⟨fun _=>rfl⟩
instance:sU lG 6:=⟨fun _=>rfl⟩
attribute [go_sem] lF lG
def R5:gV:=
 (.seq (.gQ (sq 2 [bo 2 133 0,mb false])) (.seq (.gQ (sq 4 [fa 0 2,ld 4,ld 1,cf 109 [5,6]]++sq 3 [mv 7])) .ret))
theorem VC:jV Tryz.prog 115 R5 8 [.tmp 3]:=mf Tryz.func115 Tryz.ntmps115
def rI(r:gu)(o0:gk):Option Bool:=
 (jb r.1 o0).bind fun r_1=>
 some r_1
instance Mc{r:gu}{o0:gk}:iH (rI r o0) fun rr=>h_ Tryz.prog 115 [.d (.agg [gS 1 iD r.1,iD r.2.1,iD r.2.2.1,iD r.2.2.2.1,gS 1 iD r.2.2.2.2.1,iD r.2.2.2.2.2]),.ptr 0 0] [(0,.obj 22 [.d (gS 1 iD o0)])] 1 fun xx ss=>xx=.d (bD rr)/\ss=[(0,.obj 22 [.d (gS 1 iD o0)])]:=⟨@fun rr h=>by
 delta rI at h;refine VC.mm (gO ?_);delta R5;refine iE ?_;refine rC h fun r_1 hr_1 h=>?_
 cases h;exact⟨[2],by simp,oG,oG⟩⟩
def R4:gV:=
 (.seq (.gQ (sq 4 [mi 0])) (.seq (.seq (.gQ (sq 6 [mv 0,ln 6,mi 0])) (.block 0 (.loop (.seq (.gQ (sq 9 [bn .lss 8 7])) (.seq (.cond (t0 9) .skip (.exit 0)) (.seq (.block 1 (.seq (.gQ (sq 10 [mv 8]++sq 5 [mv 10])) (.seq (.gQ (sq 11 [mv 1,mv 0,mv 5,ix 6 12 13,la 6 14,.mz (t0 11) [(t0 15)]])) (.cond (t0 16) (.seq (.gQ (sq 17 [mv 5]++sq 4 [mv 17])) .ret) .skip)))) (.gQ (sq 18 [bi .add 8 1]++sq 8 [mv 18])))))))) (.seq (.gQ (sq 4 [mi (-1)])) .ret)))
theorem VB:jV Tryz.prog 114 R4 19 [.tmp 4]:=mf Tryz.func114 Tryz.ntmps114
def iP(s:gJ)(o0:gk):Int->Option (Int⊕Int)
 |v8=>
  if(decide (v8<(s.length:Int)))=true then
   if 0<=v8/\v8<(s.length:Int)then
    (rI ((s.getD v8.toNat default).1,(s.getD v8.toNat default).2.1,(s.getD v8.toNat default).2.2.1,(s.getD v8.toNat default).2.2.2.1,(s.getD v8.toNat default).2.2.2.2.1,(s.getD v8.toNat default).2.2.2.2.2) o0).bind fun r=>
    if r=true then
     Option.map Sum.inr (
      some v8)
    else
     some (.inl (IntKind.i64.wrap (v8+1)))
   else none
  else
   Option.map Sum.inr (
    some (-1))
def iJ(s:gJ)(o0:gk):Option Int:=
 g_ (iP s o0) 0
instance vJ{s:gJ}{o0:gk}:iH (iJ s o0) fun rr=>h_ Tryz.prog 114 [.d (gS 6 lG s),.fn 115 [] [.ptr 0 0]] [(0,.obj 22 [.d (gS 1 iD o0)])] 1 fun xx ss=>xx=.d (iD rr)/\ss=[(0,.obj 22 [.d (gS 1 iD o0)])]:=⟨@fun rr h=>by
 delta iJ at h;refine VB.mm (gO ?_);delta R4;refine iE ?_;refine kT h [4,5,8,9,10,11,12,13,14,15,16,17,18] (fun pp=>[(8,.d (iD pp))]) (fun pp=>[(0,.obj 22 [.d (gS 1 iD o0)])]) ?_;rintro v8 t1 h hb1;unfold iP at h;try dsimp only at h
 refine gO (iE ?_);refine iT h fun hc h=>?_
 refine jG h fun hp h=>?_
 refine xN (by kernel_rfl) ?_;refine vf [(0,0)] [] h fun r hr h=>?_
 exact nr⟩
def Xi:gV:=
 (.seq (.gQ (sq 3 [bo 3 22 1,mi 0])) (.seq (.gQ (sq 5 [mv 0,.zS 115 [] [(t0 3)],cf 114 [5,6]]++sq 4 [mv 7])) .ret))
theorem Y1:jV Tryz.prog 82 Xi 8 [.tmp 4]:=mf Tryz.func82 Tryz.ntmps82
def qi(all:gJ)(t:gk):Option Int:=
 (iJ all t).bind fun r=>
 some r
instance Po{all:gJ}{t:gk}:iH (qi all t) fun rr=>jF Tryz.prog 82 [(gS 6 lG) all,(gS 1 iD) t] (iD rr):=⟨@fun rr h=>by
 delta qi at h;refine Y1.jf (gO ?_);delta Xi;refine iE ?_;refine vf [(0,3)] [] h fun r hr h=>?_
 exact nr⟩
def Xh:gV:=
 (.seq (.gQ (sq 3 [bo 3 33 0]++sq 6 [.mv (.const (.slice none 0 0)),mb false])) (.seq (.gQ (sq 14 [mv 1,cf 112 [14],.build [.sl 0 (some true) [],.lit (.int .i64 0),.lit (.int .i64 0),.lit (.int .i64 0),.sl 0 (some true) [],.lit (.int .i64 0)] [(0,1,(t0 15)),(1,1,(i0 (-1)))],.pF 17 133 6 [(t0 16)]]++sq 8 [mv 17])) (.seq (.seq (.gQ (sq 9 [mi 0])) (.block 0 (.loop (.seq (.seq (.gQ (sq 18 [mv 9,mv 8,ln 19,bn .lss 18 20])) (.cond (t0 21) .skip (.exit 0))) (.seq (.block 1 (.seq (.seq (.gQ (sq 24 [mv 8,mv 9,ix 6 24 25,fa 5 26,ld 27,mv 2,bn .eql 28 29])) (.cond (t0 30) (.exit 1) .skip)) (.seq (.draw (sq 32 [la 2 3,mv 8,mv 9,ix 6 33 34,fa 0 35,ld 36,cf 113 [32,37]]++sq 31 [mv 38]++sq 39 [ex 31 0,ex 31 1]++sq 10 [mv 39,mv 40]) [[],[],[],[1,2],[3],[4],[0,5],[6],[7],[7],[8,6,0,1,2,3,4,5,6,7,8],[9,10,0,1,2,3,4,5,6,7,8,9,10]]) (.seq (.gQ (sq 41 [mv 10,ln 41,mi 0])) (.block 2 (.loop (.seq (.gQ (sq 44 [bn .lss 43 42])) (.seq (.cond (t0 44) .skip (.exit 2)) (.seq (.block 3 (.seq (.gQ (sq 45 [ix 3 41 43,la 3 45]++sq 13 [.alloc 13 95 [.lit (.int .i64 0),.lit (.int .i64 0),.sl 0 (some true) []]]++s0 (sr 3 13 46))) (.seq (.seq (.gQ (sq 47 [mv 8,fa 2 13,ld 48,cf 82 [47,49],bi .geq 50 0])) (.cond (t0 51) (.exit 3) .skip)) (.seq (.seq (.gQ (sq 52 [mv 8,ln 52,bi .eql 53 60])) (.cond (t0 54) (.seq (.gQ (sq 55 [mv 8]++sq 6 [mv 55,mb false])) .ret) .skip)) (.draw (sq 56 [mv 8,fa 2 13,ld 57,mv 9,la 3 13,mv 8,mv 9,ix 6 61 62,fa 5 63,ld 64,bi .add 65 1,.build [.sl 0 (some true) [],.lit (.int .i64 0),.lit (.int .i64 0),.lit (.int .i64 0),.sl 0 (some true) [],.lit (.int .i64 0)] [(0,1,(t0 58)),(1,1,(t0 59)),(2,3,(t0 60)),(5,1,(t0 66))],.pF 68 133 6 [(t0 67)],ap 69 133 6 80 56 68]++sq 8 [mv 69]) [[],[],[1],[],[],[],[],[5,6],[7],[8],[9],[2,3,4,10],[11],[0,12],[13,13,0,1,2,3,4,5,6,7,8,9,10,11,12,13]]))))) (.gQ (sq 70 [bi .add 43 1]++sq 43 [mv 70]))))))))))) (.gQ (sq 22 [mv 9,bi .add 22 1]++sq 9 [mv 23]))))))) (.seq (.gQ (sq 71 [mv 8]++sq 6 [mv 71,mb true])) .ret))))
theorem Y0:jV Tryz.prog 81 Xh 72 [.tmp 6,.tmp 7]:=mf Tryz.func81 Tryz.ntmps81
def ny(k:Int)(r_1:(gx×Bool)):(gJ×Int)->Option ((gJ×Int)⊕((gJ×Int)⊕(gJ×Bool)))
 |(all_1,v43)=>
  if(decide (v43<(r_1.1.length:Int)))=true then
   if 0<=v43/\v43<(r_1.1.length:Int)then
    (qi all_1 ((r_1.1.getD v43.toNat default).2.2)).bind fun r_2=>
    if(decide (0<=r_2))=true then
     some (.inl (all_1,(IntKind.i64.wrap (v43+1))))
    else
     if((all_1.length:Int)==60)=true then
      Option.map Sum.inr (
       Option.map Sum.inr (
        some (all_1,false)))
     else
      if 0<=k/\k<(all_1.length:Int)then
       if(all_1.length+1)*80<=140737488355328 then
        some (.inl ((all_1++[((r_1.1.getD v43.toNat default).2.2,k,(r_1.1.getD v43.toNat default).1,(r_1.1.getD v43.toNat default).2.1,(r_1.1.getD v43.toNat default).2.2,(IntKind.i64.wrap ((all_1.getD k.toNat default).2.2.2.2.2+1)))]),(IntKind.i64.wrap (v43+1))))
       else none
      else none
   else none
  else
   Option.map Sum.inr (
    some (.inl (all_1,(IntKind.i64.wrap (k+1)))))
def lT(sys:gC)(steps:Int):(gJ×Int)->Option ((gJ×Int)⊕(gJ×Bool))
 |(all,k)=>
  if(decide (k<(all.length:Int)))=true then
   if 0<=k/\k<(all.length:Int)then
    if((all.getD k.toNat default).2.2.2.2.2==steps)=true then
     some (.inl (all,(IntKind.i64.wrap (k+1))))
    else
     if 0<=k/\k<(all.length:Int)then
      (oh sys ((all.getD k.toNat default).1)).bind fun r_1=>
      g_ (ny k r_1) (all,0)
     else none
   else none
  else
   Option.map Sum.inr (
    some (all,true))
def qk(sys:gC)(t:gk)(steps:Int):Option (gJ×Bool):=
 (iR t).bind fun r=>
 g_ (lT sys steps) ([(r,(-1),0,0,[],0)],0)
instance Pu{sys:gC}{t:gk}{steps:Int}:iH (qk sys t steps) fun rr=>oF Tryz.prog 81 [ia sys,(gS 1 iD) t,iD steps] [(gS 6 lG) rr.1,bD rr.2]:=⟨@fun rr h=>by
 delta qk at h;refine Y0.pG (gO ?_);delta Xh;refine iE ?_;refine rC h fun r hr h=>?_
 refine kT h [6,7,8,9,10,11,13,18,19,20,21,22,23,24,25,26,27,28,29,30,31,32,33,34,35,36,37,38,39,40,41,42,43,44,45,46,47,48,49,50,51,52,53,54,55,56,57,58,59,60,61,62,63,64,65,66,67,68,69,70] (fun pp=>[(8,.own 6 17 (List.map lG pp.1)),(9,.d (iD pp.2))]) (fun pp=>[(3,.obj 33 [.d (gS 1 iD sys.1),.d (gS 2 gP sys.2)]),(17,.tok 133 6 pp.1.length)]) ?_;rintro⟨all,k⟩ t1 h hb1;unfold lT at h;try dsimp only at h
 refine gO (iE ?_);refine iT h fun hc h=>?_
 refine jG h fun hp h=>?_
 refine iF h fun hc h=>?_
 refine jG h fun hp h=>?_
 refine Z7 h fun r_1 hr_1 h=>?_
 refine jy (by kernel_rfl) (iE ?_);refine kT h [6,7,8,13,43,44,45,46,47,48,49,50,51,52,53,54,55,56,57,58,59,60,61,62,63,64,65,66,67,68,69,70] (fun pp=>[(8,.own 6 17 (List.map lG pp.1)),(43,.d (iD pp.2))]) (fun pp=>[(3,.obj 33 [.d (gS 1 iD sys.1),.d (gS 2 gP sys.2)]),(17,.tok 133 6 pp.1.length)]) ?_;rintro⟨all_1,v43⟩ t2 h hb2;unfold ny at h;try dsimp only at h
 refine gO (iE ?_);refine iT h fun hc h=>?_
 refine jG h fun hp h=>?_
 refine rC h fun r_2 hr_2 h=>?_
 refine it h (fun hc h=>?_) fun hc h=>?_
 ·cases h;refine⟨_,rfl,?_⟩;refine(ij.drop 13 gN).trans ?_;exact wk
 refine iF h fun hc h=>?_
 refine jG h fun hp h=>?_
 refine jG h fun hp h=>?_
 refine jy (by kernel_rfl) (iE ?_);cases h;refine⟨_,rfl,?_⟩;refine(ij.drop 13 gN).trans ?_;refine(ij.drop 68 gN).trans ?_;exact wk⟩
def jq(_:gx):Option Unit:=some ()
theorem VD:jV Tryz.prog 116 (L2 139 48) 4 [.tmp 2]:=
 ⟨Tryz.f116,Tryz.func116,by kernel_rfl,Tryz.ntmps116,by kernel_rfl⟩
theorem VV:jV Tryz.prog 139 (Tu 3) 19 []:=
 ⟨Tryz.f139,Tryz.func139,by kernel_rfl,Tryz.ntmps139,by kernel_rfl⟩
theorem Vj(xs:gx):Iter Tryz.prog 139 [.pv [gS 3 iq xs]] (xm iq xs):=KA iq (fun _=>⟨_,rfl,rfl⟩) VV (by kernel_rfl) xs
instance ye{s:gx}:iH (jq s) fun _=>h_ Tryz.prog 116 [.d (gS 3 iq s)] [] 0 fun xx ss=>xx=.fn 139 [] [.pv [gS 3 iq s]]/\ss=[]:=⟨fun _=>G4 iq s VD⟩
def R7:gV:=
 (.seq (.gQ (sq 3 [bo 3 95 1])) (.draw (sq 4 [mv 0,mv 0,.nV (t0 5),fa 1 6,ld 7,fa 0 3,ld 9,fa 1 3,ld 11,fa 2 3,ld 13,cf 112 [14],.build [.lit (.int .i64 0),.lit (.int .i64 0),.sl 0 (some true) []] [(0,1,(t0 10)),(1,1,(t0 12)),(2,1,(t0 15))],.pF 17 95 3 [(t0 16)],ap 18 95 3 40 8 17,.nV (t0 4),fa 1 19]++s0 (sr 1 20 18)) [[],[],[1],[2],[3],[],[5],[],[7],[],[9],[10],[6,8,11],[12],[4,13,11],[0,0,1,2,3,4,5,6,7,8,9,10,11,12,13,14],[15,0,1,2,3,4,5,6,7,8,9,10,11,12,13,14],[16,14,14,0,1,2,3,4,5,6,7,8,9,10,11,12,13,14]]))
theorem VE:jV Tryz.prog 117 R7 21 []:=mf Tryz.func117 Tryz.ntmps117
def nu(s:gr)(w0:gk)(w1:gx):Option gx:=
 (iR s.2.2).bind fun r=>
 if(w1.length+1)*40<=140737488355328 then
  some (w1++[(s.1,s.2.1,r)])
 else none
instance Lq{s:gr}{w0:gk}{w1:gx}:iH (nu s w0 w1) fun rr=>h_ Tryz.prog 117 [.ptr 0 0,.d (.agg [iD s.1,iD s.2.1,gS 1 iD s.2.2])] [(0,.obj 50 [.d (gS 1 iD w0),.own 3 1 (List.map iq w1)]),(1,.tok 95 3 w1.length)] 2 fun xx ss=>xx=.lE []/\ss=[(0,.obj 50 [.d (gS 1 iD w0),.own 3 1 (List.map iq rr)]),(1,.tok 95 3 rr.length)]:=⟨@fun rr h=>by
 delta nu at h;refine VE.mm (gO ?_);delta R7;refine iE ?_;refine dC h fun r hr h=>?_
 refine jG h fun hp h=>?_
 refine jy (by kernel_rfl) (iE ?_);cases h;exact⟨[3,17],by simp,oG,oG⟩⟩
def Xj:gV:=
 (.seq (.gQ (sq 4 [.alloc 4 50 [.sl 0 (some true) [],.sl 0 (some true) []]])) (.seq (.gQ (sq 9 [mv 0,.tg 6 (t0 9) (i0 0),fa 0 10,ld 11,cf 112 [12],.build [.sl 0 (some true) [],.sl 0 (some true) []] [(0,1,(t0 13))]]++sq 5 [.alloc 5 50 [.sl 0 (some true) [],.sl 0 (some true) []]]++s0 (sr 2 5 14))) (.seq (.gQ (sq 6 [.mv (.const (.slice none 0 0))])) (.seq (.block 0 (.loop (.seq (.seq (.gQ (sq 15 [mv 1,bi .gtr 15 0])) (.cond (t0 16) .skip (.exit 0))) (.seq (.block 1 (.gQ (sq 22 [mv 6,mv 0,mv 1,ix 6 23 24,fa 2 25,la 3 26,.pF 28 95 3 [(t0 27)],ap 29 95 3 40 22 28]++sq 6 [mv 29]))) (.gQ (sq 17 [mv 0,mv 1,ix 6 17 18,fa 1 19,ld 20]++sq 1 [mv 21])))))) (.seq (.seq (.gQ (sq 30 [mv 6,cf 116 [30]])) (.block 2 (.Dv (t0 31) [32,33] (.gQ (sq 8 [.alloc 8 95 [.lit (.int .i64 0),.lit (.int .i64 0),.sl 0 (some true) []]]++s0 (sr 3 8 33))) (.block 3 (.gQ (sq 34 [la 3 8,cf 117 [5,34]])))))) (.seq (.gQ (sq 36 [la 2 5]++s0 (sr 2 4 36))) .ret))))))
theorem Y2:jV Tryz.prog 83 Xj 37 [.cell 4 2 true]:=mf Tryz.func83 Tryz.ntmps83
def kV(r:gk)(steps:gx):(Nat×gx)->Option ((Nat×gx)⊕gI)
 |(jj,w)=>
  if jj<steps.length then
   (nu ((steps.getD (steps.length-1-jj) default).1,(steps.getD (steps.length-1-jj) default).2.1,(steps.getD (steps.length-1-jj) default).2.2) r w).bind fun r_2=>
   some (.inl (jj+1,r_2))
  else
   Option.map Sum.inr (
    some (r,w))
def kU(all:gJ)(r:gk):(Int×gx)->Option ((Int×gx)⊕gI)
 |(k_1,steps)=>
  if(decide (0<k_1))=true then
   if 0<=k_1/\k_1<(all.length:Int)then
    if(steps.length+1)*40<=140737488355328 then
     if 0<=k_1/\k_1<(all.length:Int)then
      some (.inl ((all.getD k_1.toNat default).2.1,(steps++[((all.getD k_1.toNat default).2.2.1,(all.getD k_1.toNat default).2.2.2.1,(all.getD k_1.toNat default).2.2.2.2.1)])))
     else none
    else none
   else none
  else
   Option.map Sum.inr (
    (jq steps).bind fun r_1=>
    g_ (kV r steps) (0,[]))
def nA(all:gJ)(k:Int):Option gI:=
 if 0<=0/\0<(all.length:Int)then
  (iR ((all.getD 0 default).1)).bind fun r=>
  g_ (kU all r) (k,[])
 else none
instance Lv{all:gJ}{k:Int}:iH (nA all k) fun rr=>jF Tryz.prog 83 [(gS 6 lG) all,iD k] (lF rr):=⟨@fun rr h=>by
 delta nA at h;refine Y2.jf (gO ?_);delta Xj;refine iE ?_;refine jG h fun hp h=>?_
 refine rC h fun r hr h=>?_
 refine sW h [1,6,15,16,17,18,19,20,21,22,23,24,25,26,27,28,29] (fun pp=>[(1,.d (iD pp.1)),(6,.own 3 29 (List.map iq pp.2))]) (fun pp=>[(4,.obj 50 [.d (.sl 0 (some true) []),.d (.sl 0 (some true) [])]),(5,.obj 50 [.d (gS 1 iD r),.d (.sl 0 (some true) [])]),(29,.tok 95 3 pp.2.length)]) ?_ ?_
 ·try dsimp only
  refine(ij.Q9 6 29 95 3 rfl rfl).trans ?_;exact wk
 rintro⟨k_1,steps⟩ t1 h hb1;unfold kU at h;try dsimp only at h
 refine gO (iE ?_);refine it h (fun hc h=>?_) fun hc h=>?_
 ·refine jG h fun hp h=>?_
  refine jG h fun hp h=>?_
  refine jG h fun hp h=>?_
  cases h;refine⟨_,rfl,?_⟩;refine(ij.drop 28 gN).trans ?_;exact wk
 replace h:=jg h hb1;refine vf [] [] h fun r_1 hr_1 h=>?_
 refine T6 [6,30] ?_;refine Qf (enc:=iq) (e:=3) (xs:=steps) h (Vj _) 6 (fun pp=>[(4,.obj 50 [.d (.sl 0 (some true) []),.d (.sl 0 (some true) [])]),(5,.obj 50 [.d (gS 1 iD r),.own 3 300000 (List.map iq pp)]),(300000,.tok 95 3 pp.length)]) ?_ ?_ ?_
 ·try dsimp only
  refine(ij.drop 29 gN).trans ?_;refine(ij.wh 5 1 300000 95 3 rfl rfl rfl).trans ?_;exact wk
 ·rintro jj w t1 hj h hb1;unfold kV at h;try dsimp only at h
  rw[ah hj]at h;refine iE ?_;refine vf [(0,5),(1,300000)] [] h fun r_2 hr_2 h=>?_
  cases h;refine⟨_,rfl,?_⟩;exact⟨_,(ij.drop 8 gN).trans (wk (iG.refl _))⟩
 ·rintro w t1 h hb1;unfold kV at h;try dsimp only at h
  rw[ak (eB _)]at h;refine iE ?_;exact nr⟩
def WR:gV:=
 (.seq (.gQ (sq 4 [bo 4 33 0]++sq 8 [.alloc 8 50 [.sl 0 (some true) [],.sl 0 (some true) []],.alloc 9 50 [.sl 0 (some true) [],.sl 0 (some true) []],mb false])) (.seq (.gQ (sq 19 [la 2 4,mv 1,mv 3,cf 81 [19,20,21]]++sq 18 [mv 22]++sq 23 [ex 18 0,ex 18 1]++sq 11 [mv 23,mv 24])) (.seq (.gQ (sq 26 [la 2 4,mv 2,mv 3,cf 81 [26,27,28]]++sq 25 [mv 29]++sq 30 [ex 25 0,ex 25 1]++sq 13 [mv 30,mv 31])) (.seq (.seq (.gQ (sq 32 [mv 11,ln 32,mi 0])) (.block 0 (.loop (.seq (.gQ (sq 35 [bn .lss 34 33])) (.seq (.cond (t0 35) .skip (.exit 0)) (.seq (.block 1 (.seq (.gQ (sq 36 [mv 34,ix 6 32 34,la 6 37]++sq 16 [.alloc 16 133 [.sl 0 (some true) [],.lit (.int .i64 0),.lit (.int .i64 0),.lit (.int .i64 0),.sl 0 (some true) [],.lit (.int .i64 0)]]++sq 15 [mv 36]++s0 (sr 6 16 38))) (.seq (.gQ (sq 39 [mv 13,fa 0 16,ld 40,cf 82 [39,41]]++sq 17 [mv 42])) (.seq (.gQ (sq 43 [mv 17,bi .geq 43 0])) (.cond (t0 44) (.seq (.gQ (sq 45 [mv 11,mv 15,cf 83 [45,46],mv 13,mv 17,cf 83 [48,49]]++s0 (sr 2 8 47)++s0 (sr 2 9 50)++sq 10 [mb true])) .ret) .skip))))) (.gQ (sq 51 [bi .add 34 1]++sq 34 [mv 51])))))))) (.seq (.gQ (sq 52 [.build [.sl 0 (some true) [],.sl 0 (some true) []] [],.build [.sl 0 (some true) [],.sl 0 (some true) []] []]++s0 (sr 2 8 52)++s0 (sr 2 9 53)++sq 10 [mb false])) .ret)))))
theorem YI:jV Tryz.prog 48 WR 54 [.cell 8 2 true,.cell 9 2 true,.tmp 10]:=mf Tryz.func48 Tryz.ntmps48
def oe(r:(gJ×Bool))(r_1:(gJ×Bool)):Int->Option (Int⊕(gI×gI×Bool))
 |v34=>
  if(decide (v34<(r.1.length:Int)))=true then
   if 0<=v34/\v34<(r.1.length:Int)then
    (qi r_1.1 ((r.1.getD v34.toNat default).1)).bind fun r_2=>
    if(decide (0<=r_2))=true then
     (nA r.1 v34).bind fun r_3=>
     (nA r_1.1 r_2).bind fun r_4=>
     Option.map Sum.inr (
      some (r_3,r_4,true))
    else
     some (.inl (IntKind.i64.wrap (v34+1)))
   else none
  else
   Option.map Sum.inr (
    some (([],[]),([],[]),false))
def nI(sys:gC)(a:gk)(b:gk)(steps:Int):Option (gI×gI×Bool):=
 (qk sys a steps).bind fun r=>
 (qk sys b steps).bind fun r_1=>
 g_ (oe r r_1) 0
instance Fw{sys:gC}{a:gk}{b:gk}{steps:Int}:iH (nI sys a b steps) fun rr=>oF Tryz.prog 48 [ia sys,(gS 1 iD) a,(gS 1 iD) b,iD steps] [lF rr.1,lF rr.2.1,bD rr.2.2]:=⟨@fun rr h=>by
 delta nI at h;refine YI.pG (gO ?_);delta WR;refine iE ?_;refine QI h fun r hr h=>?_
 refine QI h fun r_1 hr_1 h=>?_
 refine kT h [10,15,16,17,34,35,36,37,38,39,40,41,42,43,44,45,46,47,48,49,50,51] (fun pp=>[(34,.d (iD pp))]) (fun pp=>[(4,.obj 33 [.d (gS 1 iD sys.1),.d (gS 2 gP sys.2)]),(8,.obj 50 [.d (.sl 0 (some true) []),.d (.sl 0 (some true) [])]),(9,.obj 50 [.d (.sl 0 (some true) []),.d (.sl 0 (some true) [])])]) ?_;rintro v34 t1 h hb1;unfold oe at h;try dsimp only at h
 refine gO (iE ?_);refine iT h fun hc h=>?_
 refine jG h fun hp h=>?_
 refine rC h fun r_2 hr_2 h=>?_
 refine iF h fun hc h=>?_
 cases h;refine⟨_,rfl,?_⟩;refine(ij.drop 16 gN).trans ?_;exact wk⟩
end Go.Proofs.YtjgbnaihpicpgaaGreatDoor
