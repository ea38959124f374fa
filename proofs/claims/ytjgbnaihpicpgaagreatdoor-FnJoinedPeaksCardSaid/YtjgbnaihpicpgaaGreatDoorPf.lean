/- A part of the proof about FnJoinedPeaks (G3, IT, G4). -/
import Derived.Test.YtjgbnaihpicpgaaGreatDoorPe
set_option linter.all false
noncomputable section
namespace Go.Proofs.YtjgbnaihpicpgaaGreatDoor
open Go mm
attribute [local irreducible] rj vP uV mz lN nj kj Au Bm zm Bl yp tF lM nc AJ iS kN
set_option maxHeartbeats 4000000
set_option maxRecDepth 4000
def iW(x:gy):D:=.agg [iD x.1,iD x.2.1,(ia 1 iD) x.2.2]
instance:wC iW 3:=⟨fun _=>rfl⟩
attribute [go_sem] iW
def TZ:ie:=
 (.seq (.h_ (sq 3 [bo 3 30 0]++sq 6 [mb false])) (.seq (.h_ (sq 10 [la 1 3,mv 1,mv 2,cf 152 [10,11,12]]++sq 9 [mv 13]++sq 14 [ex 9 0,ex 9 1]++sq 7 [.alloc 7 180 [.sl 0 (some true) []]]++s0 (sr 1 7 14)++sq 8 [mv 15])) (.seq (.h_ (sq 16 [mv 8]++sq 6 [mv 16])) .ret)))
theorem XD:kH Tryz.prog 164 TZ 17 [.tmp 6]:=mf Tryz.func164 Tryz.ntmps164
def rR(sig:gv)(p:gv)(t:gv):Option Bool:=
 (qK sig p t).bind fun r=>
 some r.2
instance MG{sig:gv}{p:gv}{t:gv}:iR (rR sig p t) fun rr=>jU Tryz.prog 164 [jd sig,(ia 1 iD) p,(ia 1 iD) t] (bD rr):=⟨@fun rr h=>by
 delta rR at h;refine XD.jC (gZ ?_);delta TZ;refine iN ?_;exact mA⟩
def TQ:ie:=
 (.seq (.h_ (sq 4 [bo 4 33 0]++sq 8 [mb false])) (.seq (.draw (sq 9 [fa 0 4,la 1 9,fa 1 4,ld 11,mv 3,ix 2 12 13,fa 0 14,ld 15,fa 0 4,la 1 17,mv 1,mv 2,cf 130 [18,19,20],cf 164 [10,16,21]]++sq 8 [mv 22]) [[],[0],[],[2],[],[3,4],[5],[6],[],[8],[],[],[9,10,11],[1,7,12,12],[13,13,0,1,2,3,4,5,6,7,8,9,10,11,12,13]]) .ret))
theorem Xt:kH Tryz.prog 156 TQ 23 [.tmp 8]:=mf Tryz.func156 Tryz.ntmps156
def sO(sys:gJ)(t:gv)(at':Int)(rule:Int):Option Bool:=
 if 0<=rule/\rule<(sys.2.length:Int)then
  (kg sys.1 t at').bind fun r=>
  (rR sys.1 ((sys.2.getD rule.toNat default).1) r).bind fun r_1=>
  some r_1
 else none
instance QK{sys:gJ}{t:gv}{at':Int}{rule:Int}:iR (sO sys t at' rule) fun rr=>jU Tryz.prog 156 [iA sys,(ia 1 iD) t,iD at',iD rule] (bD rr):=⟨@fun rr h=>by
 delta sO at h;refine Xt.jC (gZ ?_);delta TQ;refine iN ?_;exact mA⟩
def nR(n:Int):Option gv:=if 0<=n/\n*8<=140737488355328 then some []else none
instance D_{n:Int}:iR (nR n) fun rr=>iC Tryz.prog 147 [.d (.sl 0 (some true) []),.d (iD n)] [] 0 fun xx ss=>xx=.own 1 0 (List.map iD rr)/\ss=[(0,.tok 2 1 rr.length)]:=⟨fun h=>by
 obtain⟨hp,h⟩:=xo h;cases h;exact Og (i0:=Tryz.t2) (z:=_) Tryz.Re (by kernel_rfl) rfl (by decide) (by decide) (by decide) (by decide) hp.1 hp.2⟩
def Tx:ie:=
 (.seq (.h_ (sq 2 [.mv (.const (.slice none 0 0))])) (.seq (.h_ (sq 3 [mi 0])) (.seq (.seq (.h_ (sq 9 [mv 0,ln 9,mi 0])) (.block 0 (.loop (.seq (.h_ (sq 12 [bn .lss 11 10])) (.seq (.cond (t0 12) .skip (.exit 0)) (.seq (.block 1 (.seq (.h_ (sq 13 [ix 1 9 11,ld 13]++sq 5 [mv 14])) (.seq (.h_ (sq 15 [mv 3,mv 5,ln 16,bn .add 15 17]++sq 3 [mv 18])) (.seq (.h_ (sq 19 [mv 3,bi .lss 19 0])) (.cond (t0 20) (.h_ (sq 21 [.A3 9 (.const (.string {data:=#[108,101,110,32,111,117,116,32,111,102,32,114,97,110,103,101]}))]++s0 (.Eb (t0 21)))) .skip))))) (.h_ (sq 22 [bi .add 11 1]++sq 11 [mv 22])))))))) (.seq (.h_ (sq 23 [mv 3,.kA 147 [(.const (.slice none 0 0)),(t0 23)]]++sq 6 [mv 24])) (.seq (.seq (.h_ (sq 25 [mv 0,ln 25,mi 0])) (.block 2 (.loop (.seq (.h_ (sq 28 [bn .lss 27 26])) (.seq (.cond (t0 28) .skip (.exit 2)) (.seq (.block 3 (.seq (.h_ (sq 29 [ix 1 25 27,ld 29]++sq 8 [mv 30])) (.h_ (sq 31 [mv 6,mv 8,ap 33 2 1 8 31 32]++sq 6 [mv 33])))) (.h_ (sq 34 [bi .add 27 1]++sq 27 [mv 34])))))))) (.seq (.h_ (sq 35 [mv 6]++sq 2 [mv 35])) .ret))))))
theorem W9:kH Tryz.prog 131 Tx 36 [.tmp 2]:=mf Tryz.func131 Tryz.ntmps131
def lW(slices:gx):gH->Option gX
 |(newslice,v27)=>
  if(decide (v27<(slices.length:Int)))=true then
   if 0<=v27/\v27<(slices.length:Int)then
    if(newslice.length+(slices.getD v27.toNat default).length)*8<=140737488355328 then
     some (.inl ((newslice++(slices.getD v27.toNat default)),(IntKind.i64.wrap (v27+1))))
    else none
   else none
  else
   Option.map Sum.inr (
    some newslice)
def lV(slices:gx):gO->Option (gO⊕gv)
 |(size,v11)=>
  if(decide (v11<(slices.length:Int)))=true then
   if 0<=v11/\v11<(slices.length:Int)then
    if(decide ((IntKind.i64.wrap (size+((slices.getD v11.toNat default).length:Int)))<0))=true then
     none
    else
     some (.inl ((IntKind.i64.wrap (size+((slices.getD v11.toNat default).length:Int))),(IntKind.i64.wrap (v11+1))))
   else none
  else
   Option.map Sum.inr (
    (nR size).bind fun r=>
    iw (lW slices) (r,0))
def jI(slices:gx):Option gv:=
 iw (lV slices) (0,0)
instance CE{slices:gx}:iR (jI slices) fun rr=>iC Tryz.prog 131 [.d (ia 1 (ia 1 iD) slices)] [] 0 fun xx ss=>xx=.own 1 24 (List.map iD rr)/\ss=[(24,.tok 2 1 rr.length)]:=⟨@fun rr h=>by
 delta jI at h;refine W9.lO (gZ ?_);delta Tx;refine iN ?_;refine kT h [3,5,11,12,13,14,15,16,17,18,19,20,21,22] (fun pp=>[(3,.d (iD pp.1)),(11,.d (iD pp.2))]) (fun pp=>[]) ?_;rintro⟨size,v11⟩ t1 h hb1;unfold lV at h;try dsimp only at h
 refine gZ (iN ?_);refine iF h fun hc h=>?_
 replace h:=iZ h hb1;refine rB [] [(0,24)] h fun r hr h=>?_
 refine kT h [6,8,27,28,29,30,31,32,33,34] (fun pp=>[(6,.own 1 24 (List.map iD pp.1)),(27,.d (iD pp.2))]) (fun pp=>[(24,.tok 2 1 pp.1.length)]) ?_;rintro⟨newslice,v27⟩ t1 h hb1;unfold lW at h;try dsimp only at h
 refine gZ (iN ?_);exact mA⟩
def YK:ie:=
 (.seq (.h_ (sq 4 [bo 4 30 0]++sq 8 [.mv (.const (.slice none 0 0)),mb false])) (.seq (.draw (sq 11 [mv 1,mv 2,.slc (t0 11) 1 none (some (t0 12)) none,mv 3,mv 1,la 1 4,mv 1,mv 2,cf 127 [16,17,18],.slc (t0 15) 1 (some (t0 19)) none none,.mP 21 22 1 [(t0 13),(t0 14),(t0 20)],cf 131 [21]]++sq 10 [mv 22]) [[],[],[0,1],[],[],[],[],[],[5,6,7],[4,8],[2,3,9],[10,8],[11,11,0,1,2,3,4,5,6,7,8,9,10,11]]) (.seq (.seq (.h_ (sq 23 [mv 10,ln 23,bi .gtr 24 60])) (.cond (t0 25) (.seq (.h_ (sq 8 [.mv (.const (.slice none 0 0)),mb false])) .ret) .skip)) (.seq (.h_ (sq 26 [mv 10]++sq 8 [mv 26,mb true])) .ret))))
theorem aav:kH Tryz.prog 95 YK 27 [.tmp 8,.tmp 9]:=mf Tryz.func95 Tryz.ntmps95
def qv(sig:gv)(t:gv)(at':Int)(u:gv):Option gW:=
 if 0<=at'/\at'<=(t.length:Int)then
  (lz sig t at').bind fun r=>
  if 0<=r/\r<=(t.length:Int)then
   (jI [(t.take at'.toNat),u,(t.drop r.toNat)]).bind fun r_1=>
   if(decide (60<(r_1.length:Int)))=true then
    some ([],false)
   else
    some (r_1,true)
  else none
 else none
instance UG{sig:gv}{t:gv}{at':Int}{u:gv}:iR (qv sig t at' u) fun rr=>oH Tryz.prog 95 [jd sig,(ia 1 iD) t,iD at',(ia 1 iD) u] [(ia 1 iD) rr.1,bD rr.2]:=⟨@fun rr h=>by
 delta qv at h;refine aav.pg (gZ ?_);delta YK;refine iN ?_;refine j_ h fun hp h=>?_
 refine dC h fun r hr h=>?_
 refine j_ h fun hp h=>?_
 refine UL [] [(24,22)] h fun r_1 hr_1 h=>?_
 exact mA⟩
def TA:ie:=
 (.seq (.h_ (sq 4 [bo 4 33 0]++sq 8 [.mv (.const (.slice none 0 0)),mb false])) (.seq (.draw (sq 14 [fa 0 4,la 1 14,fa 1 4,ld 16,mv 3,ix 2 17 18,fa 0 19,ld 20,fa 0 4,la 1 22,mv 1,mv 2,cf 130 [23,24,25],cf 152 [15,21,26]]++sq 13 [mv 27]++sq 28 [ex 13 0,ex 13 1]++sq 10 [.alloc 10 180 [.sl 0 (some true) []]]++s0 (sr 1 10 28)++sq 11 [mv 29]) [[],[0],[],[2],[],[3,4],[5],[6],[],[8],[],[],[9,10,11],[1,7,12,12],[13],[14],[14],[],[17,15,13,0,1,2,3,4,5,6,7,8,9,10,11,12,13,14,15,17],[16,18,0,1,2,3,4,5,6,7,8,9,10,11,12,13,14,15,16,17,18]]) (.seq (.seq (.h_ (sq 30 [mv 11,nt 30])) (.cond (t0 31) (.seq (.h_ (sq 8 [.mv (.const (.slice none 0 0)),mb false])) .ret) .skip)) (.seq (.draw (sq 33 [la 1 10,fa 1 4,ld 34,mv 3,ix 2 35 36,fa 1 37,ld 38,cf 153 [33,39]]++sq 32 [mv 40]++sq 41 [ex 32 0,ex 32 1]++sq 12 [mv 41]++sq 11 [mv 42]) [[],[],[1],[],[2,3],[4],[5],[0,6],[7],[8],[8],[9,7,0,1,2,3,4,5,6,7,8,9],[10,11,0,1,2,3,4,5,6,7,8,9,10,11]]) (.seq (.seq (.h_ (sq 43 [mv 11,nt 43])) (.cond (t0 44) (.seq (.h_ (sq 8 [.mv (.const (.slice none 0 0)),mb false])) .ret) .skip)) (.seq (.h_ (sq 45 [fa 0 4,la 1 45,mv 1,mv 2,mv 12,cf 95 [46,47,48,49],ex 50 0,ex 50 1]++sq 8 [mv 51,mv 52])) .ret))))))
theorem Xb:kH Tryz.prog 135 TA 53 [.tmp 8,.tmp 9]:=mf Tryz.func135 Tryz.ntmps135
def sy(sys:gJ)(t:gv)(at':Int)(rule:Int):Option gW:=
 if 0<=rule/\rule<(sys.2.length:Int)then
  (kg sys.1 t at').bind fun r=>
  (qK sys.1 ((sys.2.getD rule.toNat default).1) r).bind fun r_1=>
  if r_1.2=true then
   if 0<=rule/\rule<(sys.2.length:Int)then
    (sx r_1.1 ((sys.2.getD rule.toNat default).2)).bind fun r_2=>
    if r_2.2=true then
     (qv sys.1 t at' r_2.1).bind fun r_3=>
     some r_3
    else
     some ([],false)
   else none
  else
   some ([],false)
 else none
instance SS{sys:gJ}{t:gv}{at':Int}{rule:Int}:iR (sy sys t at' rule) fun rr=>oH Tryz.prog 135 [iA sys,(ia 1 iD) t,iD at',iD rule] [(ia 1 iD) rr.1,bD rr.2]:=⟨@fun rr h=>by
 delta sy at h;refine Xb.pg (gZ ?_);delta TA;refine iN ?_;exact mA⟩
def Tt:ie:=
 (.seq (.h_ (sq 4 [bo 4 30 0]++sq 8 [.mv (.const (.slice none 0 0)),mb false])) (.seq (.h_ (sq 11 [mv 1,mv 2,.slc (t0 11) 1 none (some (t0 12)) none,cf 87 [13],mv 3,ap 16 2 1 8 14 15]++sq 10 [mv 16])) (.seq (.h_ (sq 17 [mv 10,mv 1,la 1 4,mv 1,mv 2,cf 118 [19,20,21],.slc (t0 18) 1 (some (t0 22)) none none,ap 24 2 1 8 17 23]++sq 10 [mv 24])) (.seq (.seq (.h_ (sq 25 [mv 10,ln 25,bi .gtr 26 60])) (.cond (t0 27) (.seq (.h_ (sq 28 [.mP 28 2 1 []]++sq 8 [mv 28,mb false])) .ret) .skip)) (.seq (.h_ (sq 29 [mv 10]++sq 8 [mv 29,mb true])) .ret)))))
theorem WX:kH Tryz.prog 122 Tt 30 [.tmp 8,.tmp 9]:=mf Tryz.func122 Tryz.ntmps122
def sX(sig:gv)(t:gv)(at':Int)(u:gv):Option gW:=
 if 0<=at'/\at'<=(t.length:Int)then
  (jo (t.take at'.toNat)).bind fun r=>
  if(r.length+u.length)*8<=140737488355328 then
   (ox sig t at').bind fun r_1=>
   if 0<=r_1/\r_1<=(t.length:Int)then
    if((r++u).length+(t.drop r_1.toNat).length)*8<=140737488355328 then
     if(decide (60<(((r++u)++(t.drop r_1.toNat)).length:Int)))=true then
      some ([],false)
     else
      some (((r++u)++(t.drop r_1.toNat)),true)
    else none
   else none
  else none
 else none
instance QU{sig:gv}{t:gv}{at':Int}{u:gv}:iR (sX sig t at' u) fun rr=>oH Tryz.prog 122 [jd sig,(ia 1 iD) t,iD at',(ia 1 iD) u] [(ia 1 iD) rr.1,bD rr.2]:=⟨@fun rr h=>by
 delta sX at h;refine WX.pg (gZ ?_);delta Tt;refine iN ?_;refine j_ h fun hp h=>?_
 refine rB [] [(3,14)] h fun r hr h=>?_
 exact mA⟩
def YD:ie:=
 (.seq (.h_ (sq 4 [bo 4 33 0]++sq 8 [.mv (.const (.slice none 0 0)),mb false])) (.seq (.h_ (sq 15 [fa 1 4,ld 15,mv 3,ix 2 16 17,la 2 18]++sq 10 [.alloc 10 81 [.sl 0 (some true) [],.sl 0 (some true) []]]++s0 (sr 2 10 19))) (.seq (.draw (sq 21 [fa 0 4,la 1 21,fa 0 10,ld 23,fa 0 4,la 1 25,mv 1,mv 2,cf 120 [26,27,28],cf 119 [22,24,29]]++sq 20 [mv 30]++sq 31 [ex 20 0,ex 20 1]++sq 11 [.alloc 11 180 [.sl 0 (some true) []]]++s0 (sr 1 11 31)++sq 12 [mv 32]) [[],[0],[],[2],[],[4],[],[],[5,6,7],[1,3,8,8],[9],[10],[10],[],[13,11,9,0,1,2,3,4,5,6,7,8,9,10,11,13],[12,14,0,1,2,3,4,5,6,7,8,9,10,11,12,13,14]]) (.seq (.seq (.h_ (sq 33 [mv 12,nt 33])) (.cond (t0 34) (.seq (.h_ (sq 35 [.mP 35 2 1 []]++sq 8 [mv 35,mb false])) .ret) .skip)) (.seq (.h_ (sq 37 [la 1 11,fa 1 10,ld 38,cf 121 [37,39]]++sq 36 [mv 40]++sq 41 [ex 36 0,ex 36 1]++sq 13 [mv 41,mv 42])) (.seq (.seq (.h_ (sq 43 [mv 14,nt 43])) (.cond (t0 44) (.seq (.h_ (sq 45 [.mP 45 2 1 []]++sq 8 [mv 45,mb false])) .ret) .skip)) (.seq (.h_ (sq 46 [fa 0 4,la 1 46,mv 1,mv 2,mv 13,cf 122 [47,48,49,50],ex 51 0,ex 51 1]++sq 8 [mv 52,mv 53])) .ret)))))))
theorem aao:kH Tryz.prog 86 YD 54 [.tmp 8,.tmp 9]:=mf Tryz.func86 Tryz.ntmps86
def pZ(sys:gJ)(t:gv)(at':Int)(rule:Int):Option gW:=
 if 0<=rule/\rule<(sys.2.length:Int)then
  (qT sys.1 t at').bind fun r=>
  (qB sys.1 ((sys.2.getD rule.toNat default).1) r).bind fun r_1=>
  if r_1.2=true then
   (oc r_1.1 ((sys.2.getD rule.toNat default).2)).bind fun r_2=>
   if r_2.2=true then
    (sX sys.1 t at' r_2.1).bind fun r_3=>
    some r_3
   else
    some ([],false)
  else
   some ([],false)
 else none
instance Qe{sys:gJ}{t:gv}{at':Int}{rule:Int}:iR (pZ sys t at' rule) fun rr=>oH Tryz.prog 86 [iA sys,(ia 1 iD) t,iD at',iD rule] [(ia 1 iD) rr.1,bD rr.2]:=⟨@fun rr h=>by
 delta pZ at h;refine aao.pg (gZ ?_);delta YD;refine iN ?_;exact mA⟩
def ql(sys:gJ)(t:gv)(at':Int):(gD×Int)->Option ((gD×Int)⊕((gD×Int)⊕gD))
 |(out_1,rule)=>
  if(decide (rule<(sys.2.length:Int)))=true then
   (pZ sys t at' rule).bind fun r=>
   if r.2=true then
    if(out_1.length+1)*40<=140737488355328 then
     some (.inl ((out_1++[(at',rule,r.1)]),(IntKind.i64.wrap (rule+1))))
    else none
   else
    some (.inl (out_1,(IntKind.i64.wrap (rule+1))))
  else
   Option.map Sum.inr (
    some (.inl (out_1,(IntKind.i64.wrap (at'+1)))))
def qk(sys:gJ)(t:gv):(gD×Int)->Option ((gD×Int)⊕gD)
 |(out,at')=>
  if(decide (at'<(t.length:Int)))=true then
   iw (ql sys t at') (out,0)
  else
   Option.map Sum.inr (
    some out)
def vA(sys:gJ)(t:gv):Option gD:=
 iw (qk sys t) ([],0)
end Go.Proofs.YtjgbnaihpicpgaaGreatDoor
namespace Go.Proofs.YtjgbnaihpicpgaaGreatDoor
open Go mm
attribute [local irreducible] rj vP uV mz lN nj kj Au Bm zm Bl yp tF lM nc AJ iS kN Cr
set_option maxHeartbeats 4000000
abbrev H7:=gv×List gz
abbrev yA:=gy×Bool
def ur(sys:H7)(t:gv)(at':Nat):Nat->Option (List yA)
 |0=>some []
 |k+1=>
  if(decide (t.getD at' default<0))=true then ur sys t at' k
  else
   (sO sys t (at':Int) ((sys.2.length-(k+1):Nat):Int)).bind fun r=>
   if r=true then
    (sy sys t (at':Int) ((sys.2.length-(k+1):Nat):Int)).bind fun v=>
    (ur sys t at' k).map fun l=>(((at':Int),((sys.2.length-(k+1):Nat):Int),v.1),v.2)::l
   else ur sys t at' k
def vL(sys:H7)(t:gv):Nat->Option (List yA)
 |0=>some []
 |k+1=>(ur sys t (t.length-(k+1)) sys.2.length).bind fun xs=>(vL sys t k).map fun ys=>xs++ys
def xF(sys:H7)(t:gv):Option (List yA):=vL sys t t.length
theorem Oh{P:Program}{l:Nat}{ms:List iJ}(pre post:List iJ)(d:Nat)(g:Operand)(args:List Operand){Q:tI}{env:List AV}{x:List D}{r:List (List D)}(hms:ms=pre++⟨some d,.ng g args,none⟩::post)
 (hpre:ue P 0 pre env [] (fun env' s'=>∃env1,iL 0 env' s' env1 []/\AV.i_ (fun _=>none) env1=env1/\ev env1 g=.d (.lit (.func (.yield l) #[] #[]))/\args.map (ev env1)=x.map .d/\
  ∀b,ue P 0 post (env1.set d (.d (bD b))) [] (fun env' s'=>∃env2,iL 0 env' s' env2 []/\AV.i_ (fun _=>none) env2=env2/\Q .normal env2 (if b then some r else none)))):Cr P l (.h_ ms) Q env (some (x::r)):=by
 subst hms;exact Kc hpre
def TP:ie:=
 (.seq (.h_ (sq 9 [ld 1,ln 9,mi 0])) (.block 0 (.loop (.seq (.h_ (sq 12 [bn .lss 11 10])) (.seq (.cond (t0 12) .skip (.exit 0)) (.seq (.block 1 (.seq (.h_ (sq 13 [mv 11,ix 1 9 11,ld 14]++sq 4 [mv 13,mv 15])) (.seq (.h_ (sq 16 [fa 1 2,ld 16,ln 17,mi 0])) (.block 2 (.loop (.seq (.h_ (sq 20 [bn .lss 19 18])) (.seq (.cond (t0 20) .skip (.exit 2)) (.seq (.block 3 (.seq (.h_ (sq 21 [mv 19]++sq 6 [mv 21])) (.seq (.seq (.h_ (sq 22 [mv 5,bi .lss 22 0,mv 23]++sg 24 false 25 [la 2 2,ld 1,mv 4,mv 6,cf 156 [25,26,27,28],nt 29]++sq 31 [po 24 30])) (.cond (t0 31) (.exit 3) .skip)) (.seq (.h_ (sq 33 [la 2 2,ld 1,mv 4,mv 6,cf 135 [33,34,35,36]]++sq 32 [mv 37]++sq 38 [ex 32 0,ex 32 1]++sq 7 [mv 38,mv 39])) (.seq (.h_ (sq 40 [mv 0,mv 4,mv 6,mv 7,.build [.lit (.int .i64 0),.lit (.int .i64 0),.sl 0 (some true) []] [(0,1,(t0 41)),(1,1,(t0 42)),(2,1,(t0 43))],mv 8,.ng (t0 40) [(t0 44),(t0 45)],nt 46])) (.cond (t0 47) .ret .skip)))))) (.h_ (sq 48 [bi .add 19 1]++sq 19 [mv 48])))))))))) (.h_ (sq 49 [bi .add 11 1]++sq 11 [mv 49]))))))))
theorem Xs:kH Tryz.prog 155 TP 50 []:=mf Tryz.func155 Tryz.ntmps155
def TD:ie:=
 (.seq (.h_ (sq 2 [bo 2 33 0,bo 3 22 1,.mv (.const .nilFunc)])) (.seq (.h_ (sq 5 [.A2 155 [] [(t0 3),(t0 2)]]++sq 4 [mv 5])) .ret))
theorem Xf:kH Tryz.prog 138 TD 6 [.tmp 4]:=mf Tryz.func138 Tryz.ntmps138
section
variable(sys:H7)(t:gv)(l:Nat)
def IV(at':Nat):List AV:=[.d (.lit (.func (.yield l) #[] #[])),.pv [ia 1 iD t],.pv [ia 1 iD sys.1,ia 2 g_ sys.2]]++List.replicate 6 .ig++[.d (ia 1 iD t),.d (iD (t.length:Int)),.d (iD (at':Int))]++List.replicate 38 .ig
def EN(at' rule:Nat):List AV:=[.d (.lit (.func (.yield l) #[] #[])),.pv [ia 1 iD t],.pv [ia 1 iD sys.1,ia 2 g_ sys.2],.ig,.d (iD (at':Int)),.d (iD (t.getD at' default)),.ig,.ig,.ig,.d (ia 1 iD t),.d (iD (t.length:Int)),.d (iD (at':Int))]++List.replicate 5 .ig++[.d (ia 2 g_ sys.2),.d (iD (sys.2.length:Int)),.d (iD (rule:Int))]++List.replicate 30 .ig
def V6(at' rule:Nat):List AV:=[.d (.lit (.func (.yield l) #[] #[])),.pv [ia 1 iD t],.pv [ia 1 iD sys.1,ia 2 g_ sys.2],.ig,.d (iD (at':Int)),.d (iD (t.getD at' default)),.d (iD (rule:Int)),.ig,.ig,.d (ia 1 iD t),.d (iD (t.length:Int)),.d (iD (at':Int))]++List.replicate 5 .ig++[.d (ia 2 g_ sys.2),.d (iD (sys.2.length:Int)),.d (iD (rule:Int))]++List.replicate 30 .ig
def it8(at' rule:Nat)(v:gv×Bool):List AV:=[.d (.lit (.func (.yield l) #[] #[])),.pv [ia 1 iD t],.pv [ia 1 iD sys.1,ia 2 g_ sys.2],.ig,.d (iD (at':Int)),.d (iD (t.getD at' default)),.d (iD (rule:Int)),.d (ia 1 iD v.1),.d (bD v.2),.d (ia 1 iD t),.d (iD (t.length:Int)),.d (iD (at':Int))]++List.replicate 5 .ig++[.d (ia 2 g_ sys.2),.d (iD (sys.2.length:Int)),.d (iD (rule:Int))]++List.replicate 30 .ig
def itY(at' rule:Nat)(v:gv×Bool):List AV:=[.d (.lit (.func (.yield l) #[] #[])),.pv [ia 1 iD t],.pv [ia 1 iD sys.1,ia 2 g_ sys.2],.ig,.d (iD (at':Int)),.d (iD (t.getD at' default)),.ig,.ig,.ig,.d (ia 1 iD t),.d (iD (t.length:Int)),.d (iD (at':Int))]++List.replicate 5 .ig++[.d (ia 2 g_ sys.2),.d (iD (sys.2.length:Int)),.d (iD (rule:Int))]++List.replicate 20 .ig++[.d (.lit (.func (.yield l) #[] #[])),.ig,.ig,.ig,.d (iW ((at':Int),(rule:Int),v.1)),.d (bD v.2)]++List.replicate 4 .ig
def itB(at' rule:Nat)(b:Bool):List AV:=[.d (.lit (.func (.yield l) #[] #[])),.pv [ia 1 iD t],.pv [ia 1 iD sys.1,ia 2 g_ sys.2],.ig,.d (iD (at':Int)),.d (iD (t.getD at' default)),.ig,.ig,.ig,.d (ia 1 iD t),.d (iD (t.length:Int)),.d (iD (at':Int))]++List.replicate 5 .ig++[.d (ia 2 g_ sys.2),.d (iD (sys.2.length:Int)),.d (iD (rule:Int))]++List.replicate 27 .ig++[.d (bD (!b)),.ig,.ig]
end
theorem Eo{sys:H7}{t:gv}{els:List yA}(h0:xF sys t=some els):Iter Tryz.prog 155 [.pv [ia 1 iD t],.pv [ia 1 iD sys.1,ia 2 g_ sys.2]] (els.map fun x=>[iW x.1,bD x.2]):=by
 refine Fy Xs (by kernel_rfl) rfl fun l=>Dy (p:=t.length<2^63) (fun X a W hst=>by have:=DT (i:=1) (cs1:=[]) (cs2:=[]) (ds:=t.map iD) (e:=1) (nl:=none) hst rfl;simpa using this) fun hlen=>?_
 refine Dy (p:=sys.2.length<2^63) (fun X a W hst=>by have:=DT (i:=2) (cs1:=[ia 1 iD sys.1]) (cs2:=[]) (ds:=sys.2.map g_) (e:=2) (nl:=none) hst rfl;simpa using this) fun hlen2=>?_
 delta TP;refine kZ (jJ rfl (gZ ?_));show rj _ _ _ _ ([.d (.lit (.func (.yield l) #[] #[])),.pv [ia 1 iD t],.pv [ia 1 iD sys.1,ia 2 g_ sys.2]]++List.replicate 47 .ig) [];refine iN ?_;refine⟨IV sys t l 0,(by delta IV;exact wk),rfl,rY ?_⟩;refine BM (ι:=Nat×List yA) (fun p=>IV sys t l p.1) (fun p=>some (p.2.map fun x=>[iW x.1,bD x.2])) (fun p=>p.1<=t.length/\vL sys t (t.length-p.1)=some p.2) (fun p=>t.length-p.1) (0,els) ⟨cZ _,h0⟩ .refl (fun _=>rfl) ?_;rintro⟨at',r⟩ ⟨hat,h⟩;simp only at hat h⊢;refine kZ (jJ rfl (gZ ?_));delta IV;by_cases hlt:at'<t.length
 rotate_left
 ·have hc:decide ((at':Int)<(t.length:Int))=false:=by simpa using hlt
  refine rz hc ?_;refine⟨[.d (.lit (.func (.yield l) #[] #[])),.pv [ia 1 iD t],.pv [ia 1 iD sys.1,ia 2 g_ sys.2]]++List.replicate 6 .ig++[.d (ia 1 iD t),.d (iD (t.length:Int)),.d (iD (at':Int)),.d (bD false)]++List.replicate 37 .ig,wk,rfl,kZ (jJ rfl (gZ ?_))⟩;refine iN ?_;have:at'=t.length:=by omega
  subst this;rw[cM]at h;cases h;exact⟨IV sys t l t.length,(by delta IV;exact wk),rfl,.inl rfl,.inl rfl⟩
 have hc:decide ((at':Int)<(t.length:Int))=true:=by simpa using hlt
 refine rz hc ?_;refine⟨[.d (.lit (.func (.yield l) #[] #[])),.pv [ia 1 iD t],.pv [ia 1 iD sys.1,ia 2 g_ sys.2]]++List.replicate 6 .ig++[.d (ia 1 iD t),.d (iD (t.length:Int)),.d (iD (at':Int)),.d (bD true)]++List.replicate 37 .ig,wk,rfl,kZ (jJ rfl (gZ ?_))⟩;refine iN ?_;refine⟨IV sys t l at',(by delta IV;exact wk),rfl,?_⟩;obtain⟨k0,hk0⟩:∃k0,t.length-at'=k0+1:=⟨t.length-at'-1,gY⟩;rw[hk0]at h;simp only[vL]at h;rw[show t.length-(k0+1)=at' by omega]at h;obtain⟨xs,hxs,h⟩:=au.1 h;obtain⟨rest,hrest,hr⟩:=az.1 h;subst hr;clear h;refine kZ (rY (kZ (jJ rfl (gZ ?_))));delta IV;refine iN ?_;repeat(refine yW gY ?_;refine iN ?_)
 refine⟨[.d (.lit (.func (.yield l) #[] #[])),.pv [ia 1 iD t],.pv [ia 1 iD sys.1,ia 2 g_ sys.2],.ig,.d (iD (at':Int)),.d (iD (t.getD at' default)),.ig,.ig,.ig,.d (ia 1 iD t),.d (iD (t.length:Int)),.d (iD (at':Int))]++List.replicate 38 .ig,wk,rfl,kZ (jJ rfl (gZ ?_))⟩;refine iN ?_;refine⟨EN sys t l at' 0,(by delta EN;exact wk),rfl,rY ?_⟩;refine BM (ι:=Nat×List yA) (fun p=>EN sys t l at' p.1) (fun p=>some ((fun p:Nat×List yA=>(p.2++rest).map fun x=>[iW x.1,bD x.2]) p)) (fun p=>p.1<=sys.2.length/\ur sys t at' (sys.2.length-p.1)=some p.2) (fun p=>sys.2.length-p.1) (0,xs) ⟨cZ _,hxs⟩ .refl (fun _=>rfl) ?_;clear hxs;rintro⟨rule,ys⟩ ⟨hru,h⟩;simp only at hru h⊢;refine kZ (jJ rfl (gZ ?_));delta EN;by_cases hlr:rule<sys.2.length
 rotate_left
 ·have hc:decide ((rule:Int)<(sys.2.length:Int))=false:=by simpa using hlr
  refine rz hc ?_;refine⟨[.d (.lit (.func (.yield l) #[] #[])),.pv [ia 1 iD t],.pv [ia 1 iD sys.1,ia 2 g_ sys.2],.ig,.d (iD (at':Int)),.d (iD (t.getD at' default)),.ig,.ig,.ig,.d (ia 1 iD t),.d (iD (t.length:Int)),.d (iD (at':Int))]++List.replicate 5 .ig++[.d (ia 2 g_ sys.2),.d (iD (sys.2.length:Int)),.d (iD (rule:Int)),.d (bD false)]++List.replicate 29 .ig,wk,rfl,kZ (jJ rfl (gZ ?_))⟩;refine iN ?_;have:rule=sys.2.length:=by omega
  subst this;rw[cM]at h;cases h;refine⟨IV sys t l at',(by delta IV;exact wk),rfl,?_⟩;show Cr _ _ _ _ _ _;refine jJ rfl (gZ ?_);delta IV;refine iN ?_;have hw1:IntKind.i64.wrap ((at':Int)+1)=((at'+1:Nat):Int):=by rw[wrap_i64 gY gY];omega
  rw[hw1];refine⟨IV sys t l (at'+1),(by delta IV;exact wk),rfl,(at'+1,rest),⟨⟨gY,?_⟩,by simp only;omega⟩,.refl,rfl⟩;simp only;rw[show t.length-(at'+1)=k0 by omega];exact hrest
 have hc:decide ((rule:Int)<(sys.2.length:Int))=true:=by simpa using hlr
 refine rz hc ?_;refine⟨[.d (.lit (.func (.yield l) #[] #[])),.pv [ia 1 iD t],.pv [ia 1 iD sys.1,ia 2 g_ sys.2],.ig,.d (iD (at':Int)),.d (iD (t.getD at' default)),.ig,.ig,.ig,.d (ia 1 iD t),.d (iD (t.length:Int)),.d (iD (at':Int))]++List.replicate 5 .ig++[.d (ia 2 g_ sys.2),.d (iD (sys.2.length:Int)),.d (iD (rule:Int)),.d (bD true)]++List.replicate 29 .ig,wk,rfl,kZ (jJ rfl (gZ ?_))⟩;refine iN ?_;refine⟨EN sys t l at' rule,(by delta EN;exact wk),rfl,?_⟩;obtain⟨k1,hk1⟩:∃k1,sys.2.length-rule=k1+1:=⟨sys.2.length-rule-1,gY⟩;rw[hk1]at h;simp only[ur]at h;rw[show sys.2.length-(k1+1)=rule by omega]at h;have hnext:∀ys',ur sys t at' k1=some ys'->∀env1,iL 0 env1 [] (EN sys t l at' rule) []->Cr Tryz.prog l (.h_ (sq 48 [bi .add 19 1]++sq 19 [mv 48])) (Kg (fun p:Nat×List yA=>EN sys t l at' p.1) (fun p:Nat×List yA=>some ((fun p:Nat×List yA=>(p.2++rest).map fun x=>[iW x.1,bD x.2]) p)) (fun i':Nat×List yA=>(i'.1<=sys.2.length/\ur sys t at' (sys.2.length-i'.1)=some i'.2)/\sys.2.length-i'.1<sys.2.length-rule) (Oj 2 (Oj 1 (XJ Tryz.prog l (.h_ (sq 49 [bi .add 11 1]++sq 11 [mv 49])) (Kg (fun p:Nat×List yA=>IV sys t l p.1) (fun p:Nat×List yA=>some (p.2.map fun x=>[iW x.1,bD x.2])) (fun i':Nat×List yA=>(i'.1<=t.length/\vL sys t (t.length-i'.1)=some i'.2)/\t.length-i'.1<t.length-at') (Oj 0 fun e env' r=>(e=.normal\/e=.ret)/\(r=some []\/r=none))))))) env1 (some ((ys'++rest).map fun x=>[iW x.1,bD x.2])):=fun ys' hys' env1 hw=>by
  refine IM hw rfl (jJ rfl (gZ ?_));delta EN;refine iN ?_;have hw1:IntKind.i64.wrap ((rule:Int)+1)=((rule+1:Nat):Int):=by rw[wrap_i64 gY gY];omega
  rw[hw1];refine⟨EN sys t l at' (rule+1),(by delta EN;exact wk),rfl,(rule+1,ys'),⟨⟨gY,?_⟩,by simp only;omega⟩,.refl,rfl⟩;simp only;rw[show sys.2.length-(rule+1)=k1 by omega];exact hys'
 refine kZ (rY (kZ (jJ rfl (gZ ?_))));delta EN;refine iN ?_;refine⟨V6 sys t l at' rule,(by delta V6;exact wk),rfl,kZ (jJ rfl (gZ ?_))⟩;delta V6;by_cases hneg:t.getD at' default<0
 ·have hc:decide (t.getD at' default<0)=true:=by simpa using hneg
  simp only[hc,aC]at h;refine rz hc ?_;exact⟨EN sys t l at' rule,(by delta EN;exact wk),rfl,hnext ys h _ .refl⟩
 have hc:decide (t.getD at' default<0)=false:=by simpa using hneg
 simp only[hc,aj,aE]at h;refine rz hc ?_;refine rC h fun b hb h=>?_
 cases b with
 |false=>
  simp only[aj,aE]at h;refine iN ?_;exact⟨EN sys t l at' rule,(by delta EN;exact wk),rfl,hnext ys h _ .refl⟩
 |true=>
 simp only[aC]at h;refine iN ?_;refine⟨V6 sys t l at' rule,(by delta V6;exact wk),rfl,kZ (jJ rfl (gZ ?_))⟩;delta V6;refine iN ?_;refine R8 h fun v hv h=>?_
 obtain⟨ys',hys',hy⟩:=az.1 h;subst hy;refine⟨it8 sys t l at' rule v,(by delta it8;exact wk),rfl,kZ (Oh (sq 40 [mv 0,mv 4,mv 6,mv 7,.build [.lit (.int .i64 0),.lit (.int .i64 0),.sl 0 (some true) []] [(0,1,(t0 41)),(1,1,(t0 42)),(2,1,(t0 43))],mv 8]) (sq 47 [nt 46]) 46 (t0 40) [(t0 44),(t0 45)] rfl (oA ?_))⟩;delta it8;refine iN ?_;refine⟨itY sys t l at' rule v,(by delta itY;exact wk),rfl,rfl,rfl,fun b=>oA ?_⟩;delta itY;refine iN ?_;refine⟨itB sys t l at' rule b,(by delta itB;exact wk),rfl,jJ rfl (gZ ?_)⟩;delta itB;cases b with
 |false=>refine iN ?_;exact⟨EN sys t l at' rule,(by delta EN;exact wk),rfl,.inr rfl,.inr rfl⟩
 |true=>refine iN ?_;exact⟨EN sys t l at' rule,(by delta EN;exact wk),rfl,hnext ys' hys' _ .refl⟩
def sP(sys:H7)(t:gv):Option Unit:=some ()
instance JZ{sys:H7}{t:gv}:iR (sP sys t) fun _=>iC Tryz.prog 138 [.d (iA sys),.d (ia 1 iD t)] [] 0 fun xx ss=>xx=.fn 155 [] [.pv [ia 1 iD t],.pv [ia 1 iD sys.1,ia 2 g_ sys.2]]/\ss=[]:=⟨@fun rr h=>by
 have h1:iC Tryz.prog 138 [.d (iA sys),.d (ia 1 iD t)] [] 0 fun xx ss=>xx=.fn 155 [] [.ptr 3 0,.ptr 2 0]/\ss=(2,.obj 33 ([ia 1 iD sys.1,ia 2 g_ sys.2].map .d))::[(3,.obj 22 [.d (ia 1 iD t)])]:=by
  refine Xf.lO (gZ ?_);delta TD;refine iN ?_;exact⟨[],by simp,mT⟩
 have h2:=h1.pvs rfl rfl rfl;have h3:iC Tryz.prog 138 [.d (iA sys),.d (ia 1 iD t)] [] 0 fun xx ss=>xx=.fn 155 [] [.ptr 3 0,.pv [ia 1 iD sys.1,ia 2 g_ sys.2]]/\ss=(3,.obj 22 ([ia 1 iD t].map .d))::[]:=h2
 exact h3.pvs rfl rfl rfl⟩
end Go.Proofs.YtjgbnaihpicpgaaGreatDoor
namespace Go.Proofs.YtjgbnaihpicpgaaGreatDoor
open Go mm
attribute [local irreducible] rj vP uV mz lN nj kj Au Bm zm Bl yp tF lM nc AJ iS kN
set_option maxHeartbeats 4000000
set_option maxRecDepth 4000
def Tk:ie:=
 (.seq (.h_ (sq 2 [bo 2 33 0]++sq 4 [.mv (.const (.slice none 0 0)),mb false])) (.seq (.h_ (sq 6 [.alloc 6 48 [.sl 0 (some true) []]])) (.seq (.h_ (sq 7 [.alloc 7 4 [.lit (.bool false)]]++s0 (.store 1 (t0 7) (.const (.bool false))))) (.seq (.seq (.h_ (sq 10 [la 2 2,mv 1,cf 138 [10,11]])) (.block 0 (.Es (t0 12) [13,14] (.seq (.h_ (sq 8 [.alloc 8 95 [.lit (.int .i64 0),.lit (.int .i64 0),.sl 0 (some true) []]]++s0 (sr 3 8 13))) (.h_ (sq 9 [mv 14]))) (.block 1 (.seq (.h_ (sq 15 [mv 9])) (.cond (t0 15) (.h_ (sq 16 [ld 6,la 3 8,.mP 18 95 3 [(t0 17)],ap 19 95 3 40 16 18]++s0 (sr 1 6 19))) (.h_ (s0 (.store 1 (t0 7) (.const (.bool true))))))))))) (.seq (.draw (sq 20 [ld 6,ld 7]++sq 4 [mv 20,mv 21]) [[],[],[0,0],[1,2,0,1,2]]) .ret)))))
theorem WN:kH Tryz.prog 113 Tk 22 [.tmp 4,.tmp 5]:=mf Tryz.func113 Tryz.ntmps113
def lH(els:(List (gy×Bool))):(Nat×gD×Bool)->Option ((Nat×gD×Bool)⊕(gD×Bool))
 |(jj,out,long)=>
  if jj<els.length then
   if(els.getD jj default).2=true then
    if(out.length+1)*40<=140737488355328 then
     some (.inl (jj+1,(out++[((els.getD jj default).1.1,(els.getD jj default).1.2.1,(els.getD jj default).1.2.2)]),long))
    else none
   else
    some (.inl (jj+1,out,true))
  else
   Option.map Sum.inr (
    some (out,long))
def oO(sys:gJ)(t:gv):Option (gD×Bool):=
 (sP sys t).bind fun r=>
 (xF sys t).bind fun els=>
 iw (lH els) (0,[],false)
instance Li{sys:gJ}{t:gv}:iR (oO sys t) fun rr=>oH Tryz.prog 113 [iA sys,(ia 1 iD) t] [(ia 3 iW) rr.1,bD rr.2]:=⟨@fun rr h=>by
 delta oO at h;refine WN.pg (gZ ?_);delta Tk;refine iN ?_;refine rB [] [] h fun r hr h=>?_
 obtain⟨els,hels,h⟩:=au.1 h;refine Vd (xs:=els) h (Eo hels) 8 (fun pp=>[(2,.obj 33 [.d (ia 1 iD sys.1),.d (ia 2 g_ sys.2)]),(6,.obj 48 [.own 3 19 (List.map iW pp.1)]),(7,.obj 4 [.d (bD pp.2)]),(19,.tok 95 3 pp.1.length)]) ?_ ?_ ?_
 ·try dsimp only
  refine(iL.xC 6 0 19 95 3 rfl rfl rfl).trans ?_;exact wk
 ·rintro jj ⟨out,long⟩ t1 hj h hb1;unfold lH at h;try dsimp only at h
  rw[ah hj]at h;refine iN ?_;refine it h (fun hc h=>?_) fun hc h=>?_
  ·refine j_ h fun hp h=>?_
   cases h;refine⟨_,rfl,?_⟩;exact⟨_,(iL.drop 8 gY).trans ((iL.drop 18 gY).trans (wk (iS.refl _)))⟩
  cases h;refine⟨_,rfl,?_⟩;exact⟨_,(iL.drop 8 gY).trans (wk (iS.refl _))⟩
 ·rintro⟨out,long⟩ t1 h hb1;unfold lH at h;try dsimp only at h
  rw[ak (eH _)]at h;refine iN ?_;exact mA⟩
end Go.Proofs.YtjgbnaihpicpgaaGreatDoor
