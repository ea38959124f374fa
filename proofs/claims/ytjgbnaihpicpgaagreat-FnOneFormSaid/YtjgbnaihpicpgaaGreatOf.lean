/- A part of the proof about FnOneForm (G3, IT, G4). -/
import Derived.Test.YtjgbnaihpicpgaaGreatOe
set_option linter.all false
noncomputable section
namespace Go.Proofs.YtjgbnaihpicpgaaGreat
open Go ng
attribute [local irreducible] uh wo vz mL mC ot kQ Be Cb zM Ca zD uj mu og BY iY lg
set_option maxHeartbeats 4000000
set_option maxRecDepth 4000
def nT(x:gF):D:=.agg [iD x.1,iD x.2.1,(iq 1 iD) x.2.2]
instance:xd nT 3:=⟨fun _=>rfl⟩
attribute [go_sem] nT
def TT:ir:=
 (.seq (.ie (sq 3 [bo 3 29 0]++sq 6 [mb false])) (.seq (.ie (sq 10 [la 1 3,mv 1,mv 2,cf 156 [10,11,12]]++sq 9 [mv 13]++sq 14 [ex 9 0,ex 9 1]++sq 7 [.alloc 7 171 [.sl 0 (some true) []]]++s0 (sr 1 7 14)++sq 8 [mv 15])) (.seq (.ie (sq 16 [mv 8]++sq 6 [mv 16])) .ret)))
theorem Xw:kS Tryz.prog 229 TT 17 [.tmp 6]:=mf Tryz.func229 Tryz.ntmps229
def rO(sig:gB)(p:gB)(t:gB):Option Bool:=
 (qG sig p t).bind fun r=>
 some r.2
instance Ml{sig:gB}{p:gB}{t:gB}:iU (rO sig p t) fun rr=>jW Tryz.prog 229 [jy sig,(iq 1 iD) p,(iq 1 iD) t] (bD rr):=⟨@fun rr h=>by
 delta rO at h;refine Xw.jz (ia ?_);delta TT;refine iR ?_;exact lP⟩
def TN:ir:=
 (.seq (.ie (sq 4 [bo 4 32 0]++sq 8 [mb false])) (.seq (.draw (sq 9 [fa 0 4,la 1 9,fa 1 4,ld 11,mv 3,ix 2 12 13,fa 0 14,ld 15,fa 0 4,la 1 17,mv 1,mv 2,cf 95 [18,19,20],cf 229 [10,16,21]]++sq 8 [mv 22]) [[],[0],[],[2],[],[3,4],[5],[6],[],[8],[],[],[9,10,11],[1,7,12,12],[13,13,0,1,2,3,4,5,6,7,8,9,10,11,12,13]]) .ret))
theorem Xq:kS Tryz.prog 212 TN 23 [.tmp 8]:=mf Tryz.func212 Tryz.ntmps212
def sM(sys:gR)(t:gB)(iS:Int)(rule:Int):Option Bool:=
 if 0<=rule/\rule<(sys.2.length:Int)then
  (jX sys.1 t iS).bind fun r=>
  (rO sys.1 ((sys.2.getD rule.toNat default).1) r).bind fun r_1=>
  some r_1
 else none
instance Qu{sys:gR}{t:gB}{iS:Int}{rule:Int}:iU (sM sys t iS rule) fun rr=>jW Tryz.prog 212 [iC sys,(iq 1 iD) t,iD iS,iD rule] (bD rr):=⟨@fun rr h=>by
 delta sM at h;refine Xq.jz (ia ?_);delta TN;refine iR ?_;exact lP⟩
def nO(n:Int):Option gB:=if 0<=n/\n*8<=140737488355328 then some []else none
instance D2{n:Int}:iU (nO n) fun rr=>iH Tryz.prog 219 [.d (.sl 0 (some true) []),.d (iD n)] [] 0 fun xx ss=>xx=.own 1 0 (List.map iD rr)/\ss=[(0,.tok 2 1 rr.length)]:=⟨fun h=>by
 obtain⟨hp,h⟩:=wT h;cases h;exact N1 (i0:=Tryz.t2) (z:=_) Tryz.QX (by kernel_rfl) rfl (by decide) (by decide) (by decide) (by decide) hp.1 hp.2⟩
def TA:ir:=
 (.seq (.ie (sq 2 [.mv (.const (.slice none 0 0))])) (.seq (.ie (sq 3 [mi 0])) (.seq (.seq (.ie (sq 9 [mv 0,ln 9,mi 0])) (.block 0 (.loop (.seq (.ie (sq 12 [bn .lss 11 10])) (.seq (.cond (t0 12) .skip (.exit 0)) (.seq (.block 1 (.seq (.ie (sq 13 [ix 1 9 11,ld 13]++sq 5 [mv 14])) (.seq (.ie (sq 15 [mv 3,mv 5,ln 16,bn .add 15 17]++sq 3 [mv 18])) (.seq (.ie (sq 19 [mv 3,bi .lss 19 0])) (.cond (t0 20) (.ie (sq 21 [.AP 9 (.const (.string {data:=#[108,101,110,32,111,117,116,32,111,102,32,114,97,110,103,101]}))]++s0 (.D3 (t0 21)))) .skip))))) (.ie (sq 22 [bi .add 11 1]++sq 11 [mv 22])))))))) (.seq (.ie (sq 23 [mv 3,.ke 219 [(.const (.slice none 0 0)),(t0 23)]]++sq 6 [mv 24])) (.seq (.seq (.ie (sq 25 [mv 0,ln 25,mi 0])) (.block 2 (.loop (.seq (.ie (sq 28 [bn .lss 27 26])) (.seq (.cond (t0 28) .skip (.exit 2)) (.seq (.block 3 (.seq (.ie (sq 29 [ix 1 25 27,ld 29]++sq 8 [mv 30])) (.ie (sq 31 [mv 6,mv 8,ap 33 2 1 8 31 32]++sq 6 [mv 33])))) (.ie (sq 34 [bi .add 27 1]++sq 27 [mv 34])))))))) (.seq (.ie (sq 35 [mv 6]++sq 2 [mv 35])) .ret))))))
theorem Xd:kS Tryz.prog 186 TA 36 [.tmp 2]:=mf Tryz.func186 Tryz.ntmps186
def lS(slices:gE):gU->Option (gU⊕gB)
 |(newslice,v27)=>
  if(decide (v27<(slices.length:Int)))=true then
   if 0<=v27/\v27<(slices.length:Int)then
    if(newslice.length+(slices.getD v27.toNat default).length)*8<=140737488355328 then
     some (.inl ((newslice++(slices.getD v27.toNat default)),(IntKind.i64.wrap (v27+1))))
    else none
   else none
  else
   Option.map Sum.inr (
    some newslice)
def lR(slices:gE):gQ->Option (gQ⊕gB)
 |(size,v11)=>
  if(decide (v11<(slices.length:Int)))=true then
   if 0<=v11/\v11<(slices.length:Int)then
    if(decide ((IntKind.i64.wrap (size+((slices.getD v11.toNat default).length:Int)))<0))=true then
     none
    else
     some (.inl ((IntKind.i64.wrap (size+((slices.getD v11.toNat default).length:Int))),(IntKind.i64.wrap (v11+1))))
   else none
  else
   Option.map Sum.inr (
    (nO size).bind fun r=>
    iB (lS slices) (r,0))
def jV(slices:gE):Option gB:=
 iB (lR slices) (0,0)
instance Co{slices:gE}:iU (jV slices) fun rr=>iH Tryz.prog 186 [.d (iq 1 (iq 1 iD) slices)] [] 0 fun xx ss=>xx=.own 1 24 (List.map iD rr)/\ss=[(24,.tok 2 1 rr.length)]:=⟨@fun rr h=>by
 delta jV at h;refine Xd.kL (ia ?_);delta TA;refine iR ?_;refine kA h [3,5,11,12,13,14,15,16,17,18,19,20,21,22] (fun pp=>[(3,.d (iD pp.1)),(11,.d (iD pp.2))]) (fun pp=>[]) ?_;rintro⟨size,v11⟩ t1 h hb1;unfold lR at h;try dsimp only at h
 refine ia (iR ?_);refine iF h fun hc h=>?_
 replace h:=jf h hb1;refine qC [] [(0,24)] h fun r hr h=>?_
 refine kA h [6,8,27,28,29,30,31,32,33,34] (fun pp=>[(6,.own 1 24 (List.map iD pp.1)),(27,.d (iD pp.2))]) (fun pp=>[(24,.tok 2 1 pp.1.length)]) ?_;rintro⟨newslice,v27⟩ t1 h hb1;unfold lS at h;try dsimp only at h
 refine ia (iR ?_);exact lP⟩
def Ta:ir:=
 (.seq (.ie (sq 4 [bo 4 29 0]++sq 8 [.mv (.const (.slice none 0 0)),mb false])) (.seq (.draw (sq 11 [mv 1,mv 2,.slc (t0 11) 1 none (some (t0 12)) none,mv 3,mv 1,la 1 4,mv 1,mv 2,cf 158 [16,17,18],.slc (t0 15) 1 (some (t0 19)) none none,.mD 21 27 1 [(t0 13),(t0 14),(t0 20)],cf 186 [21]]++sq 10 [mv 22]) [[],[],[0,1],[],[],[],[],[],[5,6,7],[4,8],[2,3,9],[10,8],[11,11,0,1,2,3,4,5,6,7,8,9,10,11]]) (.seq (.seq (.ie (sq 23 [mv 10,ln 23,bi .gtr 24 60])) (.cond (t0 25) (.seq (.ie (sq 8 [.mv (.const (.slice none 0 0)),mb false])) .ret) .skip)) (.seq (.ie (sq 26 [mv 10]++sq 8 [mv 26,mb true])) .ret))))
theorem WG:kS Tryz.prog 128 Ta 27 [.tmp 8,.tmp 9]:=mf Tryz.func128 Tryz.ntmps128
def qm(sig:gB)(t:gB)(iS:Int)(u:gB):Option g_:=
 if 0<=iS/\iS<=(t.length:Int)then
  (lY sig t iS).bind fun r=>
  if 0<=r/\r<=(t.length:Int)then
   (jV [(t.take iS.toNat),u,(t.drop r.toNat)]).bind fun r_1=>
   if(decide (60<(r_1.length:Int)))=true then
    some ([],false)
   else
    some (r_1,true)
  else none
 else none
instance UB{sig:gB}{t:gB}{iS:Int}{u:gB}:iU (qm sig t iS u) fun rr=>qV Tryz.prog 128 [jy sig,(iq 1 iD) t,iD iS,(iq 1 iD) u] [(iq 1 iD) rr.1,bD rr.2]:=⟨@fun rr h=>by
 delta qm at h;refine WG.r_ (ia ?_);delta Ta;refine iR ?_;refine kz h fun hp h=>?_
 refine dC h fun r hr h=>?_
 refine kz h fun hp h=>?_
 refine ND [] [(24,22)] h fun r_1 hr_1 h=>?_
 exact lP⟩
def Ym:ir:=
 (.seq (.ie (sq 4 [bo 4 32 0]++sq 8 [.mv (.const (.slice none 0 0)),mb false])) (.seq (.draw (sq 14 [fa 0 4,la 1 14,fa 1 4,ld 16,mv 3,ix 2 17 18,fa 0 19,ld 20,fa 0 4,la 1 22,mv 1,mv 2,cf 95 [23,24,25],cf 156 [15,21,26]]++sq 13 [mv 27]++sq 28 [ex 13 0,ex 13 1]++sq 10 [.alloc 10 171 [.sl 0 (some true) []]]++s0 (sr 1 10 28)++sq 11 [mv 29]) [[],[0],[],[2],[],[3,4],[5],[6],[],[8],[],[],[9,10,11],[1,7,12,12],[13],[14],[14],[],[17,15,13,0,1,2,3,4,5,6,7,8,9,10,11,12,13,14,15,17],[16,18,0,1,2,3,4,5,6,7,8,9,10,11,12,13,14,15,16,17,18]]) (.seq (.seq (.ie (sq 30 [mv 11,nt 30])) (.cond (t0 31) (.seq (.ie (sq 8 [.mv (.const (.slice none 0 0)),mb false])) .ret) .skip)) (.seq (.draw (sq 33 [la 1 10,fa 1 4,ld 34,mv 3,ix 2 35 36,fa 1 37,ld 38,cf 125 [33,39]]++sq 32 [mv 40]++sq 41 [ex 32 0,ex 32 1]++sq 12 [mv 41]++sq 11 [mv 42]) [[],[],[1],[],[2,3],[4],[5],[0,6],[7],[8],[8],[9,7,0,1,2,3,4,5,6,7,8,9],[10,11,0,1,2,3,4,5,6,7,8,9,10,11]]) (.seq (.seq (.ie (sq 43 [mv 11,nt 43])) (.cond (t0 44) (.seq (.ie (sq 8 [.mv (.const (.slice none 0 0)),mb false])) .ret) .skip)) (.seq (.ie (sq 45 [fa 0 4,la 1 45,mv 1,mv 2,mv 12,cf 128 [46,47,48,49],ex 50 0,ex 50 1]++sq 8 [mv 51,mv 52])) .ret))))))
theorem ZQ:kS Tryz.prog 93 Ym 53 [.tmp 8,.tmp 9]:=mf Tryz.func93 Tryz.ntmps93
def su(sys:gR)(t:gB)(iS:Int)(rule:Int):Option g_:=
 if 0<=rule/\rule<(sys.2.length:Int)then
  (jX sys.1 t iS).bind fun r=>
  (qG sys.1 ((sys.2.getD rule.toNat default).1) r).bind fun r_1=>
  if r_1.2=true then
   if 0<=rule/\rule<(sys.2.length:Int)then
    (sk r_1.1 ((sys.2.getD rule.toNat default).2)).bind fun r_2=>
    if r_2.2=true then
     (qm sys.1 t iS r_2.1).bind fun r_3=>
     some r_3
    else
     some ([],false)
   else none
  else
   some ([],false)
 else none
instance SG{sys:gR}{t:gB}{iS:Int}{rule:Int}:iU (su sys t iS rule) fun rr=>qV Tryz.prog 93 [iC sys,(iq 1 iD) t,iD iS,iD rule] [(iq 1 iD) rr.1,bD rr.2]:=⟨@fun rr h=>by
 delta su at h;refine ZQ.r_ (ia ?_);delta Ym;refine iR ?_;exact lP⟩
def Td:ir:=
 (.seq (.ie (sq 4 [bo 4 29 0]++sq 8 [.mv (.const (.slice none 0 0)),mb false])) (.seq (.ie (sq 11 [mv 1,mv 2,.slc (t0 11) 1 none (some (t0 12)) none,cf 53 [13],mv 3,ap 16 2 1 8 14 15]++sq 10 [mv 16])) (.seq (.ie (sq 17 [mv 10,mv 1,la 1 4,mv 1,mv 2,cf 180 [19,20,21],.slc (t0 18) 1 (some (t0 22)) none none,ap 24 2 1 8 17 23]++sq 10 [mv 24])) (.seq (.seq (.ie (sq 25 [mv 10,ln 25,bi .gtr 26 60])) (.cond (t0 27) (.seq (.ie (sq 28 [.mD 28 2 1 []]++sq 8 [mv 28,mb false])) .ret) .skip)) (.seq (.ie (sq 29 [mv 10]++sq 8 [mv 29,mb true])) .ret)))))
theorem WJ:kS Tryz.prog 132 Td 30 [.tmp 8,.tmp 9]:=mf Tryz.func132 Tryz.ntmps132
def sU(sig:gB)(t:gB)(iS:Int)(u:gB):Option g_:=
 if 0<=iS/\iS<=(t.length:Int)then
  (jK (t.take iS.toNat)).bind fun r=>
  if(r.length+u.length)*8<=140737488355328 then
   (oc sig t iS).bind fun r_1=>
   if 0<=r_1/\r_1<=(t.length:Int)then
    if((r++u).length+(t.drop r_1.toNat).length)*8<=140737488355328 then
     if(decide (60<(((r++u)++(t.drop r_1.toNat)).length:Int)))=true then
      some ([],false)
     else
      some (((r++u)++(t.drop r_1.toNat)),true)
    else none
   else none
  else none
 else none
instance QB{sig:gB}{t:gB}{iS:Int}{u:gB}:iU (sU sig t iS u) fun rr=>qV Tryz.prog 132 [jy sig,(iq 1 iD) t,iD iS,(iq 1 iD) u] [(iq 1 iD) rr.1,bD rr.2]:=⟨@fun rr h=>by
 delta sU at h;refine WJ.r_ (ia ?_);delta Td;refine iR ?_;refine kz h fun hp h=>?_
 refine qC [] [(3,14)] h fun r hr h=>?_
 exact lP⟩
def Tg:ir:=
 (.seq (.ie (sq 4 [bo 4 32 0]++sq 8 [.mv (.const (.slice none 0 0)),mb false])) (.seq (.ie (sq 15 [fa 1 4,ld 15,mv 3,ix 2 16 17,la 2 18]++sq 10 [.alloc 10 77 [.sl 0 (some true) [],.sl 0 (some true) []]]++s0 (sr 2 10 19))) (.seq (.draw (sq 21 [fa 0 4,la 1 21,fa 0 10,ld 23,fa 0 4,la 1 25,mv 1,mv 2,cf 130 [26,27,28],cf 163 [22,24,29]]++sq 20 [mv 30]++sq 31 [ex 20 0,ex 20 1]++sq 11 [.alloc 11 171 [.sl 0 (some true) []]]++s0 (sr 1 11 31)++sq 12 [mv 32]) [[],[0],[],[2],[],[4],[],[],[5,6,7],[1,3,8,8],[9],[10],[10],[],[13,11,9,0,1,2,3,4,5,6,7,8,9,10,11,13],[12,14,0,1,2,3,4,5,6,7,8,9,10,11,12,13,14]]) (.seq (.seq (.ie (sq 33 [mv 12,nt 33])) (.cond (t0 34) (.seq (.ie (sq 35 [.mD 35 2 1 []]++sq 8 [mv 35,mb false])) .ret) .skip)) (.seq (.ie (sq 37 [la 1 11,fa 1 10,ld 38,cf 131 [37,39]]++sq 36 [mv 40]++sq 41 [ex 36 0,ex 36 1]++sq 13 [mv 41,mv 42])) (.seq (.seq (.ie (sq 43 [mv 14,nt 43])) (.cond (t0 44) (.seq (.ie (sq 45 [.mD 45 2 1 []]++sq 8 [mv 45,mb false])) .ret) .skip)) (.seq (.ie (sq 46 [fa 0 4,la 1 46,mv 1,mv 2,mv 13,cf 132 [47,48,49,50],ex 51 0,ex 51 1]++sq 8 [mv 52,mv 53])) .ret)))))))
theorem WM:kS Tryz.prog 152 Tg 54 [.tmp 8,.tmp 9]:=mf Tryz.func152 Tryz.ntmps152
def p_(sys:gR)(t:gB)(iS:Int)(rule:Int):Option g_:=
 if 0<=rule/\rule<(sys.2.length:Int)then
  (pF sys.1 t iS).bind fun r=>
  (oM sys.1 ((sys.2.getD rule.toNat default).1) r).bind fun r_1=>
  if r_1.2=true then
   (nQ r_1.1 ((sys.2.getD rule.toNat default).2)).bind fun r_2=>
   if r_2.2=true then
    (sU sys.1 t iS r_2.1).bind fun r_3=>
    some r_3
   else
    some ([],false)
  else
   some ([],false)
 else none
instance PY{sys:gR}{t:gB}{iS:Int}{rule:Int}:iU (p_ sys t iS rule) fun rr=>qV Tryz.prog 152 [iC sys,(iq 1 iD) t,iD iS,iD rule] [(iq 1 iD) rr.1,bD rr.2]:=⟨@fun rr h=>by
 delta p_ at h;refine WM.r_ (ia ?_);delta Tg;refine iR ?_;exact lP⟩
def SX:ir:=
 (.seq (.ie (sq 2 [bo 2 32 0]++sq 4 [.mv (.const (.slice none 0 0))])) (.seq (.ie (sq 10 [.mD 10 123 3 []]++sq 5 [mv 10])) (.seq (.seq (.ie (sq 6 [mi 0])) (.block 0 (.loop (.seq (.seq (.ie (sq 11 [mv 6,mv 1,ln 12,bn .lss 11 13])) (.cond (t0 14) .skip (.exit 0))) (.seq (.block 1 (.seq (.ie (sq 7 [mi 0])) (.block 2 (.loop (.seq (.seq (.ie (sq 17 [mv 7,fa 1 2,ld 18,ln 19,bn .lss 17 20])) (.cond (t0 21) .skip (.exit 2))) (.seq (.block 3 (.seq (.ie (sq 25 [la 2 2,mv 1,mv 6,mv 7,cf 152 [25,26,27,28]]++sq 24 [mv 29]++sq 30 [ex 24 0,ex 24 1]++sq 8 [mv 30,mv 31])) (.seq (.ie (sq 32 [mv 9])) (.cond (t0 32) (.ie (sq 33 [mv 5,mv 6,mv 7,mv 8,.build [.lit (.int .i64 0),.lit (.int .i64 0),.sl 0 (some true) []] [(0,1,(t0 34)),(1,1,(t0 35)),(2,1,(t0 36))],.mD 38 123 3 [(t0 37)],ap 39 123 3 40 33 38]++sq 5 [mv 39])) .skip)))) (.ie (sq 22 [mv 7,bi .add 22 1]++sq 7 [mv 23])))))))) (.ie (sq 15 [mv 6,bi .add 15 1]++sq 6 [mv 16]))))))) (.seq (.ie (sq 40 [mv 5]++sq 4 [mv 40])) .ret))))
theorem Ws:kS Tryz.prog 100 SX 41 [.tmp 4]:=mf Tryz.func100 Tryz.ntmps100
def oe(sys:gR)(t:gB)(iS:Int):(gV×Int)->Option ((gV×Int)⊕((gV×Int)⊕gV))
 |(out_1,rule)=>
  if(decide (rule<(sys.2.length:Int)))=true then
   (p_ sys t iS rule).bind fun r=>
   if r.2=true then
    if(out_1.length+1)*40<=140737488355328 then
     some (.inl ((out_1++[(iS,rule,r.1)]),(IntKind.i64.wrap (rule+1))))
    else none
   else
    some (.inl (out_1,(IntKind.i64.wrap (rule+1))))
  else
   Option.map Sum.inr (
    some (.inl (out_1,(IntKind.i64.wrap (iS+1)))))
def od(sys:gR)(t:gB):(gV×Int)->Option ((gV×Int)⊕gV)
 |(out,iS)=>
  if(decide (iS<(t.length:Int)))=true then
   iB (oe sys t iS) (out,0)
  else
   Option.map Sum.inr (
    some out)
def qw(sys:gR)(t:gB):Option gV:=
 iB (od sys t) ([],0)
instance Nr{sys:gR}{t:gB}:iU (qw sys t) fun rr=>jW Tryz.prog 100 [iC sys,(iq 1 iD) t] ((iq 3 nT) rr):=⟨@fun rr h=>by
 delta qw at h;refine Ws.jz (ia ?_);delta SX;refine iR ?_;refine kA h [5,6,7,8,9,11,12,13,14,15,16,17,18,19,20,21,22,23,24,25,26,27,28,29,30,31,32,33,34,35,36,37,38,39] (fun pp=>[(5,.own 3 10 (List.map nT pp.1)),(6,.d (iD pp.2))]) (fun pp=>[(2,.obj 32 [.d (iq 1 iD sys.1),.d (iq 2 ic sys.2)]),(10,.tok 123 3 pp.1.length)]) ?_;rintro⟨out,iS⟩ t1 h hb1;unfold od at h;try dsimp only at h
 refine ia (iR ?_);refine iT h fun hc h=>?_
 refine kA h [5,7,8,9,17,18,19,20,21,22,23,24,25,26,27,28,29,30,31,32,33,34,35,36,37,38,39] (fun pp=>[(5,.own 3 10 (List.map nT pp.1)),(7,.d (iD pp.2))]) (fun pp=>[(2,.obj 32 [.d (iq 1 iD sys.1),.d (iq 2 ic sys.2)]),(10,.tok 123 3 pp.1.length)]) ?_;rintro⟨out_1,rule⟩ t2 h hb2;unfold oe at h;try dsimp only at h
 refine ia (iR ?_);refine iT h fun hc h=>?_
 refine T7 h fun r hr h=>?_
 refine iT h fun hc h=>?_
 refine kz h fun hp h=>?_
 cases h;refine⟨_,rfl,?_⟩;refine(iV.drop 38 h_).trans ?_;exact wk⟩
def SZ:ir:=
 (.seq (.ie (sq 2 [bo 2 32 0]++sq 4 [mi 0])) (.seq (.ie (sq 5 [mi 0])) (.seq (.seq (.ie (sq 6 [mi 0])) (.block 0 (.loop (.seq (.seq (.ie (sq 10 [mv 6,mv 1,ln 11,bn .lss 10 12])) (.cond (t0 13) .skip (.exit 0))) (.seq (.block 1 (.seq (.ie (sq 7 [mi 0])) (.block 2 (.loop (.seq (.seq (.ie (sq 16 [mv 7,fa 1 2,ld 17,ln 18,bn .lss 16 19])) (.cond (t0 20) .skip (.exit 2))) (.seq (.block 3 (.seq (.draw (sq 24 [fa 0 2,la 1 24,fa 1 2,ld 26,mv 7,ix 2 27 28,fa 0 29,ld 30,fa 0 2,la 1 32,mv 1,mv 6,cf 130 [33,34,35],cf 163 [25,31,36]]++sq 23 [mv 37]++sq 38 [ex 23 0,ex 23 1]++sq 8 [.alloc 8 171 [.sl 0 (some true) []]]++s0 (sr 1 8 38)++sq 9 [mv 39]) [[],[0],[],[2],[],[3,4],[5],[6],[],[8],[],[],[9,10,11],[1,7,12,12],[13],[14],[14],[],[17,15,13,0,1,2,3,4,5,6,7,8,9,10,11,12,13,14,15,17],[16,18,0,1,2,3,4,5,6,7,8,9,10,11,12,13,14,15,16,17,18]]) (.seq (.ie (sq 40 [mv 9])) (.cond (t0 40) (.ie (sq 41 [mv 5,bi .add 41 1]++sq 5 [mv 42])) .skip)))) (.ie (sq 21 [mv 7,bi .add 21 1]++sq 7 [mv 22])))))))) (.ie (sq 14 [mv 6,bi .add 14 1]++sq 6 [mv 15]))))))) (.seq (.ie (sq 43 [mv 5]++sq 4 [mv 43])) .ret))))
theorem Wu:kS Tryz.prog 102 SZ 44 [.tmp 4]:=mf Tryz.func102 Tryz.ntmps102
def rj(sys:gR)(t:gB)(iS:Int):gQ->Option (gQ⊕(gQ⊕Int))
 |(many_1,rule)=>
  if(decide (rule<(sys.2.length:Int)))=true then
   if 0<=rule/\rule<(sys.2.length:Int)then
    (pF sys.1 t iS).bind fun r=>
    (oM sys.1 ((sys.2.getD rule.toNat default).1) r).bind fun r_1=>
    if r_1.2=true then
     some (.inl ((IntKind.i64.wrap (many_1+1)),(IntKind.i64.wrap (rule+1))))
    else
     some (.inl (many_1,(IntKind.i64.wrap (rule+1))))
   else none
  else
   Option.map Sum.inr (
    some (.inl (many_1,(IntKind.i64.wrap (iS+1)))))
def ri(sys:gR)(t:gB):gQ->Option (gQ⊕Int)
 |(many,iS)=>
  if(decide (iS<(t.length:Int)))=true then
   iB (rj sys t iS) (many,0)
  else
   Option.map Sum.inr (
    some many)
def oN(sys:gR)(t:gB):Option Int:=
 iB (ri sys t) (0,0)
instance K4{sys:gR}{t:gB}:iU (oN sys t) fun rr=>jW Tryz.prog 102 [iC sys,(iq 1 iD) t] (iD rr):=⟨@fun rr h=>by
 delta oN at h;refine Wu.jz (ia ?_);delta SZ;refine iR ?_;refine kA h [5,6,7,8,9,10,11,12,13,14,15,16,17,18,19,20,21,22,23,24,25,26,27,28,29,30,31,32,33,34,35,36,37,38,39,40,41,42] (fun pp=>[(5,.d (iD pp.1)),(6,.d (iD pp.2))]) (fun pp=>[(2,.obj 32 [.d (iq 1 iD sys.1),.d (iq 2 ic sys.2)])]) ?_;rintro⟨many,iS⟩ t1 h hb1;unfold ri at h;try dsimp only at h
 refine ia (iR ?_);refine iT h fun hc h=>?_
 refine kA h [5,7,8,9,16,17,18,19,20,21,22,23,24,25,26,27,28,29,30,31,32,33,34,35,36,37,38,39,40,41,42] (fun pp=>[(5,.d (iD pp.1)),(7,.d (iD pp.2))]) (fun pp=>[(2,.obj 32 [.d (iq 1 iD sys.1),.d (iq 2 ic sys.2)])]) ?_;rintro⟨many_1,rule⟩ t2 h hb2;unfold rj at h;try dsimp only at h
 refine ia (iR ?_);refine iT h fun hc h=>?_
 refine kz h fun hp h=>?_
 refine dC h fun r hr h=>?_
 refine dCN h fun r_1 hr_1 h=>?_
 refine jM (by kernel_rfl) (iR ?_);refine it h (fun hc h=>?_) fun hc h=>?_
 ·cases h;refine⟨_,rfl,?_⟩;refine(iV.drop 8 h_).trans ?_;exact wk
 cases h;refine⟨_,rfl,?_⟩;refine(iV.drop 8 h_).trans ?_;exact wk⟩
end Go.Proofs.YtjgbnaihpicpgaaGreat
namespace Go.Proofs.YtjgbnaihpicpgaaGreat
open Go ng
attribute [local irreducible] uh wo vz mL mC ot kQ Be Cb zM Ca zD uj mu og BY iY lg D7
set_option maxHeartbeats 4000000
abbrev MK:=gB×List gD
abbrev KO:=gF×Bool
def zi(sys:MK)(t:gB)(iS:Nat):Nat->Option (List KO)
 |0=>some []
 |k+1=>
  if(decide (t.getD iS default<0))=true then zi sys t iS k
  else
   (sM sys t (iS:Int) ((sys.2.length-(k+1):Nat):Int)).bind fun r=>
   if r=true then
    (su sys t (iS:Int) ((sys.2.length-(k+1):Nat):Int)).bind fun v=>
    (zi sys t iS k).map fun l=>(((iS:Int),((sys.2.length-(k+1):Nat):Int),v.1),v.2)::l
   else zi sys t iS k
def A1(sys:MK)(t:gB):Nat->Option (List KO)
 |0=>some []
 |k+1=>(zi sys t (t.length-(k+1)) sys.2.length).bind fun xs=>(A1 sys t k).map fun ys=>xs++ys
def zS(sys:MK)(t:gB):Option (List KO):=A1 sys t t.length
section
variable(sys:MK)(t:gB)(l:Nat)
end
def vG(sys:MK)(t:gB):Option Unit:=some ()
end Go.Proofs.YtjgbnaihpicpgaaGreat
namespace Go.Proofs.YtjgbnaihpicpgaaGreat
open Go ng
attribute [local irreducible] uh wo vz mL mC ot kQ Be Cb zM Ca zD uj mu og BY iY lg
set_option maxHeartbeats 4000000
set_option maxRecDepth 4000
def oC(els:(List (gF×Bool))):(Nat×gV×Bool)->Option ((Nat×gV×Bool)⊕(gV×Bool))
 |(jj,out,long)=>
  if jj<els.length then
   if(els.getD jj default).2=true then
    if(out.length+1)*40<=140737488355328 then
     some (.inl (jj+1,(out++[((els.getD jj default).1.1,(els.getD jj default).1.2.1,(els.getD jj default).1.2.2)]),long))
    else none
   else
    some (.inl (jj+1,out,true))
  else
   Option.map Sum.inr (
    some (out,long))
def tN(sys:gR)(t:gB):Option (gV×Bool):=
 (vG sys t).bind fun r=>
 (zS sys t).bind fun els=>
 iB (oC els) (0,[],false)
end Go.Proofs.YtjgbnaihpicpgaaGreat
