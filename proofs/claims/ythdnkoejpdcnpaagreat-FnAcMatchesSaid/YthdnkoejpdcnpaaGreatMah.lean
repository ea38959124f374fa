/- A part of the proof about FnAcMatches (A6, A7, M0, M1, K0, M2, M3, M4). -/
import Derived.Test.YthdnkoejpdcnpaaGreatMac
import Derived.Test.YthdnkoejpdcnpaaGreatMad
import Derived.Test.YthdnkoejpdcnpaaGreatMae
import Derived.Test.YthdnkoejpdcnpaaGreatMaf
set_option linter.all false
noncomputable section
namespace Go.Proofs.YthdnkoejpdcnpaaGreat
open Go kJ
attribute [local irreducible] sG ud tP lp kI oZ jk ya yG wF yF wv rj kR lN ym gV ki
set_option maxHeartbeats 4000000
set_option maxRecDepth 4000
def pI:gB:=
 (.seq (.gv (sq 4 [bo 4 79 0]++sq 8 [.mv (.const (.slice none 0 0))])) (.seq (.gv (sq 9 [.mv (.const (.slice none 0 0))])) (.seq (.seq (.gv (sq 12 [la 2 4,mv 1,cf 142 [12,13],ln 14,mi 0])) (.block 0 (.loop (.seq (.gv (sq 17 [bn .lss 16 15])) (.seq (.cond (t0 17) .skip (.exit 0)) (.seq (.block 1 (.seq (.gv (sq 18 [ix 1 14 16,ld 18]++sq 11 [mv 19])) (.gv (sq 20 [mv 9,mv 2,mv 11,.tN (t0 21) [(t0 22)],.mW 24 22 1 [(t0 23)],.AP 25 22 1 24 (t0 20) (t0 24)]++sq 9 [mv 25])))) (.gv (sq 26 [bi .add 16 1]++sq 16 [mv 26])))))))) (.seq (.gv (sq 27 [mv 9,mv 3,cf 126 [27,28]])) (.seq (.gv (sq 30 [mv 9]++sq 8 [mv 30])) .ret)))))
theorem uo:kG Tryz.prog 165 pI 31 [.tmp 8]:=mf Tryz.func165 Tryz.ntmps165
def mX(rec:fQ->fN->Option fN)(each:fQ)(r:fO):gj->Option (gj⊕fO)
 |(v16,g25)=>
  if(decide (v16<(r.length:Int)))=true then
   if 0<=v16/\v16<(r.length:Int)then
    (rec each (r.getD v16.toNat default)).bind fun r_1=>
    if(g25.length+1)*24<=140737488355328 then
     some (.inl ((IntKind.i64.wrap (v16+1)),(g25++[r_1])))
    else none
   else none
  else
   Option.map Sum.inr (
    (xF g25).bind fun u=>
    some (jt g25))
def mg(rec:fQ->fN->Option fN)(x:fQ)(t:fN)(each:fQ):Option fO:=
 (jr x t).bind fun r=>
 gF (mX rec each r) (0,[])
instance Dm{rec:fQ->fN->Option fN}[ih:∀{x:fQ}{t:fN},gP (rec x t) fun rr=>iw Tryz.prog 70 [iM x,(gu 1 iD) t] ((gu 1 iD) rr)]{x:fQ}{t:fN}{each:fQ}:gP (mg rec x t each) fun rr=>gG Tryz.prog 165 [.d (.agg [gu 1 iD x.1,gu 1 iD x.2]),.d (gu 1 iD t),.fn 70 [.d (.agg [gu 1 iD each.1,gu 1 iD each.2])] [],.fn 98 [] []] [] 0 fun xx ss=>xx=.d (gu 1 (gu 1 iD) rr)/\ss=[]:=⟨@fun rr h=>by
 delta mg at h;refine uo.zT (gr ?_);delta pI;refine gW ?_;refine rC h fun r hr h=>?_
 refine pS h [9,11,16,17,18,19,20,21,22,23,24,25,26] (fun pp=>[(9,.jM 1 25 pp.2.length),(16,.d (iD pp.1))]) (fun pp=>[(4,.obj 79 [.d (gu 1 iD x.1),.d (gu 1 iD x.2)]),(25,.ij 22 1 pp.2.length (gQ (gu 1 iD) pp.2))]) ?_ ?_
 ·try dsimp only
  refine(gM.QT 9 25 22 1 rfl rfl).trans ?_;exact wk
 rintro⟨v16,g25⟩ t1 h hb1;unfold mX at h;try dsimp only at h
 refine gr (gW ?_);refine it h (fun hc h=>?_) fun hc h=>?_
 ·refine iC h fun hp h=>?_
  refine tG (by kernel_rfl) ?_;refine rC h fun r_1 hr_1 h=>?_
  refine iC h fun hp h=>?_
  cases h;refine⟨_,rfl,?_⟩;refine(gM.drop 24 gq).trans ?_;exact wk
 replace h:=gT h hb1;refine oB [(0,25)] [] h fun u hu h=>?_
 cases h;exact gN.trans ((gN.trans (gN.fz 25 (gu 1 iD) rfl (jt g25)) (gN.oc [4] (by simp)))) (gN.told zN lH)⟩
def LP:gB:=
 (.seq (.gv (sq 2 [bo 2 79 0]++sq 4 [.mv (.const (.slice none 0 0))])) (.seq (.gv (sq 5 [la 2 2,mv 1,la 2 2,.zk 70 [(t0 7)] [],.iy 165 [(t0 5),(t0 6),(t0 8),(.func 98)]]++sq 4 [mv 9])) .ret))
theorem PE:kG Tryz.prog 122 LP 10 [.tmp 4]:=mf Tryz.func122 Tryz.ntmps122
def mK(rec:fQ->fN->Option fN)(x:fQ)(t:fN):Option fO:=
 (mg rec x t x).bind fun r=>
 some r
instance Ga{rec:fQ->fN->Option fN}[ih:∀{x:fQ}{t:fN},gP (rec x t) fun rr=>iw Tryz.prog 70 [iM x,(gu 1 iD) t] ((gu 1 iD) rr)]{x:fQ}{t:fN}:gP (mK rec x t) fun rr=>iw Tryz.prog 122 [iM x,(gu 1 iD) t] ((gu 1 (gu 1 iD)) rr):=⟨@fun rr h=>by
 delta mK at h;refine PE.iu (gr ?_);delta LP;refine gW ?_;refine oB [] [] h fun r hr h=>?_
 exact mj⟩
def UH:gB:=
 (.seq (.gv (sq 2 [bo 2 79 0]++sq 4 [.mv (.const (.slice none 0 0))])) (.seq (.seq (.draw (sq 8 [la 2 2,mv 1,.qj 1 (t0 9) (i0 0),ld 10,cf 120 [8,11]]) [[],[],[1],[2],[0,3]]) (.cond (t0 12) (.seq (.draw (sq 13 [mv 1,.qj 1 (t0 13) (i0 0),ld 14,la 2 2,mv 1,cf 122 [16,17],cf 121 [15,18]]++sq 4 [mv 19]) [[],[0],[1],[],[],[3,4],[2,5,5],[6,6,0,1,2,3,4,5,6]]) .ret) .skip)) (.seq (.gv (sq 20 [mv 1,.qj 1 (t0 20) (i0 0),ld 21,.mW 23 2 1 [(t0 22)]]++sq 5 [mv 23])) (.seq (.seq (.gv (sq 24 [fa 0 2,la 1 24,mv 1,.iy 123 [(t0 25),(t0 26),(i0 0)],ln 27,mi 0])) (.block 0 (.loop (.seq (.gv (sq 30 [bn .lss 29 28])) (.seq (.cond (t0 30) .skip (.exit 0)) (.seq (.block 1 (.seq (.gv (sq 31 [ix 1 27 29,ld 31]++sq 7 [mv 32])) (.draw (sq 33 [mv 5,la 2 2,fa 0 2,la 1 35,mv 1,mv 7,cf 124 [36,37,38],cf 70 [34,39],ap 41 2 1 8 33 40]++sq 5 [mv 41]) [[],[],[],[2],[],[],[3,4,5],[1,6,6],[0,7,7],[8,8,0,1,2,3,4,5,6,7,8]]))) (.gv (sq 42 [bi .add 29 1]++sq 29 [mv 42])))))))) (.seq (.gv (sq 43 [mv 5]++sq 4 [mv 43])) .ret)))))
theorem V2:kG Tryz.prog 70 UH 44 [.tmp 4]:=mf Tryz.func70 Tryz.ntmps70
def nO(rec:fQ->fN->Option fN)(x:fQ)(t:fN)(r_3:fN):fT->Option (fT⊕fN)
 |(out,v29)=>
  if(decide (v29<(r_3.length:Int)))=true then
   if 0<=v29/\v29<(r_3.length:Int)then
    (ni x.1 t (r_3.getD v29.toNat default)).bind fun r_4=>
    (rec x r_4).bind fun r_5=>
    if(out.length+r_5.length)*8<=140737488355328 then
     some (.inl ((out++r_5),(IntKind.i64.wrap (v29+1))))
    else none
   else none
  else
   Option.map Sum.inr (
    some out)
def ir:Nat->fQ->fN->Option fN
 |0,_,_=>none
 |fu+1,x,t=>
  if 0<=0/\0<(t.length:Int)then
   (kj x (t.getD 0 default)).bind fun r=>
   if r=true then
    if 0<=0/\0<(t.length:Int)then
     (mK (ir fu) x t).bind fun r_1=>
     (rm (t.getD 0 default) r_1).bind fun r_2=>
     some r_2
    else none
   else
    if 0<=0/\0<(t.length:Int)then
     (mu x.1 t 0).bind fun r_3=>
     gF (nO (ir fu) x t r_3) ([(t.getD 0 default)],0)
    else none
  else none
def lz(x:fQ)(t:fN):Option fN:=yz fun fu=>ir fu x t
theorem sO:∀{fu:Nat}{x:fQ}{t:fN}{rr:fN}(h:ir fu x t=some rr),iw Tryz.prog 70 [iM x,(gu 1 iD) t] ((gu 1 iD) rr)
 |0,_,_,_,h=>by cases h
 |fu+1,x,t,rr,h=>by
  have ih:∀{x:fQ}{t:fN},gP (ir fu x t) fun rr=>iw Tryz.prog 70 [iM x,(gu 1 iD) t] ((gu 1 iD) rr):=⟨fun h=>sO h⟩
  unfold ir at h;refine V2.iu (gr ?_);delta UH;refine gW ?_;refine iC h fun hp h=>?_
  refine dC h fun r hr h=>?_
  refine iY (by kernel_rfl) (gW ?_);refine iF h fun hc h=>?_
  refine iC h fun hp h=>?_
  refine rC h fun r_3 hr_3 h=>?_
  refine jC h [5,7,29,30,31,32,33,34,35,36,37,38,39,40,41,42] (fun pp=>[(5,.own 1 23 (List.map iD pp.1)),(29,.d (iD pp.2))]) (fun pp=>[(2,.obj 79 [.d (gu 1 iD x.1),.d (gu 1 iD x.2)]),(23,.tok 2 1 pp.1.length)]) ?_;rintro⟨out,v29⟩ t1 h hb1;unfold nO at h;try dsimp only at h
  refine gr (gW ?_);exact mj
instance Cs{x:fQ}{t:fN}:gP (lz x t) fun rr=>iw Tryz.prog 70 [iM x,(gu 1 iD) t] ((gu 1 iD) rr):=⟨fun h=>sO (ng h).choose_spec⟩
def og:gB:=
 (.seq (.gv (sq 4 [bo 4 79 0]++sq 8 [.mv (.const (.slice none 0 0))])) (.seq (.gv (sq 9 [.mv (.const (.slice none 0 0))])) (.seq (.seq (.gv (sq 12 [la 2 4,mv 1,cf 142 [12,13],ln 14,mi 0])) (.block 0 (.loop (.seq (.gv (sq 17 [bn .lss 16 15])) (.seq (.cond (t0 17) .skip (.exit 0)) (.seq (.block 1 (.seq (.gv (sq 18 [ix 1 14 16,ld 18]++sq 11 [mv 19])) (.gv (sq 20 [mv 9,mv 2,mv 11,.tN (t0 21) [(t0 22)],.mW 24 22 1 [(t0 23)],.AP 25 22 1 24 (t0 20) (t0 24)]++sq 9 [mv 25])))) (.gv (sq 26 [bi .add 16 1]++sq 16 [mv 26])))))))) (.seq (.gv (sq 27 [mv 9,mv 3,cf 126 [27,28]])) (.seq (.gv (sq 30 [mv 9]++sq 8 [mv 30])) .ret)))))
theorem sW:kG Tryz.prog 165 og 31 [.tmp 8]:=mf Tryz.func165 Tryz.ntmps165
def lP(each:fQ)(r:fO):gj->Option (gj⊕fO)
 |(v16,g25)=>
  if(decide (v16<(r.length:Int)))=true then
   if 0<=v16/\v16<(r.length:Int)then
    (lz each (r.getD v16.toNat default)).bind fun r_1=>
    if(g25.length+1)*24<=140737488355328 then
     some (.inl ((IntKind.i64.wrap (v16+1)),(g25++[r_1])))
    else none
   else none
  else
   Option.map Sum.inr (
    (xF g25).bind fun u=>
    some (jt g25))
def k_(x:fQ)(t:fN)(each:fQ):Option fO:=
 (jr x t).bind fun r=>
 gF (lP each r) (0,[])
instance Cm{x:fQ}{t:fN}{each:fQ}:gP (k_ x t each) fun rr=>gG Tryz.prog 165 [.d (.agg [gu 1 iD x.1,gu 1 iD x.2]),.d (gu 1 iD t),.fn 70 [.d (.agg [gu 1 iD each.1,gu 1 iD each.2])] [],.fn 98 [] []] [] 0 fun xx ss=>xx=.d (gu 1 (gu 1 iD) rr)/\ss=[]:=⟨@fun rr h=>by
 delta k_ at h;refine sW.zT (gr ?_);delta og;refine gW ?_;refine rC h fun r hr h=>?_
 refine pS h [9,11,16,17,18,19,20,21,22,23,24,25,26] (fun pp=>[(9,.jM 1 25 pp.2.length),(16,.d (iD pp.1))]) (fun pp=>[(4,.obj 79 [.d (gu 1 iD x.1),.d (gu 1 iD x.2)]),(25,.ij 22 1 pp.2.length (gQ (gu 1 iD) pp.2))]) ?_ ?_
 ·try dsimp only
  refine(gM.QT 9 25 22 1 rfl rfl).trans ?_;exact wk
 rintro⟨v16,g25⟩ t1 h hb1;unfold lP at h;try dsimp only at h
 refine gr (gW ?_);refine it h (fun hc h=>?_) fun hc h=>?_
 ·refine iC h fun hp h=>?_
  refine tG (by kernel_rfl) ?_;refine rC h fun r_1 hr_1 h=>?_
  refine iC h fun hp h=>?_
  cases h;refine⟨_,rfl,?_⟩;refine(gM.drop 24 gq).trans ?_;exact wk
 replace h:=gT h hb1;refine oB [(0,25)] [] h fun u hu h=>?_
 cases h;exact gN.trans ((gN.trans (gN.fz 25 (gu 1 iD) rfl (jt g25)) (gN.oc [4] (by simp)))) (gN.told zN lH)⟩
def lg(x:fQ)(t:fN):Option fO:=
 (k_ x t x).bind fun r=>
 some r
instance D9{x:fQ}{t:fN}:gP (lg x t) fun rr=>iw Tryz.prog 122 [iM x,(gu 1 iD) t] ((gu 1 (gu 1 iD)) rr):=⟨@fun rr h=>by
 delta lg at h;refine PE.iu (gr ?_);delta LP;refine gW ?_;refine oB [] [] h fun r hr h=>?_
 exact mj⟩
def rz(n:Int):Option fO:=if 0<=n/\n*24<=140737488355328 then some []else none
instance HL{n:Int}:gP (rz n) fun rr=>gG Tryz.prog 209 [.d (.sl 0 (some true) []),.d (iD n)] [] 0 fun xx ss=>xx=.own 1 0 (List.map (gu 1 iD) rr)/\ss=[(0,.tok 22 1 rr.length)]:=⟨fun h=>by
 obtain⟨hp,h⟩:=qS h;cases h;exact Lr (i0:=Tryz.t22) (z:=_) Tryz.Ol (by kernel_rfl) rfl (by decide) (by decide) (by decide) (by decide) hp.1 hp.2⟩
def Qx:gB:=
 (.seq (.gv (sq 2 [.mv (.const (.slice none 0 0))])) (.seq (.gv (sq 3 [mi 0])) (.seq (.seq (.gv (sq 9 [mv 0,ln 9,mi 0])) (.block 0 (.loop (.seq (.gv (sq 12 [bn .lss 11 10])) (.seq (.cond (t0 12) .skip (.exit 0)) (.seq (.block 1 (.seq (.gv (sq 13 [ix 1 9 11,ld 13]++sq 5 [mv 14])) (.seq (.gv (sq 15 [mv 3,mv 5,ln 16,bn .add 15 17]++sq 3 [mv 18])) (.seq (.gv (sq 19 [mv 3,bi .lss 19 0])) (.cond (t0 20) (.gv (sq 21 [.DJ 9 (.const (.string {data:=#[108,101,110,32,111,117,116,32,111,102,32,114,97,110,103,101]}))]++s0 (.OR (t0 21)))) .skip))))) (.gv (sq 22 [bi .add 11 1]++sq 11 [mv 22])))))))) (.seq (.gv (sq 23 [mv 3,.iy 209 [(.const (.slice none 0 0)),(t0 23)]]++sq 6 [mv 24])) (.seq (.seq (.gv (sq 25 [mv 0,ln 25,mi 0])) (.block 2 (.loop (.seq (.gv (sq 28 [bn .lss 27 26])) (.seq (.cond (t0 28) .skip (.exit 2)) (.seq (.block 3 (.seq (.gv (sq 29 [ix 1 25 27,ld 29]++sq 8 [mv 30])) (.gv (sq 31 [mv 6,mv 8,ap 33 22 1 24 31 32]++sq 6 [mv 33])))) (.gv (sq 34 [bi .add 27 1]++sq 27 [mv 34])))))))) (.seq (.gv (sq 35 [mv 6]++sq 2 [mv 35])) .ret))))))
theorem T3:kG Tryz.prog 177 Qx 36 [.tmp 2]:=mf Tryz.func177 Tryz.ntmps177
def iG(slices:fU):fZ->Option (fZ⊕fO)
 |(newslice,v27)=>
  if(decide (v27<(slices.length:Int)))=true then
   if 0<=v27/\v27<(slices.length:Int)then
    if(newslice.length+(slices.getD v27.toNat default).length)*24<=140737488355328 then
     some (.inl ((newslice++(slices.getD v27.toNat default)),(IntKind.i64.wrap (v27+1))))
    else none
   else none
  else
   Option.map Sum.inr (
    some newslice)
def iE(slices:fU):ga->Option (ga⊕fO)
 |(size,v11)=>
  if(decide (v11<(slices.length:Int)))=true then
   if 0<=v11/\v11<(slices.length:Int)then
    if(decide ((IntKind.i64.wrap (size+((slices.getD v11.toNat default).length:Int)))<0))=true then
     none
    else
     some (.inl ((IntKind.i64.wrap (size+((slices.getD v11.toNat default).length:Int))),(IntKind.i64.wrap (v11+1))))
   else none
  else
   Option.map Sum.inr (
    (rz size).bind fun r=>
    gF (iG slices) (r,0))
def iW(slices:fU):Option fO:=
 gF (iE slices) (0,0)
instance zR{slices:fU}:gP (iW slices) fun rr=>iw Tryz.prog 177 [(gu 1 (gu 1 (gu 1 iD))) slices] ((gu 1 (gu 1 iD)) rr):=⟨@fun rr h=>by
 delta iW at h;refine T3.iu (gr ?_);delta Qx;refine gW ?_;refine jC h [3,5,11,12,13,14,15,16,17,18,19,20,21,22] (fun pp=>[(3,.d (iD pp.1)),(11,.d (iD pp.2))]) (fun pp=>[]) ?_;rintro⟨size,v11⟩ t1 h hb1;unfold iE at h;try dsimp only at h
 refine gr (gW ?_);refine iF h fun hc h=>?_
 replace h:=gT h hb1;refine oB [] [(0,24)] h fun r hr h=>?_
 refine jC h [6,8,27,28,29,30,31,32,33,34] (fun pp=>[(6,.own 1 24 (List.map (gu 1 iD) pp.1)),(27,.d (iD pp.2))]) (fun pp=>[(24,.tok 22 1 pp.1.length)]) ?_;rintro⟨newslice,v27⟩ t1 h hb1;unfold iG at h;try dsimp only at h
 refine gr (gW ?_);exact mj⟩
def UZ:gB:=
 (.seq (.gv (sq 2 [mb false])) (.seq (.gv (sq 3 [mv 0,.nD (t0 3),fa 3 4,ld 5,ln 6,bi .gtr 7 20]++sq 2 [mv 8])) .ret))
theorem Wl:kG Tryz.prog 94 UZ 9 [.tmp 2]:=mf Tryz.func94 Tryz.ntmps94
def iO(m0:fN)(m1:fN)(m3:fU)(l1:fO):Option Bool:=
 some (decide (20<(m3.length:Int)))
instance D8{m0:fN}{m1:fN}{m3:fU}{l1:fO}:gP (iO m0 m1 m3 l1) fun rr=>gG Tryz.prog 94 [.ptr 0 0] [(0,.obj 111 [.d (gu 1 iD m0),.d (gu 1 iD m1),.mm 1 1 0 24,.jM 1 2 m3.length]),(1,.obj 22 (List.map (aD (rY 1 iD)) l1)),(2,.ij 45 1 m3.length (gQ (gu 1 (gu 1 iD)) m3))] 3 fun xx ss=>xx=.d (bD rr)/\ss=[(0,.obj 111 [.d (gu 1 iD m0),.d (gu 1 iD m1),.mm 1 1 0 24,.jM 1 2 m3.length]),(1,.obj 22 (List.map (aD (rY 1 iD)) l1)),(2,.ij 45 1 m3.length (gQ (gu 1 (gu 1 iD)) m3))]:=⟨@fun rr h=>by
 delta iO at h;refine Wl.kS (gr ?_);delta UZ;refine gW ?_;exact mj⟩
def Qf:gB:=
 (.seq (.gv (sq 4 [.mv (.const (.slice none 0 0))])) (.seq (.gv (sq 5 [.mv (.const (.slice none 0 0)),.mv (.const (.slice none 0 0))])) (.seq (.seq (.gv (sq 9 [mv 1,ln 9,mi 0])) (.block 0 (.loop (.seq (.gv (sq 12 [bn .lss 11 10])) (.seq (.cond (t0 12) .skip (.exit 0)) (.seq (.block 1 (.seq (.gv (sq 13 [ix 1 9 11,ld 13]++sq 8 [mv 14])) (.seq (.gv (sq 15 [mv 8,.qj 1 (t0 15) (i0 0),ld 16,bi .lss 17 0])) (.cond (t0 18) (.gv (sq 19 [mv 6,mv 8,.mW 21 22 1 [(t0 20)],ap 22 22 1 24 19 21]++sq 6 [mv 22])) (.gv (sq 23 [mv 5,mv 8,.mW 25 22 1 [(t0 24)],ap 26 22 1 24 23 25]++sq 5 [mv 26])))))) (.gv (sq 27 [bi .add 11 1]++sq 11 [mv 27])))))))) (.seq (.gv (sq 28 [mv 5,mv 6,ap 30 22 1 24 28 29]++sq 4 [mv 30])) .ret))))
theorem TJ:kG Tryz.prog 145 Qf 31 [.tmp 4]:=mf Tryz.func145 Tryz.ntmps145
def me(ps:fO):gp->Option (gp⊕fO)
 |(first',last,v11)=>
  if(decide (v11<(ps.length:Int)))=true then
   if 0<=v11/\v11<(ps.length:Int)then
    if 0<=0/\0<((ps.getD v11.toNat default).length:Int)then
     if(decide (((ps.getD v11.toNat default).getD 0 default)<0))=true then
      if(last.length+1)*24<=140737488355328 then
       some (.inl (first',(last++[(ps.getD v11.toNat default)]),(IntKind.i64.wrap (v11+1))))
      else none
     else
      if(first'.length+1)*24<=140737488355328 then
       some (.inl ((first'++[(ps.getD v11.toNat default)]),last,(IntKind.i64.wrap (v11+1))))
      else none
    else none
   else none
  else
   Option.map Sum.inr (
    if(first'.length+last.length)*24<=140737488355328 then
     some (first'++last)
    else none)
def jV(ps:fO):Option fO:=
 gF (me ps) ([],[],0)
instance Cr{ps:fO}:gP (jV ps) fun rr=>gG Tryz.prog 145 [.hM,.d (gu 1 (gu 1 iD) ps)] [] 0 fun xx ss=>xx=.d (gu 1 (gu 1 iD) rr)/\ss=[]:=⟨@fun rr h=>by
 delta jV at h;refine TJ.kS (gr ?_);delta Qf;refine gW ?_;refine pS h [5,6,8,11,12,13,14,15,16,17,18,19,20,21,22,23,24,25,26,27] (fun pp=>[(5,.own 1 26 (List.map (gu 1 iD) pp.1)),(6,.own 1 22 (List.map (gu 1 iD) pp.2.1)),(11,.d (iD pp.2.2))]) (fun pp=>[(22,.tok 22 1 pp.2.1.length),(26,.tok 22 1 pp.1.length)]) ?_ ?_
 ·try dsimp only
  refine(gM.CJ 5 26 22 1 rfl rfl).trans ?_;refine(gM.CJ 6 22 22 1 rfl rfl).trans ?_;exact wk
 rintro⟨first',last,v11⟩ t1 h hb1;unfold me at h;try dsimp only at h
 refine gr (gW ?_);refine it h (fun hc h=>?_) fun hc h=>?_
 ·refine iC h fun hp h=>?_
  refine iC h fun hp h=>?_
  refine it h (fun hc h=>?_) fun hc h=>?_
  ·refine iC h fun hp h=>?_
   cases h;refine⟨_,rfl,?_⟩;refine(gM.drop 21 gq).trans ?_;exact wk
  refine iC h fun hp h=>?_
  cases h;refine⟨_,rfl,?_⟩;refine(gM.drop 25 gq).trans ?_;exact wk
 replace h:=gT h hb1;refine iC h fun hp h=>?_
 cases h;exact⟨[22,26],by simp,lH,lH⟩⟩
def Qh:gB:=
 (.seq (.gv (sq 2 [.mv (.const (.slice none 0 0))])) (.seq (.gv (sq 3 [mv 0,.bin .sub (i0 (-1)) (t0 3),.mW 5 2 1 [(t0 4)]]++sq 2 [mv 5])) .ret))
theorem TM:kG Tryz.prog 148 Qh 6 [.tmp 2]:=mf Tryz.func148 Tryz.ntmps148
def mY(i:Int):Option fN:=
 some [(IntKind.i64.wrap ((-1)-i))]
instance Kf{i:Int}:gP (mY i) fun rr=>iw Tryz.prog 148 [iD i] ((gu 1 iD) rr):=⟨@fun rr h=>by
 delta mY at h;refine TM.iu (gr ?_);delta Qh;refine gW ?_;exact mj⟩
def Qj:gB:=
 (.seq (.gv (sq 3 [mb false])) (.seq (.gv (sq 4 [mv 0,ld 1,cf 151 [4,5]]++sq 3 [mv 6])) .ret))
theorem TO:kG Tryz.prog 150 Qj 7 [.tmp 3]:=mf Tryz.func150 Tryz.ntmps150
def kZ(old:fO)(a1:fO):Option Bool:=
 (nN old a1).bind fun r=>
 some r
instance Ck{old:fO}{a1:fO}:gP (kZ old a1) fun rr=>gG Tryz.prog 150 [.d (gu 1 (gu 1 iD) old),.pv [gu 1 (gu 1 iD) a1]] [] 0 fun xx ss=>xx=.d (bD rr)/\ss=[]:=⟨@fun rr h=>by
 delta kZ at h;refine TO.kS (gr ?_);delta Qj;refine gW ?_;exact mj⟩
def QB:gB:=
 (.seq (.gv (sq 4 [mi 0])) (.seq (.seq (.gv (sq 6 [mv 0,ln 6,mi 0])) (.block 0 (.loop (.seq (.gv (sq 9 [bn .lss 8 7])) (.seq (.cond (t0 9) .skip (.exit 0)) (.seq (.block 1 (.seq (.gv (sq 10 [mv 8]++sq 5 [mv 10])) (.seq (.gv (sq 11 [mv 1,mv 0,mv 5,ix 1 12 13,ld 14,.tN (t0 11) [(t0 15)]])) (.cond (t0 16) (.seq (.gv (sq 17 [mv 5]++sq 4 [mv 17])) .ret) .skip)))) (.gv (sq 18 [bi .add 8 1]++sq 8 [mv 18])))))))) (.seq (.gv (sq 4 [mi (-1)])) .ret)))
theorem T7:kG Tryz.prog 181 QB 19 [.tmp 4]:=mf Tryz.func181 Tryz.ntmps181
def iI(s:fU)(f:fO):Int->Option (Int⊕Int)
 |v8=>
  if(decide (v8<(s.length:Int)))=true then
   if 0<=v8/\v8<(s.length:Int)then
    (kZ (s.getD v8.toNat default) f).bind fun r=>
    if r=true then
     Option.map Sum.inr (
      some v8)
    else
     some (.inl (IntKind.i64.wrap (v8+1)))
   else none
  else
   Option.map Sum.inr (
    some (-1))
def jF(s:fU)(f:fO):Option Int:=
 gF (iI s f) 0
instance zS{s:fU}{f:fO}:gP (jF s f) fun rr=>gG Tryz.prog 181 [.d (gu 1 (gu 1 (gu 1 iD)) s),.fn 150 [] [.pv [gu 1 (gu 1 iD) f]]] [] 0 fun xx ss=>xx=.d (iD rr)/\ss=[]:=⟨@fun rr h=>by
 delta jF at h;refine T7.kS (gr ?_);delta QB;refine gW ?_;refine jC h [4,5,8,9,10,11,12,13,14,15,16,17,18] (fun pp=>[(8,.d (iD pp))]) (fun pp=>[]) ?_;rintro v8 t1 h hb1;unfold iI at h;try dsimp only at h
 refine gr (gW ?_);refine iT h fun hc h=>?_
 refine iC h fun hp h=>?_
 refine tG (by kernel_rfl) ?_;refine oB [] [] h fun r hr h=>?_
 exact mj⟩
def Qi:gB:=
 (.seq (.gv (sq 4 [mb false])) (.seq (.gv (sq 5 [mv 0,mv 1,cf 181 [5,6],bi .geq 7 0]++sq 4 [mv 8])) .ret))
theorem TN:kG Tryz.prog 149 Qi 9 [.tmp 4]:=mf Tryz.func149 Tryz.ntmps149
def iH(s:fU)(f:fO):Option Bool:=
 (jF s f).bind fun r=>
 some (decide (0<=r))
instance yH{s:fU}{f:fO}:gP (iH s f) fun rr=>gG Tryz.prog 149 [.d (gu 1 (gu 1 (gu 1 iD)) s),.fn 150 [] [.pv [gu 1 (gu 1 iD) f]]] [] 0 fun xx ss=>xx=.d (bD rr)/\ss=[]:=⟨@fun rr h=>by
 delta iH at h;refine TN.kS (gr ?_);delta Qi;refine gW ?_;refine oB [] [] h fun r hr h=>?_
 exact mj⟩
def pJ:gB:=
 (.seq (.gv (sq 5 [.xZ 5 22 1 24 [.sl 0 (some true) []] false (i0 24) (i0 24)]++sq 2 [.uV 702 2 45 [.sl 0 (some true) []]]++s0 (sr 1 2 5))) (.seq (.seq (.gv (sq 6 [mv 0,.nD (t0 6),fa 2 7,ld 8,ln 9,mi 0])) (.block 0 (.loop (.seq (.gv (sq 12 [bn .lss 11 10])) (.seq (.cond (t0 12) .skip (.exit 0)) (.seq (.block 1 (.seq (.gv (sq 13 [mv 11,ix 1 9 11,ld 14]++sq 3 [mv 13,mv 15])) (.seq (.seq (.gv (sq 16 [mv 4,.wo false (t0 16)])) (.cond (t0 17) (.gv (sq 18 [mv 3,cf 148 [18]]++sq 4 [mv 19])) .skip)) (.gv (sq 20 [ld 2,mv 3,mv 4,ix 1 20 21]++s0 (sr 1 23 22)))))) (.gv (sq 24 [bi .add 11 1]++sq 11 [mv 24])))))))) (.seq (.gv (sq 25 [mv 0,.nD (t0 25),fa 3 26,ld 27,.zk 150 [] [(t0 2)],cf 149 [28,29],nt 30])) (.cond (t0 31) (.draw (sq 32 [mv 0,mv 0,.nD (t0 33),fa 3 34,ld 35,ld 2,.mW 38 45 1 [(t0 37)],ap 39 45 1 24 36 38,.nD (t0 32),fa 3 40]++s0 (sr 1 41 39)) [[],[],[1],[2],[3],[],[5],[4,6],[0,0,1,2,3,4,5,6,7],[8,0,1,2,3,4,5,6,7],[9,7,7,0,1,2,3,4,5,6,7]]) .skip))))
theorem uq:kG Tryz.prog 93 pJ 42 []:=mf Tryz.func93 Tryz.ntmps93
def mH(m3:fU)(l1:fO):gj->Option (gj⊕fU)
 |(v11,l5)=>
  if(decide (v11<24))=true then
   if 0<=v11/\v11<(24:Int)/\v11<(l1.length:Int)then
    if(l1.getD v11.toNat default).isEmpty=true then
     (mY v11).bind fun r=>
     if 0<=v11/\v11<(24:Int)/\v11<(l5.length:Int)then
      some (.inl ((IntKind.i64.wrap (v11+1)),(l5.set v11.toNat r)))
     else none
    else
     if 0<=v11/\v11<(24:Int)/\v11<(l5.length:Int)then
      some (.inl ((IntKind.i64.wrap (v11+1)),(l5.set v11.toNat (l1.getD v11.toNat default))))
     else none
   else none
  else
   Option.map Sum.inr (
    if l5.length=24 then
     (iH m3 l5).bind fun r_1=>
     if r_1=true then
      some m3
     else
      if(m3.length+1)*24<=140737488355328 then
       some (m3++[l5])
      else none
    else none)
def iV(m0:fN)(m1:fN)(m3:fU)(l1:fO):Option fU:=
 gF (mH m3 l1) (0,(List.replicate 24 []))
instance vp{m0:fN}{m1:fN}{m3:fU}{l1:fO}:gP (iV m0 m1 m3 l1) fun rr=>gG Tryz.prog 93 [.ptr 0 0] [(0,.obj 111 [.d (gu 1 iD m0),.d (gu 1 iD m1),.mm 1 1 0 24,.jM 1 2 m3.length]),(1,.obj 22 (List.map (aD (rY 1 iD)) l1)),(2,.ij 45 1 m3.length (gQ (gu 1 (gu 1 iD)) m3))] 3 fun xx ss=>xx=.l_ []/\ss=[(0,.obj 111 [.d (gu 1 iD m0),.d (gu 1 iD m1),.mm 1 1 0 24,.jM 1 2 rr.length]),(1,.obj 22 (List.map (aD (rY 1 iD)) l1)),(2,.ij 45 1 rr.length (gQ (gu 1 (gu 1 iD)) rr))]:=⟨@fun rr h=>by
 delta iV at h;refine uq.kS (gr ?_);delta pJ;refine gW ?_;refine yf ?_;refine jC h [3,4,11,12,13,14,15,16,17,18,19,20,21,22,23,24] (fun pp=>[(11,.d (iD pp.1))]) (fun pp=>[(0,.obj 111 [.d (gu 1 iD m0),.d (gu 1 iD m1),.mm 1 1 0 24,.jM 1 2 m3.length]),(1,.obj 22 (List.map (aD (rY 1 iD)) l1)),(2,.ij 45 1 m3.length (gQ (gu 1 (gu 1 iD)) m3)),(5,.obj 22 (List.map (aD (gu 1 iD)) pp.2)),(702,.obj 45 [.mm 1 5 0 24])]) ?_;rintro⟨v11,l5⟩ t1 h hb1;unfold mH at h;try dsimp only at h
 refine gr (gW ?_);refine it h (fun hc h=>?_) fun hc h=>?_
 ·refine iC h fun hp h=>?_
  refine iF h fun hc h=>?_
  refine iC h fun hp h=>?_
  cases h;refine⟨_,rfl,?_⟩;refine(gM.Ud (s':=[(0,.obj 111 [.d (gu 1 iD m0),.d (gu 1 iD m1),.mm 1 1 0 24,.jM 1 2 m3.length]),(1,.obj 22 (List.map (aD (rY 1 iD)) l1)),(2,.ij 45 1 m3.length (gQ (gu 1 (gu 1 iD)) m3)),(5,.obj 22 (List.map (aD (gu 1 iD)) (l5.set v11.toNat (l1.getD v11.toNat default)))),(702,.obj 45 [.mm 1 5 0 24])]) (gV.refl _) (by exact(wE (vI.refl _) (wE (vI.refl _) (wE (vI.refl _) (wE ⟨rfl,BS gq (by first|exact(A1 gq).2 trivial|exact(yy gq).2 trivial|exact vU.2 trivial|exact xR.2 trivial)⟩ (wE (vI.refl _) CI))))))).trans ?_;exact wk
 replace h:=gT h hb1;refine iC h fun hp h=>?_
 refine yc 5 (gu 1 iD) l5 gq rfl (fun _=>rfl) (gW ?_);refine U4 h fun r_1 hr_1 h=>?_
 refine it h (fun hc h=>?_) fun hc h=>?_
 ·cases h;exact⟨[702],by simp,lH,lH⟩
 refine iC h fun hp h=>?_
 refine iY (by kernel_rfl) (gW ?_);cases h;exact⟨[38,702],by simp,lH,lH⟩⟩
end Go.Proofs.YthdnkoejpdcnpaaGreat
namespace Go.Proofs.YthdnkoejpdcnpaaGreat
open Go kJ
set_option maxHeartbeats 4000000
inductive Kt where
 |rc
 |al (ps ts:List fN) (k:Kt)
 |s1 (f:Int) (ps ts:List fN) (j:Int) (k:Kt)
 |s2 (f:Int) (ps ts:List fN) (k:Kt)
def yY:Kt->Nat
 |.rc=>93
 |.al .. =>180
 |.s1 .. =>176
 |.s2 .. =>179
def sw:Kt->List AV
 |.rc=>[.ptr 0 0]
 |.al .. =>[]
 |.s1 .. =>[]
 |.s2 .. =>[]
def qI:Kt->List AV
 |.rc=>[]
 |.al ps ts k=>[.pa [.ptr 0 0],.pa [.d (gu 1 (gu 1 iD) ps)],.pa [.d (gu 1 (gu 1 iD) ts)],.pa [.fn (yY k) (sw k) (qI k)]]
 |.s1 f ps ts j k=>[.pa [.ptr 0 0],.pa [.d (iD f)],.pa [.d (gu 1 (gu 1 iD) ps)],.pa [.d (gu 1 (gu 1 iD) ts)],.pa [.d (iD j)],.pa [.fn (yY k) (sw k) (qI k)]]
 |.s2 f ps ts k=>[.pa [.ptr 0 0],.pa [.d (iD f)],.pa [.d (gu 1 (gu 1 iD) ps)],.pa [.d (gu 1 (gu 1 iD) ts)],.pa [.fn (yY k) (sw k) (qI k)]]
def AK(k:Kt):AV:=.fn (yY k) (sw k) (qI k)
theorem AZ(k:Kt):enters Tryz.prog (yY k)=true:=by cases k<;>kernel_rfl
theorem xO{ρ:Nat->Option Nat}(h:ρ 0=some 0):∀k:Kt,AV.ia ρ (sw k)=sw k
 |.rc=>by simp only[sw,AV.jU,AV.ia,h]
 |.al .. =>rfl
 |.s1 .. =>rfl
 |.s2 .. =>rfl
theorem xI{ρ:Nat->Option Nat}(h:ρ 0=some 0):∀k:Kt,AV.ia ρ (qI k)=qI k
 |.rc=>rfl
 |.al _ _ k=>by simp only[qI,AV.jU,AV.ia,h,xO h k,xI h k]
 |.s1 _ _ _ _ k=>by simp only[qI,AV.jU,AV.ia,h,xO h k,xI h k]
 |.s2 _ _ _ k=>by simp only[qI,AV.jU,AV.ia,h,xO h k,xI h k]
theorem A0{id:Nat}{cs:List AV}(h:id≠0):∀k:Kt,AV.tI id cs (sw k)=sw k
 |.rc=>by simp only[sw,AV.tY,AV.tI,ay (show ¬0=id by omega)]
 |.al .. =>rfl
 |.s1 .. =>rfl
 |.s2 .. =>rfl
theorem AW{id:Nat}{cs:List AV}(h:id≠0):∀k:Kt,AV.tI id cs (qI k)=qI k
 |.rc=>rfl
 |.al _ _ k=>by simp only[qI,AV.tY,AV.tI,ay (show ¬0=id by omega),A0 h k,AW h k]
 |.s1 _ _ _ _ k=>by simp only[qI,AV.tY,AV.tI,ay (show ¬0=id by omega),A0 h k,AW h k]
 |.s2 _ _ _ k=>by simp only[qI,AV.tY,AV.tI,ay (show ¬0=id by omega),A0 h k,AW h k]
theorem Lk{id:Nat}{k:Kt}(h:id≠0):AV.ia (gJ id) (sw k)=sw k:=xO (ρ:=gJ id) (by unfold gJ;rw[ay gq]) k
theorem K3{id:Nat}{k:Kt}(h:id≠0):AV.ia (gJ id) (qI k)=qI k:=xI (ρ:=gJ id) (by unfold gJ;rw[ay gq]) k
theorem Ll{id:Nat}{cs:List AV}{k:Kt}(h:id≠0):AV.tI id cs (sw k)=sw k:=A0 h k
theorem K4{id:Nat}{cs:List AV}{k:Kt}(h:id≠0):AV.tI id cs (qI k)=qI k:=AW h k
theorem LN{k:Kt}:List.map (fun x=>AV.jU (fun x=>if x=0 then some 0 else if x=1 then some 1 else if x=2 then some 2 else none) x) (sw k)=sw k:=by rw[<-vA];exact xO (ρ:=(fun x=>if x=0 then some 0 else if x=1 then some 1 else if x=2 then some 2 else none)) rfl k
theorem LM{k:Kt}:List.map (fun x=>AV.jU (fun x=>if x=0 then some 0 else if x=1 then some 1 else if x=2 then some 2 else none) x) (qI k)=qI k:=by rw[<-vA];exact xI (ρ:=(fun x=>if x=0 then some 0 else if x=1 then some 1 else if x=2 then some 2 else none)) rfl k
theorem JM{k:Kt}:AV.ia (fun x=>if x=0 then some 0 else if x=1 then some 1 else if x=2 then some 2 else none) (sw k)=sw k:=xO (ρ:=(fun x=>if x=0 then some 0 else if x=1 then some 1 else if x=2 then some 2 else none)) rfl k
theorem JL{k:Kt}:AV.ia (fun x=>if x=0 then some 0 else if x=1 then some 1 else if x=2 then some 2 else none) (qI k)=qI k:=xI (ρ:=(fun x=>if x=0 then some 0 else if x=1 then some 1 else if x=2 then some 2 else none)) rfl k
theorem RC:yY Kt.rc=93:=rfl
theorem RH:sw Kt.rc=[.ptr 0 0]:=rfl
theorem Rl:qI Kt.rc=[]:=rfl
theorem RB{ps ts:List fN}{k:Kt}:yY (Kt.al ps ts k)=180:=rfl
theorem RG{ps ts:List fN}{k:Kt}:sw (Kt.al ps ts k)=[]:=rfl
theorem Rk{ps ts:List fN}{k:Kt}:qI (Kt.al ps ts k)=[.pa [.ptr 0 0],.pa [.d (gu 1 (gu 1 iD) ps)],.pa [.d (gu 1 (gu 1 iD) ts)],.pa [.fn (yY k) (sw k) (qI k)]]:=rfl
theorem RD{f j:Int}{ps ts:List fN}{k:Kt}:yY (Kt.s1 f ps ts j k)=176:=rfl
theorem RI{f j:Int}{ps ts:List fN}{k:Kt}:sw (Kt.s1 f ps ts j k)=[]:=rfl
theorem Rm{f j:Int}{ps ts:List fN}{k:Kt}:qI (Kt.s1 f ps ts j k)=[.pa [.ptr 0 0],.pa [.d (iD f)],.pa [.d (gu 1 (gu 1 iD) ps)],.pa [.d (gu 1 (gu 1 iD) ts)],.pa [.d (iD j)],.pa [.fn (yY k) (sw k) (qI k)]]:=rfl
theorem RE{f:Int}{ps ts:List fN}{k:Kt}:yY (Kt.s2 f ps ts k)=179:=rfl
theorem RJ{f:Int}{ps ts:List fN}{k:Kt}:sw (Kt.s2 f ps ts k)=[]:=rfl
theorem Rn{f:Int}{ps ts:List fN}{k:Kt}:qI (Kt.s2 f ps ts k)=[.pa [.ptr 0 0],.pa [.d (iD f)],.pa [.d (gu 1 (gu 1 iD) ps)],.pa [.d (gu 1 (gu 1 iD) ts)],.pa [.fn (yY k) (sw k) (qI k)]]:=rfl
attribute [go_sem] AK RC RH Rl RB RG Rk RD RI Rm RE RJ Rn Lk K3 Ll K4 LN LM JM JL
abbrev RT:=Kt->fN->fN->List fO->List fN->Option (List fO×List fN)
abbrev MT:=fN->fN->Kt->fN->fN->List fO->List fN->Option (List fO×List fN)
class De (recR:RT):Prop where
 c:∀{k:Kt}{m0 m1:fN}{m3:List fO}{l1:List fN},gP (recR k m0 m1 m3 l1) fun rr=>gG Tryz.prog (yY k) (sw k++qI k) [(0,.obj 111 [.d (gu 1 iD m0),.d (gu 1 iD m1),.mm 1 1 0 24,.jM 1 2 m3.length]),(1,.obj 22 (List.map (aD (rY 1 iD)) l1)),(2,.ij 45 1 m3.length (gQ (gu 1 (gu 1 iD)) m3))] 3 fun xx ss=>xx=.l_ []/\ss=[(0,.obj 111 [.d (gu 1 iD m0),.d (gu 1 iD m1),.mm 1 1 0 24,.jM 1 2 rr.1.length]),(1,.obj 22 (List.map (aD (rY 1 iD)) rr.2)),(2,.ij 45 1 rr.1.length (gQ (gu 1 (gu 1 iD)) rr.1))]
class Dd (recM:MT):Prop where
 c:∀{p t:fN}{k:Kt}{m0 m1:fN}{m3:List fO}{l1:List fN},gP (recM p t k m0 m1 m3 l1) fun rr=>gG Tryz.prog 92 [.ptr 0 0,.d (gu 1 iD p),.d (gu 1 iD t),AK k] [(0,.obj 111 [.d (gu 1 iD m0),.d (gu 1 iD m1),.mm 1 1 0 24,.jM 1 2 m3.length]),(1,.obj 22 (List.map (aD (rY 1 iD)) l1)),(2,.ij 45 1 m3.length (gQ (gu 1 (gu 1 iD)) m3))] 3 fun xx ss=>xx=.l_ []/\ss=[(0,.obj 111 [.d (gu 1 iD m0),.d (gu 1 iD m1),.mm 1 1 0 24,.jM 1 2 rr.1.length]),(1,.obj 22 (List.map (aD (rY 1 iD)) rr.2)),(2,.ij 45 1 rr.1.length (gQ (gu 1 (gu 1 iD)) rr.1))]
instance Xi{recR:RT}[h:De recR]{k:Kt}{m0 m1:fN}{m3:List fO}{l1:List fN}:gP (recR k m0 m1 m3 l1) fun rr=>gG Tryz.prog (yY k) (sw k++qI k) [(0,.obj 111 [.d (gu 1 iD m0),.d (gu 1 iD m1),.mm 1 1 0 24,.jM 1 2 m3.length]),(1,.obj 22 (List.map (aD (rY 1 iD)) l1)),(2,.ij 45 1 m3.length (gQ (gu 1 (gu 1 iD)) m3))] 3 fun xx ss=>xx=.l_ []/\ss=[(0,.obj 111 [.d (gu 1 iD m0),.d (gu 1 iD m1),.mm 1 1 0 24,.jM 1 2 rr.1.length]),(1,.obj 22 (List.map (aD (rY 1 iD)) rr.2)),(2,.ij 45 1 rr.1.length (gQ (gu 1 (gu 1 iD)) rr.1))]:=h.c
instance Xh{recM:MT}[h:Dd recM]{p t:fN}{k:Kt}{m0 m1:fN}{m3:List fO}{l1:List fN}:gP (recM p t k m0 m1 m3 l1) fun rr=>gG Tryz.prog 92 [.ptr 0 0,.d (gu 1 iD p),.d (gu 1 iD t),AK k] [(0,.obj 111 [.d (gu 1 iD m0),.d (gu 1 iD m1),.mm 1 1 0 24,.jM 1 2 m3.length]),(1,.obj 22 (List.map (aD (rY 1 iD)) l1)),(2,.ij 45 1 m3.length (gQ (gu 1 (gu 1 iD)) m3))] 3 fun xx ss=>xx=.l_ []/\ss=[(0,.obj 111 [.d (gu 1 iD m0),.d (gu 1 iD m1),.mm 1 1 0 24,.jM 1 2 rr.1.length]),(1,.obj 22 (List.map (aD (rY 1 iD)) rr.2)),(2,.ij 45 1 rr.1.length (gQ (gu 1 (gu 1 iD)) rr.1))]:=h.c
end Go.Proofs.YthdnkoejpdcnpaaGreat
namespace Go.Proofs.YthdnkoejpdcnpaaGreat
open Go kJ
attribute [local irreducible] sG ud tP lp kI oZ jk ya yG wF yF wv rj kR lN ym gV ki
set_option maxHeartbeats 4000000
set_option maxRecDepth 4000
def pV:gB:=
 (.seq (.seq (.gv (sq 8 [mv 0,.nD (t0 8),fa 2 9,ld 10,mv 1,ix 1 11 12,ld 13,.wo true (t0 14)])) (.cond (t0 15) (.seq (.seq (.gv (sq 16 [mv 0,.nD (t0 16),fa 2 17,ld 18,mv 1,ix 1 19 20,ld 21,mv 2,cf 155 [22,23]])) (.cond (t0 24) (.gv (sq 25 [mv 3,.tN (t0 25) []])) .skip)) .ret) .skip)) (.seq (.gv (sq 27 [mv 0,.nD (t0 27),fa 2 28,ld 29,mv 1,mv 2,ix 1 30 31]++s0 (sr 1 33 32))) (.seq (.ghost (.gv (sq 34 [mv 3,.tN (t0 34) []]))) (.gv (sq 36 [mv 0,.nD (t0 36),fa 2 37,ld 38,mv 1,ix 1 39 40]++s0 (.store 1 (t0 41) (.const (.slice none 0 0))))))))
theorem uH:kG Tryz.prog 143 pV 42 []:=mf Tryz.func143 Tryz.ntmps143
def jT(recR:RT)(recM:MT)(i:Int)(t:fN)(k:Kt)(m0:fN)(m1:fN)(m3:fU)(l1:fO):Option (fU×fO):=
 if 0<=i/\i<(24:Int)/\i<(l1.length:Int)then
  if(l1.getD i.toNat default).isEmpty=true then
   if 0<t.length then
    (recR k m0 m1 m3 (l1.set i.toNat t)).bind fun r=>
    if 0<=i/\i<(24:Int)/\i<(r.2.length:Int)then
     some (r.1,(r.2.set i.toNat []))
    else none
   else none
  else
   (gX (l1.getD i.toNat default) t).bind fun r_1=>
   if r_1=true then
    (recR k m0 m1 m3 l1).bind fun r_2=>
    some r_2
   else
    some (m3,l1)
 else none
instance D7{recR:RT}{recM:MT}[De recR][Dd recM]{i:Int}{t:fN}{k:Kt}{m0:fN}{m1:fN}{m3:fU}{l1:fO}:gP (jT recR recM i t k m0 m1 m3 l1) fun rr=>gG Tryz.prog 143 [.ptr 0 0,.d (iD i),.d (gu 1 iD t),AK k] [(0,.obj 111 [.d (gu 1 iD m0),.d (gu 1 iD m1),.mm 1 1 0 24,.jM 1 2 m3.length]),(1,.obj 22 (List.map (aD (rY 1 iD)) l1)),(2,.ij 45 1 m3.length (gQ (gu 1 (gu 1 iD)) m3))] 3 fun xx ss=>xx=.l_ []/\ss=[(0,.obj 111 [.d (gu 1 iD m0),.d (gu 1 iD m1),.mm 1 1 0 24,.jM 1 2 rr.1.length]),(1,.obj 22 (List.map (aD (rY 1 iD)) rr.2)),(2,.ij 45 1 rr.1.length (gQ (gu 1 (gu 1 iD)) rr.1))]:=⟨@fun rr h=>by
 delta jT at h;refine uH.zT (gr ?_);delta pV;refine gW ?_;refine iC h fun hp h=>?_
 refine it h (fun hc1 h=>?_) fun hc1 h=>?_
 ·refine yf ?_;refine iC h fun hp h=>?_
  refine jk.of ((gM.Ud (s':=[(0,.obj 111 [.d (gu 1 iD m0),.d (gu 1 iD m1),.mm 1 1 0 24,.jM 1 2 m3.length]),(1,.obj 22 (List.map (aD (rY 1 iD)) (l1.set i.toNat t))),(2,.ij 45 1 m3.length (gQ (gu 1 (gu 1 iD)) m3))]) (gV.refl _) (by exact(wE (vI.refl _) (wE ⟨rfl,BS gq (by first|exact(A1 gq).2 trivial|exact(yy gq).2 trivial|exact vU.2 trivial|exact xR.2 trivial)⟩ (wE (vI.refl _) CI)))))) ?_;refine gW ?_;refine tG (AZ _) ?_;refine oB [(0,0),(1,1),(2,2)] [] h fun r hr h=>?_
  refine iC h fun hp h=>?_
  cases h;exact gN.trans ((gN.told (t:=[(0,.obj 111 [.d (gu 1 iD m0),.d (gu 1 iD m1),.mm 1 1 0 24,.jM 1 2 r.1.length]),(1,.obj 22 (List.map (aD (rY 1 iD)) (r.2.set i.toNat []))),(2,.ij 45 1 r.1.length (gQ (gu 1 (gu 1 iD)) r.1))]) (AV.le_refl _) (by exact(wE (vI.refl _) (wE ⟨rfl,BS gq (by first|exact(A1 gq).2 trivial|exact(yy gq).2 trivial|exact vU.2 trivial|exact xR.2 trivial)⟩ (wE (vI.refl _) CI)))))) (gN.told zN lH)
 refine yf ?_;refine rC h fun r_1 hr_1 h=>?_
 refine it h (fun hc2 h=>?_) fun hc2 h=>?_
 ·refine tG (AZ _) ?_;refine oB [(0,0),(1,1),(2,2)] [] h fun r_2 hr_2 h=>?_
  cases h;exact gN.trans (gN.refl) (gN.told zN lH)
 cases h;exact gN.trans (gN.refl) (gN.told zN lH)⟩
def qm:gB:=
 (.seq (.gv (sq 4 [bo 4 109 0,bo 5 45 1,bo 6 45 2,bo 7 1 3])) (.seq (.seq (.ghost (.gv (sq 8 [ld 5,ln 8,bi .eql 9 0]))) (.cond (t0 10) (.seq (.gv (sq 11 [ld 7,.tN (t0 11) []])) .ret) .skip)) (.draw (sq 13 [ld 4,ld 5,.qj 1 (t0 14) (i0 0),ld 15,ld 6,.qj 1 (t0 17) (i0 0),ld 18,.zk 180 [] [(t0 4),(t0 5),(t0 6),(t0 7)],cf 92 [13,16,19,20]]) [[],[],[1],[2],[],[4],[5],[],[0,3,6,7]])))
theorem u_:kG Tryz.prog 146 qm 22 []:=mf Tryz.func146 Tryz.ntmps146
def jv(recR:RT)(recM:MT)(ps:fO)(ts:fO)(k:Kt)(m0:fN)(m1:fN)(m3:fU)(l1:fO):Option (fU×fO):=
 if((ps.length:Int)==0)=true then
  (recR k m0 m1 m3 l1).bind fun r=>
  some r
 else
  if 0<=0/\0<(ps.length:Int)then
   if 0<=0/\0<(ts.length:Int)then
    (recM (ps.getD 0 default) (ts.getD 0 default) (Kt.al ps ts k) m0 m1 m3 l1).bind fun r_1=>
    some r_1
   else none
  else none
instance Ez{recR:RT}{recM:MT}[De recR][Dd recM]{ps:fO}{ts:fO}{k:Kt}{m0:fN}{m1:fN}{m3:fU}{l1:fO}:gP (jv recR recM ps ts k m0 m1 m3 l1) fun rr=>gG Tryz.prog 146 [.ptr 0 0,.d (gu 1 (gu 1 iD) ps),.d (gu 1 (gu 1 iD) ts),AK k] [(0,.obj 111 [.d (gu 1 iD m0),.d (gu 1 iD m1),.mm 1 1 0 24,.jM 1 2 m3.length]),(1,.obj 22 (List.map (aD (rY 1 iD)) l1)),(2,.ij 45 1 m3.length (gQ (gu 1 (gu 1 iD)) m3))] 3 fun xx ss=>xx=.l_ []/\ss=[(0,.obj 111 [.d (gu 1 iD m0),.d (gu 1 iD m1),.mm 1 1 0 24,.jM 1 2 rr.1.length]),(1,.obj 22 (List.map (aD (rY 1 iD)) rr.2)),(2,.ij 45 1 rr.1.length (gQ (gu 1 (gu 1 iD)) rr.1))]:=⟨@fun rr h=>by
 delta jv at h;refine u_.kS (gr ?_);delta qm;refine gW ?_;refine jk.of ((gM.trans ((gM.tY 4 gq rfl).trans (gM.drop 4 gq)) (gM.trans ((gM.tY 5 gq rfl).trans (gM.drop 5 gq)) (gM.trans ((gM.tY 6 gq rfl).trans (gM.drop 6 gq)) ((gM.tY 7 gq rfl).trans (gM.drop 7 gq)))))) ?_;refine gW ?_;refine it h (fun hc1 h=>?_) fun hc1 h=>?_
 ·refine tG (AZ _) ?_;refine oB [(0,0),(1,1),(2,2)] [] h fun r hr h=>?_
  exact mj
 refine iC h fun hp h=>?_
 refine iC h fun hp h=>?_
 refine Cx [(0,0),(1,1),(2,2)] [] h fun r_1 hr_1 h=>?_
 exact mj⟩
def oV:gB:=
 (.seq (.gv (sq 5 [bo 5 109 0,bo 6 2 1,bo 7 45 2,bo 8 45 3,bo 9 1 4])) (.seq (.seq (.ghost (.gv (sq 16 [ld 7,ln 16,bi .eql 17 0,mv 18]++sg 19 false 20 [ld 8,ln 20,ld 7,ln 22,bn .lss 21 23]++sq 25 [po 19 24,mv 25]++sg 26 false 27 [ld 5,cf 94 [27]]++sq 29 [po 26 28]))) (.cond (t0 29) (.seq (.seq (.gv (sq 30 [ld 7,ln 30,bi .eql 31 0,mv 32]++sg 33 true 34 [ld 8,ln 34,bi .eql 35 0]++sq 37 [pa 33 36])) (.cond (t0 37) (.gv (sq 38 [ld 9,.tN (t0 38) []])) .skip)) .ret) .skip)) (.seq (.seq (.gv (sq 40 [ld 7,.qj 1 (t0 40) (i0 0),ld 41,.qj 1 (t0 42) (i0 0),ld 43,bi .geq 44 0])) (.cond (t0 45) (.seq (.seq (.gv (sq 46 [ld 8,ln 46,mi 0])) (.block 0 (.loop (.seq (.gv (sq 49 [bn .lss 48 47])) (.seq (.cond (t0 49) .skip (.exit 0)) (.seq (.block 1 (.seq (.gv (sq 50 [mv 48,ix 1 46 48,ld 51]++sq 10 [.alloc 10 3 [.lit (.int .i64 0)]]++s0 (sr 1 10 50)++sq 11 [mv 52])) (.seq (.seq (.ghost (.gv (sq 53 [ld 10,bi .gtr 53 0,mv 54]++sg 55 true 56 [ld 8,ld 10,bi .sub 57 1,ix 1 56 58,ld 59,mv 11,cf 155 [60,61]]++sq 63 [pa 55 62]))) (.cond (t0 63) (.exit 1) .skip)) (.draw (sq 64 [ld 5,ld 7,.qj 1 (t0 65) (i0 0),ld 66,mv 11,.zk 176 [] [(t0 5),(t0 6),(t0 7),(t0 8),(t0 10),(t0 9)],cf 92 [64,67,68,69]]) [[],[],[1],[2],[],[],[0,3,4,5]])))) (.gv (sq 71 [bi .add 48 1]++sq 48 [mv 71])))))))) .ret) .skip)) (.seq (.gv (sq 12 [mi 1])) (.block 2 (.loop (.seq (.seq (.gv (sq 72 [mv 12,ld 8,ln 73,.bin .shl (i0 1) (t0 74),bn .lss 72 75])) (.cond (t0 76) .skip (.exit 2))) (.seq (.block 3 (.seq (.gv (sq 80 [ld 8,mv 12,cf 178 [80,81]]++sq 79 [mv 82]++sq 83 [ex 79 0,ex 79 1,ex 79 2]++sq 14 [.alloc 14 45 [.sl 0 (some true) []]]++sq 13 [mv 83]++s0 (sr 1 14 84)++sq 15 [mv 85])) (.seq (.ghost (.gv (sq 86 [mv 15]))) (.cond (t0 86) (.draw (sq 87 [ld 5,ld 7,.qj 1 (t0 88) (i0 0),ld 89,.qj 1 (t0 90) (i0 0),ld 91,.bin .sub (i0 (-1)) (t0 92),ld 6,mv 13,cf 121 [94,95],.zk 179 [] [(t0 5),(t0 6),(t0 7),(t0 14),(t0 9)],cf 143 [87,93,96,97]]) [[],[],[1],[2],[3],[4],[5],[],[],[7,8],[],[0,6,9,10,9]]) .skip)))) (.gv (sq 77 [mv 12,bi .add 77 1]++sq 12 [mv 78]))))))))))
theorem tU:kG Tryz.prog 144 oV 99 []:=mf Tryz.func144 Tryz.ntmps144
def kN(recR:RT)(recM:MT)(f:Int)(ps:fO)(ts:fO)(k:Kt)(m0:fN)(m1:fN):(Int×fO×fU)->Option ((Int×fO×fU)⊕(fU×fO))
 |(v48,f_1,ps_1)=>
  if(decide (v48<(ts.length:Int)))=true then
   if 0<=v48/\v48<(ts.length:Int)then
    if(decide (0<v48))=true then
     if 0<=(IntKind.i64.wrap (v48-1))/\(IntKind.i64.wrap (v48-1))<(ts.length:Int)then
      (gX (ts.getD (IntKind.i64.wrap (v48-1)).toNat default) (ts.getD v48.toNat default)).bind fun r_4=>
      if r_4=true then
       some (.inl ((IntKind.i64.wrap (v48+1)),f_1,ps_1))
      else
       (recM (ps.getD 0 default) (ts.getD v48.toNat default) (Kt.s1 f ps ts v48 k) m0 m1 ps_1 f_1).bind fun r_5=>
       some (.inl ((IntKind.i64.wrap (v48+1)),r_5.2,r_5.1))
     else none
    else
     (recM (ps.getD 0 default) (ts.getD v48.toNat default) (Kt.s1 f ps ts v48 k) m0 m1 ps_1 f_1).bind fun r_6=>
     some (.inl ((IntKind.i64.wrap (v48+1)),r_6.2,r_6.1))
   else none
  else
   Option.map Sum.inr (
    some (ps_1,f_1))
def kO(recR:RT)(recM:MT)(f:Int)(ps:fO)(ts:fO)(k:Kt)(m0:fN)(m1:fN):(Int×fO×fU)->Option ((Int×fO×fU)⊕(fU×fO))
 |(mask,f_2,ps_2)=>
  if 0<=(ts.length:Int)then
   if(decide (mask<(Fq .i64 1 (ts.length:Int))))=true then
    (pg ts mask).bind fun r_7=>
    if r_7.2.2=true then
     (rm f r_7.1).bind fun r_8=>
     (jT recR recM (IntKind.i64.wrap ((-1)-((ps.getD 0 default).getD 0 default))) r_8 (Kt.s2 f ps r_7.2.1 k) m0 m1 ps_2 f_2).bind fun r_9=>
     some (.inl ((IntKind.i64.wrap (mask+1)),r_9.2,r_9.1))
    else
     some (.inl ((IntKind.i64.wrap (mask+1)),f_2,ps_2))
   else
    Option.map Sum.inr (
     some (ps_2,f_2))
  else none
def iB(recR:RT)(recM:MT)(f:Int)(ps:fO)(ts:fO)(k:Kt)(m0:fN)(m1:fN)(m3:fU)(l1:fO):Option (fU×fO):=
 if((ps.length:Int)==0)=true then
  if((ts.length:Int)==0)=true then
   (recR k m0 m1 m3 l1).bind fun r=>
   some r
  else
   some (m3,l1)
 else
  if(decide ((ts.length:Int)<(ps.length:Int)))=true then
   some (m3,l1)
  else
   (iO m0 m1 m3 l1).bind fun r_2=>
   if r_2=true then
    some (m3,l1)
   else
    if 0<=0/\0<(ps.length:Int)then
     if 0<=0/\0<((ps.getD 0 default).length:Int)then
      if(decide (0<=((ps.getD 0 default).getD 0 default)))=true then
       gF (kN recR recM f ps ts k m0 m1) (0,l1,m3)
      else
       gF (kO recR recM f ps ts k m0 m1) (1,l1,m3)
     else none
    else none
instance CK{recR:RT}{recM:MT}[De recR][Dd recM]{f:Int}{ps:fO}{ts:fO}{k:Kt}{m0:fN}{m1:fN}{m3:fU}{l1:fO}:gP (iB recR recM f ps ts k m0 m1 m3 l1) fun rr=>gG Tryz.prog 144 [.ptr 0 0,.d (iD f),.d (gu 1 (gu 1 iD) ps),.d (gu 1 (gu 1 iD) ts),AK k] [(0,.obj 111 [.d (gu 1 iD m0),.d (gu 1 iD m1),.mm 1 1 0 24,.jM 1 2 m3.length]),(1,.obj 22 (List.map (aD (rY 1 iD)) l1)),(2,.ij 45 1 m3.length (gQ (gu 1 (gu 1 iD)) m3))] 3 fun xx ss=>xx=.l_ []/\ss=[(0,.obj 111 [.d (gu 1 iD m0),.d (gu 1 iD m1),.mm 1 1 0 24,.jM 1 2 rr.1.length]),(1,.obj 22 (List.map (aD (rY 1 iD)) rr.2)),(2,.ij 45 1 rr.1.length (gQ (gu 1 (gu 1 iD)) rr.1))]:=⟨@fun rr h=>by
 delta iB at h;refine tU.kS (gr ?_);delta oV;refine gW ?_;refine jk.of ((gM.trans ((gM.tY 5 gq rfl).trans (gM.drop 5 gq)) (gM.trans ((gM.tY 6 gq rfl).trans (gM.drop 6 gq)) (gM.trans ((gM.tY 7 gq rfl).trans (gM.drop 7 gq)) (gM.trans ((gM.tY 8 gq rfl).trans (gM.drop 8 gq)) ((gM.tY 9 gq rfl).trans (gM.drop 9 gq))))))) ?_;refine gW ?_;refine it h (fun hc1 h=>?_) fun hc1 h=>?_
 ·have hc:=hc1;refine MJ hc ?_;refine iT h fun hc2 h=>?_
  refine tG (AZ _) ?_;refine oB [(0,0),(1,1),(2,2)] [] h fun r hr h=>?_
  exact mj
 refine it h (fun hc3 h=>?_) fun hc3 h=>?_
 ·have hc:=hc1;refine MJ hc ?_;exact mj
 refine oB [(0,0),(1,1),(2,2)] [] h fun r_2 hr_2 h=>?_
 refine it h (fun hc4 h=>?_) fun hc4 h=>?_
 ·have hc:=hc1;refine MJ hc ?_;exact mj
 refine iC h fun hp h=>?_
 refine iC h fun hp h=>?_
 refine it h (fun hc5 h=>?_) fun hc5 h=>?_
 ·refine jC h [10,11,48,49,50,51,52,53,54,55,56,57,58,59,60,61,62,63,64,65,66,67,68,69,70,71] (fun pp=>[(48,.d (iD pp.1))]) (fun pp=>[(0,.obj 111 [.d (gu 1 iD m0),.d (gu 1 iD m1),.mm 1 1 0 24,.jM 1 2 pp.2.2.length]),(1,.obj 22 (List.map (aD (rY 1 iD)) pp.2.1)),(2,.ij 45 1 pp.2.2.length (gQ (gu 1 (gu 1 iD)) pp.2.2))]) ?_;rintro⟨v48,f_1,ps_1⟩ t1 h hb1;unfold kN at h;try dsimp only at h
  refine gr (gW ?_);refine iT h fun hc6 h=>?_
  refine iC h fun hp h=>?_
  refine jk.of (((gM.tY 10 gq rfl).trans (gM.drop 10 gq))) ?_;refine gW ?_;refine it h (fun hc7 h=>?_) fun hc7 h=>?_
  ·refine iC h fun hp h=>?_
   refine rC h fun r_4 hr_4 h=>?_
   refine iF h fun hc8 h=>?_
   refine yf ?_;refine Cx [(0,0),(1,1),(2,2)] [] h fun r_5 hr_5 h=>?_
   exact mj
  refine yf ?_;refine Cx [(0,0),(1,1),(2,2)] [] h fun r_6 hr_6 h=>?_
  exact mj
 refine jC h [12,13,14,15,72,73,74,75,76,77,78,79,80,81,82,83,84,85,86,87,88,89,90,91,92,93,94,95,96,97,98] (fun pp=>[(12,.d (iD pp.1))]) (fun pp=>[(0,.obj 111 [.d (gu 1 iD m0),.d (gu 1 iD m1),.mm 1 1 0 24,.jM 1 2 pp.2.2.length]),(1,.obj 22 (List.map (aD (rY 1 iD)) pp.2.1)),(2,.ij 45 1 pp.2.2.length (gQ (gu 1 (gu 1 iD)) pp.2.2))]) ?_;rintro⟨mask,f_2,ps_2⟩ t1 h hb1;unfold kO at h;try dsimp only at h
 refine gr (gW ?_);refine iC h fun hp h=>?_
 refine iT h fun hc9 h=>?_
 refine SP h fun r_7 hr_7 h=>?_
 refine jk.of (((gM.tY 14 gq rfl).trans (gM.drop 14 gq))) ?_;refine gW ?_;refine iT h fun hc10 h=>?_
 refine yf ?_;refine yf ?_;refine dC h fun r_8 hr_8 h=>?_
 refine Cx [(0,0),(1,1),(2,2)] [] h fun r_9 hr_9 h=>?_
 exact mj⟩
def UY:gB:=
 (.block 0 (.seq (.gv (sq 26 [mv 0,cf 94 [26]]++sq 25 [mv 27])) (.cond (t0 25) .skip (.seq (.gv (sq 29 [mv 1,.qj 1 (t0 29) (i0 0),ld 30,bi .lss 31 0]++sq 28 [mv 32])) (.cond (t0 28) (.gv (sq 33 [mv 0,mv 1,.qj 1 (t0 34) (i0 0),ld 35,.bin .sub (i0 (-1)) (t0 36),mv 2,mv 3,cf 143 [33,37,38,39]])) (.seq (.draw (sq 42 [mv 1,.qj 1 (t0 42) (i0 0),ld 43,mv 2,.qj 1 (t0 45) (i0 0),ld 46,bn .neq 44 47]++sq 41 [mv 48]) [[],[0],[1],[],[3],[4],[2,5],[6]]) (.cond (t0 41) .skip (.seq (.draw (sq 50 [mv 0,.nD (t0 50),fa 0 51,la 2 52,mv 1,.qj 1 (t0 54) (i0 0),ld 55,cf 120 [53,56]]++sq 49 [mv 57]) [[],[0],[1],[2],[],[4],[5],[3,6],[7,7]]) (.cond (t0 49) (.draw (sq 58 [mv 0,mv 1,.qj 1 (t0 59) (i0 0),ld 60,mv 0,mv 0,.nD (t0 63),fa 0 64,la 2 65,mv 1,cf 142 [66,67],cf 145 [62,68],mv 0,.nD (t0 70),fa 0 71,la 2 72,mv 2,cf 122 [73,74],mv 3,cf 144 [58,61,69,75,76]]) [[],[],[1],[2],[],[],[5],[6],[7],[],[8,9],[4,10,10],[],[12],[13],[14],[],[15,16,11],[],[0,3,11,17,18,17]]) (.draw (sq 8 [mv 0,mv 0,.nD (t0 9),fa 0 10,fa 0 11,la 1 12,mv 1,cf 147 [13,14],mv 0,.nD (t0 16),fa 0 17,fa 0 18,la 1 19,mv 2,cf 147 [20,21],mv 3,cf 146 [8,15,22,23]]) [[],[],[1],[2],[3],[4],[],[5,6],[],[8],[9],[10],[11],[],[12,13,7],[],[0,7,14,15,14]]))))))))))
theorem Wk:kG Tryz.prog 92 UY 78 []:=mf Tryz.func92 Tryz.ntmps92
def kM(recR:RT)(recM:MT)(p:fN)(t:fN)(k:Kt)(m0:fN)(m1:fN)(m3:fU)(l1:fO):Option (fU×fO):=
 (iO m0 m1 m3 l1).bind fun r=>
 if r=true then
  some (m3,l1)
 else
  if 0<=0/\0<(p.length:Int)then
   if(decide ((p.getD 0 default)<0))=true then
    (jT recR recM (IntKind.i64.wrap ((-1)-(p.getD 0 default))) t k m0 m1 m3 l1).bind fun r_1=>
    some r_1
   else
    if 0<=0/\0<(t.length:Int)then
     if((p.getD 0 default) != (t.getD 0 default))=true then
      some (m3,l1)
     else
      (kj (m0,m1) (p.getD 0 default)).bind fun r_2=>
      if r_2=true then
       (jr (m0,m1) p).bind fun r_3=>
       (jV r_3).bind fun r_4=>
       (lg (m0,m1) t).bind fun r_5=>
       (iB recR recM (p.getD 0 default) r_4 r_5 k m0 m1 m3 l1).bind fun r_6=>
       some r_6
      else
       (oK m0 p).bind fun r_7=>
       (oK m0 t).bind fun r_8=>
       (jv recR recM r_7 r_8 k m0 m1 m3 l1).bind fun r_9=>
       some r_9
    else none
  else none
instance vN{recR:RT}{recM:MT}[De recR][Dd recM]{p:fN}{t:fN}{k:Kt}{m0:fN}{m1:fN}{m3:fU}{l1:fO}:gP (kM recR recM p t k m0 m1 m3 l1) fun rr=>gG Tryz.prog 92 [.ptr 0 0,.d (gu 1 iD p),.d (gu 1 iD t),AK k] [(0,.obj 111 [.d (gu 1 iD m0),.d (gu 1 iD m1),.mm 1 1 0 24,.jM 1 2 m3.length]),(1,.obj 22 (List.map (aD (rY 1 iD)) l1)),(2,.ij 45 1 m3.length (gQ (gu 1 (gu 1 iD)) m3))] 3 fun xx ss=>xx=.l_ []/\ss=[(0,.obj 111 [.d (gu 1 iD m0),.d (gu 1 iD m1),.mm 1 1 0 24,.jM 1 2 rr.1.length]),(1,.obj 22 (List.map (aD (rY 1 iD)) rr.2)),(2,.ij 45 1 rr.1.length (gQ (gu 1 (gu 1 iD)) rr.1))]:=⟨@fun rr h=>by
 delta kM at h;refine Wk.kS (gr ?_);delta UY;refine gW ?_;refine oB [(0,0),(1,1),(2,2)] [] h fun r hr h=>?_
 refine iF h fun hc1 h=>?_
 refine iC h fun hp h=>?_
 refine it h (fun hc2 h=>?_) fun hc2 h=>?_
 ·refine yf ?_;refine oB [(0,0),(1,1),(2,2)] [] h fun r_1 hr_1 h=>?_
  exact mj
 refine yf ?_;refine iC h fun hp h=>?_
 refine iY (by kernel_rfl) (gW ?_);refine iF h fun hc3 h=>?_
 refine yf ?_;refine dC h fun r_2 hr_2 h=>?_
 refine iY (by kernel_rfl) (gW ?_);refine it h (fun hc4 h=>?_) fun hc4 h=>?_
 ·refine yf ?_;refine dC h fun r_3 hr_3 h=>?_
  refine Cx [] [] h fun r_4 hr_4 h=>?_
  refine dC h fun r_5 hr_5 h=>?_
  refine Cx [(0,0),(1,1),(2,2)] [] h fun r_6 hr_6 h=>?_
  exact mj
 refine dC h fun r_7 hr_7 h=>?_
 refine dC h fun r_8 hr_8 h=>?_
 refine Cx [(0,0),(1,1),(2,2)] [] h fun r_9 hr_9 h=>?_
 exact mj⟩
def QA:gB:=
 (.draw (sq 4 [ld 0,ld 1,.slc (t0 5) 1 (some (i0 1)) none none,ld 2,.slc (t0 7) 1 (some (i0 1)) none none,ld 3,cf 146 [4,6,8,9]]) [[],[],[1],[],[3],[],[0,2,4,5]])
theorem T6:kG Tryz.prog 180 QA 11 []:=mf Tryz.func180 Tryz.ntmps180
def kL(recR:RT)(recM:MT)(a1:fO)(a2:fO)(k:Kt)(o00:fN)(o01:fN)(o03:fU)(l1:fO):Option (fU×fO):=
 if 0<=1/\1<=(a1.length:Int)then
  if 0<=1/\1<=(a2.length:Int)then
   (jv recR recM (a1.drop 1) (a2.drop 1) k o00 o01 o03 l1).bind fun r=>
   some r
  else none
 else none
instance vM{recR:RT}{recM:MT}[De recR][Dd recM]{a1:fO}{a2:fO}{k:Kt}{o00:fN}{o01:fN}{o03:fU}{l1:fO}:gP (kL recR recM a1 a2 k o00 o01 o03 l1) fun rr=>gG Tryz.prog 180 [.pa [.ptr 0 0],.pa [.d (gu 1 (gu 1 iD) a1)],.pa [.d (gu 1 (gu 1 iD) a2)],.pa [AK k]] [(0,.obj 111 [.d (gu 1 iD o00),.d (gu 1 iD o01),.mm 1 1 0 24,.jM 1 2 o03.length]),(1,.obj 22 (List.map (aD (rY 1 iD)) l1)),(2,.ij 45 1 o03.length (gQ (gu 1 (gu 1 iD)) o03))] 3 fun xx ss=>xx=.l_ []/\ss=[(0,.obj 111 [.d (gu 1 iD o00),.d (gu 1 iD o01),.mm 1 1 0 24,.jM 1 2 rr.1.length]),(1,.obj 22 (List.map (aD (rY 1 iD)) rr.2)),(2,.ij 45 1 rr.1.length (gQ (gu 1 (gu 1 iD)) rr.1))]:=⟨@fun rr h=>by
 delta kL at h;refine T6.kS (gr ?_);delta QA;refine gW ?_;refine iC h fun hp h=>?_
 refine iC h fun hp h=>?_
 refine Cx [(0,0),(1,1),(2,2)] [] h fun r hr h=>?_
 exact mj⟩
def Qw:gB:=
 (.draw (sq 6 [ld 0,ld 1,ld 2,.slc (t0 8) 1 (some (i0 1)) none none,ld 3,ld 4,.slc (t0 10) 1 none (some (t0 11)) none,ld 3,ld 4,bi .add 14 1,.slc (t0 13) 1 (some (t0 15)) none none,.mW 17 45 1 [(t0 12),(t0 16)],cf 177 [17],ld 5,cf 144 [6,7,9,18,19]]) [[],[],[],[2],[],[],[4,5],[],[],[8],[7,9],[6,10],[11],[],[0,1,3,12,13,12]])
theorem T2:kG Tryz.prog 176 Qw 21 []:=mf Tryz.func176 Tryz.ntmps176
def jJ(recR:RT)(recM:MT)(a1:Int)(a2:fO)(a3:fO)(a4:Int)(k:Kt)(o00:fN)(o01:fN)(o03:fU)(l1:fO):Option (fU×fO):=
 if 0<=1/\1<=(a2.length:Int)then
  if 0<=a4/\a4<=(a3.length:Int)then
   if 0<=(IntKind.i64.wrap (a4+1))/\(IntKind.i64.wrap (a4+1))<=(a3.length:Int)then
    (iW [(a3.take a4.toNat),(a3.drop (IntKind.i64.wrap (a4+1)).toNat)]).bind fun r=>
    (iB recR recM a1 (a2.drop 1) r k o00 o01 o03 l1).bind fun r_1=>
    some r_1
   else none
  else none
 else none
instance uF{recR:RT}{recM:MT}[De recR][Dd recM]{a1:Int}{a2:fO}{a3:fO}{a4:Int}{k:Kt}{o00:fN}{o01:fN}{o03:fU}{l1:fO}:gP (jJ recR recM a1 a2 a3 a4 k o00 o01 o03 l1) fun rr=>gG Tryz.prog 176 [.pa [.ptr 0 0],.pa [.d (iD a1)],.pa [.d (gu 1 (gu 1 iD) a2)],.pa [.d (gu 1 (gu 1 iD) a3)],.pa [.d (iD a4)],.pa [AK k]] [(0,.obj 111 [.d (gu 1 iD o00),.d (gu 1 iD o01),.mm 1 1 0 24,.jM 1 2 o03.length]),(1,.obj 22 (List.map (aD (rY 1 iD)) l1)),(2,.ij 45 1 o03.length (gQ (gu 1 (gu 1 iD)) o03))] 3 fun xx ss=>xx=.l_ []/\ss=[(0,.obj 111 [.d (gu 1 iD o00),.d (gu 1 iD o01),.mm 1 1 0 24,.jM 1 2 rr.1.length]),(1,.obj 22 (List.map (aD (rY 1 iD)) rr.2)),(2,.ij 45 1 rr.1.length (gQ (gu 1 (gu 1 iD)) rr.1))]:=⟨@fun rr h=>by
 delta jJ at h;refine T2.kS (gr ?_);delta Qw;refine gW ?_;refine iC h fun hp h=>?_
 refine iC h fun hp h=>?_
 refine iC h fun hp h=>?_
 refine dC h fun r hr h=>?_
 refine Cx [(0,0),(1,1),(2,2)] [] h fun r_1 hr_1 h=>?_
 refine iY (by kernel_rfl) (gW ?_);cases h;exact⟨[17],by simp,lH,lH⟩⟩
def Qz:gB:=
 (.draw (sq 5 [ld 0,ld 1,ld 2,.slc (t0 7) 1 (some (i0 1)) none none,ld 3,ld 4,cf 144 [5,6,8,9,10]]) [[],[],[],[2],[],[],[0,1,3,4,5]])
theorem T5:kG Tryz.prog 179 Qz 12 []:=mf Tryz.func179 Tryz.ntmps179
def jK(recR:RT)(recM:MT)(a1:Int)(a2:fO)(a3:fO)(k:Kt)(o00:fN)(o01:fN)(o03:fU)(l1:fO):Option (fU×fO):=
 if 0<=1/\1<=(a2.length:Int)then
  (iB recR recM a1 (a2.drop 1) a3 k o00 o01 o03 l1).bind fun r=>
  some r
 else none
instance uG{recR:RT}{recM:MT}[De recR][Dd recM]{a1:Int}{a2:fO}{a3:fO}{k:Kt}{o00:fN}{o01:fN}{o03:fU}{l1:fO}:gP (jK recR recM a1 a2 a3 k o00 o01 o03 l1) fun rr=>gG Tryz.prog 179 [.pa [.ptr 0 0],.pa [.d (iD a1)],.pa [.d (gu 1 (gu 1 iD) a2)],.pa [.d (gu 1 (gu 1 iD) a3)],.pa [AK k]] [(0,.obj 111 [.d (gu 1 iD o00),.d (gu 1 iD o01),.mm 1 1 0 24,.jM 1 2 o03.length]),(1,.obj 22 (List.map (aD (rY 1 iD)) l1)),(2,.ij 45 1 o03.length (gQ (gu 1 (gu 1 iD)) o03))] 3 fun xx ss=>xx=.l_ []/\ss=[(0,.obj 111 [.d (gu 1 iD o00),.d (gu 1 iD o01),.mm 1 1 0 24,.jM 1 2 rr.1.length]),(1,.obj 22 (List.map (aD (rY 1 iD)) rr.2)),(2,.ij 45 1 rr.1.length (gQ (gu 1 (gu 1 iD)) rr.1))]:=⟨@fun rr h=>by
 delta jK at h;refine T5.kS (gr ?_);delta Qz;refine gW ?_;refine iC h fun hp h=>?_
 refine Cx [(0,0),(1,1),(2,2)] [] h fun r hr h=>?_
 exact mj⟩
end Go.Proofs.YthdnkoejpdcnpaaGreat
namespace Go.Proofs.YthdnkoejpdcnpaaGreat
open Go kJ
set_option maxHeartbeats 4000000
def mU:Nat->RT×MT
 |0=>(fun _ _ _ _ _=>none,fun _ _ _ _ _ _ _=>none)
 |fu+1=>(fun k m0 m1 m3 l1=>match k with
  |.rc=>(iV m0 m1 m3 l1).map fun r=>(r,l1)
  |.al ps ts k=>kL (mU fu).1 (mU fu).2 ps ts k m0 m1 m3 l1
  |.s1 f ps ts j k=>jJ (mU fu).1 (mU fu).2 f ps ts j k m0 m1 m3 l1
  |.s2 f ps ts k=>jK (mU fu).1 (mU fu).2 f ps ts k m0 m1 m3 l1,
  fun p t k m0 m1 m3 l1=>kM (mU fu).1 (mU fu).2 p t k m0 m1 m3 l1)
theorem Kx:∀fu,De (mU fu).1/\Dd (mU fu).2
 |0=>⟨⟨⟨fun h=>by cases h⟩⟩,⟨⟨fun h=>by cases h⟩⟩⟩
 |fu+1=>by
  obtain⟨h1,h2⟩:=Kx fu;refine⟨⟨@fun k m0 m1 m3 l1=>⟨fun h=>?_⟩⟩,⟨⟨fun h=>?_⟩⟩⟩
  ·cases k with
   |rc=>
    have h:(iV m0 m1 m3 l1).map (fun r=>(r,l1))=some _:=h;obtain⟨r,hr,rfl⟩:=aF.1 h;exact vp.c hr
   |al ps ts k=>exact(vM (recR:=(mU fu).1) (recM:=(mU fu).2)).c h
   |s1 f ps ts j k=>exact(uF (recR:=(mU fu).1) (recM:=(mU fu).2)).c h
   |s2 f ps ts k=>exact(uG (recR:=(mU fu).1) (recM:=(mU fu).2)).c h
  ·exact(vN (recR:=(mU fu).1) (recM:=(mU fu).2)).c h
def xD(p t:fN)(k:Kt)(m0 m1:fN)(m3:List fO)(l1:List fN):Option (List fO×List fN):=yz fun fu=>(mU fu).2 p t k m0 m1 m3 l1
instance SN{p t:fN}{k:Kt}{m0 m1:fN}{m3:List fO}{l1:List fN}:gP (xD p t k m0 m1 m3 l1) fun rr=>gG Tryz.prog 92 [.ptr 0 0,.d (gu 1 iD p),.d (gu 1 iD t),AK k] [(0,.obj 111 [.d (gu 1 iD m0),.d (gu 1 iD m1),.mm 1 1 0 24,.jM 1 2 m3.length]),(1,.obj 22 (List.map (aD (rY 1 iD)) l1)),(2,.ij 45 1 m3.length (gQ (gu 1 (gu 1 iD)) m3))] 3 fun xx ss=>xx=.l_ []/\ss=[(0,.obj 111 [.d (gu 1 iD m0),.d (gu 1 iD m1),.mm 1 1 0 24,.jM 1 2 rr.1.length]),(1,.obj 22 (List.map (aD (rY 1 iD)) rr.2)),(2,.ij 45 1 rr.1.length (gQ (gu 1 (gu 1 iD)) rr.1))]:=⟨fun h=>by
 obtain⟨fu,h⟩:=(⟨_,(ng h).choose_spec⟩:∃fu,(mU fu).2 p t k m0 m1 m3 l1=some _);exact(Kx fu).2.c.c h⟩
end Go.Proofs.YthdnkoejpdcnpaaGreat
namespace Go.Proofs.YthdnkoejpdcnpaaGreat
open Go kJ
attribute [local irreducible] sG ud tP lp kI oZ jk ya yG wF yF wv rj kR lN ym gV ki
set_option maxHeartbeats 4000000
set_option maxRecDepth 4000
def Qm:gB:=
 (.seq (.gv (sq 2 [.mv (.const (.slice none 0 0))])) (.seq (.seq (.gv (sq 3 [mv 0,.wo false (t0 3)])) (.cond (t0 4) (.seq (.gv (sq 2 [.mv (.const (.slice none 0 0))])) .ret) .skip)) (.seq (.gv (sq 5 [.mW 5 2 1 [],mv 0,ap 7 2 1 8 5 6]++sq 2 [mv 7])) .ret)))
theorem TR:kG Tryz.prog 156 Qm 8 [.tmp 2]:=mf Tryz.func156 Tryz.ntmps156
def jw(s:fN):Option fN:=
 Ky s (
  some []) (
  if(0+s.length)*8<=140737488355328 then
   some s
  else none)
instance Bn{s:fN}:gP (jw s) fun rr=>iw Tryz.prog 156 [(gu 1 iD) s] ((gu 1 iD) rr):=⟨@fun rr h=>by
 delta jw at h;refine TR.iu (gr ?_);delta Qm;refine gW ?_;have h1:=Kz h;refine rj.of (fun he=>?_) ?_
 ·replace h:=h1.1 (by simpa using he);clear h1;refine gW ?_;exact mj
 ·replace h:=h1.2;clear h1;refine gW ?_;exact mj⟩
def U0:gB:=
 (.seq (.gv (sq 1 [bo 1 47 0,.alloc 2 47 [.sl 0 (some true) []]])) (.seq (.gv (sq 3 [.alloc 3 47 [.sl 0 (some true) []]])) (.seq (.seq (.gv (sq 6 [fa 0 1,ld 6,ln 7,mi 0])) (.block 0 (.loop (.seq (.gv (sq 10 [bn .lss 9 8])) (.seq (.cond (t0 10) .skip (.exit 0)) (.seq (.block 1 (.seq (.gv (sq 11 [mv 9,ix 1 7 9,ld 12]++sq 4 [mv 11,mv 13])) (.seq (.seq (.gv (sq 14 [mv 5,ln 14,bi .eql 15 0,mv 16]++sg 17 false 18 [mv 5,mv 4,cf 148 [19],cf 155 [18,20]]++sq 22 [po 17 21])) (.cond (t0 22) (.exit 1) .skip)) (.seq (.block 2 (.loop (.seq (.seq (.gv (sq 23 [fa 0 3,ld 23,ln 24,mv 4,bn .lss 25 26])) (.cond (t0 27) .skip (.exit 2))) (.block 3 (.gv (sq 28 [fa 0 3,ld 28,.mW 30 22 1 [(.const (.slice none 0 0))],ap 31 22 1 24 29 30,fa 0 3]++s0 (sr 1 32 31))))))) (.draw (sq 33 [fa 0 3,ld 33,mv 5,cf 156 [35],.mW 37 22 1 [(t0 36)],ap 38 22 1 24 34 37,fa 0 3]++s0 (sr 1 39 38)) [[],[0],[],[2],[3],[1,4,3],[0,1,2,3,4,5],[6,5,5,0,1,2,3,4,5]]))))) (.gv (sq 40 [bi .add 9 1]++sq 9 [mv 40])))))))) (.seq (.gv (sq 41 [la 1 3]++s0 (sr 1 2 41))) .ret))))
theorem Wm:kG Tryz.prog 99 U0 42 [.cell 2 1 true]:=mf Tryz.func99 Tryz.ntmps99
def tw(s:fO)(v9:Int):fO->Option (fO⊕(gj⊕fO))
 |out_1=>
  if(decide ((out_1.length:Int)<v9))=true then
   if(out_1.length+1)*24<=140737488355328 then
    some (.inl (out_1++[[]]))
   else none
  else
   Option.map Sum.inr (
    (jw (s.getD v9.toNat default)).bind fun r_2=>
    if(out_1.length+1)*24<=140737488355328 then
     some (.inl ((IntKind.i64.wrap (v9+1)),(out_1++[r_2])))
    else none)
def tu(s:fO):gj->Option (gj⊕fO)
 |(v9,out)=>
  if(decide (v9<(s.length:Int)))=true then
   if 0<=v9/\v9<(s.length:Int)then
    if(((s.getD v9.toNat default).length:Int)==0)=true then
     some (.inl ((IntKind.i64.wrap (v9+1)),out))
    else
     (mY v9).bind fun r=>
     (gX (s.getD v9.toNat default) r).bind fun r_1=>
     if r_1=true then
      some (.inl ((IntKind.i64.wrap (v9+1)),out))
     else
      gF (tw s v9) out
   else none
  else
   Option.map Sum.inr (
    some out)
def ru(s:fO):Option fO:=
 gF (tu s) (0,[])
instance NN{s:fO}:gP (ru s) fun rr=>iw Tryz.prog 99 [g_ s] (g_ rr):=⟨@fun rr h=>by
 delta ru at h;refine Wm.iu (gr ?_);delta U0;refine gW ?_;refine pS h [4,5,9,10,11,12,13,14,15,16,17,18,19,20,21,22,23,24,25,26,27,28,29,30,31,32,33,34,35,36,37,38,39,40] (fun pp=>[(9,.d (iD pp.1))]) (fun pp=>[(1,.obj 47 [.d (gu 1 (gu 1 iD) s)]),(2,.obj 47 [.d (.sl 0 (some true) [])]),(3,.obj 47 [.own 1 38 (List.map (gu 1 iD) pp.2)]),(38,.tok 22 1 pp.2.length)]) ?_ ?_
 ·try dsimp only
  refine(gM.Ch 3 0 38 22 1 rfl rfl rfl).trans ?_;exact wk
 rintro⟨v9,out⟩ t1 h hb1;unfold tu at h;try dsimp only at h
 refine gr (gW ?_);refine iT h fun hc h=>?_
 refine iC h fun hp h=>?_
 refine iF h fun hc h=>?_
 refine rC h fun r hr h=>?_
 refine rC h fun r_1 hr_1 h=>?_
 refine iF h fun hc h=>?_
 refine jC h [23,24,25,26,27,28,29,30,31,32] (fun pp=>[]) (fun pp=>[(1,.obj 47 [.d (gu 1 (gu 1 iD) s)]),(2,.obj 47 [.d (.sl 0 (some true) [])]),(3,.obj 47 [.own 1 38 (List.map (gu 1 iD) pp)]),(38,.tok 22 1 pp.length)]) ?_;rintro out_1 t2 h hb2;unfold tw at h;try dsimp only at h
 refine gr (gW ?_);refine it h (fun hc h=>?_) fun hc h=>?_
 ·refine iC h fun hp h=>?_
  cases h;refine⟨_,rfl,?_⟩;refine(gM.drop 30 gq).trans ?_;exact wk
 replace h:=gT h hb2;refine dC h fun r_2 hr_2 h=>?_
 refine iC h fun hp h=>?_
 refine iY (by kernel_rfl) (gW ?_);cases h;refine⟨_,rfl,?_⟩;refine(gM.drop 37 gq).trans ?_;exact wk⟩
def qn:gB:=
 (.seq (.gv (sq 3 [bo 3 79 0]++sq 6 [.mv (.const (.slice none 0 0)),mb false])) (.seq (.seq (.gv (sq 12 [la 2 3,mv 1,cf 91 [12,13],mv 14]++sg 15 false 16 [la 2 3,mv 2,cf 91 [16,17]]++sq 19 [po 15 18])) (.cond (t0 19) (.seq (.gv (sq 6 [.mv (.const (.slice none 0 0)),mb false])) .ret) .skip)) (.seq (.draw (sq 20 [la 2 3,.xZ 21 22 1 24 [.sl 0 (some true) []] false (i0 24) (i0 24),.build [.sl 0 (some true) [],.sl 0 (some true) [],.sl 0 (some true) [],.sl 0 (some true) []] [(0,2,(t0 20)),(2,1,(t0 21))],bo 23 111 22]++sq 8 [mv 23]) [[],[],[0,1],[2],[3,0,1,2,3]]) (.seq (.ghost (.gv (sq 24 [mv 8,mv 1,la 2 3,mv 2,cf 70 [26,27],mv 8,.zk 93 [(t0 29)] [],cf 92 [24,25,28,30]]))) (.seq (.seq (.gv (sq 32 [mv 8,cf 94 [32]])) (.cond (t0 33) (.seq (.gv (sq 6 [.mv (.const (.slice none 0 0)),mb false])) .ret) .skip)) (.seq (.gv (sq 34 [mv 8,.nD (t0 34),fa 3 35,ld 36,.iy 95 [(t0 37),(.func 96)]])) (.seq (.gv (sq 9 [.mv (.const (.slice none 0 0))])) (.seq (.seq (.gv (sq 39 [mv 8,.nD (t0 39),fa 3 40,ld 41,ln 42,mi 0])) (.block 0 (.loop (.seq (.gv (sq 45 [bn .lss 44 43])) (.seq (.cond (t0 45) .skip (.exit 0)) (.seq (.block 1 (.seq (.gv (sq 46 [ix 1 42 44,ld 46]++sq 11 [mv 47])) (.gv (sq 48 [mv 9,mv 11,.build [.sl 0 (some true) []] [(0,1,(t0 49))],cf 99 [50],.mW 52 47 1 [(t0 51)],ap 53 47 1 24 48 52]++sq 9 [mv 53])))) (.gv (sq 54 [bi .add 44 1]++sq 44 [mv 54])))))))) (.seq (.gv (sq 55 [mv 9]++sq 6 [mv 55,mb true])) .ret)))))))))
theorem va:kG Tryz.prog 54 qn 56 [.tmp 6,.tmp 7]:=mf Tryz.func54 Tryz.ntmps54
def jX(r_3:(fU×fO)):gh->Option (gh⊕gn)
 |(out,v44)=>
  if(decide (v44<(r_3.1.length:Int)))=true then
   if 0<=v44/\v44<(r_3.1.length:Int)then
    (ru ((rV r_3.1).getD v44.toNat default)).bind fun r_5=>
    if(out.length+1)*24<=140737488355328 then
     some (.inl ((out++[r_5]),(IntKind.i64.wrap (v44+1))))
    else none
   else none
  else
   Option.map Sum.inr (
    some (out,true))
def gZ(x:fQ)(p:fN)(t:fN):Option gn:=
 (iP x p).bind fun r=>
 if r=true then
  some ([],false)
 else
  (iP x t).bind fun r_1=>
  if r_1=true then
   some ([],false)
  else
   (lz x t).bind fun r_2=>
   (xD p r_2 Kt.rc x.1 x.2 [] (List.replicate 24 [])).bind fun r_3=>
   (iO x.1 x.2 r_3.1 r_3.2).bind fun r_4=>
   if r_4=true then
    some ([],false)
   else
    (xE r_3.1).bind fun u=>
    gF (jX r_3) ([],0)
instance Ea{x:fQ}{p:fN}{t:fN}:gP (gZ x p t) fun rr=>rW Tryz.prog 54 [iM x,(gu 1 iD) p,(gu 1 iD) t] [(gu 1 g_) rr.1,bD rr.2]:=⟨@fun rr h=>by
 delta gZ at h;refine va.uA (gr ?_);delta qn;refine gW ?_;refine rC h fun r hr h=>?_
 refine iF h fun hc h=>?_
 refine rC h fun r_1 hr_1 h=>?_
 refine iF h fun hc h=>?_
 refine yf ?_;refine iY (by kernel_rfl) (gW ?_);refine jk.of ((gM.trans (gM.JZ 23 3 300000 45 1 rfl rfl rfl) (gM.Ud (s':=[(3,.obj 79 [.d (gu 1 iD x.1),.d (gu 1 iD x.2)]),(21,.obj 22 (List.map (aD (rY 1 iD)) (List.replicate 24 []))),(23,.obj 111 [.d (gu 1 iD x.1),.d (gu 1 iD x.2),.mm 1 21 0 24,.jM 1 300000 0]),(300000,.ij 45 1 0 (gQ (gu 1 (gu 1 iD)) []))]) (gV.refl _) lH))) ?_;refine gW ?_;refine rC h fun r_2 hr_2 h=>?_
 refine oB [(0,23),(1,21),(2,300000)] [] h fun r_3 hr_3 h=>?_
 refine oB [(0,23),(1,21),(2,300000)] [] h fun r_4 hr_4 h=>?_
 refine iF h fun hc h=>?_
 refine oB [(0,300000)] [] h fun u hu h=>?_
 have hsl:=xW (xs:=r_3.1);refine pS h [9,11,44,45,46,47,48,49,50,51,52,53,54] (fun pp=>[(9,.own 1 53 (List.map g_ pp.1)),(44,.d (iD pp.2))]) (fun pp=>[(3,.obj 79 [.d (gu 1 iD x.1),.d (gu 1 iD x.2)]),(21,.obj 22 (List.map (aD (rY 1 iD)) r_3.2)),(23,.obj 111 [.d (gu 1 iD x.1),.d (gu 1 iD x.2),.mm 1 21 0 24,.jM 1 300000 r_3.1.length]),(53,.tok 47 1 pp.1.length),(300000,.ij 45 1 r_3.1.length (gQ (gu 1 (gu 1 iD)) (rV r_3.1)))]) ?_ ?_
 ·try dsimp only
  refine(gM.CJ 9 53 47 1 rfl rfl).trans ?_;exact wk
 rintro⟨out,v44⟩ t1 h hb1;unfold jX at h;try dsimp only at h
 refine gr (gW ?_);refine iT h fun hc h=>?_
 refine iC h fun hp h=>?_
 refine yf ?_;refine rC h fun r_5 hr_5 h=>?_
 refine iC h fun hp h=>?_
 cases h;refine⟨_,rfl,?_⟩;refine(gM.drop 52 gq).trans ?_;exact wk⟩
def Uw:gB:=
 (.seq (.gv (sq 3 [bo 3 27 0]++sq 6 [mb false])) (.seq (.gv (sq 7 [la 1 3,mv 1,cf 87 [7,8],mv 9]++sg 10 true 11 [la 1 3,mv 2,cf 53 [11,12]]++sq 14 [pa 10 13]++sq 6 [mv 14])) .ret))
theorem VR:kG Tryz.prog 52 Uw 15 [.tmp 6]:=mf Tryz.func52 Tryz.ntmps52
def qe(sig:fN)(ac:fN)(t:fN):Option Bool:=
 (sH sig ac).bind fun r=>
 if r=true then
  (oJ sig t).bind fun r_1=>
  some r_1
 else
  some false
instance M8{sig:fN}{ac:fN}{t:fN}:gP (qe sig ac t) fun rr=>iw Tryz.prog 52 [gE sig,(gu 1 iD) ac,(gu 1 iD) t] (bD rr):=⟨@fun rr h=>by
 delta qe at h;refine VR.iu (gr ?_);delta Uw;refine gW ?_;exact mj⟩
def Um:gB:=
 (.seq (.gv (sq 4 [bo 4 27 0]++sq 8 [.mv (.const (.slice none 0 0)),mb false])) (.seq (.seq (.gv (sq 10 [la 1 4,mv 1,mv 2,cf 52 [10,11,12],nt 13,mv 14]++sg 15 false 16 [la 1 4,mv 3,cf 53 [16,17],nt 18]++sq 20 [po 15 19])) (.cond (t0 20) (.seq (.gv (sq 8 [.mv (.const (.slice none 0 0)),mb false])) .ret) .skip)) (.seq (.gv (sq 21 [la 1 4,mv 1,.build [.sl 0 (some true) [],.sl 0 (some true) []] [(0,1,(t0 21)),(1,1,(t0 22))],mv 2,mv 3,cf 54 [23,24,25],ex 26 0,ex 26 1]++sq 8 [mv 27,mv 28])) .ret)))
theorem VH:kG Tryz.prog 18 Um 29 [.tmp 8,.tmp 9]:=mf Tryz.func18 Tryz.ntmps18
def iU(sig:fN)(ac:fN)(p:fN)(t:fN):Option gn:=
 (qe sig ac p).bind fun r=>
 if r=true then
  (oJ sig t).bind fun r_1=>
  if r_1=true then
   (gZ (sig,ac) p t).bind fun r_2=>
   some r_2
  else
   some ([],false)
 else
  some ([],false)
instance IX{sig:fN}{ac:fN}{p:fN}{t:fN}:gP (iU sig ac p t) fun rr=>rW Tryz.prog 18 [gE sig,(gu 1 iD) ac,(gu 1 iD) p,(gu 1 iD) t] [(gu 1 g_) rr.1,bD rr.2]:=⟨@fun rr h=>by
 delta iU at h;refine VH.uA (gr ?_);delta Um;refine gW ?_;exact mj⟩
def Uk:gB:=
 (.seq (.gv (sq 4 [bo 4 27 0]++sq 8 [mb false])) (.seq (.gv (sq 12 [la 1 4,mv 1,mv 2,mv 3,cf 18 [12,13,14,15]]++sq 11 [mv 16]++sq 17 [ex 11 0,ex 11 1]++sq 9 [mv 17,mv 18])) (.seq (.gv (sq 19 [mv 10,mv 19]++sg 20 true 21 [mv 9,ln 21,bi .gtr 22 0]++sq 24 [pa 20 23]++sq 8 [mv 24])) .ret)))
theorem VF:kG Tryz.prog 14 Uk 25 [.tmp 8]:=mf Tryz.func14 Tryz.ntmps14
def kK(sig:fN)(ac:fN)(p:fN)(t:fN):Option Bool:=
 (iU sig ac p t).bind fun r=>
 if r.2=true then
  some (decide (0<(r.1.length:Int)))
 else
  some false
instance HK{sig:fN}{ac:fN}{p:fN}{t:fN}:gP (kK sig ac p t) fun rr=>iw Tryz.prog 14 [gE sig,(gu 1 iD) ac,(gu 1 iD) p,(gu 1 iD) t] (bD rr):=⟨@fun rr h=>by
 delta kK at h;refine VF.iu (gr ?_);delta Uk;refine gW ?_;exact mj⟩
end Go.Proofs.YthdnkoejpdcnpaaGreat
