/- A part of the proof about FnAcNormal and about FnAcSteps (A6, A7, M0, M1, K0, M2, M3, M4). -/
import Derived.Test.YthdnkoejpdcnpaaGreatNac
import Derived.Test.YthdnkoejpdcnpaaGreatNad
import Derived.Test.YthdnkoejpdcnpaaGreatNae
import Derived.Test.YthdnkoejpdcnpaaGreatNaf
set_option linter.all false
noncomputable section
namespace Go.Proofs.YthdnkoejpdcnpaaGreat
open Go kI
attribute [local irreducible] sO uf uc lu kf pG iV xm xQ wz xP wu pY kr lq xO ia jN
set_option maxHeartbeats 4000000
set_option maxRecDepth 4000
def qI:gH:=
 (.seq (.gD (sq 4 [bo 4 79 0]++sq 8 [.mv (.const (.slice none 0 0))])) (.seq (.gD (sq 9 [.mv (.const (.slice none 0 0))])) (.seq (.seq (.gD (sq 12 [la 2 4,mv 1,cf 142 [12,13],ln 14,mi 0])) (.block 0 (.loop (.seq (.gD (sq 17 [bn .lss 16 15])) (.seq (.cond (t0 17) .skip (.exit 0)) (.seq (.block 1 (.seq (.gD (sq 18 [ix 1 14 16,ld 18]++sq 11 [mv 19])) (.gD (sq 20 [mv 9,mv 2,mv 11,.ug (t0 21) [(t0 22)],.lQ 24 22 1 [(t0 23)],.CD 25 22 1 24 (t0 20) (t0 24)]++sq 9 [mv 25])))) (.gD (sq 26 [bi .add 16 1]++sq 16 [mv 26])))))))) (.seq (.gD (sq 27 [mv 9,mv 3,cf 126 [27,28]])) (.seq (.gD (sq 30 [mv 9]++sq 8 [mv 30])) .ret)))))
theorem vY:jT Tryz.prog 165 qI 31 [.tmp 8]:=mf Tryz.func165 Tryz.ntmps165
def oh(rec:fR->fP->Option fP)(each:fR)(r:fQ):gq->Option (gq⊕fQ)
 |(v16,g25)=>
  if(decide (v16<(r.length:Int)))=true then
   if 0<=v16/\v16<(r.length:Int)then
    (rec each (r.getD v16.toNat default)).bind fun r_1=>
    if(g25.length+1)*24<=140737488355328 then
     some (.inl ((IntKind.i64.wrap (v16+1)),(g25++[r_1])))
    else none
   else none
  else
   Option.map Sum.inr (
    (xR g25).bind fun u=>
    some (jK g25))
def nu(rec:fR->fP->Option fP)(x:fR)(t:fP)(each:fR):Option fQ:=
 (ki x t).bind fun r=>
 gK (oh rec each r) (0,[])
instance Fi{rec:fR->fP->Option fP}[ih:∀{x:fR}{t:fP},gW (rec x t) fun rr=>iC Tryz.prog 70 [jo x,(gE 1 iD) t] ((gE 1 iD) rr)]{x:fR}{t:fP}{each:fR}:gW (nu rec x t each) fun rr=>gN Tryz.prog 165 [.d (.agg [gE 1 iD x.1,gE 1 iD x.2]),.d (gE 1 iD t),.fn 70 [.d (.agg [gE 1 iD each.1,gE 1 iD each.2])] [],.fn 98 [] []] [] 0 fun xx ss=>xx=.d (gE 1 (gE 1 iD) rr)/\ss=[]:=⟨@fun rr h=>by
 delta nu at h;refine vY.Ai (gC ?_);delta qI;refine g_ ?_;refine rC h fun r hr h=>?_
 refine mO h [9,11,16,17,18,19,20,21,22,23,24,25,26] (fun pp=>[(9,.kG 1 25 pp.2.length),(16,.d (iD pp.1))]) (fun pp=>[(4,.obj 79 [.d (gE 1 iD x.1),.d (gE 1 iD x.2)]),(25,.iM 22 1 pp.2.length (h_ (gE 1 iD) pp.2))]) ?_ ?_
 ·try dsimp only
  refine(gT.TP 9 25 22 1 rfl rfl).trans ?_;exact wk
 rintro⟨v16,g25⟩ t1 h hb1;unfold oh at h;try dsimp only at h
 refine gC (g_ ?_);refine it h (fun hc h=>?_) fun hc h=>?_
 ·refine iU h fun hp h=>?_
  refine tW (by kernel_rfl) ?_;refine rC h fun r_1 hr_1 h=>?_
  refine iU h fun hp h=>?_
  cases h;refine⟨_,rfl,?_⟩;refine(gT.drop 24 gB).trans ?_;exact wk
 replace h:=gY h hb1;refine lM [(0,25)] [] h fun u hu h=>?_
 cases h;exact gX.trans ((gX.trans (gX.fz 25 (gE 1 iD) rfl (jK g25)) (gX.nW [4] (by simp)))) (gX.told yS jF)⟩
def N8:gH:=
 (.seq (.gD (sq 2 [bo 2 79 0]++sq 4 [.mv (.const (.slice none 0 0))])) (.seq (.gD (sq 5 [la 2 2,mv 1,la 2 2,.z_ 70 [(t0 7)] [],.iw 165 [(t0 5),(t0 6),(t0 8),(.func 98)]]++sq 4 [mv 9])) .ret))
theorem Sc:jT Tryz.prog 122 N8 10 [.tmp 4]:=mf Tryz.func122 Tryz.ntmps122
def nR(rec:fR->fP->Option fP)(x:fR)(t:fP):Option fQ:=
 (nu rec x t x).bind fun r=>
 some r
instance Io{rec:fR->fP->Option fP}[ih:∀{x:fR}{t:fP},gW (rec x t) fun rr=>iC Tryz.prog 70 [jo x,(gE 1 iD) t] ((gE 1 iD) rr)]{x:fR}{t:fP}:gW (nR rec x t) fun rr=>iC Tryz.prog 122 [jo x,(gE 1 iD) t] ((gE 1 (gE 1 iD)) rr):=⟨@fun rr h=>by
 delta nR at h;refine Sc.iA (gC ?_);delta N8;refine g_ ?_;refine lM [] [] h fun r hr h=>?_
 exact mm⟩
def XW:gH:=
 (.seq (.gD (sq 2 [bo 2 79 0]++sq 4 [.mv (.const (.slice none 0 0))])) (.seq (.seq (.draw (sq 8 [la 2 2,mv 1,.tD 1 (t0 9) (i0 0),ld 10,cf 120 [8,11]]) [[],[],[1],[2],[0,3]]) (.cond (t0 12) (.seq (.draw (sq 13 [mv 1,.tD 1 (t0 13) (i0 0),ld 14,la 2 2,mv 1,cf 122 [16,17],cf 121 [15,18]]++sq 4 [mv 19]) [[],[0],[1],[],[],[3,4],[2,5,5],[6,6,0,1,2,3,4,5,6]]) .ret) .skip)) (.seq (.gD (sq 20 [mv 1,.tD 1 (t0 20) (i0 0),ld 21,.lQ 23 2 1 [(t0 22)]]++sq 5 [mv 23])) (.seq (.seq (.gD (sq 24 [fa 0 2,la 1 24,mv 1,.iw 123 [(t0 25),(t0 26),(i0 0)],ln 27,mi 0])) (.block 0 (.loop (.seq (.gD (sq 30 [bn .lss 29 28])) (.seq (.cond (t0 30) .skip (.exit 0)) (.seq (.block 1 (.seq (.gD (sq 31 [ix 1 27 29,ld 31]++sq 7 [mv 32])) (.draw (sq 33 [mv 5,la 2 2,fa 0 2,la 1 35,mv 1,mv 7,cf 124 [36,37,38],cf 70 [34,39],ap 41 2 1 8 33 40]++sq 5 [mv 41]) [[],[],[],[2],[],[],[3,4,5],[1,6,6],[0,7,7],[8,8,0,1,2,3,4,5,6,7,8]]))) (.gD (sq 42 [bi .add 29 1]++sq 29 [mv 42])))))))) (.seq (.gD (sq 43 [mv 5]++sq 4 [mv 43])) .ret)))))
theorem Zo:jT Tryz.prog 70 XW 44 [.tmp 4]:=mf Tryz.func70 Tryz.ntmps70
def oP(rec:fR->fP->Option fP)(x:fR)(t:fP)(r_3:fP):gp->Option (gp⊕fP)
 |(out,v29)=>
  if(decide (v29<(r_3.length:Int)))=true then
   if 0<=v29/\v29<(r_3.length:Int)then
    (nr x.1 t (r_3.getD v29.toNat default)).bind fun r_4=>
    (rec x r_4).bind fun r_5=>
    if(out.length+r_5.length)*8<=140737488355328 then
     some (.inl ((out++r_5),(IntKind.i64.wrap (v29+1))))
    else none
   else none
  else
   Option.map Sum.inr (
    some out)
def iR:Nat->fR->fP->Option fP
 |0,_,_=>none
 |fu+1,x,t=>
  if 0<=0/\0<(t.length:Int)then
   (kA x (t.getD 0 default)).bind fun r=>
   if r=true then
    if 0<=0/\0<(t.length:Int)then
     (nR (iR fu) x t).bind fun r_1=>
     (tE (t.getD 0 default) r_1).bind fun r_2=>
     some r_2
    else none
   else
    if 0<=0/\0<(t.length:Int)then
     (nE x.1 t 0).bind fun r_3=>
     gK (oP (iR fu) x t r_3) ([(t.getD 0 default)],0)
    else none
  else none
def iu(x:fR)(t:fP):Option fP:=Ba fun fu=>iR fu x t
theorem uT:∀{fu:Nat}{x:fR}{t:fP}{rr:fP}(h:iR fu x t=some rr),iC Tryz.prog 70 [jo x,(gE 1 iD) t] ((gE 1 iD) rr)
 |0,_,_,_,h=>by cases h
 |fu+1,x,t,rr,h=>by
  have ih:∀{x:fR}{t:fP},gW (iR fu x t) fun rr=>iC Tryz.prog 70 [jo x,(gE 1 iD) t] ((gE 1 iD) rr):=⟨fun h=>uT h⟩
  unfold iR at h;refine Zo.iA (gC ?_);delta XW;refine g_ ?_;refine iU h fun hp h=>?_
  refine dC h fun r hr h=>?_
  refine i_ (by kernel_rfl) (g_ ?_);refine iF h fun hc h=>?_
  refine iU h fun hp h=>?_
  refine rC h fun r_3 hr_3 h=>?_
  refine jk h [5,7,29,30,31,32,33,34,35,36,37,38,39,40,41,42] (fun pp=>[(5,.own 1 23 (List.map iD pp.1)),(29,.d (iD pp.2))]) (fun pp=>[(2,.obj 79 [.d (gE 1 iD x.1),.d (gE 1 iD x.2)]),(23,.tok 2 1 pp.1.length)]) ?_;rintro⟨out,v29⟩ t1 h hb1;unfold oP at h;try dsimp only at h
  refine gC (g_ ?_);exact mm
instance En{x:fR}{t:fP}:gW (iu x t) fun rr=>iC Tryz.prog 70 [jo x,(gE 1 iD) t] ((gE 1 iD) rr):=⟨fun h=>uT (pq h).choose_spec⟩
def pH:gH:=
 (.seq (.gD (sq 4 [bo 4 79 0]++sq 8 [.mv (.const (.slice none 0 0))])) (.seq (.gD (sq 9 [.mv (.const (.slice none 0 0))])) (.seq (.seq (.gD (sq 12 [la 2 4,mv 1,cf 142 [12,13],ln 14,mi 0])) (.block 0 (.loop (.seq (.gD (sq 17 [bn .lss 16 15])) (.seq (.cond (t0 17) .skip (.exit 0)) (.seq (.block 1 (.seq (.gD (sq 18 [ix 1 14 16,ld 18]++sq 11 [mv 19])) (.gD (sq 20 [mv 9,mv 2,mv 11,.ug (t0 21) [(t0 22)],.lQ 24 22 1 [(t0 23)],.CD 25 22 1 24 (t0 20) (t0 24)]++sq 9 [mv 25])))) (.gD (sq 26 [bi .add 16 1]++sq 16 [mv 26])))))))) (.seq (.gD (sq 27 [mv 9,mv 3,cf 126 [27,28]])) (.seq (.gD (sq 30 [mv 9]++sq 8 [mv 30])) .ret)))))
theorem uY:jT Tryz.prog 165 pH 31 [.tmp 8]:=mf Tryz.func165 Tryz.ntmps165
def mV(each:fR)(r:fQ):gq->Option (gq⊕fQ)
 |(v16,g25)=>
  if(decide (v16<(r.length:Int)))=true then
   if 0<=v16/\v16<(r.length:Int)then
    (iu each (r.getD v16.toNat default)).bind fun r_1=>
    if(g25.length+1)*24<=140737488355328 then
     some (.inl ((IntKind.i64.wrap (v16+1)),(g25++[r_1])))
    else none
   else none
  else
   Option.map Sum.inr (
    (xR g25).bind fun u=>
    some (jK g25))
def mC(x:fR)(t:fP)(each:fR):Option fQ:=
 (ki x t).bind fun r=>
 gK (mV each r) (0,[])
instance Ee{x:fR}{t:fP}{each:fR}:gW (mC x t each) fun rr=>gN Tryz.prog 165 [.d (.agg [gE 1 iD x.1,gE 1 iD x.2]),.d (gE 1 iD t),.fn 70 [.d (.agg [gE 1 iD each.1,gE 1 iD each.2])] [],.fn 98 [] []] [] 0 fun xx ss=>xx=.d (gE 1 (gE 1 iD) rr)/\ss=[]:=⟨@fun rr h=>by
 delta mC at h;refine uY.Ai (gC ?_);delta pH;refine g_ ?_;refine rC h fun r hr h=>?_
 refine mO h [9,11,16,17,18,19,20,21,22,23,24,25,26] (fun pp=>[(9,.kG 1 25 pp.2.length),(16,.d (iD pp.1))]) (fun pp=>[(4,.obj 79 [.d (gE 1 iD x.1),.d (gE 1 iD x.2)]),(25,.iM 22 1 pp.2.length (h_ (gE 1 iD) pp.2))]) ?_ ?_
 ·try dsimp only
  refine(gT.TP 9 25 22 1 rfl rfl).trans ?_;exact wk
 rintro⟨v16,g25⟩ t1 h hb1;unfold mV at h;try dsimp only at h
 refine gC (g_ ?_);refine it h (fun hc h=>?_) fun hc h=>?_
 ·refine iU h fun hp h=>?_
  refine tW (by kernel_rfl) ?_;refine rC h fun r_1 hr_1 h=>?_
  refine iU h fun hp h=>?_
  cases h;refine⟨_,rfl,?_⟩;refine(gT.drop 24 gB).trans ?_;exact wk
 replace h:=gY h hb1;refine lM [(0,25)] [] h fun u hu h=>?_
 cases h;exact gX.trans ((gX.trans (gX.fz 25 (gE 1 iD) rfl (jK g25)) (gX.nW [4] (by simp)))) (gX.told yS jF)⟩
def mD(x:fR)(t:fP):Option fQ:=
 (mC x t x).bind fun r=>
 some r
instance F7{x:fR}{t:fP}:gW (mD x t) fun rr=>iC Tryz.prog 122 [jo x,(gE 1 iD) t] ((gE 1 (gE 1 iD)) rr):=⟨@fun rr h=>by
 delta mD at h;refine Sc.iA (gC ?_);delta N8;refine g_ ?_;refine lM [] [] h fun r hr h=>?_
 exact mm⟩
def tH(n:Int):Option fQ:=if 0<=n/\n*24<=140737488355328 then some []else none
instance JS{n:Int}:gW (tH n) fun rr=>gN Tryz.prog 209 [.d (.sl 0 (some true) []),.d (iD n)] [] 0 fun xx ss=>xx=.own 1 0 (List.map (gE 1 iD) rr)/\ss=[(0,.tok 22 1 rr.length)]:=⟨fun h=>by
 obtain⟨hp,h⟩:=rf h;cases h;exact G5 (i0:=Tryz.t22) (z:=_) Tryz.QS (by kernel_rfl) rfl (by decide) (by decide) (by decide) (by decide) hp.1 hp.2⟩
def Tl:gH:=
 (.seq (.gD (sq 2 [.mv (.const (.slice none 0 0))])) (.seq (.gD (sq 3 [mi 0])) (.seq (.seq (.gD (sq 9 [mv 0,ln 9,mi 0])) (.block 0 (.loop (.seq (.gD (sq 12 [bn .lss 11 10])) (.seq (.cond (t0 12) .skip (.exit 0)) (.seq (.block 1 (.seq (.gD (sq 13 [ix 1 9 11,ld 13]++sq 5 [mv 14])) (.seq (.gD (sq 15 [mv 3,mv 5,ln 16,bn .add 15 17]++sq 3 [mv 18])) (.seq (.gD (sq 19 [mv 3,bi .lss 19 0])) (.cond (t0 20) (.gD (sq 21 [.Ex 9 (.const (.string {data:=#[108,101,110,32,111,117,116,32,111,102,32,114,97,110,103,101]}))]++s0 (.PU (t0 21)))) .skip))))) (.gD (sq 22 [bi .add 11 1]++sq 11 [mv 22])))))))) (.seq (.gD (sq 23 [mv 3,.iw 209 [(.const (.slice none 0 0)),(t0 23)]]++sq 6 [mv 24])) (.seq (.seq (.gD (sq 25 [mv 0,ln 25,mi 0])) (.block 2 (.loop (.seq (.gD (sq 28 [bn .lss 27 26])) (.seq (.cond (t0 28) .skip (.exit 2)) (.seq (.block 3 (.seq (.gD (sq 29 [ix 1 25 27,ld 29]++sq 8 [mv 30])) (.gD (sq 31 [mv 6,mv 8,ap 33 22 1 24 31 32]++sq 6 [mv 33])))) (.gD (sq 34 [bi .add 27 1]++sq 27 [mv 34])))))))) (.seq (.gD (sq 35 [mv 6]++sq 2 [mv 35])) .ret))))))
theorem W5:jT Tryz.prog 177 Tl 36 [.tmp 2]:=mf Tryz.func177 Tryz.ntmps177
def jd(slices:fW):f_->Option (f_⊕fQ)
 |(newslice,v27)=>
  if(decide (v27<(slices.length:Int)))=true then
   if 0<=v27/\v27<(slices.length:Int)then
    if(newslice.length+(slices.getD v27.toNat default).length)*24<=140737488355328 then
     some (.inl ((newslice++(slices.getD v27.toNat default)),(IntKind.i64.wrap (v27+1))))
    else none
   else none
  else
   Option.map Sum.inr (
    some newslice)
def jb(slices:fW):gr->Option (gr⊕fQ)
 |(size,v11)=>
  if(decide (v11<(slices.length:Int)))=true then
   if 0<=v11/\v11<(slices.length:Int)then
    if(decide ((IntKind.i64.wrap (size+((slices.getD v11.toNat default).length:Int)))<0))=true then
     none
    else
     some (.inl ((IntKind.i64.wrap (size+((slices.getD v11.toNat default).length:Int))),(IntKind.i64.wrap (v11+1))))
   else none
  else
   Option.map Sum.inr (
    (tH size).bind fun r=>
    gK (jd slices) (r,0))
def jB(slices:fW):Option fQ:=
 gK (jb slices) (0,0)
instance BG{slices:fW}:gW (jB slices) fun rr=>iC Tryz.prog 177 [(gE 1 (gE 1 (gE 1 iD))) slices] ((gE 1 (gE 1 iD)) rr):=⟨@fun rr h=>by
 delta jB at h;refine W5.iA (gC ?_);delta Tl;refine g_ ?_;refine jk h [3,5,11,12,13,14,15,16,17,18,19,20,21,22] (fun pp=>[(3,.d (iD pp.1)),(11,.d (iD pp.2))]) (fun pp=>[]) ?_;rintro⟨size,v11⟩ t1 h hb1;unfold jb at h;try dsimp only at h
 refine gC (g_ ?_);refine iF h fun hc h=>?_
 replace h:=gY h hb1;refine lM [] [(0,24)] h fun r hr h=>?_
 refine jk h [6,8,27,28,29,30,31,32,33,34] (fun pp=>[(6,.own 1 24 (List.map (gE 1 iD) pp.1)),(27,.d (iD pp.2))]) (fun pp=>[(24,.tok 22 1 pp.1.length)]) ?_;rintro⟨newslice,v27⟩ t1 h hb1;unfold jd at h;try dsimp only at h
 refine gC (g_ ?_);exact mm⟩
def Yf:gH:=
 (.seq (.gD (sq 2 [mb false])) (.seq (.gD (sq 3 [mv 0,.mA (t0 3),fa 3 4,ld 5,ln 6,bi .gtr 7 20]++sq 2 [mv 8])) .ret))
theorem ZI:jT Tryz.prog 94 Yf 9 [.tmp 2]:=mf Tryz.func94 Tryz.ntmps94
def jt(m0:fP)(m1:fP)(m3:fW)(l1:fQ):Option Bool:=
 some (decide (20<(m3.length:Int)))
instance F6{m0:fP}{m1:fP}{m3:fW}{l1:fQ}:gW (jt m0 m1 m3 l1) fun rr=>gN Tryz.prog 94 [.ptr 0 0] [(0,.obj 111 [.d (gE 1 iD m0),.d (gE 1 iD m1),.nC 1 1 0 24,.kG 1 2 m3.length]),(1,.obj 22 (List.map (aD (ue 1 iD)) l1)),(2,.iM 45 1 m3.length (h_ (gE 1 (gE 1 iD)) m3))] 3 fun xx ss=>xx=.d (bD rr)/\ss=[(0,.obj 111 [.d (gE 1 iD m0),.d (gE 1 iD m1),.nC 1 1 0 24,.kG 1 2 m3.length]),(1,.obj 22 (List.map (aD (ue 1 iD)) l1)),(2,.iM 45 1 m3.length (h_ (gE 1 (gE 1 iD)) m3))]:=⟨@fun rr h=>by
 delta jt at h;refine ZI.jO (gC ?_);delta Yf;refine g_ ?_;exact mm⟩
def SX:gH:=
 (.seq (.gD (sq 4 [.mv (.const (.slice none 0 0))])) (.seq (.gD (sq 5 [.mv (.const (.slice none 0 0)),.mv (.const (.slice none 0 0))])) (.seq (.seq (.gD (sq 9 [mv 1,ln 9,mi 0])) (.block 0 (.loop (.seq (.gD (sq 12 [bn .lss 11 10])) (.seq (.cond (t0 12) .skip (.exit 0)) (.seq (.block 1 (.seq (.gD (sq 13 [ix 1 9 11,ld 13]++sq 8 [mv 14])) (.seq (.gD (sq 15 [mv 8,.tD 1 (t0 15) (i0 0),ld 16,bi .lss 17 0])) (.cond (t0 18) (.gD (sq 19 [mv 6,mv 8,.lQ 21 22 1 [(t0 20)],ap 22 22 1 24 19 21]++sq 6 [mv 22])) (.gD (sq 23 [mv 5,mv 8,.lQ 25 22 1 [(t0 24)],ap 26 22 1 24 23 25]++sq 5 [mv 26])))))) (.gD (sq 27 [bi .add 11 1]++sq 11 [mv 27])))))))) (.seq (.gD (sq 28 [mv 5,mv 6,ap 30 22 1 24 28 29]++sq 4 [mv 30])) .ret))))
theorem WE:jT Tryz.prog 145 SX 31 [.tmp 4]:=mf Tryz.func145 Tryz.ntmps145
def nq(ps:fQ):gA->Option (gA⊕fQ)
 |(first',last,v11)=>
  if(decide (v11<(ps.length:Int)))=true then
   if 0<=v11/\v11<(ps.length:Int)then
    if 0<=0/\0<((ps.getD v11.toNat default).length:Int)then
     if(decide (((ps.getD v11.toNat default).getD 0 default)<0))=true then
      if(last.length+1)*24<=140737488355328 then
       some (.inl (first',(last++[(ps.getD v11.toNat default)]),(IntKind.i64.wrap (v11+1))))
      else none
     else
      if(first'.length+1)*24<=140737488355328 then
       some (.inl ((first'++[(ps.getD v11.toNat default)]),last,(IntKind.i64.wrap (v11+1))))
      else none
    else none
   else none
  else
   Option.map Sum.inr (
    if(first'.length+last.length)*24<=140737488355328 then
     some (first'++last)
    else none)
def kZ(ps:fQ):Option fQ:=
 gK (nq ps) ([],[],0)
instance Em{ps:fQ}:gW (kZ ps) fun rr=>gN Tryz.prog 145 [.iB,.d (gE 1 (gE 1 iD) ps)] [] 0 fun xx ss=>xx=.d (gE 1 (gE 1 iD) rr)/\ss=[]:=⟨@fun rr h=>by
 delta kZ at h;refine WE.jO (gC ?_);delta SX;refine g_ ?_;refine mO h [5,6,8,11,12,13,14,15,16,17,18,19,20,21,22,23,24,25,26,27] (fun pp=>[(5,.own 1 26 (List.map (gE 1 iD) pp.1)),(6,.own 1 22 (List.map (gE 1 iD) pp.2.1)),(11,.d (iD pp.2.2))]) (fun pp=>[(22,.tok 22 1 pp.2.1.length),(26,.tok 22 1 pp.1.length)]) ?_ ?_
 ·try dsimp only
  refine(gT.EB 5 26 22 1 rfl rfl).trans ?_;refine(gT.EB 6 22 22 1 rfl rfl).trans ?_;exact wk
 rintro⟨first',last,v11⟩ t1 h hb1;unfold nq at h;try dsimp only at h
 refine gC (g_ ?_);refine it h (fun hc h=>?_) fun hc h=>?_
 ·refine iU h fun hp h=>?_
  refine iU h fun hp h=>?_
  refine it h (fun hc h=>?_) fun hc h=>?_
  ·refine iU h fun hp h=>?_
   cases h;refine⟨_,rfl,?_⟩;refine(gT.drop 21 gB).trans ?_;exact wk
  refine iU h fun hp h=>?_
  cases h;refine⟨_,rfl,?_⟩;refine(gT.drop 25 gB).trans ?_;exact wk
 replace h:=gY h hb1;refine iU h fun hp h=>?_
 cases h;exact⟨[22,26],by simp,jF,jF⟩⟩
def SZ:gH:=
 (.seq (.gD (sq 2 [.mv (.const (.slice none 0 0))])) (.seq (.gD (sq 3 [mv 0,.bin .sub (i0 (-1)) (t0 3),.lQ 5 2 1 [(t0 4)]]++sq 2 [mv 5])) .ret))
theorem WH:jT Tryz.prog 148 SZ 6 [.tmp 2]:=mf Tryz.func148 Tryz.ntmps148
def lz(i:Int):Option fP:=
 some [(IntKind.i64.wrap ((-1)-i))]
instance Mh{i:Int}:gW (lz i) fun rr=>iC Tryz.prog 148 [iD i] ((gE 1 iD) rr):=⟨@fun rr h=>by
 delta lz at h;refine WH.iA (gC ?_);delta SZ;refine g_ ?_;exact mm⟩
def S1:gH:=
 (.seq (.gD (sq 3 [mb false])) (.seq (.gD (sq 4 [mv 0,ld 1,cf 151 [4,5]]++sq 3 [mv 6])) .ret))
theorem WJ:jT Tryz.prog 150 S1 7 [.tmp 3]:=mf Tryz.func150 Tryz.ntmps150
def mB(old:fQ)(a1:fQ):Option Bool:=
 (oO old a1).bind fun r=>
 some r
instance Ed{old:fQ}{a1:fQ}:gW (mB old a1) fun rr=>gN Tryz.prog 150 [.d (gE 1 (gE 1 iD) old),.pv [gE 1 (gE 1 iD) a1]] [] 0 fun xx ss=>xx=.d (bD rr)/\ss=[]:=⟨@fun rr h=>by
 delta mB at h;refine WJ.jO (gC ?_);delta S1;refine g_ ?_;exact mm⟩
def Tq:gH:=
 (.seq (.gD (sq 4 [mi 0])) (.seq (.seq (.gD (sq 6 [mv 0,ln 6,mi 0])) (.block 0 (.loop (.seq (.gD (sq 9 [bn .lss 8 7])) (.seq (.cond (t0 9) .skip (.exit 0)) (.seq (.block 1 (.seq (.gD (sq 10 [mv 8]++sq 5 [mv 10])) (.seq (.gD (sq 11 [mv 1,mv 0,mv 5,ix 1 12 13,ld 14,.ug (t0 11) [(t0 15)]])) (.cond (t0 16) (.seq (.gD (sq 17 [mv 5]++sq 4 [mv 17])) .ret) .skip)))) (.gD (sq 18 [bi .add 8 1]++sq 8 [mv 18])))))))) (.seq (.gD (sq 4 [mi (-1)])) .ret)))
theorem W9:jT Tryz.prog 181 Tq 19 [.tmp 4]:=mf Tryz.func181 Tryz.ntmps181
def jf(s:fW)(f:fQ):Int->Option (Int⊕Int)
 |v8=>
  if(decide (v8<(s.length:Int)))=true then
   if 0<=v8/\v8<(s.length:Int)then
    (mB (s.getD v8.toNat default) f).bind fun r=>
    if r=true then
     Option.map Sum.inr (
      some v8)
    else
     some (.inl (IntKind.i64.wrap (v8+1)))
   else none
  else
   Option.map Sum.inr (
    some (-1))
def kJ(s:fW)(f:fQ):Option Int:=
 gK (jf s f) 0
instance BH{s:fW}{f:fQ}:gW (kJ s f) fun rr=>gN Tryz.prog 181 [.d (gE 1 (gE 1 (gE 1 iD)) s),.fn 150 [] [.pv [gE 1 (gE 1 iD) f]]] [] 0 fun xx ss=>xx=.d (iD rr)/\ss=[]:=⟨@fun rr h=>by
 delta kJ at h;refine W9.jO (gC ?_);delta Tq;refine g_ ?_;refine jk h [4,5,8,9,10,11,12,13,14,15,16,17,18] (fun pp=>[(8,.d (iD pp))]) (fun pp=>[]) ?_;rintro v8 t1 h hb1;unfold jf at h;try dsimp only at h
 refine gC (g_ ?_);refine iT h fun hc h=>?_
 refine iU h fun hp h=>?_
 refine tW (by kernel_rfl) ?_;refine lM [] [] h fun r hr h=>?_
 exact mm⟩
def S0:gH:=
 (.seq (.gD (sq 4 [mb false])) (.seq (.gD (sq 5 [mv 0,mv 1,cf 181 [5,6],bi .geq 7 0]++sq 4 [mv 8])) .ret))
theorem WI:jT Tryz.prog 149 S0 9 [.tmp 4]:=mf Tryz.func149 Tryz.ntmps149
def je(s:fW)(f:fQ):Option Bool:=
 (kJ s f).bind fun r=>
 some (decide (0<=r))
instance Az{s:fW}{f:fQ}:gW (je s f) fun rr=>gN Tryz.prog 149 [.d (gE 1 (gE 1 (gE 1 iD)) s),.fn 150 [] [.pv [gE 1 (gE 1 iD) f]]] [] 0 fun xx ss=>xx=.d (bD rr)/\ss=[]:=⟨@fun rr h=>by
 delta je at h;refine WI.jO (gC ?_);delta S0;refine g_ ?_;refine lM [] [] h fun r hr h=>?_
 exact mm⟩
def qJ:gH:=
 (.seq (.gD (sq 5 [.za 5 22 1 24 [.sl 0 (some true) []] false (i0 24) (i0 24)]++sq 2 [.wU 702 2 45 [.sl 0 (some true) []]]++s0 (sr 1 2 5))) (.seq (.seq (.gD (sq 6 [mv 0,.mA (t0 6),fa 2 7,ld 8,ln 9,mi 0])) (.block 0 (.loop (.seq (.gD (sq 12 [bn .lss 11 10])) (.seq (.cond (t0 12) .skip (.exit 0)) (.seq (.block 1 (.seq (.gD (sq 13 [mv 11,ix 1 9 11,ld 14]++sq 3 [mv 13,mv 15])) (.seq (.seq (.gD (sq 16 [mv 4,.xC false (t0 16)])) (.cond (t0 17) (.gD (sq 18 [mv 3,cf 148 [18]]++sq 4 [mv 19])) .skip)) (.gD (sq 20 [ld 2,mv 3,mv 4,ix 1 20 21]++s0 (sr 1 23 22)))))) (.gD (sq 24 [bi .add 11 1]++sq 11 [mv 24])))))))) (.seq (.gD (sq 25 [mv 0,.mA (t0 25),fa 3 26,ld 27,.z_ 150 [] [(t0 2)],cf 149 [28,29],nt 30])) (.cond (t0 31) (.draw (sq 32 [mv 0,mv 0,.mA (t0 33),fa 3 34,ld 35,ld 2,.lQ 38 45 1 [(t0 37)],ap 39 45 1 24 36 38,.mA (t0 32),fa 3 40]++s0 (sr 1 41 39)) [[],[],[1],[2],[3],[],[5],[4,6],[0,0,1,2,3,4,5,6,7],[8,0,1,2,3,4,5,6,7],[9,7,7,0,1,2,3,4,5,6,7]]) .skip))))
theorem vZ:jT Tryz.prog 93 qJ 42 []:=mf Tryz.func93 Tryz.ntmps93
def nN(m3:fW)(l1:fQ):gq->Option (gq⊕fW)
 |(v11,l5)=>
  if(decide (v11<24))=true then
   if 0<=v11/\v11<(24:Int)/\v11<(l1.length:Int)then
    if(l1.getD v11.toNat default).isEmpty=true then
     (lz v11).bind fun r=>
     if 0<=v11/\v11<(24:Int)/\v11<(l5.length:Int)then
      some (.inl ((IntKind.i64.wrap (v11+1)),(l5.set v11.toNat r)))
     else none
    else
     if 0<=v11/\v11<(24:Int)/\v11<(l5.length:Int)then
      some (.inl ((IntKind.i64.wrap (v11+1)),(l5.set v11.toNat (l1.getD v11.toNat default))))
     else none
   else none
  else
   Option.map Sum.inr (
    if l5.length=24 then
     (je m3 l5).bind fun r_1=>
     if r_1=true then
      some m3
     else
      if(m3.length+1)*24<=140737488355328 then
       some (m3++[l5])
      else none
    else none)
def jA(m0:fP)(m1:fP)(m3:fW)(l1:fQ):Option fW:=
 gK (nN m3 l1) (0,(List.replicate 24 []))
instance xw{m0:fP}{m1:fP}{m3:fW}{l1:fQ}:gW (jA m0 m1 m3 l1) fun rr=>gN Tryz.prog 93 [.ptr 0 0] [(0,.obj 111 [.d (gE 1 iD m0),.d (gE 1 iD m1),.nC 1 1 0 24,.kG 1 2 m3.length]),(1,.obj 22 (List.map (aD (ue 1 iD)) l1)),(2,.iM 45 1 m3.length (h_ (gE 1 (gE 1 iD)) m3))] 3 fun xx ss=>xx=.nk []/\ss=[(0,.obj 111 [.d (gE 1 iD m0),.d (gE 1 iD m1),.nC 1 1 0 24,.kG 1 2 rr.length]),(1,.obj 22 (List.map (aD (ue 1 iD)) l1)),(2,.iM 45 1 rr.length (h_ (gE 1 (gE 1 iD)) rr))]:=⟨@fun rr h=>by
 delta jA at h;refine vZ.jO (gC ?_);delta qJ;refine g_ ?_;refine Eg ?_;refine jk h [3,4,11,12,13,14,15,16,17,18,19,20,21,22,23,24] (fun pp=>[(11,.d (iD pp.1))]) (fun pp=>[(0,.obj 111 [.d (gE 1 iD m0),.d (gE 1 iD m1),.nC 1 1 0 24,.kG 1 2 m3.length]),(1,.obj 22 (List.map (aD (ue 1 iD)) l1)),(2,.iM 45 1 m3.length (h_ (gE 1 (gE 1 iD)) m3)),(5,.obj 22 (List.map (aD (gE 1 iD)) pp.2)),(702,.obj 45 [.nC 1 5 0 24])]) ?_;rintro⟨v11,l5⟩ t1 h hb1;unfold nN at h;try dsimp only at h
 refine gC (g_ ?_);refine it h (fun hc h=>?_) fun hc h=>?_
 ·refine iU h fun hp h=>?_
  refine iF h fun hc h=>?_
  refine iU h fun hp h=>?_
  cases h;refine⟨_,rfl,?_⟩;refine(gT.Xm (s':=[(0,.obj 111 [.d (gE 1 iD m0),.d (gE 1 iD m1),.nC 1 1 0 24,.kG 1 2 m3.length]),(1,.obj 22 (List.map (aD (ue 1 iD)) l1)),(2,.iM 45 1 m3.length (h_ (gE 1 (gE 1 iD)) m3)),(5,.obj 22 (List.map (aD (gE 1 iD)) (l5.set v11.toNat (l1.getD v11.toNat default)))),(702,.obj 45 [.nC 1 5 0 24])]) (ia.refl _) (by exact(yE (xT.refl _) (yE (xT.refl _) (yE (xT.refl _) (yE ⟨rfl,DK gB (by first|exact(CO gB).2 trivial|exact(Aq gB).2 trivial|exact yd.2 trivial|exact zM.2 trivial)⟩ (yE (xT.refl _) EA))))))).trans ?_;exact wk
 replace h:=gY h hb1;refine iU h fun hp h=>?_
 refine Ab 5 (gE 1 iD) l5 gB rfl (fun _=>rfl) (g_ ?_);refine TJ h fun r_1 hr_1 h=>?_
 refine it h (fun hc h=>?_) fun hc h=>?_
 ·cases h;exact⟨[702],by simp,jF,jF⟩
 refine iU h fun hp h=>?_
 refine i_ (by kernel_rfl) (g_ ?_);cases h;exact⟨[38,702],by simp,jF,jF⟩⟩
end Go.Proofs.YthdnkoejpdcnpaaGreat
namespace Go.Proofs.YthdnkoejpdcnpaaGreat
open Go kI
set_option maxHeartbeats 4000000
inductive Kt where
 |rc
 |al (ps ts:List fP) (k:Kt)
 |s1 (f:Int) (ps ts:List fP) (j:Int) (k:Kt)
 |s2 (f:Int) (ps ts:List fP) (k:Kt)
def AW:Kt->Nat
 |.rc=>93
 |.al .. =>180
 |.s1 .. =>176
 |.s2 .. =>179
def uA:Kt->List AV
 |.rc=>[.ptr 0 0]
 |.al .. =>[]
 |.s1 .. =>[]
 |.s2 .. =>[]
def sL:Kt->List AV
 |.rc=>[]
 |.al ps ts k=>[.pa [.ptr 0 0],.pa [.d (gE 1 (gE 1 iD) ps)],.pa [.d (gE 1 (gE 1 iD) ts)],.pa [.fn (AW k) (uA k) (sL k)]]
 |.s1 f ps ts j k=>[.pa [.ptr 0 0],.pa [.d (iD f)],.pa [.d (gE 1 (gE 1 iD) ps)],.pa [.d (gE 1 (gE 1 iD) ts)],.pa [.d (iD j)],.pa [.fn (AW k) (uA k) (sL k)]]
 |.s2 f ps ts k=>[.pa [.ptr 0 0],.pa [.d (iD f)],.pa [.d (gE 1 (gE 1 iD) ps)],.pa [.d (gE 1 (gE 1 iD) ts)],.pa [.fn (AW k) (uA k) (sL k)]]
def AK(k:Kt):AV:=.fn (AW k) (uA k) (sL k)
theorem CM(k:Kt):enters Tryz.prog (AW k)=true:=by cases k<;>kernel_rfl
theorem zI{ρ:Nat->Option Nat}(h:ρ 0=some 0):∀k:Kt,AV.iI ρ (uA k)=uA k
 |.rc=>by simp only[uA,AV.kY,AV.iI,h]
 |.al .. =>rfl
 |.s1 .. =>rfl
 |.s2 .. =>rfl
theorem zB{ρ:Nat->Option Nat}(h:ρ 0=some 0):∀k:Kt,AV.iI ρ (sL k)=sL k
 |.rc=>rfl
 |.al _ _ k=>by simp only[sL,AV.kY,AV.iI,h,zI h k,zB h k]
 |.s1 _ _ _ _ k=>by simp only[sL,AV.kY,AV.iI,h,zI h k,zB h k]
 |.s2 _ _ _ k=>by simp only[sL,AV.kY,AV.iI,h,zI h k,zB h k]
theorem CN{id:Nat}{cs:List AV}(h:id≠0):∀k:Kt,AV.vu id cs (uA k)=uA k
 |.rc=>by simp only[uA,AV.vN,AV.vu,az (show ¬0=id by omega)]
 |.al .. =>rfl
 |.s1 .. =>rfl
 |.s2 .. =>rfl
theorem CJ{id:Nat}{cs:List AV}(h:id≠0):∀k:Kt,AV.vu id cs (sL k)=sL k
 |.rc=>rfl
 |.al _ _ k=>by simp only[sL,AV.vN,AV.vu,az (show ¬0=id by omega),CN h k,CJ h k]
 |.s1 _ _ _ _ k=>by simp only[sL,AV.vN,AV.vu,az (show ¬0=id by omega),CN h k,CJ h k]
 |.s2 _ _ _ k=>by simp only[sL,AV.vN,AV.vu,az (show ¬0=id by omega),CN h k,CJ h k]
theorem NB{id:Nat}{k:Kt}(h:id≠0):AV.iI (gV id) (uA k)=uA k:=zI (ρ:=gV id) (by unfold gV;rw[az gB]) k
theorem Nh{id:Nat}{k:Kt}(h:id≠0):AV.iI (gV id) (sL k)=sL k:=zB (ρ:=gV id) (by unfold gV;rw[az gB]) k
theorem ND{id:Nat}{cs:List AV}{k:Kt}(h:id≠0):AV.vu id cs (uA k)=uA k:=CN h k
theorem Ni{id:Nat}{cs:List AV}{k:Kt}(h:id≠0):AV.vu id cs (sL k)=sL k:=CJ h k
theorem N6{k:Kt}:List.map (fun x=>AV.kY (fun x=>if x=0 then some 0 else if x=1 then some 1 else if x=2 then some 2 else none) x) (uA k)=uA k:=by rw[<-xH];exact zI (ρ:=(fun x=>if x=0 then some 0 else if x=1 then some 1 else if x=2 then some 2 else none)) rfl k
theorem N5{k:Kt}:List.map (fun x=>AV.kY (fun x=>if x=0 then some 0 else if x=1 then some 1 else if x=2 then some 2 else none) x) (sL k)=sL k:=by rw[<-xH];exact zB (ρ:=(fun x=>if x=0 then some 0 else if x=1 then some 1 else if x=2 then some 2 else none)) rfl k
theorem LP{k:Kt}:AV.iI (fun x=>if x=0 then some 0 else if x=1 then some 1 else if x=2 then some 2 else none) (uA k)=uA k:=zI (ρ:=(fun x=>if x=0 then some 0 else if x=1 then some 1 else if x=2 then some 2 else none)) rfl k
theorem LO{k:Kt}:AV.iI (fun x=>if x=0 then some 0 else if x=1 then some 1 else if x=2 then some 2 else none) (sL k)=sL k:=zB (ρ:=(fun x=>if x=0 then some 0 else if x=1 then some 1 else if x=2 then some 2 else none)) rfl k
theorem Uw:AW Kt.rc=93:=rfl
theorem UB:uA Kt.rc=[.ptr 0 0]:=rfl
theorem Uh:sL Kt.rc=[]:=rfl
theorem Uv{ps ts:List fP}{k:Kt}:AW (Kt.al ps ts k)=180:=rfl
theorem UA{ps ts:List fP}{k:Kt}:uA (Kt.al ps ts k)=[]:=rfl
theorem Ug{ps ts:List fP}{k:Kt}:sL (Kt.al ps ts k)=[.pa [.ptr 0 0],.pa [.d (gE 1 (gE 1 iD) ps)],.pa [.d (gE 1 (gE 1 iD) ts)],.pa [.fn (AW k) (uA k) (sL k)]]:=rfl
theorem Ux{f j:Int}{ps ts:List fP}{k:Kt}:AW (Kt.s1 f ps ts j k)=176:=rfl
theorem UC{f j:Int}{ps ts:List fP}{k:Kt}:uA (Kt.s1 f ps ts j k)=[]:=rfl
theorem Ui{f j:Int}{ps ts:List fP}{k:Kt}:sL (Kt.s1 f ps ts j k)=[.pa [.ptr 0 0],.pa [.d (iD f)],.pa [.d (gE 1 (gE 1 iD) ps)],.pa [.d (gE 1 (gE 1 iD) ts)],.pa [.d (iD j)],.pa [.fn (AW k) (uA k) (sL k)]]:=rfl
theorem Uy{f:Int}{ps ts:List fP}{k:Kt}:AW (Kt.s2 f ps ts k)=179:=rfl
theorem UD{f:Int}{ps ts:List fP}{k:Kt}:uA (Kt.s2 f ps ts k)=[]:=rfl
theorem Uj{f:Int}{ps ts:List fP}{k:Kt}:sL (Kt.s2 f ps ts k)=[.pa [.ptr 0 0],.pa [.d (iD f)],.pa [.d (gE 1 (gE 1 iD) ps)],.pa [.d (gE 1 (gE 1 iD) ts)],.pa [.fn (AW k) (uA k) (sL k)]]:=rfl
attribute [go_sem] AK Uw UB Uh Uv UA Ug Ux UC Ui Uy UD Uj NB Nh ND Ni N6 N5 LP LO
abbrev RT:=Kt->fP->fP->List fQ->List fP->Option (List fQ×List fP)
abbrev MT:=fP->fP->Kt->fP->fP->List fQ->List fP->Option (List fQ×List fP)
class E_ (recR:RT):Prop where
 c:∀{k:Kt}{m0 m1:fP}{m3:List fQ}{l1:List fP},gW (recR k m0 m1 m3 l1) fun rr=>gN Tryz.prog (AW k) (uA k++sL k) [(0,.obj 111 [.d (gE 1 iD m0),.d (gE 1 iD m1),.nC 1 1 0 24,.kG 1 2 m3.length]),(1,.obj 22 (List.map (aD (ue 1 iD)) l1)),(2,.iM 45 1 m3.length (h_ (gE 1 (gE 1 iD)) m3))] 3 fun xx ss=>xx=.nk []/\ss=[(0,.obj 111 [.d (gE 1 iD m0),.d (gE 1 iD m1),.nC 1 1 0 24,.kG 1 2 rr.1.length]),(1,.obj 22 (List.map (aD (ue 1 iD)) rr.2)),(2,.iM 45 1 rr.1.length (h_ (gE 1 (gE 1 iD)) rr.1))]
class E9 (recM:MT):Prop where
 c:∀{p t:fP}{k:Kt}{m0 m1:fP}{m3:List fQ}{l1:List fP},gW (recM p t k m0 m1 m3 l1) fun rr=>gN Tryz.prog 92 [.ptr 0 0,.d (gE 1 iD p),.d (gE 1 iD t),AK k] [(0,.obj 111 [.d (gE 1 iD m0),.d (gE 1 iD m1),.nC 1 1 0 24,.kG 1 2 m3.length]),(1,.obj 22 (List.map (aD (ue 1 iD)) l1)),(2,.iM 45 1 m3.length (h_ (gE 1 (gE 1 iD)) m3))] 3 fun xx ss=>xx=.nk []/\ss=[(0,.obj 111 [.d (gE 1 iD m0),.d (gE 1 iD m1),.nC 1 1 0 24,.kG 1 2 rr.1.length]),(1,.obj 22 (List.map (aD (ue 1 iD)) rr.2)),(2,.iM 45 1 rr.1.length (h_ (gE 1 (gE 1 iD)) rr.1))]
instance ihR{recR:RT}[h:E_ recR]{k:Kt}{m0 m1:fP}{m3:List fQ}{l1:List fP}:gW (recR k m0 m1 m3 l1) fun rr=>gN Tryz.prog (AW k) (uA k++sL k) [(0,.obj 111 [.d (gE 1 iD m0),.d (gE 1 iD m1),.nC 1 1 0 24,.kG 1 2 m3.length]),(1,.obj 22 (List.map (aD (ue 1 iD)) l1)),(2,.iM 45 1 m3.length (h_ (gE 1 (gE 1 iD)) m3))] 3 fun xx ss=>xx=.nk []/\ss=[(0,.obj 111 [.d (gE 1 iD m0),.d (gE 1 iD m1),.nC 1 1 0 24,.kG 1 2 rr.1.length]),(1,.obj 22 (List.map (aD (ue 1 iD)) rr.2)),(2,.iM 45 1 rr.1.length (h_ (gE 1 (gE 1 iD)) rr.1))]:=h.c
instance ihM{recM:MT}[h:E9 recM]{p t:fP}{k:Kt}{m0 m1:fP}{m3:List fQ}{l1:List fP}:gW (recM p t k m0 m1 m3 l1) fun rr=>gN Tryz.prog 92 [.ptr 0 0,.d (gE 1 iD p),.d (gE 1 iD t),AK k] [(0,.obj 111 [.d (gE 1 iD m0),.d (gE 1 iD m1),.nC 1 1 0 24,.kG 1 2 m3.length]),(1,.obj 22 (List.map (aD (ue 1 iD)) l1)),(2,.iM 45 1 m3.length (h_ (gE 1 (gE 1 iD)) m3))] 3 fun xx ss=>xx=.nk []/\ss=[(0,.obj 111 [.d (gE 1 iD m0),.d (gE 1 iD m1),.nC 1 1 0 24,.kG 1 2 rr.1.length]),(1,.obj 22 (List.map (aD (ue 1 iD)) rr.2)),(2,.iM 45 1 rr.1.length (h_ (gE 1 (gE 1 iD)) rr.1))]:=h.c
end Go.Proofs.YthdnkoejpdcnpaaGreat
namespace Go.Proofs.YthdnkoejpdcnpaaGreat
open Go kI
attribute [local irreducible] sO uf uc lu kf pG iV xm xQ wz xP wu pY kr lq xO ia jN
set_option maxHeartbeats 4000000
set_option maxRecDepth 4000
def rq:gH:=
 (.seq (.seq (.gD (sq 8 [mv 0,.mA (t0 8),fa 2 9,ld 10,mv 1,ix 1 11 12,ld 13,.xC true (t0 14)])) (.cond (t0 15) (.seq (.seq (.gD (sq 16 [mv 0,.mA (t0 16),fa 2 17,ld 18,mv 1,ix 1 19 20,ld 21,mv 2,cf 155 [22,23]])) (.cond (t0 24) (.gD (sq 25 [mv 3,.ug (t0 25) []])) .skip)) .ret) .skip)) (.seq (.gD (sq 27 [mv 0,.mA (t0 27),fa 2 28,ld 29,mv 1,mv 2,ix 1 30 31]++s0 (sr 1 33 32))) (.seq (.ghost (.gD (sq 34 [mv 3,.ug (t0 34) []]))) (.gD (sq 36 [mv 0,.mA (t0 36),fa 2 37,ld 38,mv 1,ix 1 39 40]++s0 (.store 1 (t0 41) (.const (.slice none 0 0))))))))
theorem wD:jT Tryz.prog 143 rq 42 []:=mf Tryz.func143 Tryz.ntmps143
def kW(recR:RT)(recM:MT)(i:Int)(t:fP)(k:Kt)(m0:fP)(m1:fP)(m3:fW)(l1:fQ):Option (fW×fQ):=
 if 0<=i/\i<(24:Int)/\i<(l1.length:Int)then
  if(l1.getD i.toNat default).isEmpty=true then
   if 0<t.length then
    (recR k m0 m1 m3 (l1.set i.toNat t)).bind fun r=>
    if 0<=i/\i<(24:Int)/\i<(r.2.length:Int)then
     some (r.1,(r.2.set i.toNat []))
    else none
   else none
  else
   (ig (l1.getD i.toNat default) t).bind fun r_1=>
   if r_1=true then
    (recR k m0 m1 m3 l1).bind fun r_2=>
    some r_2
   else
    some (m3,l1)
 else none
instance F5{recR:RT}{recM:MT}[E_ recR][E9 recM]{i:Int}{t:fP}{k:Kt}{m0:fP}{m1:fP}{m3:fW}{l1:fQ}:gW (kW recR recM i t k m0 m1 m3 l1) fun rr=>gN Tryz.prog 143 [.ptr 0 0,.d (iD i),.d (gE 1 iD t),AK k] [(0,.obj 111 [.d (gE 1 iD m0),.d (gE 1 iD m1),.nC 1 1 0 24,.kG 1 2 m3.length]),(1,.obj 22 (List.map (aD (ue 1 iD)) l1)),(2,.iM 45 1 m3.length (h_ (gE 1 (gE 1 iD)) m3))] 3 fun xx ss=>xx=.nk []/\ss=[(0,.obj 111 [.d (gE 1 iD m0),.d (gE 1 iD m1),.nC 1 1 0 24,.kG 1 2 rr.1.length]),(1,.obj 22 (List.map (aD (ue 1 iD)) rr.2)),(2,.iM 45 1 rr.1.length (h_ (gE 1 (gE 1 iD)) rr.1))]:=⟨@fun rr h=>by
 delta kW at h;refine wD.Ai (gC ?_);delta rq;refine g_ ?_;refine iU h fun hp h=>?_
 refine it h (fun hc1 h=>?_) fun hc1 h=>?_
 ·refine Eg ?_;refine iU h fun hp h=>?_
  refine iV.of ((gT.Xm (s':=[(0,.obj 111 [.d (gE 1 iD m0),.d (gE 1 iD m1),.nC 1 1 0 24,.kG 1 2 m3.length]),(1,.obj 22 (List.map (aD (ue 1 iD)) (l1.set i.toNat t))),(2,.iM 45 1 m3.length (h_ (gE 1 (gE 1 iD)) m3))]) (ia.refl _) (by exact(yE (xT.refl _) (yE ⟨rfl,DK gB (by first|exact(CO gB).2 trivial|exact(Aq gB).2 trivial|exact yd.2 trivial|exact zM.2 trivial)⟩ (yE (xT.refl _) EA)))))) ?_;refine g_ ?_;refine tW (CM _) ?_;refine lM [(0,0),(1,1),(2,2)] [] h fun r hr h=>?_
  refine iU h fun hp h=>?_
  cases h;exact gX.trans ((gX.told (t:=[(0,.obj 111 [.d (gE 1 iD m0),.d (gE 1 iD m1),.nC 1 1 0 24,.kG 1 2 r.1.length]),(1,.obj 22 (List.map (aD (ue 1 iD)) (r.2.set i.toNat []))),(2,.iM 45 1 r.1.length (h_ (gE 1 (gE 1 iD)) r.1))]) (AV.le_refl _) (by exact(yE (xT.refl _) (yE ⟨rfl,DK gB (by first|exact(CO gB).2 trivial|exact(Aq gB).2 trivial|exact yd.2 trivial|exact zM.2 trivial)⟩ (yE (xT.refl _) EA)))))) (gX.told yS jF)
 refine Eg ?_;refine rC h fun r_1 hr_1 h=>?_
 refine it h (fun hc2 h=>?_) fun hc2 h=>?_
 ·refine tW (CM _) ?_;refine lM [(0,0),(1,1),(2,2)] [] h fun r_2 hr_2 h=>?_
  cases h;exact gX.trans (gX.refl) (gX.told yS jF)
 cases h;exact gX.trans (gX.refl) (gX.told yS jF)⟩
def rT:gH:=
 (.seq (.gD (sq 4 [bo 4 109 0,bo 5 45 1,bo 6 45 2,bo 7 1 3])) (.seq (.seq (.ghost (.gD (sq 8 [ld 5,ln 8,bi .eql 9 0]))) (.cond (t0 10) (.seq (.gD (sq 11 [ld 7,.ug (t0 11) []])) .ret) .skip)) (.draw (sq 13 [ld 4,ld 5,.tD 1 (t0 14) (i0 0),ld 15,ld 6,.tD 1 (t0 17) (i0 0),ld 18,.z_ 180 [] [(t0 4),(t0 5),(t0 6),(t0 7)],cf 92 [13,16,19,20]]) [[],[],[1],[2],[],[4],[5],[],[0,3,6,7]])))
theorem wZ:jT Tryz.prog 146 rT 22 []:=mf Tryz.func146 Tryz.ntmps146
def kz(recR:RT)(recM:MT)(ps:fQ)(ts:fQ)(k:Kt)(m0:fP)(m1:fP)(m3:fW)(l1:fQ):Option (fW×fQ):=
 if((ps.length:Int)==0)=true then
  (recR k m0 m1 m3 l1).bind fun r=>
  some r
 else
  if 0<=0/\0<(ps.length:Int)then
   if 0<=0/\0<(ts.length:Int)then
    (recM (ps.getD 0 default) (ts.getD 0 default) (Kt.al ps ts k) m0 m1 m3 l1).bind fun r_1=>
    some r_1
   else none
  else none
instance Gz{recR:RT}{recM:MT}[E_ recR][E9 recM]{ps:fQ}{ts:fQ}{k:Kt}{m0:fP}{m1:fP}{m3:fW}{l1:fQ}:gW (kz recR recM ps ts k m0 m1 m3 l1) fun rr=>gN Tryz.prog 146 [.ptr 0 0,.d (gE 1 (gE 1 iD) ps),.d (gE 1 (gE 1 iD) ts),AK k] [(0,.obj 111 [.d (gE 1 iD m0),.d (gE 1 iD m1),.nC 1 1 0 24,.kG 1 2 m3.length]),(1,.obj 22 (List.map (aD (ue 1 iD)) l1)),(2,.iM 45 1 m3.length (h_ (gE 1 (gE 1 iD)) m3))] 3 fun xx ss=>xx=.nk []/\ss=[(0,.obj 111 [.d (gE 1 iD m0),.d (gE 1 iD m1),.nC 1 1 0 24,.kG 1 2 rr.1.length]),(1,.obj 22 (List.map (aD (ue 1 iD)) rr.2)),(2,.iM 45 1 rr.1.length (h_ (gE 1 (gE 1 iD)) rr.1))]:=⟨@fun rr h=>by
 delta kz at h;refine wZ.jO (gC ?_);delta rT;refine g_ ?_;refine iV.of ((gT.trans ((gT.vN 4 gB rfl).trans (gT.drop 4 gB)) (gT.trans ((gT.vN 5 gB rfl).trans (gT.drop 5 gB)) (gT.trans ((gT.vN 6 gB rfl).trans (gT.drop 6 gB)) ((gT.vN 7 gB rfl).trans (gT.drop 7 gB)))))) ?_;refine g_ ?_;refine it h (fun hc1 h=>?_) fun hc1 h=>?_
 ·refine tW (CM _) ?_;refine lM [(0,0),(1,1),(2,2)] [] h fun r hr h=>?_
  exact mm
 refine iU h fun hp h=>?_
 refine iU h fun hp h=>?_
 refine xN [(0,0),(1,1),(2,2)] [] h fun r_1 hr_1 h=>?_
 exact mm⟩
def qt:gH:=
 (.seq (.gD (sq 5 [bo 5 109 0,bo 6 2 1,bo 7 45 2,bo 8 45 3,bo 9 1 4])) (.seq (.seq (.ghost (.gD (sq 16 [ld 7,ln 16,bi .eql 17 0,mv 18]++sg 19 false 20 [ld 8,ln 20,ld 7,ln 22,bn .lss 21 23]++sq 25 [po 19 24,mv 25]++sg 26 false 27 [ld 5,cf 94 [27]]++sq 29 [po 26 28]))) (.cond (t0 29) (.seq (.seq (.gD (sq 30 [ld 7,ln 30,bi .eql 31 0,mv 32]++sg 33 true 34 [ld 8,ln 34,bi .eql 35 0]++sq 37 [pa 33 36])) (.cond (t0 37) (.gD (sq 38 [ld 9,.ug (t0 38) []])) .skip)) .ret) .skip)) (.seq (.seq (.gD (sq 40 [ld 7,.tD 1 (t0 40) (i0 0),ld 41,.tD 1 (t0 42) (i0 0),ld 43,bi .geq 44 0])) (.cond (t0 45) (.seq (.seq (.gD (sq 46 [ld 8,ln 46,mi 0])) (.block 0 (.loop (.seq (.gD (sq 49 [bn .lss 48 47])) (.seq (.cond (t0 49) .skip (.exit 0)) (.seq (.block 1 (.seq (.gD (sq 50 [mv 48,ix 1 46 48,ld 51]++sq 10 [.alloc 10 3 [.lit (.int .i64 0)]]++s0 (sr 1 10 50)++sq 11 [mv 52])) (.seq (.seq (.ghost (.gD (sq 53 [ld 10,bi .gtr 53 0,mv 54]++sg 55 true 56 [ld 8,ld 10,bi .sub 57 1,ix 1 56 58,ld 59,mv 11,cf 155 [60,61]]++sq 63 [pa 55 62]))) (.cond (t0 63) (.exit 1) .skip)) (.draw (sq 64 [ld 5,ld 7,.tD 1 (t0 65) (i0 0),ld 66,mv 11,.z_ 176 [] [(t0 5),(t0 6),(t0 7),(t0 8),(t0 10),(t0 9)],cf 92 [64,67,68,69]]) [[],[],[1],[2],[],[],[0,3,4,5]])))) (.gD (sq 71 [bi .add 48 1]++sq 48 [mv 71])))))))) .ret) .skip)) (.seq (.gD (sq 12 [mi 1])) (.block 2 (.loop (.seq (.seq (.gD (sq 72 [mv 12,ld 8,ln 73,.bin .shl (i0 1) (t0 74),bn .lss 72 75])) (.cond (t0 76) .skip (.exit 2))) (.seq (.block 3 (.seq (.gD (sq 80 [ld 8,mv 12,cf 178 [80,81]]++sq 79 [mv 82]++sq 83 [ex 79 0,ex 79 1,ex 79 2]++sq 14 [.alloc 14 45 [.sl 0 (some true) []]]++sq 13 [mv 83]++s0 (sr 1 14 84)++sq 15 [mv 85])) (.seq (.ghost (.gD (sq 86 [mv 15]))) (.cond (t0 86) (.draw (sq 87 [ld 5,ld 7,.tD 1 (t0 88) (i0 0),ld 89,.tD 1 (t0 90) (i0 0),ld 91,.bin .sub (i0 (-1)) (t0 92),ld 6,mv 13,cf 121 [94,95],.z_ 179 [] [(t0 5),(t0 6),(t0 7),(t0 14),(t0 9)],cf 143 [87,93,96,97]]) [[],[],[1],[2],[3],[4],[5],[],[],[7,8],[],[0,6,9,10,9]]) .skip)))) (.gD (sq 77 [mv 12,bi .add 77 1]++sq 12 [mv 78]))))))))))
theorem vJ:jT Tryz.prog 144 qt 99 []:=mf Tryz.func144 Tryz.ntmps144
def lW(recR:RT)(recM:MT)(f:Int)(ps:fQ)(ts:fQ)(k:Kt)(m0:fP)(m1:fP):(Int×fQ×fW)->Option ((Int×fQ×fW)⊕(fW×fQ))
 |(v48,f_1,ps_1)=>
  if(decide (v48<(ts.length:Int)))=true then
   if 0<=v48/\v48<(ts.length:Int)then
    if(decide (0<v48))=true then
     if 0<=(IntKind.i64.wrap (v48-1))/\(IntKind.i64.wrap (v48-1))<(ts.length:Int)then
      (ig (ts.getD (IntKind.i64.wrap (v48-1)).toNat default) (ts.getD v48.toNat default)).bind fun r_4=>
      if r_4=true then
       some (.inl ((IntKind.i64.wrap (v48+1)),f_1,ps_1))
      else
       (recM (ps.getD 0 default) (ts.getD v48.toNat default) (Kt.s1 f ps ts v48 k) m0 m1 ps_1 f_1).bind fun r_5=>
       some (.inl ((IntKind.i64.wrap (v48+1)),r_5.2,r_5.1))
     else none
    else
     (recM (ps.getD 0 default) (ts.getD v48.toNat default) (Kt.s1 f ps ts v48 k) m0 m1 ps_1 f_1).bind fun r_6=>
     some (.inl ((IntKind.i64.wrap (v48+1)),r_6.2,r_6.1))
   else none
  else
   Option.map Sum.inr (
    some (ps_1,f_1))
def lX(recR:RT)(recM:MT)(f:Int)(ps:fQ)(ts:fQ)(k:Kt)(m0:fP)(m1:fP):(Int×fQ×fW)->Option ((Int×fQ×fW)⊕(fW×fQ))
 |(mask,f_2,ps_2)=>
  if 0<=(ts.length:Int)then
   if(decide (mask<(HB .i64 1 (ts.length:Int))))=true then
    (qw ts mask).bind fun r_7=>
    if r_7.2.2=true then
     (tE f r_7.1).bind fun r_8=>
     (kW recR recM (IntKind.i64.wrap ((-1)-((ps.getD 0 default).getD 0 default))) r_8 (Kt.s2 f ps r_7.2.1 k) m0 m1 ps_2 f_2).bind fun r_9=>
     some (.inl ((IntKind.i64.wrap (mask+1)),r_9.2,r_9.1))
    else
     some (.inl ((IntKind.i64.wrap (mask+1)),f_2,ps_2))
   else
    Option.map Sum.inr (
     some (ps_2,f_2))
  else none
def iY(recR:RT)(recM:MT)(f:Int)(ps:fQ)(ts:fQ)(k:Kt)(m0:fP)(m1:fP)(m3:fW)(l1:fQ):Option (fW×fQ):=
 if((ps.length:Int)==0)=true then
  if((ts.length:Int)==0)=true then
   (recR k m0 m1 m3 l1).bind fun r=>
   some r
  else
   some (m3,l1)
 else
  if(decide ((ts.length:Int)<(ps.length:Int)))=true then
   some (m3,l1)
  else
   (jt m0 m1 m3 l1).bind fun r_2=>
   if r_2=true then
    some (m3,l1)
   else
    if 0<=0/\0<(ps.length:Int)then
     if 0<=0/\0<((ps.getD 0 default).length:Int)then
      if(decide (0<=((ps.getD 0 default).getD 0 default)))=true then
       gK (lW recR recM f ps ts k m0 m1) (0,l1,m3)
      else
       gK (lX recR recM f ps ts k m0 m1) (1,l1,m3)
     else none
    else none
instance EC{recR:RT}{recM:MT}[E_ recR][E9 recM]{f:Int}{ps:fQ}{ts:fQ}{k:Kt}{m0:fP}{m1:fP}{m3:fW}{l1:fQ}:gW (iY recR recM f ps ts k m0 m1 m3 l1) fun rr=>gN Tryz.prog 144 [.ptr 0 0,.d (iD f),.d (gE 1 (gE 1 iD) ps),.d (gE 1 (gE 1 iD) ts),AK k] [(0,.obj 111 [.d (gE 1 iD m0),.d (gE 1 iD m1),.nC 1 1 0 24,.kG 1 2 m3.length]),(1,.obj 22 (List.map (aD (ue 1 iD)) l1)),(2,.iM 45 1 m3.length (h_ (gE 1 (gE 1 iD)) m3))] 3 fun xx ss=>xx=.nk []/\ss=[(0,.obj 111 [.d (gE 1 iD m0),.d (gE 1 iD m1),.nC 1 1 0 24,.kG 1 2 rr.1.length]),(1,.obj 22 (List.map (aD (ue 1 iD)) rr.2)),(2,.iM 45 1 rr.1.length (h_ (gE 1 (gE 1 iD)) rr.1))]:=⟨@fun rr h=>by
 delta iY at h;refine vJ.jO (gC ?_);delta qt;refine g_ ?_;refine iV.of ((gT.trans ((gT.vN 5 gB rfl).trans (gT.drop 5 gB)) (gT.trans ((gT.vN 6 gB rfl).trans (gT.drop 6 gB)) (gT.trans ((gT.vN 7 gB rfl).trans (gT.drop 7 gB)) (gT.trans ((gT.vN 8 gB rfl).trans (gT.drop 8 gB)) ((gT.vN 9 gB rfl).trans (gT.drop 9 gB))))))) ?_;refine g_ ?_;refine it h (fun hc1 h=>?_) fun hc1 h=>?_
 ·have hc:=hc1;refine O8 hc ?_;refine iT h fun hc2 h=>?_
  refine tW (CM _) ?_;refine lM [(0,0),(1,1),(2,2)] [] h fun r hr h=>?_
  exact mm
 refine it h (fun hc3 h=>?_) fun hc3 h=>?_
 ·have hc:=hc1;refine O8 hc ?_;exact mm
 refine lM [(0,0),(1,1),(2,2)] [] h fun r_2 hr_2 h=>?_
 refine it h (fun hc4 h=>?_) fun hc4 h=>?_
 ·have hc:=hc1;refine O8 hc ?_;exact mm
 refine iU h fun hp h=>?_
 refine iU h fun hp h=>?_
 refine it h (fun hc5 h=>?_) fun hc5 h=>?_
 ·refine jk h [10,11,48,49,50,51,52,53,54,55,56,57,58,59,60,61,62,63,64,65,66,67,68,69,70,71] (fun pp=>[(48,.d (iD pp.1))]) (fun pp=>[(0,.obj 111 [.d (gE 1 iD m0),.d (gE 1 iD m1),.nC 1 1 0 24,.kG 1 2 pp.2.2.length]),(1,.obj 22 (List.map (aD (ue 1 iD)) pp.2.1)),(2,.iM 45 1 pp.2.2.length (h_ (gE 1 (gE 1 iD)) pp.2.2))]) ?_;rintro⟨v48,f_1,ps_1⟩ t1 h hb1;unfold lW at h;try dsimp only at h
  refine gC (g_ ?_);refine iT h fun hc6 h=>?_
  refine iU h fun hp h=>?_
  refine iV.of (((gT.vN 10 gB rfl).trans (gT.drop 10 gB))) ?_;refine g_ ?_;refine it h (fun hc7 h=>?_) fun hc7 h=>?_
  ·refine iU h fun hp h=>?_
   refine rC h fun r_4 hr_4 h=>?_
   refine iF h fun hc8 h=>?_
   refine Eg ?_;refine xN [(0,0),(1,1),(2,2)] [] h fun r_5 hr_5 h=>?_
   exact mm
  refine Eg ?_;refine xN [(0,0),(1,1),(2,2)] [] h fun r_6 hr_6 h=>?_
  exact mm
 refine jk h [12,13,14,15,72,73,74,75,76,77,78,79,80,81,82,83,84,85,86,87,88,89,90,91,92,93,94,95,96,97,98] (fun pp=>[(12,.d (iD pp.1))]) (fun pp=>[(0,.obj 111 [.d (gE 1 iD m0),.d (gE 1 iD m1),.nC 1 1 0 24,.kG 1 2 pp.2.2.length]),(1,.obj 22 (List.map (aD (ue 1 iD)) pp.2.1)),(2,.iM 45 1 pp.2.2.length (h_ (gE 1 (gE 1 iD)) pp.2.2))]) ?_;rintro⟨mask,f_2,ps_2⟩ t1 h hb1;unfold lX at h;try dsimp only at h
 refine gC (g_ ?_);refine iU h fun hp h=>?_
 refine iT h fun hc9 h=>?_
 refine TI h fun r_7 hr_7 h=>?_
 refine iV.of (((gT.vN 14 gB rfl).trans (gT.drop 14 gB))) ?_;refine g_ ?_;refine iT h fun hc10 h=>?_
 refine Eg ?_;refine Eg ?_;refine dC h fun r_8 hr_8 h=>?_
 refine xN [(0,0),(1,1),(2,2)] [] h fun r_9 hr_9 h=>?_
 exact mm⟩
def Ye:gH:=
 (.block 0 (.seq (.gD (sq 26 [mv 0,cf 94 [26]]++sq 25 [mv 27])) (.cond (t0 25) .skip (.seq (.gD (sq 29 [mv 1,.tD 1 (t0 29) (i0 0),ld 30,bi .lss 31 0]++sq 28 [mv 32])) (.cond (t0 28) (.gD (sq 33 [mv 0,mv 1,.tD 1 (t0 34) (i0 0),ld 35,.bin .sub (i0 (-1)) (t0 36),mv 2,mv 3,cf 143 [33,37,38,39]])) (.seq (.draw (sq 42 [mv 1,.tD 1 (t0 42) (i0 0),ld 43,mv 2,.tD 1 (t0 45) (i0 0),ld 46,bn .neq 44 47]++sq 41 [mv 48]) [[],[0],[1],[],[3],[4],[2,5],[6]]) (.cond (t0 41) .skip (.seq (.draw (sq 50 [mv 0,.mA (t0 50),fa 0 51,la 2 52,mv 1,.tD 1 (t0 54) (i0 0),ld 55,cf 120 [53,56]]++sq 49 [mv 57]) [[],[0],[1],[2],[],[4],[5],[3,6],[7,7]]) (.cond (t0 49) (.draw (sq 58 [mv 0,mv 1,.tD 1 (t0 59) (i0 0),ld 60,mv 0,mv 0,.mA (t0 63),fa 0 64,la 2 65,mv 1,cf 142 [66,67],cf 145 [62,68],mv 0,.mA (t0 70),fa 0 71,la 2 72,mv 2,cf 122 [73,74],mv 3,cf 144 [58,61,69,75,76]]) [[],[],[1],[2],[],[],[5],[6],[7],[],[8,9],[4,10,10],[],[12],[13],[14],[],[15,16,11],[],[0,3,11,17,18,17]]) (.draw (sq 8 [mv 0,mv 0,.mA (t0 9),fa 0 10,fa 0 11,la 1 12,mv 1,cf 147 [13,14],mv 0,.mA (t0 16),fa 0 17,fa 0 18,la 1 19,mv 2,cf 147 [20,21],mv 3,cf 146 [8,15,22,23]]) [[],[],[1],[2],[3],[4],[],[5,6],[],[8],[9],[10],[11],[],[12,13,7],[],[0,7,14,15,14]]))))))))))
theorem ZH:jT Tryz.prog 92 Ye 78 []:=mf Tryz.func92 Tryz.ntmps92
def lV(recR:RT)(recM:MT)(p:fP)(t:fP)(k:Kt)(m0:fP)(m1:fP)(m3:fW)(l1:fQ):Option (fW×fQ):=
 (jt m0 m1 m3 l1).bind fun r=>
 if r=true then
  some (m3,l1)
 else
  if 0<=0/\0<(p.length:Int)then
   if(decide ((p.getD 0 default)<0))=true then
    (kW recR recM (IntKind.i64.wrap ((-1)-(p.getD 0 default))) t k m0 m1 m3 l1).bind fun r_1=>
    some r_1
   else
    if 0<=0/\0<(t.length:Int)then
     if((p.getD 0 default) != (t.getD 0 default))=true then
      some (m3,l1)
     else
      (kA (m0,m1) (p.getD 0 default)).bind fun r_2=>
      if r_2=true then
       (ki (m0,m1) p).bind fun r_3=>
       (kZ r_3).bind fun r_4=>
       (mD (m0,m1) t).bind fun r_5=>
       (iY recR recM (p.getD 0 default) r_4 r_5 k m0 m1 m3 l1).bind fun r_6=>
       some r_6
      else
       (qf m0 p).bind fun r_7=>
       (qf m0 t).bind fun r_8=>
       (kz recR recM r_7 r_8 k m0 m1 m3 l1).bind fun r_9=>
       some r_9
    else none
  else none
instance xX{recR:RT}{recM:MT}[E_ recR][E9 recM]{p:fP}{t:fP}{k:Kt}{m0:fP}{m1:fP}{m3:fW}{l1:fQ}:gW (lV recR recM p t k m0 m1 m3 l1) fun rr=>gN Tryz.prog 92 [.ptr 0 0,.d (gE 1 iD p),.d (gE 1 iD t),AK k] [(0,.obj 111 [.d (gE 1 iD m0),.d (gE 1 iD m1),.nC 1 1 0 24,.kG 1 2 m3.length]),(1,.obj 22 (List.map (aD (ue 1 iD)) l1)),(2,.iM 45 1 m3.length (h_ (gE 1 (gE 1 iD)) m3))] 3 fun xx ss=>xx=.nk []/\ss=[(0,.obj 111 [.d (gE 1 iD m0),.d (gE 1 iD m1),.nC 1 1 0 24,.kG 1 2 rr.1.length]),(1,.obj 22 (List.map (aD (ue 1 iD)) rr.2)),(2,.iM 45 1 rr.1.length (h_ (gE 1 (gE 1 iD)) rr.1))]:=⟨@fun rr h=>by
 delta lV at h;refine ZH.jO (gC ?_);delta Ye;refine g_ ?_;refine lM [(0,0),(1,1),(2,2)] [] h fun r hr h=>?_
 refine iF h fun hc1 h=>?_
 refine iU h fun hp h=>?_
 refine it h (fun hc2 h=>?_) fun hc2 h=>?_
 ·refine Eg ?_;refine lM [(0,0),(1,1),(2,2)] [] h fun r_1 hr_1 h=>?_
  exact mm
 refine Eg ?_;refine iU h fun hp h=>?_
 refine i_ (by kernel_rfl) (g_ ?_);refine iF h fun hc3 h=>?_
 refine Eg ?_;refine dC h fun r_2 hr_2 h=>?_
 refine i_ (by kernel_rfl) (g_ ?_);refine it h (fun hc4 h=>?_) fun hc4 h=>?_
 ·refine Eg ?_;refine dC h fun r_3 hr_3 h=>?_
  refine xN [] [] h fun r_4 hr_4 h=>?_
  refine dC h fun r_5 hr_5 h=>?_
  refine xN [(0,0),(1,1),(2,2)] [] h fun r_6 hr_6 h=>?_
  exact mm
 refine dC h fun r_7 hr_7 h=>?_
 refine dC h fun r_8 hr_8 h=>?_
 refine xN [(0,0),(1,1),(2,2)] [] h fun r_9 hr_9 h=>?_
 exact mm⟩
def Tp:gH:=
 (.draw (sq 4 [ld 0,ld 1,.slc (t0 5) 1 (some (i0 1)) none none,ld 2,.slc (t0 7) 1 (some (i0 1)) none none,ld 3,cf 146 [4,6,8,9]]) [[],[],[1],[],[3],[],[0,2,4,5]])
theorem W8:jT Tryz.prog 180 Tp 11 []:=mf Tryz.func180 Tryz.ntmps180
def lU(recR:RT)(recM:MT)(a1:fQ)(a2:fQ)(k:Kt)(o00:fP)(o01:fP)(o03:fW)(l1:fQ):Option (fW×fQ):=
 if 0<=1/\1<=(a1.length:Int)then
  if 0<=1/\1<=(a2.length:Int)then
   (kz recR recM (a1.drop 1) (a2.drop 1) k o00 o01 o03 l1).bind fun r=>
   some r
  else none
 else none
instance xW{recR:RT}{recM:MT}[E_ recR][E9 recM]{a1:fQ}{a2:fQ}{k:Kt}{o00:fP}{o01:fP}{o03:fW}{l1:fQ}:gW (lU recR recM a1 a2 k o00 o01 o03 l1) fun rr=>gN Tryz.prog 180 [.pa [.ptr 0 0],.pa [.d (gE 1 (gE 1 iD) a1)],.pa [.d (gE 1 (gE 1 iD) a2)],.pa [AK k]] [(0,.obj 111 [.d (gE 1 iD o00),.d (gE 1 iD o01),.nC 1 1 0 24,.kG 1 2 o03.length]),(1,.obj 22 (List.map (aD (ue 1 iD)) l1)),(2,.iM 45 1 o03.length (h_ (gE 1 (gE 1 iD)) o03))] 3 fun xx ss=>xx=.nk []/\ss=[(0,.obj 111 [.d (gE 1 iD o00),.d (gE 1 iD o01),.nC 1 1 0 24,.kG 1 2 rr.1.length]),(1,.obj 22 (List.map (aD (ue 1 iD)) rr.2)),(2,.iM 45 1 rr.1.length (h_ (gE 1 (gE 1 iD)) rr.1))]:=⟨@fun rr h=>by
 delta lU at h;refine W8.jO (gC ?_);delta Tp;refine g_ ?_;refine iU h fun hp h=>?_
 refine iU h fun hp h=>?_
 refine xN [(0,0),(1,1),(2,2)] [] h fun r hr h=>?_
 exact mm⟩
def Tk:gH:=
 (.draw (sq 6 [ld 0,ld 1,ld 2,.slc (t0 8) 1 (some (i0 1)) none none,ld 3,ld 4,.slc (t0 10) 1 none (some (t0 11)) none,ld 3,ld 4,bi .add 14 1,.slc (t0 13) 1 (some (t0 15)) none none,.lQ 17 45 1 [(t0 12),(t0 16)],cf 177 [17],ld 5,cf 144 [6,7,9,18,19]]) [[],[],[],[2],[],[],[4,5],[],[],[8],[7,9],[6,10],[11],[],[0,1,3,12,13,12]])
theorem W4:jT Tryz.prog 176 Tk 21 []:=mf Tryz.func176 Tryz.ntmps176
def kO(recR:RT)(recM:MT)(a1:Int)(a2:fQ)(a3:fQ)(a4:Int)(k:Kt)(o00:fP)(o01:fP)(o03:fW)(l1:fQ):Option (fW×fQ):=
 if 0<=1/\1<=(a2.length:Int)then
  if 0<=a4/\a4<=(a3.length:Int)then
   if 0<=(IntKind.i64.wrap (a4+1))/\(IntKind.i64.wrap (a4+1))<=(a3.length:Int)then
    (jB [(a3.take a4.toNat),(a3.drop (IntKind.i64.wrap (a4+1)).toNat)]).bind fun r=>
    (iY recR recM a1 (a2.drop 1) r k o00 o01 o03 l1).bind fun r_1=>
    some r_1
   else none
  else none
 else none
instance wB{recR:RT}{recM:MT}[E_ recR][E9 recM]{a1:Int}{a2:fQ}{a3:fQ}{a4:Int}{k:Kt}{o00:fP}{o01:fP}{o03:fW}{l1:fQ}:gW (kO recR recM a1 a2 a3 a4 k o00 o01 o03 l1) fun rr=>gN Tryz.prog 176 [.pa [.ptr 0 0],.pa [.d (iD a1)],.pa [.d (gE 1 (gE 1 iD) a2)],.pa [.d (gE 1 (gE 1 iD) a3)],.pa [.d (iD a4)],.pa [AK k]] [(0,.obj 111 [.d (gE 1 iD o00),.d (gE 1 iD o01),.nC 1 1 0 24,.kG 1 2 o03.length]),(1,.obj 22 (List.map (aD (ue 1 iD)) l1)),(2,.iM 45 1 o03.length (h_ (gE 1 (gE 1 iD)) o03))] 3 fun xx ss=>xx=.nk []/\ss=[(0,.obj 111 [.d (gE 1 iD o00),.d (gE 1 iD o01),.nC 1 1 0 24,.kG 1 2 rr.1.length]),(1,.obj 22 (List.map (aD (ue 1 iD)) rr.2)),(2,.iM 45 1 rr.1.length (h_ (gE 1 (gE 1 iD)) rr.1))]:=⟨@fun rr h=>by
 delta kO at h;refine W4.jO (gC ?_);delta Tk;refine g_ ?_;refine iU h fun hp h=>?_
 refine iU h fun hp h=>?_
 refine iU h fun hp h=>?_
 refine dC h fun r hr h=>?_
 refine xN [(0,0),(1,1),(2,2)] [] h fun r_1 hr_1 h=>?_
 refine i_ (by kernel_rfl) (g_ ?_);cases h;exact⟨[17],by simp,jF,jF⟩⟩
def To:gH:=
 (.draw (sq 5 [ld 0,ld 1,ld 2,.slc (t0 7) 1 (some (i0 1)) none none,ld 3,ld 4,cf 144 [5,6,8,9,10]]) [[],[],[],[2],[],[],[0,1,3,4,5]])
theorem W7:jT Tryz.prog 179 To 12 []:=mf Tryz.func179 Tryz.ntmps179
def kP(recR:RT)(recM:MT)(a1:Int)(a2:fQ)(a3:fQ)(k:Kt)(o00:fP)(o01:fP)(o03:fW)(l1:fQ):Option (fW×fQ):=
 if 0<=1/\1<=(a2.length:Int)then
  (iY recR recM a1 (a2.drop 1) a3 k o00 o01 o03 l1).bind fun r=>
  some r
 else none
instance wC{recR:RT}{recM:MT}[E_ recR][E9 recM]{a1:Int}{a2:fQ}{a3:fQ}{k:Kt}{o00:fP}{o01:fP}{o03:fW}{l1:fQ}:gW (kP recR recM a1 a2 a3 k o00 o01 o03 l1) fun rr=>gN Tryz.prog 179 [.pa [.ptr 0 0],.pa [.d (iD a1)],.pa [.d (gE 1 (gE 1 iD) a2)],.pa [.d (gE 1 (gE 1 iD) a3)],.pa [AK k]] [(0,.obj 111 [.d (gE 1 iD o00),.d (gE 1 iD o01),.nC 1 1 0 24,.kG 1 2 o03.length]),(1,.obj 22 (List.map (aD (ue 1 iD)) l1)),(2,.iM 45 1 o03.length (h_ (gE 1 (gE 1 iD)) o03))] 3 fun xx ss=>xx=.nk []/\ss=[(0,.obj 111 [.d (gE 1 iD o00),.d (gE 1 iD o01),.nC 1 1 0 24,.kG 1 2 rr.1.length]),(1,.obj 22 (List.map (aD (ue 1 iD)) rr.2)),(2,.iM 45 1 rr.1.length (h_ (gE 1 (gE 1 iD)) rr.1))]:=⟨@fun rr h=>by
 delta kP at h;refine W7.jO (gC ?_);delta To;refine g_ ?_;refine iU h fun hp h=>?_
 refine xN [(0,0),(1,1),(2,2)] [] h fun r hr h=>?_
 exact mm⟩
end Go.Proofs.YthdnkoejpdcnpaaGreat
namespace Go.Proofs.YthdnkoejpdcnpaaGreat
open Go kI
set_option maxHeartbeats 4000000
def og:Nat->RT×MT
 |0=>(fun _ _ _ _ _=>none,fun _ _ _ _ _ _ _=>none)
 |fu+1=>(fun k m0 m1 m3 l1=>match k with
  |.rc=>(jA m0 m1 m3 l1).map fun r=>(r,l1)
  |.al ps ts k=>lU (og fu).1 (og fu).2 ps ts k m0 m1 m3 l1
  |.s1 f ps ts j k=>kO (og fu).1 (og fu).2 f ps ts j k m0 m1 m3 l1
  |.s2 f ps ts k=>kP (og fu).1 (og fu).2 f ps ts k m0 m1 m3 l1,
  fun p t k m0 m1 m3 l1=>lV (og fu).1 (og fu).2 p t k m0 m1 m3 l1)
theorem ME:∀fu,E_ (og fu).1/\E9 (og fu).2
 |0=>⟨⟨⟨fun h=>by cases h⟩⟩,⟨⟨fun h=>by cases h⟩⟩⟩
 |fu+1=>by
  obtain⟨h1,h2⟩:=ME fu;refine⟨⟨@fun k m0 m1 m3 l1=>⟨fun h=>?_⟩⟩,⟨⟨fun h=>?_⟩⟩⟩
  ·cases k with
   |rc=>
    have h:(jA m0 m1 m3 l1).map (fun r=>(r,l1))=some _:=h;obtain⟨r,hr,rfl⟩:=aF.1 h;exact xw.c hr
   |al ps ts k=>exact(xW (recR:=(og fu).1) (recM:=(og fu).2)).c h
   |s1 f ps ts j k=>exact(wB (recR:=(og fu).1) (recM:=(og fu).2)).c h
   |s2 f ps ts k=>exact(wC (recR:=(og fu).1) (recM:=(og fu).2)).c h
  ·exact(xX (recR:=(og fu).1) (recM:=(og fu).2)).c h
def zx(p t:fP)(k:Kt)(m0 m1:fP)(m3:List fQ)(l1:List fP):Option (List fQ×List fP):=Ba fun fu=>(og fu).2 p t k m0 m1 m3 l1
instance Vz{p t:fP}{k:Kt}{m0 m1:fP}{m3:List fQ}{l1:List fP}:gW (zx p t k m0 m1 m3 l1) fun rr=>gN Tryz.prog 92 [.ptr 0 0,.d (gE 1 iD p),.d (gE 1 iD t),AK k] [(0,.obj 111 [.d (gE 1 iD m0),.d (gE 1 iD m1),.nC 1 1 0 24,.kG 1 2 m3.length]),(1,.obj 22 (List.map (aD (ue 1 iD)) l1)),(2,.iM 45 1 m3.length (h_ (gE 1 (gE 1 iD)) m3))] 3 fun xx ss=>xx=.nk []/\ss=[(0,.obj 111 [.d (gE 1 iD m0),.d (gE 1 iD m1),.nC 1 1 0 24,.kG 1 2 rr.1.length]),(1,.obj 22 (List.map (aD (ue 1 iD)) rr.2)),(2,.iM 45 1 rr.1.length (h_ (gE 1 (gE 1 iD)) rr.1))]:=⟨fun h=>by
 obtain⟨fu,h⟩:=(⟨_,(pq h).choose_spec⟩:∃fu,(og fu).2 p t k m0 m1 m3 l1=some _);exact(ME fu).2.c.c h⟩
end Go.Proofs.YthdnkoejpdcnpaaGreat
namespace Go.Proofs.YthdnkoejpdcnpaaGreat
open Go kI
attribute [local irreducible] sO uf uc lu kf pG iV xm xQ wz xP wu pY kr lq xO ia jN
set_option maxHeartbeats 4000000
set_option maxRecDepth 4000
def S4:gH:=
 (.seq (.gD (sq 2 [.mv (.const (.slice none 0 0))])) (.seq (.seq (.gD (sq 3 [mv 0,.xC false (t0 3)])) (.cond (t0 4) (.seq (.gD (sq 2 [.mv (.const (.slice none 0 0))])) .ret) .skip)) (.seq (.gD (sq 5 [.lQ 5 2 1 [],mv 0,ap 7 2 1 8 5 6]++sq 2 [mv 7])) .ret)))
theorem WM:jT Tryz.prog 156 S4 8 [.tmp 2]:=mf Tryz.func156 Tryz.ntmps156
def kB(s:fP):Option fP:=
 MF s (
  some []) (
  if(0+s.length)*8<=140737488355328 then
   some s
  else none)
instance Dd{s:fP}:gW (kB s) fun rr=>iC Tryz.prog 156 [(gE 1 iD) s] ((gE 1 iD) rr):=⟨@fun rr h=>by
 delta kB at h;refine WM.iA (gC ?_);delta S4;refine g_ ?_;have h1:=MG h;refine pY.of (fun he=>?_) ?_
 ·replace h:=h1.1 (by simpa using he);clear h1;refine g_ ?_;exact mm
 ·replace h:=h1.2;clear h1;refine g_ ?_;exact mm⟩
def Yg:gH:=
 (.seq (.gD (sq 1 [bo 1 47 0,.alloc 2 47 [.sl 0 (some true) []]])) (.seq (.gD (sq 3 [.alloc 3 47 [.sl 0 (some true) []]])) (.seq (.seq (.gD (sq 6 [fa 0 1,ld 6,ln 7,mi 0])) (.block 0 (.loop (.seq (.gD (sq 10 [bn .lss 9 8])) (.seq (.cond (t0 10) .skip (.exit 0)) (.seq (.block 1 (.seq (.gD (sq 11 [mv 9,ix 1 7 9,ld 12]++sq 4 [mv 11,mv 13])) (.seq (.seq (.gD (sq 14 [mv 5,ln 14,bi .eql 15 0,mv 16]++sg 17 false 18 [mv 5,mv 4,cf 148 [19],cf 155 [18,20]]++sq 22 [po 17 21])) (.cond (t0 22) (.exit 1) .skip)) (.seq (.block 2 (.loop (.seq (.seq (.gD (sq 23 [fa 0 3,ld 23,ln 24,mv 4,bn .lss 25 26])) (.cond (t0 27) .skip (.exit 2))) (.block 3 (.gD (sq 28 [fa 0 3,ld 28,.lQ 30 22 1 [(.const (.slice none 0 0))],ap 31 22 1 24 29 30,fa 0 3]++s0 (sr 1 32 31))))))) (.draw (sq 33 [fa 0 3,ld 33,mv 5,cf 156 [35],.lQ 37 22 1 [(t0 36)],ap 38 22 1 24 34 37,fa 0 3]++s0 (sr 1 39 38)) [[],[0],[],[2],[3],[1,4,3],[0,1,2,3,4,5],[6,5,5,0,1,2,3,4,5]]))))) (.gD (sq 40 [bi .add 9 1]++sq 9 [mv 40])))))))) (.seq (.gD (sq 41 [la 1 3]++s0 (sr 1 2 41))) .ret))))
theorem ZJ:jT Tryz.prog 99 Yg 42 [.cell 2 1 true]:=mf Tryz.func99 Tryz.ntmps99
def vl(s:fQ)(v9:Int):fQ->Option (fQ⊕(gq⊕fQ))
 |out_1=>
  if(decide ((out_1.length:Int)<v9))=true then
   if(out_1.length+1)*24<=140737488355328 then
    some (.inl (out_1++[[]]))
   else none
  else
   Option.map Sum.inr (
    (kB (s.getD v9.toNat default)).bind fun r_2=>
    if(out_1.length+1)*24<=140737488355328 then
     some (.inl ((IntKind.i64.wrap (v9+1)),(out_1++[r_2])))
    else none)
def vk(s:fQ):gq->Option (gq⊕fQ)
 |(v9,out)=>
  if(decide (v9<(s.length:Int)))=true then
   if 0<=v9/\v9<(s.length:Int)then
    if(((s.getD v9.toNat default).length:Int)==0)=true then
     some (.inl ((IntKind.i64.wrap (v9+1)),out))
    else
     (lz v9).bind fun r=>
     (ig (s.getD v9.toNat default) r).bind fun r_1=>
     if r_1=true then
      some (.inl ((IntKind.i64.wrap (v9+1)),out))
     else
      gK (vl s v9) out
   else none
  else
   Option.map Sum.inr (
    some out)
def tG(s:fQ):Option fQ:=
 gK (vk s) (0,[])
instance Qk{s:fQ}:gW (tG s) fun rr=>iC Tryz.prog 99 [jJ s] (jJ rr):=⟨@fun rr h=>by
 delta tG at h;refine ZJ.iA (gC ?_);delta Yg;refine g_ ?_;refine mO h [4,5,9,10,11,12,13,14,15,16,17,18,19,20,21,22,23,24,25,26,27,28,29,30,31,32,33,34,35,36,37,38,39,40] (fun pp=>[(9,.d (iD pp.1))]) (fun pp=>[(1,.obj 47 [.d (gE 1 (gE 1 iD) s)]),(2,.obj 47 [.d (.sl 0 (some true) [])]),(3,.obj 47 [.own 1 38 (List.map (gE 1 iD) pp.2)]),(38,.tok 22 1 pp.2.length)]) ?_ ?_
 ·try dsimp only
  refine(gT.rZ 3 0 38 22 1 rfl rfl rfl).trans ?_;exact wk
 rintro⟨v9,out⟩ t1 h hb1;unfold vk at h;try dsimp only at h
 refine gC (g_ ?_);refine iT h fun hc h=>?_
 refine iU h fun hp h=>?_
 refine iF h fun hc h=>?_
 refine rC h fun r hr h=>?_
 refine rC h fun r_1 hr_1 h=>?_
 refine iF h fun hc h=>?_
 refine jk h [23,24,25,26,27,28,29,30,31,32] (fun pp=>[]) (fun pp=>[(1,.obj 47 [.d (gE 1 (gE 1 iD) s)]),(2,.obj 47 [.d (.sl 0 (some true) [])]),(3,.obj 47 [.own 1 38 (List.map (gE 1 iD) pp)]),(38,.tok 22 1 pp.length)]) ?_;rintro out_1 t2 h hb2;unfold vl at h;try dsimp only at h
 refine gC (g_ ?_);refine it h (fun hc h=>?_) fun hc h=>?_
 ·refine iU h fun hp h=>?_
  cases h;refine⟨_,rfl,?_⟩;refine(gT.drop 30 gB).trans ?_;exact wk
 replace h:=gY h hb2;refine dC h fun r_2 hr_2 h=>?_
 refine iU h fun hp h=>?_
 refine i_ (by kernel_rfl) (g_ ?_);cases h;refine⟨_,rfl,?_⟩;refine(gT.drop 37 gB).trans ?_;exact wk⟩
def rU:gH:=
 (.seq (.gD (sq 3 [bo 3 79 0]++sq 6 [.mv (.const (.slice none 0 0)),mb false])) (.seq (.seq (.gD (sq 12 [la 2 3,mv 1,cf 91 [12,13],mv 14]++sg 15 false 16 [la 2 3,mv 2,cf 91 [16,17]]++sq 19 [po 15 18])) (.cond (t0 19) (.seq (.gD (sq 6 [.mv (.const (.slice none 0 0)),mb false])) .ret) .skip)) (.seq (.draw (sq 20 [la 2 3,.za 21 22 1 24 [.sl 0 (some true) []] false (i0 24) (i0 24),.build [.sl 0 (some true) [],.sl 0 (some true) [],.sl 0 (some true) [],.sl 0 (some true) []] [(0,2,(t0 20)),(2,1,(t0 21))],bo 23 111 22]++sq 8 [mv 23]) [[],[],[0,1],[2],[3,0,1,2,3]]) (.seq (.ghost (.gD (sq 24 [mv 8,mv 1,la 2 3,mv 2,cf 70 [26,27],mv 8,.z_ 93 [(t0 29)] [],cf 92 [24,25,28,30]]))) (.seq (.seq (.gD (sq 32 [mv 8,cf 94 [32]])) (.cond (t0 33) (.seq (.gD (sq 6 [.mv (.const (.slice none 0 0)),mb false])) .ret) .skip)) (.seq (.gD (sq 34 [mv 8,.mA (t0 34),fa 3 35,ld 36,.iw 95 [(t0 37),(.func 96)]])) (.seq (.gD (sq 9 [.mv (.const (.slice none 0 0))])) (.seq (.seq (.gD (sq 39 [mv 8,.mA (t0 39),fa 3 40,ld 41,ln 42,mi 0])) (.block 0 (.loop (.seq (.gD (sq 45 [bn .lss 44 43])) (.seq (.cond (t0 45) .skip (.exit 0)) (.seq (.block 1 (.seq (.gD (sq 46 [ix 1 42 44,ld 46]++sq 11 [mv 47])) (.gD (sq 48 [mv 9,mv 11,.build [.sl 0 (some true) []] [(0,1,(t0 49))],cf 99 [50],.lQ 52 47 1 [(t0 51)],ap 53 47 1 24 48 52]++sq 9 [mv 53])))) (.gD (sq 54 [bi .add 44 1]++sq 44 [mv 54])))))))) (.seq (.gD (sq 55 [mv 9]++sq 6 [mv 55,mb true])) .ret)))))))))
theorem w_:jT Tryz.prog 54 rU 56 [.tmp 6,.tmp 7]:=mf Tryz.func54 Tryz.ntmps54
def lg(r_3:(fW×fQ)):gn->Option (gn⊕(fW×Bool))
 |(out,v44)=>
  if(decide (v44<(r_3.1.length:Int)))=true then
   if 0<=v44/\v44<(r_3.1.length:Int)then
    (tG ((ua r_3.1).getD v44.toNat default)).bind fun r_5=>
    if(out.length+1)*24<=140737488355328 then
     some (.inl ((out++[r_5]),(IntKind.i64.wrap (v44+1))))
    else none
   else none
  else
   Option.map Sum.inr (
    some (out,true))
def iW(x:fR)(p:fP)(t:fP):Option (fW×Bool):=
 (jv x p).bind fun r=>
 if r=true then
  some ([],false)
 else
  (jv x t).bind fun r_1=>
  if r_1=true then
   some ([],false)
  else
   (iu x t).bind fun r_2=>
   (zx p r_2 Kt.rc x.1 x.2 [] (List.replicate 24 [])).bind fun r_3=>
   (jt x.1 x.2 r_3.1 r_3.2).bind fun r_4=>
   if r_4=true then
    some ([],false)
   else
    (zy r_3.1).bind fun u=>
    gK (lg r_3) ([],0)
instance F9{x:fR}{p:fP}{t:fP}:gW (iW x p t) fun rr=>pn Tryz.prog 54 [jo x,(gE 1 iD) p,(gE 1 iD) t] [(gE 1 jJ) rr.1,bD rr.2]:=⟨@fun rr h=>by
 delta iW at h;refine w_.qn (gC ?_);delta rU;refine g_ ?_;refine rC h fun r hr h=>?_
 refine iF h fun hc h=>?_
 refine rC h fun r_1 hr_1 h=>?_
 refine iF h fun hc h=>?_
 refine Eg ?_;refine i_ (by kernel_rfl) (g_ ?_);refine iV.of ((gT.trans (gT.E6 23 3 300000 45 1 rfl rfl rfl) (gT.Xm (s':=[(3,.obj 79 [.d (gE 1 iD x.1),.d (gE 1 iD x.2)]),(21,.obj 22 (List.map (aD (ue 1 iD)) (List.replicate 24 []))),(23,.obj 111 [.d (gE 1 iD x.1),.d (gE 1 iD x.2),.nC 1 21 0 24,.kG 1 300000 0]),(300000,.iM 45 1 0 (h_ (gE 1 (gE 1 iD)) []))]) (ia.refl _) jF))) ?_;refine g_ ?_;refine rC h fun r_2 hr_2 h=>?_
 refine lM [(0,23),(1,21),(2,300000)] [] h fun r_3 hr_3 h=>?_
 refine lM [(0,23),(1,21),(2,300000)] [] h fun r_4 hr_4 h=>?_
 refine iF h fun hc h=>?_
 refine lM [(0,300000)] [] h fun u hu h=>?_
 have hsl:=zT (xs:=r_3.1);refine mO h [9,11,44,45,46,47,48,49,50,51,52,53,54] (fun pp=>[(9,.own 1 53 (List.map jJ pp.1)),(44,.d (iD pp.2))]) (fun pp=>[(3,.obj 79 [.d (gE 1 iD x.1),.d (gE 1 iD x.2)]),(21,.obj 22 (List.map (aD (ue 1 iD)) r_3.2)),(23,.obj 111 [.d (gE 1 iD x.1),.d (gE 1 iD x.2),.nC 1 21 0 24,.kG 1 300000 r_3.1.length]),(53,.tok 47 1 pp.1.length),(300000,.iM 45 1 r_3.1.length (h_ (gE 1 (gE 1 iD)) (ua r_3.1)))]) ?_ ?_
 ·try dsimp only
  refine(gT.EB 9 53 47 1 rfl rfl).trans ?_;exact wk
 rintro⟨out,v44⟩ t1 h hb1;unfold lg at h;try dsimp only at h
 refine gC (g_ ?_);refine iT h fun hc h=>?_
 refine iU h fun hp h=>?_
 refine Eg ?_;refine rC h fun r_5 hr_5 h=>?_
 refine iU h fun hp h=>?_
 cases h;refine⟨_,rfl,?_⟩;refine(gT.drop 52 gB).trans ?_;exact wk⟩
def XL:gH:=
 (.seq (.gD (sq 3 [bo 3 27 0]++sq 6 [mb false])) (.seq (.gD (sq 7 [la 1 3,mv 1,cf 87 [7,8],mv 9]++sg 10 true 11 [la 1 3,mv 2,cf 53 [11,12]]++sq 14 [pa 10 13]++sq 6 [mv 14])) .ret))
theorem Zd:jT Tryz.prog 52 XL 15 [.tmp 6]:=mf Tryz.func52 Tryz.ntmps52
def qe(sig:fP)(ac:fP)(t:fP):Option Bool:=
 (uI sig ac).bind fun r=>
 if r=true then
  (oF sig t).bind fun r_1=>
  some r_1
 else
  some false
instance Pz{sig:fP}{ac:fP}{t:fP}:gW (qe sig ac t) fun rr=>iC Tryz.prog 52 [gQ sig,(gE 1 iD) ac,(gE 1 iD) t] (bD rr):=⟨@fun rr h=>by
 delta qe at h;refine Zd.iA (gC ?_);delta XL;refine g_ ?_;exact mm⟩
end Go.Proofs.YthdnkoejpdcnpaaGreat
