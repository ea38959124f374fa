/- A part of the proof about FnAcMatches (A1, A2, A3). -/
import Derived.Test.YthdnkoejpdcnpaaGreatMad
set_option linter.all false
noncomputable section
namespace Go.Proofs.YthdnkoejpdcnpaaGreat
open Go kJ
attribute [local irreducible] sG ud tP lp kI oZ jk ya yG wF yF wv rj kR lN ym gV ki
set_option maxHeartbeats 4000000
set_option maxRecDepth 4000
def iM(x:fQ):D:=.agg [(gu 1 iD) x.1,(gu 1 iD) x.2]
instance:xC iM 2:=⟨fun _=>rfl⟩
attribute [go_sem] iM
def US:gB:=
 (.seq (.gv (sq 2 [bo 2 27 0]++sq 4 [mb false])) (.seq (.seq (.gv (sq 7 [la 1 2,cf 88 [7],nt 8])) (.cond (t0 9) (.seq (.gv (sq 4 [mb false])) .ret) .skip)) (.seq (.seq (.gv (sq 10 [mv 1,ln 10,mi 0])) (.block 0 (.loop (.seq (.gv (sq 13 [bn .lss 12 11])) (.seq (.cond (t0 13) .skip (.exit 0)) (.seq (.block 1 (.seq (.gv (sq 14 [mv 12,ix 1 10 12,ld 15]++sq 5 [mv 14,mv 16])) (.seq (.gv (sq 17 [mv 6,bi .lss 17 0,mv 18]++sg 19 false 20 [mv 6,fa 0 2,ld 21,ln 22,bn .geq 20 23]++sq 25 [po 19 24,mv 25]++sg 26 false 27 [fa 0 2,ld 27,mv 6,ix 1 28 29,ld 30,bi .neq 31 2]++sq 33 [po 26 32,mv 33]++sg 34 false 35 [mv 5,bi .gtr 35 0,mv 36]++sg 37 true 38 [mv 6,mv 1,mv 5,bi .sub 40 1,ix 1 39 41,ld 42,bn .leq 38 43]++sg 34 false 45 [pa 37 44]++sq 46 [po 34 45])) (.cond (t0 46) (.seq (.gv (sq 4 [mb false])) .ret) .skip)))) (.gv (sq 47 [bi .add 12 1]++sq 12 [mv 47])))))))) (.seq (.gv (sq 4 [mb true])) .ret))))
theorem We:kG Tryz.prog 87 US 48 [.tmp 4]:=mf Tryz.func87 Tryz.ntmps87
def pe(sig:fN)(ac:fN):Int->Option fS
 |v12=>
  if(decide (v12<(ac.length:Int)))=true then
   if 0<=v12/\v12<(ac.length:Int)then
    if(decide ((ac.getD v12.toNat default)<0))=true then
     Option.map Sum.inr (
      some false)
    else
     if(decide ((sig.length:Int)<=(ac.getD v12.toNat default)))=true then
      Option.map Sum.inr (
       some false)
     else
      if 0<=(ac.getD v12.toNat default)/\(ac.getD v12.toNat default)<(sig.length:Int)then
       if((sig.getD (ac.getD v12.toNat default).toNat default) != 2)=true then
        Option.map Sum.inr (
         some false)
       else
        if(decide (0<v12))=true then
         if 0<=(IntKind.i64.wrap (v12-1))/\(IntKind.i64.wrap (v12-1))<(ac.length:Int)then
          if(decide ((ac.getD v12.toNat default)<=(ac.getD (IntKind.i64.wrap (v12-1)).toNat default)))=true then
           Option.map Sum.inr (
            some false)
          else
           some (.inl (IntKind.i64.wrap (v12+1)))
         else none
        else
         some (.inl (IntKind.i64.wrap (v12+1)))
      else none
   else none
  else
   Option.map Sum.inr (
    some true)
def sH(sig:fN)(ac:fN):Option Bool:=
 (pO sig).bind fun r=>
 if r=true then
  gF (pe sig ac) 0
 else
  some false
instance Pw{sig:fN}{ac:fN}:gP (sH sig ac) fun rr=>iw Tryz.prog 87 [gE sig,(gu 1 iD) ac] (bD rr):=⟨@fun rr h=>by
 delta sH at h;refine We.iu (gr ?_);delta US;refine gW ?_;refine rC h fun r hr h=>?_
 refine iT h fun hc h=>?_
 refine jC h [4,5,6,12,13,14,15,16,17,18,19,20,21,22,23,24,25,26,27,28,29,30,31,32,33,34,35,36,37,38,39,40,41,42,43,44,45,46,47] (fun pp=>[(12,.d (iD pp))]) (fun pp=>[(2,.obj 27 [.d (gu 1 iD sig)])]) ?_;rintro v12 t1 h hb1;unfold pe at h;try dsimp only at h
 refine gr (gW ?_);exact mj⟩
def P8:gB:=
 (.seq (.gv (sq 4 [mb false])) (.seq (.seq (.gv (sq 5 [mi 0])) (.block 0 (.loop (.seq (.seq (.gv (sq 6 [mv 5,mv 0,ln 7,bn .lss 6 8])) (.cond (t0 9) .skip (.exit 0))) (.seq (.block 1 (.seq (.draw (sq 12 [mv 0,mv 5,ix 1 12 13,ld 14,mv 1,bi .sub 16 1,.iy 66 [(t0 15),(i0 0),(t0 17)],nt 18,mv 19]++sg 20 false 21 [mv 5,bi .gtr 21 0,mv 22]++sg 23 true 24 [mv 0,mv 5,ix 1 24 25,ld 26,mv 0,mv 5,bi .sub 29 1,ix 1 28 30,ld 31,bn .leq 27 32]++sg 20 false 34 [pa 23 33]++sq 35 [po 20 34]) [[],[],[0,1],[2],[],[4],[3,5],[6],[7,6],[8],[9,8],[10,8,8],[11],[11],[12,13,11],[14,11],[11],[11],[17,11],[16,18,11],[19,11],[15,20,11],[11,21,8],[8,22]]) (.cond (t0 35) (.seq (.gv (sq 4 [mb false])) .ret) .skip))) (.gv (sq 10 [mv 5,bi .add 10 1]++sq 5 [mv 11]))))))) (.seq (.gv (sq 4 [mb true])) .ret)))
theorem TB:kG Tryz.prog 134 P8 36 [.tmp 4]:=mf Tryz.func134 Tryz.ntmps134
def nV(s:fN)(n:Int):Int->Option fS
 |i=>
  if(decide (i<(s.length:Int)))=true then
   if 0<=i/\i<(s.length:Int)then
    (mz (s.getD i.toNat default) 0 (IntKind.i64.wrap (n-1))).bind fun r=>
    if r=true then
     if(decide (0<i))=true then
      if 0<=i/\i<(s.length:Int)then
       if 0<=(IntKind.i64.wrap (i-1))/\(IntKind.i64.wrap (i-1))<(s.length:Int)then
        if(decide ((s.getD i.toNat default)<=(s.getD (IntKind.i64.wrap (i-1)).toNat default)))=true then
         Option.map Sum.inr (
          some false)
        else
         some (.inl (IntKind.i64.wrap (i+1)))
       else none
      else none
     else
      some (.inl (IntKind.i64.wrap (i+1)))
    else
     Option.map Sum.inr (
      some false)
   else none
  else
   Option.map Sum.inr (
    some true)
def qh(s:fN)(n:Int):Option Bool:=
 gF (nV s n) 0
instance Nj{s:fN}{n:Int}:gP (qh s n) fun rr=>iw Tryz.prog 134 [(gu 1 iD) s,iD n] (bD rr):=⟨@fun rr h=>by
 delta qh at h;refine TB.iu (gr ?_);delta P8;refine gW ?_;refine jC h [4,5,6,7,8,9,10,11,12,13,14,15,16,17,18,19,20,21,22,23,24,25,26,27,28,29,30,31,32,33,34,35] (fun pp=>[(5,.d (iD pp))]) (fun pp=>[]) ?_;rintro i t1 h hb1;unfold nV at h;try dsimp only at h
 refine gr (gW ?_);exact mj⟩
def UL:gB:=
 (.seq (.gv (sq 2 [bo 2 27 0]++sq 4 [mb false])) (.seq (.seq (.gv (sq 6 [la 1 2,cf 104 [6],nt 7,mv 8]++sg 9 false 10 [mv 1,fa 0 2,ld 11,ln 12,cf 134 [10,13],nt 14]++sq 16 [po 9 15])) (.cond (t0 16) (.seq (.gv (sq 4 [mb false])) .ret) .skip)) (.seq (.seq (.gv (sq 5 [mi 0])) (.block 0 (.loop (.seq (.seq (.gv (sq 17 [mv 5,mv 1,ln 18,bn .lss 17 19])) (.cond (t0 20) .skip (.exit 0))) (.seq (.block 1 (.seq (.draw (sq 23 [fa 0 2,ld 23,mv 1,mv 5,ix 1 25 26,ld 27,ix 1 24 28,ld 29,bi .neq 30 2]) [[],[0],[],[],[2,3],[4],[1,5],[6],[7]]) (.cond (t0 31) (.seq (.gv (sq 4 [mb false])) .ret) .skip))) (.gv (sq 21 [mv 5,bi .add 21 1]++sq 5 [mv 22]))))))) (.seq (.gv (sq 4 [mb true])) .ret))))
theorem V8:kG Tryz.prog 80 UL 32 [.tmp 4]:=mf Tryz.func80 Tryz.ntmps80
def pn(sig:fN)(ac:fN):Int->Option fS
 |i=>
  if(decide (i<(ac.length:Int)))=true then
   if 0<=i/\i<(ac.length:Int)then
    if 0<=(ac.getD i.toNat default)/\(ac.getD i.toNat default)<(sig.length:Int)then
     if((sig.getD (ac.getD i.toNat default).toNat default) != 2)=true then
      Option.map Sum.inr (
       some false)
     else
      some (.inl (IntKind.i64.wrap (i+1)))
    else none
   else none
  else
   Option.map Sum.inr (
    some true)
def sI(sig:fN)(ac:fN):Option Bool:=
 (nr sig).bind fun r=>
 if r=true then
  (qh ac (sig.length:Int)).bind fun r_1=>
  if r_1=true then
   gF (pn sig ac) 0
  else
   some false
 else
  some false
instance Px{sig:fN}{ac:fN}:gP (sI sig ac) fun rr=>iw Tryz.prog 80 [gE sig,(gu 1 iD) ac] (bD rr):=⟨@fun rr h=>by
 delta sI at h;refine V8.iu (gr ?_);delta UL;refine gW ?_;refine rC h fun r hr h=>?_
 refine iT h fun hc h=>?_
 refine rC h fun r_1 hr_1 h=>?_
 refine iT h fun hc h=>?_
 refine jC h [4,5,17,18,19,20,21,22,23,24,25,26,27,28,29,30,31] (fun pp=>[(5,.d (iD pp))]) (fun pp=>[(2,.obj 27 [.d (gu 1 iD sig)])]) ?_;rintro i t1 h hb1;unfold pn at h;try dsimp only at h
 refine gr (gW ?_);exact mj⟩
def PZ:gB:=
 (.seq (.gv (sq 2 [bo 2 79 0]++sq 4 [mb false])) (.seq (.gv (sq 5 [fa 1 2,ld 5,mv 1,cf 164 [6,7]]++sq 4 [mv 8])) .ret))
theorem Tu:kG Tryz.prog 120 PZ 9 [.tmp 4]:=mf Tryz.func120 Tryz.ntmps120
def kj(x:fQ)(n:Int):Option Bool:=
 (iZ x.2 n).bind fun r=>
 some r
instance Gb{x:fQ}{n:Int}:gP (kj x n) fun rr=>iw Tryz.prog 120 [iM x,iD n] (bD rr):=⟨@fun rr h=>by
 delta kj at h;refine Tu.iu (gr ?_);delta PZ;refine gW ?_;exact mj⟩
def Qe:gB:=
 (.seq (.gv (sq 2 [bo 2 79 0]++sq 4 [.mv (.const (.slice none 0 0))])) (.seq (.gv (sq 5 [.mv (.const (.slice none 0 0))])) (.seq (.seq (.gv (sq 9 [fa 0 2,la 1 9,mv 1,.iy 123 [(t0 10),(t0 11),(i0 0)],ln 12,mi 0])) (.block 0 (.loop (.seq (.gv (sq 15 [bn .lss 14 13])) (.seq (.cond (t0 15) .skip (.exit 0)) (.seq (.block 1 (.seq (.gv (sq 16 [ix 1 12 14,ld 16]++sq 7 [mv 17])) (.seq (.gv (sq 18 [fa 0 2,la 1 18,mv 1,mv 7,cf 124 [19,20,21]]++sq 8 [mv 22])) (.seq (.draw (sq 23 [mv 8,.qj 1 (t0 23) (i0 0),ld 24,mv 1,.qj 1 (t0 26) (i0 0),ld 27,bn .eql 25 28]) [[],[0],[1],[],[3],[4],[2,5]]) (.cond (t0 29) (.gv (sq 30 [mv 5,la 2 2,mv 8,cf 142 [31,32],ap 34 22 1 24 30 33]++sq 5 [mv 34])) (.gv (sq 35 [mv 5,mv 8,.mW 37 22 1 [(t0 36)],ap 38 22 1 24 35 37]++sq 5 [mv 38]))))))) (.gv (sq 39 [bi .add 14 1]++sq 14 [mv 39])))))))) (.seq (.gv (sq 40 [mv 5]++sq 4 [mv 40])) .ret))))
theorem TI:kG Tryz.prog 142 Qe 41 [.tmp 4]:=mf Tryz.func142 Tryz.ntmps142
def oo(rec:fQ->fN->Option fO)(x:fQ)(t:fN)(r:fN):fZ->Option (fZ⊕fO)
 |(out,v14)=>
  if(decide (v14<(r.length:Int)))=true then
   if 0<=v14/\v14<(r.length:Int)then
    (ni x.1 t (r.getD v14.toNat default)).bind fun r_1=>
    if 0<=0/\0<(r_1.length:Int)then
     if 0<=0/\0<(t.length:Int)then
      if((r_1.getD 0 default)==(t.getD 0 default))=true then
       (rec x r_1).bind fun r_2=>
       if(out.length+r_2.length)*24<=140737488355328 then
        some (.inl ((out++r_2),(IntKind.i64.wrap (v14+1))))
       else none
      else
       if(out.length+1)*24<=140737488355328 then
        some (.inl ((out++[r_1]),(IntKind.i64.wrap (v14+1))))
       else none
     else none
    else none
   else none
  else
   Option.map Sum.inr (
    some out)
def ji:Nat->fQ->fN->Option fO
 |0,_,_=>none
 |fu+1,x,t=>
  (mu x.1 t 0).bind fun r=>
  gF (oo (ji fu) x t r) ([],0)
def jr(x:fQ)(t:fN):Option fO:=yz fun fu=>ji fu x t
theorem tM:∀{fu:Nat}{x:fQ}{t:fN}{rr:fO}(h:ji fu x t=some rr),iw Tryz.prog 142 [iM x,(gu 1 iD) t] ((gu 1 (gu 1 iD)) rr)
 |0,_,_,_,h=>by cases h
 |fu+1,x,t,rr,h=>by
  have ih:∀{x:fQ}{t:fN},gP (ji fu x t) fun rr=>iw Tryz.prog 142 [iM x,(gu 1 iD) t] ((gu 1 (gu 1 iD)) rr):=⟨fun h=>tM h⟩
  unfold ji at h;refine TI.iu (gr ?_);delta Qe;refine gW ?_;refine rC h fun r hr h=>?_
  refine pS h [5,7,8,14,15,16,17,18,19,20,21,22,23,24,25,26,27,28,29,30,31,32,33,34,35,36,37,38,39] (fun pp=>[(5,.own 1 34 (List.map (gu 1 iD) pp.1)),(14,.d (iD pp.2))]) (fun pp=>[(2,.obj 79 [.d (gu 1 iD x.1),.d (gu 1 iD x.2)]),(34,.tok 22 1 pp.1.length)]) ?_ ?_
  ·try dsimp only
   refine(gM.CJ 5 34 22 1 rfl rfl).trans ?_;exact wk
  rintro⟨out,v14⟩ t1 h hb1;unfold oo at h;try dsimp only at h
  refine gr (gW ?_);refine iT h fun hc h=>?_
  refine iC h fun hp h=>?_
  refine rC h fun r_1 hr_1 h=>?_
  refine iC h fun hp h=>?_
  refine iC h fun hp h=>?_
  refine iY (by kernel_rfl) (gW ?_);refine iF h fun hc h=>?_
  refine iC h fun hp h=>?_
  cases h;refine⟨_,rfl,?_⟩;refine(gM.drop 37 gq).trans ?_;exact wk
instance CL{x:fQ}{t:fN}:gP (jr x t) fun rr=>iw Tryz.prog 142 [iM x,(gu 1 iD) t] ((gu 1 (gu 1 iD)) rr):=⟨fun h=>tM (ng h).choose_spec⟩
def P0:gB:=
 (.seq (.gv (sq 4 [.mv (.const (.slice none 0 0))])) (.seq (.gv (sq 5 [.mv (.const (.slice none 0 0))])) (.seq (.seq (.gv (sq 8 [mv 1,ln 8,mi 0])) (.block 0 (.loop (.seq (.gv (sq 11 [bn .lss 10 9])) (.seq (.cond (t0 11) .skip (.exit 0)) (.seq (.block 1 (.seq (.gv (sq 12 [mv 10,ix 1 8 10,ld 13]++sq 6 [mv 12,mv 14])) (.seq (.seq (.gv (sq 15 [mv 6,mv 1,ln 16,bi .sub 17 1,bn .lss 15 18])) (.cond (t0 19) (.gv (sq 20 [mv 5,mv 0,.mW 22 2 1 [(t0 21)],ap 23 2 1 8 20 22]++sq 5 [mv 23])) .skip)) (.gv (sq 24 [mv 5,mv 7,ap 26 2 1 8 24 25]++sq 5 [mv 26]))))) (.gv (sq 27 [bi .add 10 1]++sq 10 [mv 27])))))))) (.seq (.gv (sq 28 [mv 5]++sq 4 [mv 28])) .ret))))
theorem Tv:kG Tryz.prog 121 P0 29 [.tmp 4]:=mf Tryz.func121 Tryz.ntmps121
def tq(f:Int)(parts:fO):fT->Option (fT⊕fN)
 |(out,v10)=>
  if(decide (v10<(parts.length:Int)))=true then
   if 0<=v10/\v10<(parts.length:Int)then
    if(decide (v10<(IntKind.i64.wrap ((parts.length:Int)-1))))=true then
     if(out.length+1)*8<=140737488355328 then
      if((out++[f]).length+(parts.getD v10.toNat default).length)*8<=140737488355328 then
       some (.inl (((out++[f])++(parts.getD v10.toNat default)),(IntKind.i64.wrap (v10+1))))
      else none
     else none
    else
     if(out.length+(parts.getD v10.toNat default).length)*8<=140737488355328 then
      some (.inl ((out++(parts.getD v10.toNat default)),(IntKind.i64.wrap (v10+1))))
     else none
   else none
  else
   Option.map Sum.inr (
    some out)
def rm(f:Int)(parts:fO):Option fN:=
 gF (tq f parts) ([],0)
instance NL{f:Int}{parts:fO}:gP (rm f parts) fun rr=>iw Tryz.prog 121 [iD f,(gu 1 (gu 1 iD)) parts] ((gu 1 iD) rr):=⟨@fun rr h=>by
 delta rm at h;refine Tv.iu (gr ?_);delta P0;refine gW ?_;refine pS h [5,6,7,10,11,12,13,14,15,16,17,18,19,20,21,22,23,24,25,26,27] (fun pp=>[(5,.own 1 23 (List.map iD pp.1)),(10,.d (iD pp.2))]) (fun pp=>[(23,.tok 2 1 pp.1.length)]) ?_ ?_
 ·try dsimp only
  refine(gM.CJ 5 23 2 1 rfl rfl).trans ?_;exact wk
 rintro⟨out,v10⟩ t1 h hb1;unfold tq at h;try dsimp only at h
 refine gr (gW ?_);refine iT h fun hc h=>?_
 refine iC h fun hp h=>?_
 refine iT h fun hc h=>?_
 refine iC h fun hp h=>?_
 refine iC h fun hp h=>?_
 cases h;refine⟨_,rfl,?_⟩;refine(gM.drop 22 gq).trans ?_;exact wk⟩
def UX:gB:=
 (.seq (.gv (sq 2 [bo 2 79 0]++sq 4 [mb false])) (.seq (.seq (.gv (sq 7 [mv 1,ln 7,mi 0])) (.block 0 (.loop (.seq (.gv (sq 10 [bn .lss 9 8])) (.seq (.cond (t0 10) .skip (.exit 0)) (.seq (.block 1 (.seq (.gv (sq 11 [mv 9,ix 1 7 9,ld 12]++sq 5 [mv 11,mv 13])) (.seq (.draw (sq 14 [la 2 2,mv 6,cf 120 [14,15],mv 16]++sg 17 true 18 [la 2 2,fa 0 2,la 1 19,mv 1,mv 5,cf 124 [20,21,22],cf 142 [18,23],ln 24,bi .gtr 25 6]++sq 27 [pa 17 26]) [[],[],[0,1],[2,2],[3],[3],[5,3],[3],[3],[6,7,8,3,3],[4,9,9,3],[10,3],[11,3],[3,12]]) (.cond (t0 27) (.seq (.gv (sq 4 [mb true])) .ret) .skip)))) (.gv (sq 28 [bi .add 9 1]++sq 9 [mv 28])))))))) (.seq (.gv (sq 4 [mb false])) .ret)))
theorem Wj:kG Tryz.prog 91 UX 29 [.tmp 4]:=mf Tryz.func91 Tryz.ntmps91
def jW(x:fQ)(t:fN):Int->Option fS
 |v9=>
  if(decide (v9<(t.length:Int)))=true then
   if 0<=v9/\v9<(t.length:Int)then
    (kj x (t.getD v9.toNat default)).bind fun r=>
    if r=true then
     (ni x.1 t v9).bind fun r_1=>
     (jr x r_1).bind fun r_2=>
     if(decide (6<(r_2.length:Int)))=true then
      Option.map Sum.inr (
       some true)
     else
      some (.inl (IntKind.i64.wrap (v9+1)))
    else
     some (.inl (IntKind.i64.wrap (v9+1)))
   else none
  else
   Option.map Sum.inr (
    some false)
def iP(x:fQ)(t:fN):Option Bool:=
 gF (jW x t) 0
instance D_{x:fQ}{t:fN}:gP (iP x t) fun rr=>iw Tryz.prog 91 [iM x,(gu 1 iD) t] (bD rr):=⟨@fun rr h=>by
 delta iP at h;refine Wj.iu (gr ?_);delta UX;refine gW ?_;refine jC h [4,5,6,9,10,11,12,13,14,15,16,17,18,19,20,21,22,23,24,25,26,27,28] (fun pp=>[(9,.d (iD pp))]) (fun pp=>[(2,.obj 79 [.d (gu 1 iD x.1),.d (gu 1 iD x.2)])]) ?_;rintro v9 t1 h hb1;unfold jW at h;try dsimp only at h
 refine gr (gW ?_);exact mj⟩
def Ql:gB:=
 (.seq (.gv (sq 4 [mb false])) (.seq (.seq (.gv (sq 6 [mv 0,ln 6,mv 1,ln 8,bn .neq 7 9])) (.cond (t0 10) (.seq (.gv (sq 4 [mb false])) .ret) .skip)) (.seq (.seq (.gv (sq 11 [mv 0,ln 11,mi 0])) (.block 0 (.loop (.seq (.gv (sq 14 [bn .lss 13 12])) (.seq (.cond (t0 14) .skip (.exit 0)) (.seq (.block 1 (.seq (.gv (sq 15 [mv 13]++sq 5 [mv 15])) (.seq (.draw (sq 16 [mv 0,mv 5,ix 1 16 17,ld 18,mv 1,mv 5,ix 1 20 21,ld 22,bn .neq 19 23]) [[],[],[0,1],[2],[],[],[4,5],[6],[3,7]]) (.cond (t0 24) (.seq (.gv (sq 4 [mb false])) .ret) .skip)))) (.gv (sq 25 [bi .add 13 1]++sq 13 [mv 25])))))))) (.seq (.gv (sq 4 [mb true])) .ret))))
theorem TQ:kG Tryz.prog 155 Ql 26 [.tmp 4]:=mf Tryz.func155 Tryz.ntmps155
def jP(s1:fN)(s2:fN):Int->Option fS
 |v13=>
  if(decide (v13<(s1.length:Int)))=true then
   if 0<=v13/\v13<(s1.length:Int)then
    if 0<=v13/\v13<(s2.length:Int)then
     if((s1.getD v13.toNat default) != (s2.getD v13.toNat default))=true then
      Option.map Sum.inr (
       some false)
     else
      some (.inl (IntKind.i64.wrap (v13+1)))
    else none
   else none
  else
   Option.map Sum.inr (
    some true)
def gX(s1:fN)(s2:fN):Option Bool:=
 if((s1.length:Int) != (s2.length:Int))=true then
  some false
 else
  gF (jP s1 s2) 0
instance Bo{s1:fN}{s2:fN}:gP (gX s1 s2) fun rr=>iw Tryz.prog 155 [(gu 1 iD) s1,(gu 1 iD) s2] (bD rr):=⟨@fun rr h=>by
 delta gX at h;refine TQ.iu (gr ?_);delta Ql;refine gW ?_;refine iF h fun hc h=>?_
 refine jC h [4,5,13,14,15,16,17,18,19,20,21,22,23,24,25] (fun pp=>[(13,.d (iD pp))]) (fun pp=>[]) ?_;rintro v13 t1 h hb1;unfold jP at h;try dsimp only at h
 refine gr (gW ?_);exact mj⟩
def Qy:gB:=
 (.seq (.gv (sq 4 [.mv (.const (.slice none 0 0)),.mv (.const (.slice none 0 0)),mb false])) (.seq (.seq (.gv (sq 9 [mv 0,ln 9,mi 0])) (.block 0 (.loop (.seq (.gv (sq 12 [bn .lss 11 10])) (.seq (.cond (t0 12) .skip (.exit 0)) (.seq (.block 1 (.seq (.gv (sq 13 [mv 11,ix 1 9 11,ld 14]++sq 7 [mv 13,mv 15])) (.seq (.seq (.gv (sq 16 [mv 1,mv 7,bn .shr 16 17,bi .and 18 1,bi .eql 19 0])) (.cond (t0 20) (.seq (.gv (sq 21 [mv 5,mv 8,.mW 23 22 1 [(t0 22)],ap 24 22 1 24 21 23]++sq 5 [mv 24])) (.exit 1)) .skip)) (.seq (.seq (.gv (sq 25 [mv 7,bi .gtr 25 0,mv 26]++sg 27 true 28 [mv 1,mv 7,bi .sub 29 1,bn .shr 28 30,bi .and 31 1,bi .eql 32 0]++sq 34 [pa 27 33,mv 34]++sg 35 true 36 [mv 0,mv 7,bi .sub 37 1,ix 1 36 38,ld 39,mv 8,cf 155 [40,41]]++sq 43 [pa 35 42])) (.cond (t0 43) (.seq (.gv (sq 4 [.mv (.const (.slice none 0 0)),.mv (.const (.slice none 0 0)),mb false])) .ret) .skip)) (.gv (sq 44 [mv 4,mv 8,.mW 46 22 1 [(t0 45)],ap 47 22 1 24 44 46]++sq 4 [mv 47])))))) (.gv (sq 48 [bi .add 11 1]++sq 11 [mv 48])))))))) (.seq (.gv (sq 49 [mv 4,mv 5]++sq 4 [mv 49,mv 50,mb true])) .ret)))
theorem T4:kG Tryz.prog 178 Qy 51 [.tmp 4,.tmp 5,.tmp 6]:=mf Tryz.func178 Tryz.ntmps178
def rq(ts:fO)(mask:Int):gp->Option (gp⊕(fO×fO×Bool))
 |(own,rest,v11)=>
  if(decide (v11<(ts.length:Int)))=true then
   if 0<=v11/\v11<(ts.length:Int)then
    if 0<=v11 then
     if((xX .i64 (zD .i64 mask v11) 1)==0)=true then
      if(rest.length+1)*24<=140737488355328 then
       some (.inl (own,(rest++[(ts.getD v11.toNat default)]),(IntKind.i64.wrap (v11+1))))
      else none
     else
      if(decide (0<v11))=true then
       if 0<=(IntKind.i64.wrap (v11-1))then
        if((xX .i64 (zD .i64 mask (IntKind.i64.wrap (v11-1))) 1)==0)=true then
         if 0<=(IntKind.i64.wrap (v11-1))/\(IntKind.i64.wrap (v11-1))<(ts.length:Int)then
          (gX (ts.getD (IntKind.i64.wrap (v11-1)).toNat default) (ts.getD v11.toNat default)).bind fun r=>
          if r=true then
           Option.map Sum.inr (
            some ([],[],false))
          else
           if(own.length+1)*24<=140737488355328 then
            some (.inl ((own++[(ts.getD v11.toNat default)]),rest,(IntKind.i64.wrap (v11+1))))
           else none
         else none
        else
         if(own.length+1)*24<=140737488355328 then
          some (.inl ((own++[(ts.getD v11.toNat default)]),rest,(IntKind.i64.wrap (v11+1))))
         else none
       else none
      else
       if(own.length+1)*24<=140737488355328 then
        some (.inl ((own++[(ts.getD v11.toNat default)]),rest,(IntKind.i64.wrap (v11+1))))
       else none
    else none
   else none
  else
   Option.map Sum.inr (
    some (own,rest,true))
def pg(ts:fO)(mask:Int):Option (fO×fO×Bool):=
 gF (rq ts mask) ([],[],0)
instance KO{ts:fO}{mask:Int}:gP (pg ts mask) fun rr=>rW Tryz.prog 178 [(gu 1 (gu 1 iD)) ts,iD mask] [(gu 1 (gu 1 iD)) rr.1,(gu 1 (gu 1 iD)) rr.2.1,bD rr.2.2]:=⟨@fun rr h=>by
 delta pg at h;refine T4.uA (gr ?_);delta Qy;refine gW ?_;refine pS h [4,5,6,7,8,11,12,13,14,15,16,17,18,19,20,21,22,23,24,25,26,27,28,29,30,31,32,33,34,35,36,37,38,39,40,41,42,43,44,45,46,47,48] (fun pp=>[(4,.own 1 47 (List.map (gu 1 iD) pp.1)),(5,.own 1 24 (List.map (gu 1 iD) pp.2.1)),(11,.d (iD pp.2.2))]) (fun pp=>[(24,.tok 22 1 pp.2.1.length),(47,.tok 22 1 pp.1.length)]) ?_ ?_
 ·try dsimp only
  refine(gM.CJ 4 47 22 1 rfl rfl).trans ?_;refine(gM.CJ 5 24 22 1 rfl rfl).trans ?_;exact wk
 rintro⟨own,rest,v11⟩ t1 h hb1;unfold rq at h;try dsimp only at h
 refine gr (gW ?_);refine iT h fun hc h=>?_
 refine iC h fun hp h=>?_
 refine iC h fun hp h=>?_
 refine it h (fun hc h=>?_) fun hc h=>?_
 ·refine iC h fun hp h=>?_
  cases h;refine⟨_,rfl,?_⟩;refine(gM.drop 23 gq).trans ?_;exact wk
 refine it h (fun hc h=>?_) fun hc h=>?_
 ·refine iC h fun hp h=>?_
  refine it h (fun hc h=>?_) fun hc h=>?_
  ·refine iC h fun hp h=>?_
   refine rC h fun r hr h=>?_
   refine iF h fun hc h=>?_
   refine iC h fun hp h=>?_
   cases h;refine⟨_,rfl,?_⟩;refine(gM.drop 46 gq).trans ?_;exact wk
  refine iC h fun hp h=>?_
  cases h;refine⟨_,rfl,?_⟩;refine(gM.drop 46 gq).trans ?_;exact wk
 refine iC h fun hp h=>?_
 cases h;refine⟨_,rfl,?_⟩;refine(gM.drop 46 gq).trans ?_;exact wk⟩
def Qg:gB:=
 (.seq (.gv (sq 2 [bo 2 27 0]++sq 4 [.mv (.const (.slice none 0 0))])) (.seq (.gv (sq 5 [.mv (.const (.slice none 0 0))])) (.seq (.seq (.gv (sq 8 [la 1 2,mv 1,.iy 123 [(t0 8),(t0 9),(i0 0)],ln 10,mi 0])) (.block 0 (.loop (.seq (.gv (sq 13 [bn .lss 12 11])) (.seq (.cond (t0 13) .skip (.exit 0)) (.seq (.block 1 (.seq (.gv (sq 14 [ix 1 10 12,ld 14]++sq 7 [mv 15])) (.gv (sq 16 [mv 5,la 1 2,mv 1,mv 7,cf 124 [17,18,19],.mW 21 22 1 [(t0 20)],ap 22 22 1 24 16 21]++sq 5 [mv 22])))) (.gv (sq 23 [bi .add 12 1]++sq 12 [mv 23])))))))) (.seq (.gv (sq 24 [mv 5]++sq 4 [mv 24])) .ret))))
theorem TK:kG Tryz.prog 147 Qg 25 [.tmp 4]:=mf Tryz.func147 Tryz.ntmps147
def r_(sig:fN)(t:fN)(r:fN):fZ->Option (fZ⊕fO)
 |(out,v12)=>
  if(decide (v12<(r.length:Int)))=true then
   if 0<=v12/\v12<(r.length:Int)then
    (ni sig t (r.getD v12.toNat default)).bind fun r_1=>
    if(out.length+1)*24<=140737488355328 then
     some (.inl ((out++[r_1]),(IntKind.i64.wrap (v12+1))))
    else none
   else none
  else
   Option.map Sum.inr (
    some out)
def oK(sig:fN)(t:fN):Option fO:=
 (mu sig t 0).bind fun r=>
 gF (r_ sig t r) ([],0)
instance M_{sig:fN}{t:fN}:gP (oK sig t) fun rr=>iw Tryz.prog 147 [gE sig,(gu 1 iD) t] ((gu 1 (gu 1 iD)) rr):=⟨@fun rr h=>by
 delta oK at h;refine TK.iu (gr ?_);delta Qg;refine gW ?_;refine rC h fun r hr h=>?_
 refine pS h [5,7,12,13,14,15,16,17,18,19,20,21,22,23] (fun pp=>[(5,.own 1 22 (List.map (gu 1 iD) pp.1)),(12,.d (iD pp.2))]) (fun pp=>[(2,.obj 27 [.d (gu 1 iD sig)]),(22,.tok 22 1 pp.1.length)]) ?_ ?_
 ·try dsimp only
  refine(gM.CJ 5 22 22 1 rfl rfl).trans ?_;exact wk
 rintro⟨out,v12⟩ t1 h hb1;unfold r_ at h;try dsimp only at h
 refine gr (gW ?_);refine iT h fun hc h=>?_
 refine iC h fun hp h=>?_
 refine rC h fun r_1 hr_1 h=>?_
 refine iC h fun hp h=>?_
 cases h;refine⟨_,rfl,?_⟩;refine(gM.drop 21 gq).trans ?_;exact wk⟩
def QC:gB:=
 (.seq (.gv (sq 6 [mb false])) (.seq (.seq (.gv (sq 10 [mv 0,ln 10,mv 1,ln 12,bn .neq 11 13])) (.cond (t0 14) (.seq (.gv (sq 6 [mb false])) .ret) .skip)) (.seq (.seq (.gv (sq 15 [mv 0,ln 15,mi 0])) (.block 0 (.loop (.seq (.gv (sq 18 [bn .lss 17 16])) (.seq (.cond (t0 18) .skip (.exit 0)) (.seq (.block 1 (.seq (.gv (sq 19 [mv 17,ix 1 15 17,ld 20]++sq 7 [mv 19,mv 21])) (.seq (.gv (sq 22 [mv 1,mv 7,ix 1 22 23,ld 24]++sq 9 [mv 25])) (.seq (.gv (sq 26 [mv 2,mv 8,mv 9,.tN (t0 26) [(t0 27),(t0 28)],nt 29])) (.cond (t0 30) (.seq (.gv (sq 6 [mb false])) .ret) .skip))))) (.gv (sq 31 [bi .add 17 1]++sq 17 [mv 31])))))))) (.seq (.gv (sq 6 [mb true])) .ret))))
theorem T8:kG Tryz.prog 182 QC 32 [.tmp 6]:=mf Tryz.func182 Tryz.ntmps182
def ic(s1:fO)(s2:fO):Int->Option fS
 |v17=>
  if(decide (v17<(s1.length:Int)))=true then
   if 0<=v17/\v17<(s1.length:Int)then
    if 0<=v17/\v17<(s2.length:Int)then
     (gX (s1.getD v17.toNat default) (s2.getD v17.toNat default)).bind fun r=>
     if r=true then
      some (.inl (IntKind.i64.wrap (v17+1)))
     else
      Option.map Sum.inr (
       some false)
    else none
   else none
  else
   Option.map Sum.inr (
    some true)
def iq(s1:fO)(s2:fO):Option Bool:=
 if((s1.length:Int) != (s2.length:Int))=true then
  some false
 else
  gF (ic s1 s2) 0
instance vO{s1:fO}{s2:fO}:gP (iq s1 s2) fun rr=>gG Tryz.prog 182 [.d (gu 1 (gu 1 iD) s1),.d (gu 1 (gu 1 iD) s2),.fn 155 [] []] [] 0 fun xx ss=>xx=.d (bD rr)/\ss=[]:=⟨@fun rr h=>by
 delta iq at h;refine T8.kS (gr ?_);delta QC;refine gW ?_;refine iF h fun hc h=>?_
 refine jC h [6,7,8,9,17,18,19,20,21,22,23,24,25,26,27,28,29,30,31] (fun pp=>[(17,.d (iD pp))]) (fun pp=>[]) ?_;rintro v17 t1 h hb1;unfold ic at h;try dsimp only at h
 refine gr (gW ?_);refine iT h fun hc h=>?_
 refine iC h fun hp h=>?_
 refine iC h fun hp h=>?_
 refine tG (by kernel_rfl) ?_;exact mj⟩
def Qk:gB:=
 (.seq (.gv (sq 4 [mb false])) (.seq (.gv (sq 5 [mv 0,mv 1,.iy 182 [(t0 5),(t0 6),(.func 155)]]++sq 4 [mv 7])) .ret))
theorem TP:kG Tryz.prog 151 Qk 8 [.tmp 4]:=mf Tryz.func151 Tryz.ntmps151
def nN(a:fO)(b:fO):Option Bool:=
 (iq a b).bind fun r=>
 some r
instance IY{a:fO}{b:fO}:gP (nN a b) fun rr=>iw Tryz.prog 151 [(gu 1 (gu 1 iD)) a,(gu 1 (gu 1 iD)) b] (bD rr):=⟨@fun rr h=>by
 delta nN at h;refine TP.iu (gr ?_);delta Qk;refine gW ?_;refine oB [] [] h fun r hr h=>?_
 exact mj⟩
def Uv:gB:=
 (.seq (.gv (sq 3 [bo 3 27 0]++sq 6 [mb false])) (.seq (.gv (sq 7 [la 1 3,mv 1,cf 80 [7,8],mv 9]++sg 10 true 11 [la 1 3,mv 2,cf 60 [11,12]]++sq 14 [pa 10 13]++sq 6 [mv 14])) .ret))
theorem VQ:kG Tryz.prog 50 Uv 15 [.tmp 6]:=mf Tryz.func50 Tryz.ntmps50
def kf(sig:fN)(ac:fN)(t:fN):Option Bool:=
 (sI sig ac).bind fun r=>
 if r=true then
  (lB sig t).bind fun r_1=>
  some r_1
 else
  some false
instance Kl{sig:fN}{ac:fN}{t:fN}:gP (kf sig ac t) fun rr=>iw Tryz.prog 50 [gE sig,(gu 1 iD) ac,(gu 1 iD) t] (bD rr):=⟨@fun rr h=>by
 delta kf at h;refine VQ.iu (gr ?_);delta Uv;refine gW ?_;exact mj⟩
def PW:gB:=
 (.seq (.gv (sq 3 [bo 3 27 0]++sq 6 [.mv (.const (.slice none 0 0))])) (.seq (.gv (sq 10 [.mW 10 2 1 []]++sq 7 [mv 10])) (.seq (.gv (sq 11 [mv 2,bi .add 11 1]++sq 8 [mv 12])) (.seq (.seq (.draw (sq 13 [la 1 3,mv 1,mv 2,ix 1 14 15,ld 16,cf 159 [13,17]]++sq 9 [mv 18]) [[],[],[],[1,2],[3],[0,4],[5,5,0,1,2,3,4,5]]) (.block 0 (.loop (.seq (.seq (.gv (sq 19 [mv 9,bi .gtr 19 0])) (.cond (t0 20) .skip (.exit 0))) (.seq (.block 1 (.seq (.gv (sq 23 [mv 7,mv 8,.mW 25 2 1 [(t0 24)],ap 26 2 1 8 23 25]++sq 7 [mv 26])) (.gv (sq 27 [la 1 3,mv 1,mv 8,cf 106 [27,28,29]]++sq 8 [mv 30])))) (.gv (sq 21 [mv 9,bi .sub 21 1]++sq 9 [mv 22]))))))) (.seq (.gv (sq 31 [mv 7]++sq 6 [mv 31])) .ret)))))
theorem Tr:kG Tryz.prog 111 PW 32 [.tmp 6]:=mf Tryz.func111 Tryz.ntmps111
def sd(sig:fN)(t:fN):fP->Option (fP⊕fN)
 |(out,p,k)=>
  if(decide (0<k))=true then
   if(out.length+1)*8<=140737488355328 then
    (ny sig t p).bind fun r_1=>
    some (.inl ((out++[p]),r_1,(IntKind.i64.wrap (k-1))))
   else none
  else
   Option.map Sum.inr (
    some out)
def jg(sig:fN)(t:fN)(nF:Int):Option fN:=
 if 0<=nF/\nF<(t.length:Int)then
  (nR sig (t.getD nF.toNat default)).bind fun r=>
  gF (sd sig t) ([],(IntKind.i64.wrap (nF+1)),r)
 else none
instance Nd{sig:fN}{t:fN}{nF:Int}:gP (jg sig t nF) fun rr=>iw Tryz.prog 111 [gE sig,(gu 1 iD) t,iD nF] ((gu 1 iD) rr):=⟨@fun rr h=>by
 delta jg at h;refine Tr.iu (gr ?_);delta PW;refine gW ?_;refine iC h fun hp h=>?_
 refine dC h fun r hr h=>?_
 refine iY (by kernel_rfl) (gW ?_);refine jC h [7,8,9,19,20,21,22,23,24,25,26,27,28,29,30] (fun pp=>[(7,.own 1 10 (List.map iD pp.1)),(8,.d (iD pp.2.1)),(9,.d (iD pp.2.2))]) (fun pp=>[(3,.obj 27 [.d (gu 1 iD sig)]),(10,.tok 2 1 pp.1.length)]) ?_;rintro⟨out,p,k⟩ t1 h hb1;unfold sd at h;try dsimp only at h
 refine gr (gW ?_);refine iT h fun hc h=>?_
 refine iC h fun hp h=>?_
 refine rC h fun r_1 hr_1 h=>?_
 cases h;refine⟨_,rfl,?_⟩;refine(gM.drop 25 gq).trans ?_;exact wk⟩
theorem Mg{P:Program}{f:Nat}{args:List D}{rr:List fN}(h:gG P f (args.map .d) [] 0 fun xx ss=>xx=.jM 1 900000 rr.length/\ss=[(900000,.ij 22 1 rr.length (gQ (gu 1 iD) rr))]):iw P f args ((gu 1 (gu 1 iD)) rr):=
 gG.plain (gG.then (y:=AV.mT 900000 (List.map (gu 1 iD) rr) (.jM 1 900000 rr.length)) (t:=rU 900000 (List.map (gu 1 iD) rr) [(900000,.ij 22 1 rr.length (gQ (gu 1 iD) rr))]) h (gN.fz 900000 (gu 1 iD) rfl rr)) zN
def tO:gB:=
 (.seq (.gv (sq 4 [bo 4 27 0]++sq 8 [.mv (.const (.slice none 0 0))])) (.seq (.seq (.gv (sq 10 [mv 2,mv 3,ix 1 10 11,ld 12,mv 1,bn .neq 13 14])) (.cond (t0 15) (.seq (.gv (sq 16 [la 1 4,mv 2,mv 3,cf 112 [16,17,18],.wN 20 22 1 [(t0 19)]]++sq 8 [mv 20])) .ret) .skip)) (.seq (.gv (sq 21 [la 1 4,mv 2,mv 3,cf 111 [21,22,23]]++sq 9 [mv 24])) (.seq (.draw (sq 25 [la 1 4,mv 1,mv 2,mv 9,.qj 1 (t0 28) (i0 0),ld 29,cf 110 [25,26,27,30],la 1 4,mv 1,mv 2,mv 9,.qj 1 (t0 35) (i0 1),ld 36,cf 110 [32,33,34,37],ap 39 22 1 24 31 38]++sq 8 [mv 39]) [[],[],[],[],[3],[4],[0,1,2,5],[],[],[],[],[10],[11],[7,8,9,12,6],[6,13,13],[14,14,0,1,2,3,4,5,6,7,8,9,10,11,12,13,14]]) .ret))))
theorem xY:kG Tryz.prog 110 tO 40 [.tmp 8]:=mf Tryz.func110 Tryz.ntmps110
def jD:Nat->fN->Int->fN->Int->Option fO
 |0,_,_,_,_=>none
 |fu+1,sig,f,t,nF=>
  if 0<=nF/\nF<(t.length:Int)then
   if((t.getD nF.toNat default) != f)=true then
    (iQ sig t nF).bind fun r=>
    some [r]
   else
    (jg sig t nF).bind fun r_1=>
    if 0<=0/\0<(r_1.length:Int)then
     (jD fu sig f t (r_1.getD 0 default)).bind fun r_2=>
     if 0<=1/\1<(r_1.length:Int)then
      (jD fu sig f t (r_1.getD 1 default)).bind fun r_3=>
      if(r_2.length+r_3.length)*24<=140737488355328 then
       some (r_2++r_3)
      else none
     else none
    else none
  else none
def jL(sig:fN)(f:Int)(t:fN)(nF:Int):Option fO:=yz fun fu=>jD fu sig f t nF
theorem tF:∀{fu:Nat}{sig:fN}{f:Int}{t:fN}{nF:Int}{rr:fO}(h:jD fu sig f t nF=some rr),gG Tryz.prog 110 [.d (.agg [gu 1 iD sig]),.d (iD f),.d (gu 1 iD t),.d (iD nF)] [] 0 fun xx ss=>xx=.jM 1 900000 rr.length/\ss=[(900000,.ij 22 1 rr.length (gQ (gu 1 iD) rr))]
 |0,_,_,_,_,_,h=>by cases h
 |fu+1,sig,f,t,nF,rr,h=>by
  have ih:∀{sig:fN}{f:Int}{t:fN}{nF:Int},gP (jD fu sig f t nF) fun rr=>gG Tryz.prog 110 [.d (.agg [gu 1 iD sig]),.d (iD f),.d (gu 1 iD t),.d (iD nF)] [] 0 fun xx ss=>xx=.jM 1 900000 rr.length/\ss=[(900000,.ij 22 1 rr.length (gQ (gu 1 iD) rr))]:=⟨fun h=>tF h⟩
  unfold jD at h;refine xY.zT (gr ?_);delta tO;refine gW ?_;refine iC h fun hp h=>?_
  refine it h (fun hc h=>?_) fun hc h=>?_
  ·refine rC h fun r hr h=>?_
   cases h;exact gN.trans ((gN.trans (gN.move 20 900000 (ob:=.ij 22 1 1 (gQ (gu 1 iD) [r])) gq gq gq rfl (by first|rfl|(simp;done)|(simp[sat,qo,sset,ig,uB,qX,Ob.jU,Ob.kill,kU];done))) (gN.oc [4] (by simp)))) (gN.told zN lH)
  refine rC h fun r_1 hr_1 h=>?_
  refine iC h fun hp h=>?_
  refine Cx [] [(900000,31)] h fun r_2 hr_2 h=>?_
  refine iC h fun hp h=>?_
  have ihD:∀{sig:fN}{f:Int}{t:fN}{nF:Int},gP (jD fu sig f t nF) fun rr=>iw Tryz.prog 110 [gE sig,iD f,(gu 1 iD) t,iD nF] ((gu 1 (gu 1 iD)) rr):=⟨fun h=>Mg (args:=[gE _,iD _,(gu 1 iD) _,iD _]) (tF h)⟩
  refine dC h fun r_3 hr_3 h=>?_
  refine iC h fun hp h=>?_
  refine iY (by kernel_rfl) (gW ?_);cases h;exact gN.trans ((gN.trans (gN.move 31 900000 (ob:=.ij 22 1 ((r_2++r_3).length) (gQ (gu 1 iD) (r_2++r_3))) gq gq gq rfl (by first|rfl|(simp;done)|(simp[sat,qo,sset,ig,uB,qX,Ob.jU,Ob.kill,kU];done))) (gN.oc [4] (by simp)))) (gN.told zN lH)
instance EB{sig:fN}{f:Int}{t:fN}{nF:Int}:gP (jL sig f t nF) fun rr=>iw Tryz.prog 110 [gE sig,iD f,(gu 1 iD) t,iD nF] ((gu 1 (gu 1 iD)) rr):=⟨fun h=>Mg (args:=[gE _,iD _,(gu 1 iD) _,iD _]) (tF (ng h).choose_spec)⟩
def PU:gB:=
 (.seq (.gv (sq 4 [.mv (.const (.slice none 0 0))])) (.seq (.gv (sq 7 [.mW 7 2 1 []]++sq 5 [mv 7])) (.seq (.seq (.gv (sq 6 [mi 0])) (.block 0 (.loop (.seq (.seq (.gv (sq 8 [mv 6,mv 1,ln 9,bn .lss 8 10])) (.cond (t0 11) .skip (.exit 0))) (.seq (.block 1 (.seq (.seq (.gv (sq 14 [mv 6,bi .add 14 1,mv 1,ln 16,bn .lss 15 17])) (.cond (t0 18) (.gv (sq 19 [mv 5,mv 0,.mW 21 2 1 [(t0 20)],ap 22 2 1 8 19 21]++sq 5 [mv 22])) .skip)) (.gv (sq 23 [mv 5,mv 1,mv 6,ix 1 24 25,ld 26,ap 28 2 1 8 23 27]++sq 5 [mv 28])))) (.gv (sq 12 [mv 6,bi .add 12 1]++sq 6 [mv 13]))))))) (.seq (.gv (sq 29 [mv 5]++sq 4 [mv 29])) .ret))))
theorem Tp:kG Tryz.prog 108 PU 30 [.tmp 4]:=mf Tryz.func108 Tryz.ntmps108
def qD(f:Int)(parts:fO):fT->Option (fT⊕fN)
 |(out,i)=>
  if(decide (i<(parts.length:Int)))=true then
   if(decide ((IntKind.i64.wrap (i+1))<(parts.length:Int)))=true then
    if(out.length+1)*8<=140737488355328 then
     if 0<=i/\i<(parts.length:Int)then
      if((out++[f]).length+(parts.getD i.toNat default).length)*8<=140737488355328 then
       some (.inl (((out++[f])++(parts.getD i.toNat default)),(IntKind.i64.wrap (i+1))))
      else none
     else none
    else none
   else
    if 0<=i/\i<(parts.length:Int)then
     if(out.length+(parts.getD i.toNat default).length)*8<=140737488355328 then
      some (.inl ((out++(parts.getD i.toNat default)),(IntKind.i64.wrap (i+1))))
     else none
    else none
  else
   Option.map Sum.inr (
    some out)
def oE(f:Int)(parts:fO):Option fN:=
 gF (qD f parts) ([],0)
instance Kj{f:Int}{parts:fO}:gP (oE f parts) fun rr=>iw Tryz.prog 108 [iD f,(gu 1 (gu 1 iD)) parts] ((gu 1 iD) rr):=⟨@fun rr h=>by
 delta oE at h;refine Tp.iu (gr ?_);delta PU;refine gW ?_;refine jC h [5,6,8,9,10,11,12,13,14,15,16,17,18,19,20,21,22,23,24,25,26,27,28] (fun pp=>[(5,.own 1 7 (List.map iD pp.1)),(6,.d (iD pp.2))]) (fun pp=>[(7,.tok 2 1 pp.1.length)]) ?_;rintro⟨out,i⟩ t1 h hb1;unfold qD at h;try dsimp only at h
 refine gr (gW ?_);refine iT h fun hc h=>?_
 refine iT h fun hc h=>?_
 refine iC h fun hp h=>?_
 refine iC h fun hp h=>?_
 refine iC h fun hp h=>?_
 cases h;refine⟨_,rfl,?_⟩;refine(gM.drop 21 gq).trans ?_;exact wk⟩
def Ut:gB:=
 (.seq (.gv (sq 4 [mb false])) (.seq (.seq (.gv (sq 6 [mv 0,ln 6,mv 1,ln 8,bn .neq 7 9])) (.cond (t0 10) (.seq (.gv (sq 11 [mv 0,ln 11,mv 1,ln 13,bn .lss 12 14]++sq 4 [mv 15])) .ret) .skip)) (.seq (.seq (.gv (sq 5 [mi 0])) (.block 0 (.loop (.seq (.seq (.gv (sq 16 [mv 5,mv 0,ln 17,bn .lss 16 18])) (.cond (t0 19) .skip (.exit 0))) (.seq (.block 1 (.seq (.draw (sq 22 [mv 0,mv 5,ix 1 22 23,ld 24,mv 1,mv 5,ix 1 26 27,ld 28,bn .neq 25 29]) [[],[],[0,1],[2],[],[],[4,5],[6],[3,7]]) (.cond (t0 30) (.seq (.draw (sq 31 [mv 0,mv 5,ix 1 31 32,ld 33,mv 1,mv 5,ix 1 35 36,ld 37,bn .lss 34 38]++sq 4 [mv 39]) [[],[],[0,1],[2],[],[],[4,5],[6],[3,7],[8,0,1,2,3,4,5,6,7,8]]) .ret) .skip))) (.gv (sq 20 [mv 5,bi .add 20 1]++sq 5 [mv 21]))))))) (.seq (.gv (sq 4 [mb false])) .ret))))
theorem VO:kG Tryz.prog 46 Ut 40 [.tmp 4]:=mf Tryz.func46 Tryz.ntmps46
def qB(a:fN)(b:fN):Int->Option fS
 |i=>
  if(decide (i<(a.length:Int)))=true then
   if 0<=i/\i<(a.length:Int)then
    if 0<=i/\i<(b.length:Int)then
     if((a.getD i.toNat default) != (b.getD i.toNat default))=true then
      if 0<=i/\i<(a.length:Int)then
       if 0<=i/\i<(b.length:Int)then
        Option.map Sum.inr (
         some (decide ((a.getD i.toNat default)<(b.getD i.toNat default))))
       else none
      else none
     else
      some (.inl (IntKind.i64.wrap (i+1)))
    else none
   else none
  else
   Option.map Sum.inr (
    some false)
def mZ(a:fN)(b:fN):Option Bool:=
 if((a.length:Int) != (b.length:Int))=true then
  some (decide ((a.length:Int)<(b.length:Int)))
 else
  gF (qB a b) 0
instance Kg{a:fN}{b:fN}:gP (mZ a b) fun rr=>iw Tryz.prog 46 [(gu 1 iD) a,(gu 1 iD) b] (bD rr):=⟨@fun rr h=>by
 delta mZ at h;refine VO.iu (gr ?_);delta Ut;refine gW ?_;refine iF h fun hc h=>?_
 refine jC h [4,5,16,17,18,19,20,21,22,23,24,25,26,27,28,29,30,31,32,33,34,35,36,37,38,39] (fun pp=>[(5,.d (iD pp))]) (fun pp=>[]) ?_;rintro i t1 h hb1;unfold qB at h;try dsimp only at h
 refine gr (gW ?_);refine iT h fun hc h=>?_
 refine iC h fun hp h=>?_
 refine iC h fun hp h=>?_
 refine iY (by kernel_rfl) (gW ?_);refine iT h fun hc h=>?_
 refine iC h fun hp h=>?_
 refine iC h fun hp h=>?_
 refine iY (by kernel_rfl) (gW ?_);replace h:=gT h hb1;cases h;exact lH⟩
def Qp:gB:=
 (.seq (.gv (sq 4 [.mv (.const (.slice none 0 0))])) (.seq (.gv (sq 7 [mv 0,ln 7]++sq 5 [mv 8])) (.seq (.block 0 (.loop (.seq (.seq (.gv (sq 9 [mv 5,bi .gtr 9 0,mv 10]++sg 11 true 12 [mv 1,mv 0,mv 5,bi .sub 14 1,ix 1 13 15,ld 16,cf 46 [12,17]]++sq 19 [pa 11 18])) (.cond (t0 19) .skip (.exit 0))) (.block 1 (.gv (sq 20 [mv 5,bi .sub 20 1]++sq 5 [mv 21])))))) (.seq (.gv (sq 22 [.mW 22 22 1 [],mv 0,mv 5,.slc (t0 23) 1 none (some (t0 24)) none,ap 26 22 1 24 22 25]++sq 6 [mv 26])) (.seq (.gv (sq 27 [mv 6,mv 1,.mW 29 22 1 [(t0 28)],ap 30 22 1 24 27 29]++sq 6 [mv 30])) (.seq (.gv (sq 31 [mv 6,mv 0,mv 5,.slc (t0 32) 1 (some (t0 33)) none none,ap 35 22 1 24 31 34]++sq 4 [mv 35])) .ret))))))
theorem TU:kG Tryz.prog 160 Qp 36 [.tmp 4]:=mf Tryz.func160 Tryz.ntmps160
def pX(list:fO)(t:fN):Int->Option (Int⊕fO)
 |k=>
  if(decide (0<k))=true then
   if 0<=(IntKind.i64.wrap (k-1))/\(IntKind.i64.wrap (k-1))<(list.length:Int)then
    (mZ t (list.getD (IntKind.i64.wrap (k-1)).toNat default)).bind fun r=>
    if r=true then
     some (.inl (IntKind.i64.wrap (k-1)))
    else
     Option.map Sum.inr (
      if 0<=k/\k<=(list.length:Int)then
       if(0+(list.take k.toNat).length)*24<=140737488355328 then
        if((list.take k.toNat).length+1)*24<=140737488355328 then
         if 0<=k/\k<=(list.length:Int)then
          if(((list.take k.toNat)++[t]).length+(list.drop k.toNat).length)*24<=140737488355328 then
           some (((list.take k.toNat)++[t])++(list.drop k.toNat))
          else none
         else none
        else none
       else none
      else none)
   else none
  else
   Option.map Sum.inr (
    if 0<=k/\k<=(list.length:Int)then
     if(0+(list.take k.toNat).length)*24<=140737488355328 then
      if((list.take k.toNat).length+1)*24<=140737488355328 then
       if 0<=k/\k<=(list.length:Int)then
        if(((list.take k.toNat)++[t]).length+(list.drop k.toNat).length)*24<=140737488355328 then
         some (((list.take k.toNat)++[t])++(list.drop k.toNat))
        else none
       else none
      else none
     else none
    else none)
def nZ(list:fO)(t:fN):Option fO:=
 gF (pX list t) (list.length:Int)
instance I4{list:fO}{t:fN}:gP (nZ list t) fun rr=>iw Tryz.prog 160 [(gu 1 (gu 1 iD)) list,(gu 1 iD) t] ((gu 1 (gu 1 iD)) rr):=⟨@fun rr h=>by
 delta nZ at h;refine TU.iu (gr ?_);delta Qp;refine gW ?_;refine jC h [5,9,10,11,12,13,14,15,16,17,18,19,20,21] (fun pp=>[(5,.d (iD pp))]) (fun pp=>[]) ?_;rintro k t1 h hb1;unfold pX at h;try dsimp only at h
 refine gr (gW ?_);exact mj⟩
def UM:gB:=
 (.seq (.gv (sq 3 [bo 3 27 0]++sq 6 [mb false])) (.seq (.seq (.gv (sq 7 [mi 0])) (.block 0 (.loop (.seq (.seq (.gv (sq 8 [mv 7,mv 2,ln 9,bn .lss 8 10])) (.cond (t0 11) .skip (.exit 0))) (.seq (.block 1 (.seq (.draw (sq 14 [mv 1,mv 2,mv 7,ix 1 15 16,ld 17,cf 107 [14,18],mv 19]++sg 20 true 21 [la 1 3,mv 2,mv 7,ix 1 22 23,ld 24,mv 2,mv 7,cf 110 [21,25,26,27],ln 28,bi .gtr 29 6]++sq 31 [pa 20 30]) [[],[],[],[1,2],[3],[0,4],[5,5],[6],[6],[6],[8,9,6],[10,6],[6],[6],[7,11,12,13,6,6],[14,6],[15,6],[6,16]]) (.cond (t0 31) (.seq (.gv (sq 6 [mb false])) .ret) .skip))) (.gv (sq 12 [mv 7,bi .add 12 1]++sq 7 [mv 13]))))))) (.seq (.gv (sq 6 [mb true])) .ret)))
theorem V9:kG Tryz.prog 81 UM 32 [.tmp 6]:=mf Tryz.func81 Tryz.ntmps81
def nY(sig:fN)(ac:fN)(t:fN):Int->Option fS
 |nF=>
  if(decide (nF<(t.length:Int)))=true then
   if 0<=nF/\nF<(t.length:Int)then
    (kP ac (t.getD nF.toNat default)).bind fun r=>
    if r=true then
     if 0<=nF/\nF<(t.length:Int)then
      (jL sig (t.getD nF.toNat default) t nF).bind fun r_1=>
      if(decide (6<(r_1.length:Int)))=true then
       Option.map Sum.inr (
        some false)
      else
       some (.inl (IntKind.i64.wrap (nF+1)))
     else none
    else
     some (.inl (IntKind.i64.wrap (nF+1)))
   else none
  else
   Option.map Sum.inr (
    some true)
def mB(sig:fN)(ac:fN)(t:fN):Option Bool:=
 gF (nY sig ac t) 0
instance Nl{sig:fN}{ac:fN}{t:fN}:gP (mB sig ac t) fun rr=>iw Tryz.prog 81 [gE sig,(gu 1 iD) ac,(gu 1 iD) t] (bD rr):=⟨@fun rr h=>by
 delta mB at h;refine V9.iu (gr ?_);delta UM;refine gW ?_;refine jC h [6,7,8,9,10,11,12,13,14,15,16,17,18,19,20,21,22,23,24,25,26,27,28,29,30,31] (fun pp=>[(7,.d (iD pp))]) (fun pp=>[(3,.obj 27 [.d (gu 1 iD sig)])]) ?_;rintro nF t1 h hb1;unfold nY at h;try dsimp only at h
 refine gr (gW ?_);exact mj⟩
def Uu:gB:=
 (.seq (.gv (sq 4 [mb false])) (.seq (.seq (.gv (sq 6 [mv 0,ln 6,mv 1,ln 8,bn .neq 7 9])) (.cond (t0 10) (.seq (.gv (sq 4 [mb false])) .ret) .skip)) (.seq (.seq (.gv (sq 5 [mi 0])) (.block 0 (.loop (.seq (.seq (.gv (sq 11 [mv 5,mv 0,ln 12,bn .lss 11 13])) (.cond (t0 14) .skip (.exit 0))) (.seq (.block 1 (.seq (.draw (sq 17 [mv 0,mv 5,ix 1 17 18,ld 19,mv 1,mv 5,ix 1 21 22,ld 23,bn .neq 20 24]) [[],[],[0,1],[2],[],[],[4,5],[6],[3,7]]) (.cond (t0 25) (.seq (.gv (sq 4 [mb false])) .ret) .skip))) (.gv (sq 15 [mv 5,bi .add 15 1]++sq 5 [mv 16]))))))) (.seq (.gv (sq 4 [mb true])) .ret))))
theorem VP:kG Tryz.prog 48 Uu 26 [.tmp 4]:=mf Tryz.func48 Tryz.ntmps48
def ot(a:fN)(b:fN):Int->Option fS
 |i=>
  if(decide (i<(a.length:Int)))=true then
   if 0<=i/\i<(a.length:Int)then
    if 0<=i/\i<(b.length:Int)then
     if((a.getD i.toNat default) != (b.getD i.toNat default))=true then
      Option.map Sum.inr (
       some false)
     else
      some (.inl (IntKind.i64.wrap (i+1)))
    else none
   else none
  else
   Option.map Sum.inr (
    some true)
def iR(a:fN)(b:fN):Option Bool:=
 if((a.length:Int) != (b.length:Int))=true then
  some false
 else
  gF (ot a b) 0
instance Kh{a:fN}{b:fN}:gP (iR a b) fun rr=>iw Tryz.prog 48 [(gu 1 iD) a,(gu 1 iD) b] (bD rr):=⟨@fun rr h=>by
 delta iR at h;refine VP.iu (gr ?_);delta Uu;refine gW ?_;refine iF h fun hc h=>?_
 refine jC h [4,5,11,12,13,14,15,16,17,18,19,20,21,22,23,24,25] (fun pp=>[(5,.d (iD pp))]) (fun pp=>[]) ?_;rintro i t1 h hb1;unfold ot at h;try dsimp only at h
 refine gr (gW ?_);exact mj⟩
def Qa:gB:=
 (.seq (.gv (sq 4 [mb false])) (.seq (.seq (.gv (sq 5 [mi 0])) (.block 0 (.loop (.seq (.seq (.gv (sq 6 [mv 5,mv 0,ln 7,bn .lss 6 8])) (.cond (t0 9) .skip (.exit 0))) (.seq (.block 1 (.seq (.draw (sq 12 [mv 0,mv 5,ix 1 12 13,ld 14,mv 1,mv 5,ix 1 16 17,ld 18,cf 48 [15,19],nt 20]) [[],[],[0,1],[2],[],[],[4,5],[6],[3,7],[8]]) (.cond (t0 21) (.seq (.gv (sq 4 [mb false])) .ret) .skip))) (.gv (sq 10 [mv 5,bi .add 10 1]++sq 5 [mv 11]))))))) (.seq (.gv (sq 4 [mb true])) .ret)))
theorem TE:kG Tryz.prog 138 Qa 22 [.tmp 4]:=mf Tryz.func138 Tryz.ntmps138
def ou(a:fO)(b:fO):Int->Option fS
 |i=>
  if(decide (i<(a.length:Int)))=true then
   if 0<=i/\i<(a.length:Int)then
    if 0<=i/\i<(b.length:Int)then
     (iR (a.getD i.toNat default) (b.getD i.toNat default)).bind fun r=>
     if r=true then
      some (.inl (IntKind.i64.wrap (i+1)))
     else
      Option.map Sum.inr (
       some false)
    else none
   else none
  else
   Option.map Sum.inr (
    some true)
def lW(a:fO)(b:fO):Option Bool:=
 gF (ou a b) 0
instance FR{a:fO}{b:fO}:gP (lW a b) fun rr=>iw Tryz.prog 138 [(gu 1 (gu 1 iD)) a,(gu 1 (gu 1 iD)) b] (bD rr):=⟨@fun rr h=>by
 delta lW at h;refine TE.iu (gr ?_);delta Qa;refine gW ?_;refine jC h [4,5,6,7,8,9,10,11,12,13,14,15,16,17,18,19,20,21] (fun pp=>[(5,.d (iD pp))]) (fun pp=>[]) ?_;rintro i t1 h hb1;unfold ou at h;try dsimp only at h
 refine gr (gW ?_);exact mj⟩
def Qb:gB:=
 (.seq (.gv (sq 4 [mb false])) (.seq (.seq (.gv (sq 5 [mi 0])) (.block 0 (.loop (.seq (.seq (.gv (sq 6 [mv 5,mv 0,ln 7,bn .lss 6 8])) (.cond (t0 9) .skip (.exit 0))) (.seq (.block 1 (.seq (.draw (sq 12 [mv 0,mv 5,ix 1 12 13,ld 14,mv 1,mv 5,ix 1 16 17,ld 18,cf 48 [15,19],nt 20]) [[],[],[0,1],[2],[],[],[4,5],[6],[3,7],[8]]) (.cond (t0 21) (.seq (.draw (sq 22 [mv 0,mv 5,ix 1 22 23,ld 24,mv 1,mv 5,ix 1 26 27,ld 28,cf 46 [25,29]]++sq 4 [mv 30]) [[],[],[0,1],[2],[],[],[4,5],[6],[3,7],[8,8,0,1,2,3,4,5,6,7,8]]) .ret) .skip))) (.gv (sq 10 [mv 5,bi .add 10 1]++sq 5 [mv 11]))))))) (.seq (.gv (sq 4 [mb false])) .ret)))
theorem TF:kG Tryz.prog 139 Qb 31 [.tmp 4]:=mf Tryz.func139 Tryz.ntmps139
def qC(a:fO)(b:fO):Int->Option fS
 |i=>
  if(decide (i<(a.length:Int)))=true then
   if 0<=i/\i<(a.length:Int)then
    if 0<=i/\i<(b.length:Int)then
     (iR (a.getD i.toNat default) (b.getD i.toNat default)).bind fun r=>
     if r=true then
      some (.inl (IntKind.i64.wrap (i+1)))
     else
      if 0<=i/\i<(a.length:Int)then
       if 0<=i/\i<(b.length:Int)then
        (mZ (a.getD i.toNat default) (b.getD i.toNat default)).bind fun r_1=>
        Option.map Sum.inr (
         some r_1)
       else none
      else none
    else none
   else none
  else
   Option.map Sum.inr (
    some false)
def oD(a:fO)(b:fO):Option Bool:=
 gF (qC a b) 0
instance Ki{a:fO}{b:fO}:gP (oD a b) fun rr=>iw Tryz.prog 139 [(gu 1 (gu 1 iD)) a,(gu 1 (gu 1 iD)) b] (bD rr):=⟨@fun rr h=>by
 delta oD at h;refine TF.iu (gr ?_);delta Qb;refine gW ?_;refine jC h [4,5,6,7,8,9,10,11,12,13,14,15,16,17,18,19,20,21,22,23,24,25,26,27,28,29,30] (fun pp=>[(5,.d (iD pp))]) (fun pp=>[]) ?_;rintro i t1 h hb1;unfold qC at h;try dsimp only at h
 refine gr (gW ?_);exact mj⟩
def UO:gB:=
 (.seq (.gv (sq 4 [.mv (.const (.slice none 0 0))])) (.seq (.gv (sq 7 [mv 0,ln 7]++sq 5 [mv 8])) (.seq (.block 0 (.loop (.seq (.seq (.gv (sq 9 [mv 5,bi .gtr 9 0])) (.cond (t0 10) .skip (.exit 0))) (.block 1 (.seq (.seq (.gv (sq 11 [mv 0,mv 5,bi .sub 12 1,ix 1 11 13,ld 14,mv 1,cf 138 [15,16]])) (.cond (t0 17) (.seq (.gv (sq 18 [mv 0]++sq 4 [mv 18])) .ret) .skip)) (.seq (.seq (.gv (sq 19 [mv 1,mv 0,mv 5,bi .sub 21 1,ix 1 20 22,ld 23,cf 139 [19,24],nt 25])) (.cond (t0 26) (.exit 0) .skip)) (.gv (sq 27 [mv 5,bi .sub 27 1]++sq 5 [mv 28])))))))) (.seq (.gv (sq 29 [.mW 29 45 1 [],mv 0,mv 5,.slc (t0 30) 1 none (some (t0 31)) none,ap 33 45 1 24 29 32]++sq 6 [mv 33])) (.seq (.gv (sq 34 [mv 6,mv 1,.mW 36 45 1 [(t0 35)],ap 37 45 1 24 34 36]++sq 6 [mv 37])) (.seq (.gv (sq 38 [mv 6,mv 0,mv 5,.slc (t0 39) 1 (some (t0 40)) none none,ap 42 45 1 24 38 41]++sq 4 [mv 42])) .ret))))))
theorem Wa:kG Tryz.prog 83 UO 43 [.tmp 4]:=mf Tryz.func83 Tryz.ntmps83
def si(list:fU)(given:fO):Int->Option (Int⊕fU)
 |k=>
  if(decide (0<k))=true then
   if 0<=(IntKind.i64.wrap (k-1))/\(IntKind.i64.wrap (k-1))<(list.length:Int)then
    (lW (list.getD (IntKind.i64.wrap (k-1)).toNat default) given).bind fun r=>
    if r=true then
     Option.map Sum.inr (
      some list)
    else
     if 0<=(IntKind.i64.wrap (k-1))/\(IntKind.i64.wrap (k-1))<(list.length:Int)then
      (oD given (list.getD (IntKind.i64.wrap (k-1)).toNat default)).bind fun r_1=>
      if r_1=true then
       some (.inl (IntKind.i64.wrap (k-1)))
      else
       Option.map Sum.inr (
        if 0<=k/\k<=(list.length:Int)then
         if(0+(list.take k.toNat).length)*24<=140737488355328 then
          if((list.take k.toNat).length+1)*24<=140737488355328 then
           if 0<=k/\k<=(list.length:Int)then
            if(((list.take k.toNat)++[given]).length+(list.drop k.toNat).length)*24<=140737488355328 then
             some (((list.take k.toNat)++[given])++(list.drop k.toNat))
            else none
           else none
          else none
         else none
        else none)
     else none
   else none
  else
   Option.map Sum.inr (
    if 0<=k/\k<=(list.length:Int)then
     if(0+(list.take k.toNat).length)*24<=140737488355328 then
      if((list.take k.toNat).length+1)*24<=140737488355328 then
       if 0<=k/\k<=(list.length:Int)then
        if(((list.take k.toNat)++[given]).length+(list.drop k.toNat).length)*24<=140737488355328 then
         some (((list.take k.toNat)++[given])++(list.drop k.toNat))
        else none
       else none
      else none
     else none
    else none)
def mA(list:fU)(given:fO):Option fU:=
 gF (si list given) (list.length:Int)
instance Nk{list:fU}{given:fO}:gP (mA list given) fun rr=>iw Tryz.prog 83 [(gu 1 (gu 1 (gu 1 iD))) list,(gu 1 (gu 1 iD)) given] ((gu 1 (gu 1 (gu 1 iD))) rr):=⟨@fun rr h=>by
 delta mA at h;refine Wa.iu (gr ?_);delta UO;refine gW ?_;refine jC h [4,5,9,10,11,12,13,14,15,16,17,18,19,20,21,22,23,24,25,26,27,28] (fun pp=>[(5,.d (iD pp))]) (fun pp=>[]) ?_;rintro k t1 h hb1;unfold si at h;try dsimp only at h
 refine gr (gW ?_);exact mj⟩
def ux:gB:=
 (.seq (.gv (sq 6 [.mv (.const (.slice none 0 0))])) (.seq (.gv (sq 8 [.wN 8 22 1 [],mv 0,ap 10 22 1 24 8 9]++sq 7 [mv 10])) (.seq (.gv (sq 11 [mv 7,mv 1,mv 2,ix 1 11 12]++s0 (sr 1 14 13))) (.seq (.gv (sq 15 [mv 7]++sq 6 [mv 15])) .ret))))
theorem yq:kG Tryz.prog 135 ux 16 [.tmp 6]:=mf Tryz.func135 Tryz.ntmps135
def nW(given:fO)(v:Int)(t:fN):Option fO:=
 if(0+given.length)*24<=140737488355328 then
  if 0<=v/\v<(given.length:Int)then
   some (given.set v.toNat t)
  else none
 else none
instance KU{given:fO}{v:Int}{t:fN}:gP (nW given v t) fun rr=>iw Tryz.prog 135 [(gu 1 (gu 1 iD)) given,iD v,(gu 1 iD) t] ((gu 1 (gu 1 iD)) rr):=⟨@fun rr h=>by
 delta nW at h;refine yq.U3 (gr ?_);delta ux;refine gW ?_;refine iC h fun hp h=>?_
 refine iC h fun hp h=>?_
 refine yf ?_;cases h;exact⟨_,_,(gN.fz 8 (gu 1 iD) rfl (given.set v.toNat t)),zN⟩⟩
def Qt:gB:=
 (.seq (.gv (sq 4 [.mv (.const (.slice none 0 0))])) (.seq (.draw (sq 5 [.mW 5 22 1 [],mv 0,mv 1,.slc (t0 6) 1 none (some (t0 7)) none,ap 9 22 1 24 5 8,mv 0,mv 1,bi .add 11 1,.slc (t0 10) 1 (some (t0 12)) none none,ap 14 22 1 24 9 13]++sq 4 [mv 14]) [[],[],[],[1,2],[0,3],[],[],[6],[5,7],[4,8,4],[9,9,0,1,2,3,4,5,6,7,8,9]]) .ret))
theorem TZ:kG Tryz.prog 173 Qt 15 [.tmp 4]:=mf Tryz.func173 Tryz.ntmps173
def mO(list:fO)(nF:Int):Option fO:=
 if 0<=nF/\nF<=(list.length:Int)then
  if(0+(list.take nF.toNat).length)*24<=140737488355328 then
   if 0<=(IntKind.i64.wrap (nF+1))/\(IntKind.i64.wrap (nF+1))<=(list.length:Int)then
    if((list.take nF.toNat).length+(list.drop (IntKind.i64.wrap (nF+1)).toNat).length)*24<=140737488355328 then
     some ((list.take nF.toNat)++(list.drop (IntKind.i64.wrap (nF+1)).toNat))
    else none
   else none
  else none
 else none
instance KV{list:fO}{nF:Int}:gP (mO list nF) fun rr=>iw Tryz.prog 173 [(gu 1 (gu 1 iD)) list,iD nF] ((gu 1 (gu 1 iD)) rr):=⟨@fun rr h=>by
 delta mO at h;refine TZ.iu (gr ?_);delta Qt;refine gW ?_;exact mj⟩
def Qq:gB:=
 (.seq (.gv (sq 4 [mi 0])) (.seq (.seq (.gv (sq 5 [mi 0])) (.block 0 (.loop (.seq (.seq (.gv (sq 6 [mv 5,mv 0,ln 7,bn .lss 6 8])) (.cond (t0 9) .skip (.exit 0))) (.seq (.block 1 (.seq (.gv (sq 12 [mv 0,mv 5,ix 1 12 13,ld 14,mv 1,cf 48 [15,16]])) (.cond (t0 17) (.seq (.gv (sq 18 [mv 5]++sq 4 [mv 18])) .ret) .skip))) (.gv (sq 10 [mv 5,bi .add 10 1]++sq 5 [mv 11]))))))) (.seq (.gv (sq 4 [mi (-1)])) .ret)))
theorem TV:kG Tryz.prog 162 Qq 19 [.tmp 4]:=mf Tryz.func162 Tryz.ntmps162
def oR(list:fO)(t:fN):Int->Option (Int⊕Int)
 |i=>
  if(decide (i<(list.length:Int)))=true then
   if 0<=i/\i<(list.length:Int)then
    (iR (list.getD i.toNat default) t).bind fun r=>
    if r=true then
     Option.map Sum.inr (
      some i)
    else
     some (.inl (IntKind.i64.wrap (i+1)))
   else none
  else
   Option.map Sum.inr (
    some (-1))
def mN(list:fO)(t:fN):Option Int:=
 gF (oR list t) 0
instance Ge{list:fO}{t:fN}:gP (mN list t) fun rr=>iw Tryz.prog 162 [(gu 1 (gu 1 iD)) list,(gu 1 iD) t] (iD rr):=⟨@fun rr h=>by
 delta mN at h;refine TV.iu (gr ?_);delta Qq;refine gW ?_;refine jC h [4,5,6,7,8,9,10,11,12,13,14,15,16,17,18] (fun pp=>[(5,.d (iD pp))]) (fun pp=>[]) ?_;rintro i t1 h hb1;unfold oR at h;try dsimp only at h
 refine gr (gW ?_);exact mj⟩
def Qu:gB:=
 (.seq (.gv (sq 4 [.mv (.const (.slice none 0 0)),mb false])) (.seq (.seq (.gv (sq 6 [mi 0])) (.block 0 (.loop (.seq (.seq (.gv (sq 8 [mv 6,mv 1,ln 9,bn .lss 8 10])) (.cond (t0 11) .skip (.exit 0))) (.seq (.block 1 (.seq (.gv (sq 14 [mv 0,mv 1,mv 6,ix 1 15 16,ld 17,cf 162 [14,18]]++sq 7 [mv 19])) (.seq (.seq (.gv (sq 20 [mv 7,bi .lss 20 0])) (.cond (t0 21) (.seq (.gv (sq 22 [mv 0]++sq 4 [mv 22,mb false])) .ret) .skip)) (.gv (sq 23 [mv 0,mv 7,cf 173 [23,24]]++sq 0 [mv 25]))))) (.gv (sq 12 [mv 6,bi .add 12 1]++sq 6 [mv 13]))))))) (.seq (.gv (sq 26 [mv 0]++sq 4 [mv 26,mb true])) .ret)))
theorem T0:kG Tryz.prog 174 Qu 27 [.tmp 4,.tmp 5]:=mf Tryz.func174 Tryz.ntmps174
def rF(gone:fO):fZ->Option (fZ⊕(fO×Bool))
 |(list_1,i)=>
  if(decide (i<(gone.length:Int)))=true then
   if 0<=i/\i<(gone.length:Int)then
    (mN list_1 (gone.getD i.toNat default)).bind fun r=>
    if(decide (r<0))=true then
     Option.map Sum.inr (
      some (list_1,false))
    else
     (mO list_1 r).bind fun r_1=>
     some (.inl (r_1,(IntKind.i64.wrap (i+1))))
   else none
  else
   Option.map Sum.inr (
    some (list_1,true))
def pG(list:fO)(gone:fO):Option (fO×Bool):=
 gF (rF gone) (list,0)
instance KW{list:fO}{gone:fO}:gP (pG list gone) fun rr=>rW Tryz.prog 174 [(gu 1 (gu 1 iD)) list,(gu 1 (gu 1 iD)) gone] [(gu 1 (gu 1 iD)) rr.1,bD rr.2]:=⟨@fun rr h=>by
 delta pG at h;refine T0.uA (gr ?_);delta Qu;refine gW ?_;refine jC h [0,4,5,6,7,8,9,10,11,12,13,14,15,16,17,18,19,20,21,22,23,24,25] (fun pp=>[(0,.d (gu 1 (gu 1 iD) pp.1)),(6,.d (iD pp.2))]) (fun pp=>[]) ?_;rintro⟨list_1,i⟩ t1 h hb1;unfold rF at h;try dsimp only at h
 refine gr (gW ?_);exact mj⟩
def UP:gB:=
 (.seq (.gv (sq 2 [.mv (.const (.slice none 0 0))])) (.seq (.gv (sq 5 [.mW 5 22 1 []]++sq 3 [mv 5])) (.seq (.seq (.gv (sq 4 [mi 0])) (.block 0 (.loop (.seq (.seq (.gv (sq 6 [mv 4,mv 0,ln 7,bn .lss 6 8])) (.cond (t0 9) .skip (.exit 0))) (.seq (.block 1 (.seq (.gv (sq 12 [mv 0,mv 4,ix 1 12 13,ld 14,ln 15,bi .eql 16 0])) (.cond (t0 17) (.gv (sq 18 [mv 3,mv 4,.bin .sub (i0 (-1)) (t0 19),.mW 21 2 1 [(t0 20)],.mW 22 22 1 [(t0 21)],ap 23 22 1 24 18 22]++sq 3 [mv 23])) (.gv (sq 24 [mv 3,mv 0,mv 4,ix 1 25 26,ld 27,.mW 29 22 1 [(t0 28)],ap 30 22 1 24 24 29]++sq 3 [mv 30]))))) (.gv (sq 10 [mv 4,bi .add 10 1]++sq 4 [mv 11]))))))) (.seq (.gv (sq 31 [mv 3]++sq 2 [mv 31])) .ret))))
theorem Wb:kG Tryz.prog 84 UP 32 [.tmp 2]:=mf Tryz.func84 Tryz.ntmps84
def qE(given:fO):fZ->Option (fZ⊕fO)
 |(out,i)=>
  if(decide (i<(given.length:Int)))=true then
   if 0<=i/\i<(given.length:Int)then
    if(((given.getD i.toNat default).length:Int)==0)=true then
     if(out.length+1)*24<=140737488355328 then
      some (.inl ((out++[[(IntKind.i64.wrap ((-1)-i))]]),(IntKind.i64.wrap (i+1))))
     else none
    else
     if 0<=i/\i<(given.length:Int)then
      if(out.length+1)*24<=140737488355328 then
       some (.inl ((out++[(given.getD i.toNat default)]),(IntKind.i64.wrap (i+1))))
      else none
     else none
   else none
  else
   Option.map Sum.inr (
    some out)
def oF(given:fO):Option fO:=
 gF (qE given) ([],0)
instance Kk{given:fO}:gP (oF given) fun rr=>iw Tryz.prog 84 [(gu 1 (gu 1 iD)) given] ((gu 1 (gu 1 iD)) rr):=⟨@fun rr h=>by
 delta oF at h;refine Wb.iu (gr ?_);delta UP;refine gW ?_;refine jC h [3,4,6,7,8,9,10,11,12,13,14,15,16,17,18,19,20,21,22,23,24,25,26,27,28,29,30] (fun pp=>[(3,.own 1 5 (List.map (gu 1 iD) pp.1)),(4,.d (iD pp.2))]) (fun pp=>[(5,.tok 22 1 pp.1.length)]) ?_;rintro⟨out,i⟩ t1 h hb1;unfold qE at h;try dsimp only at h
 refine gr (gW ?_);refine iT h fun hc h=>?_
 refine iC h fun hp h=>?_
 refine it h (fun hc h=>?_) fun hc h=>?_
 ·refine iC h fun hp h=>?_
  cases h;refine⟨_,rfl,?_⟩;refine(gM.drop 21 gq).trans ?_;refine(gM.drop 22 gq).trans ?_;exact wk
 refine iC h fun hp h=>?_
 refine iC h fun hp h=>?_
 cases h;refine⟨_,rfl,?_⟩;refine(gM.drop 29 gq).trans ?_;exact wk⟩
def PV:gB:=
 (.seq (.gv (sq 3 [bo 3 27 0]++sq 6 [.mv (.const (.slice none 0 0))])) (.seq (.gv (sq 9 [.mW 9 22 1 []]++sq 7 [mv 9])) (.seq (.seq (.gv (sq 8 [mi 0])) (.block 0 (.loop (.seq (.seq (.gv (sq 10 [mv 8,mv 2,ln 11,bn .lss 10 12])) (.cond (t0 13) .skip (.exit 0))) (.seq (.block 1 (.draw (sq 16 [mv 7,la 1 3,mv 1,mv 2,mv 8,ix 1 19 20,ld 21,cf 62 [17,18,22],cf 160 [16,23]]++sq 7 [mv 24]) [[],[],[],[],[],[3,4],[5],[1,2,6],[0,7,7],[8,8,0,1,2,3,4,5,6,7,8]])) (.gv (sq 14 [mv 8,bi .add 14 1]++sq 8 [mv 15]))))))) (.seq (.gv (sq 25 [mv 7]++sq 6 [mv 25])) .ret))))
theorem Tq:kG Tryz.prog 109 PV 26 [.tmp 6]:=mf Tryz.func109 Tryz.ntmps109
def pZ(rec:fN->fN->fN->Option fN)(sig:fN)(ac:fN)(parts:fO):fZ->Option (fZ⊕fO)
 |(out,i)=>
  if(decide (i<(parts.length:Int)))=true then
   if 0<=i/\i<(parts.length:Int)then
    (rec sig ac (parts.getD i.toNat default)).bind fun r=>
    (nZ out r).bind fun r_1=>
    some (.inl (r_1,(IntKind.i64.wrap (i+1))))
   else none
  else
   Option.map Sum.inr (
    some out)
def n_(rec:fN->fN->fN->Option fN)(sig:fN)(ac:fN)(parts:fO):Option fO:=
 gF (pZ rec sig ac parts) ([],0)
instance I5{rec:fN->fN->fN->Option fN}[ih:∀{sig:fN}{ac:fN}{t:fN},gP (rec sig ac t) fun rr=>iw Tryz.prog 62 [gE sig,(gu 1 iD) ac,(gu 1 iD) t] ((gu 1 iD) rr)]{sig:fN}{ac:fN}{parts:fO}:gP (n_ rec sig ac parts) fun rr=>iw Tryz.prog 109 [gE sig,(gu 1 iD) ac,(gu 1 (gu 1 iD)) parts] ((gu 1 (gu 1 iD)) rr):=⟨@fun rr h=>by
 delta n_ at h;refine Tq.iu (gr ?_);delta PV;refine gW ?_;refine jC h [7,8,10,11,12,13,14,15,16,17,18,19,20,21,22,23,24] (fun pp=>[(7,.d (gu 1 (gu 1 iD) pp.1)),(8,.d (iD pp.2))]) (fun pp=>[(3,.obj 27 [.d (gu 1 iD sig)]),(9,.tok 22 1 0)]) ?_;rintro⟨out,i⟩ t1 h hb1;unfold pZ at h;try dsimp only at h
 refine gr (gW ?_);exact mj⟩
def UE:gB:=
 (.seq (.gv (sq 3 [bo 3 27 0]++sq 6 [.mv (.const (.slice none 0 0))])) (.seq (.seq (.gv (sq 10 [mv 1,mv 2,.qj 1 (t0 11) (i0 0),ld 12,cf 107 [10,13]])) (.cond (t0 14) (.seq (.draw (sq 15 [mv 2,.qj 1 (t0 15) (i0 0),ld 16,la 1 3,mv 1,la 1 3,mv 2,.qj 1 (t0 21) (i0 0),ld 22,mv 2,.iy 110 [(t0 20),(t0 23),(t0 24),(i0 0)],cf 109 [18,19,25],cf 108 [17,26]]++sq 6 [mv 27]) [[],[0],[1],[],[],[],[],[6],[7],[],[5,8,9],[3,4,10,10],[2,11,11],[12,12,0,1,2,3,4,5,6,7,8,9,10,11,12]]) .ret) .skip)) (.seq (.gv (sq 28 [mv 2,.qj 1 (t0 28) (i0 0),ld 29,.mW 31 2 1 [(t0 30)]]++sq 7 [mv 31])) (.seq (.gv (sq 32 [la 1 3,mv 2,.iy 111 [(t0 32),(t0 33),(i0 0)]]++sq 8 [mv 34])) (.seq (.seq (.gv (sq 9 [mi 0])) (.block 0 (.loop (.seq (.seq (.gv (sq 35 [mv 9,mv 8,ln 36,bn .lss 35 37])) (.cond (t0 38) .skip (.exit 0))) (.seq (.block 1 (.draw (sq 41 [mv 7,la 1 3,mv 1,la 1 3,mv 2,mv 8,mv 9,ix 1 46 47,ld 48,cf 112 [44,45,49],cf 62 [42,43,50],ap 52 2 1 8 41 51]++sq 7 [mv 52]) [[],[],[],[],[],[],[],[5,6],[7],[3,4,8],[1,2,9,9],[0,10,10],[11,11,0,1,2,3,4,5,6,7,8,9,10,11]])) (.gv (sq 39 [mv 9,bi .add 39 1]++sq 9 [mv 40]))))))) (.seq (.gv (sq 53 [mv 7]++sq 6 [mv 53])) .ret))))))
theorem VZ:kG Tryz.prog 62 UE 54 [.tmp 6]:=mf Tryz.func62 Tryz.ntmps62
def rE(rec:fN->fN->fN->Option fN)(sig:fN)(ac:fN)(t:fN)(r_4:fN):fT->Option (fT⊕fN)
 |(out,i)=>
  if(decide (i<(r_4.length:Int)))=true then
   if 0<=i/\i<(r_4.length:Int)then
    (iQ sig t (r_4.getD i.toNat default)).bind fun r_5=>
    (rec sig ac r_5).bind fun r_6=>
    if(out.length+r_6.length)*8<=140737488355328 then
     some (.inl ((out++r_6),(IntKind.i64.wrap (i+1))))
    else none
   else none
  else
   Option.map Sum.inr (
    some out)
def j_:Nat->fN->fN->fN->Option fN
 |0,_,_,_=>none
 |fu+1,sig,ac,t=>
  if 0<=0/\0<(t.length:Int)then
   (kP ac (t.getD 0 default)).bind fun r=>
   if r=true then
    if 0<=0/\0<(t.length:Int)then
     if 0<=0/\0<(t.length:Int)then
      (jL sig (t.getD 0 default) t 0).bind fun r_1=>
      (n_ (j_ fu) sig ac r_1).bind fun r_2=>
      (oE (t.getD 0 default) r_2).bind fun r_3=>
      some r_3
     else none
    else none
   else
    if 0<=0/\0<(t.length:Int)then
     (jg sig t 0).bind fun r_4=>
     gF (rE (j_ fu) sig ac t r_4) ([(t.getD 0 default)],0)
    else none
  else none
def mP(sig:fN)(ac:fN)(t:fN):Option fN:=yz fun fu=>j_ fu sig ac t
theorem wO:∀{fu:Nat}{sig:fN}{ac:fN}{t:fN}{rr:fN}(h:j_ fu sig ac t=some rr),iw Tryz.prog 62 [gE sig,(gu 1 iD) ac,(gu 1 iD) t] ((gu 1 iD) rr)
 |0,_,_,_,_,h=>by cases h
 |fu+1,sig,ac,t,rr,h=>by
  have ih:∀{sig:fN}{ac:fN}{t:fN},gP (j_ fu sig ac t) fun rr=>iw Tryz.prog 62 [gE sig,(gu 1 iD) ac,(gu 1 iD) t] ((gu 1 iD) rr):=⟨fun h=>wO h⟩
  unfold j_ at h;refine VZ.iu (gr ?_);delta UE;refine gW ?_;refine iC h fun hp h=>?_
  refine rC h fun r hr h=>?_
  refine iF h fun hc h=>?_
  refine iC h fun hp h=>?_
  refine rC h fun r_4 hr_4 h=>?_
  refine jC h [7,9,35,36,37,38,39,40,41,42,43,44,45,46,47,48,49,50,51,52] (fun pp=>[(7,.own 1 31 (List.map iD pp.1)),(9,.d (iD pp.2))]) (fun pp=>[(3,.obj 27 [.d (gu 1 iD sig)]),(31,.tok 2 1 pp.1.length)]) ?_;rintro⟨out,i⟩ t1 h hb1;unfold rE at h;try dsimp only at h
  refine gr (gW ?_);exact mj
instance Gg{sig:fN}{ac:fN}{t:fN}:gP (mP sig ac t) fun rr=>iw Tryz.prog 62 [gE sig,(gu 1 iD) ac,(gu 1 iD) t] ((gu 1 iD) rr):=⟨fun h=>wO (ng h).choose_spec⟩
end Go.Proofs.YthdnkoejpdcnpaaGreat
