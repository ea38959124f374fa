/- A part of the proof about FnAcNormal and about FnAcSteps (A1, A2, A3). -/
import Derived.Test.YthdnkoejpdcnpaaGreatNad
set_option linter.all false
noncomputable section
namespace Go.Proofs.YthdnkoejpdcnpaaGreat
open Go kI
attribute [local irreducible] sO uf uc lu kf pG iV xm xQ wz xP wu pY kr lq xO ia jN
set_option maxHeartbeats 4000000
set_option maxRecDepth 4000
def jo(x:fR):D:=.agg [(gE 1 iD) x.1,(gE 1 iD) x.2]
instance:yG jo 2:=⟨fun _=>rfl⟩
attribute [go_sem] jo
def X_:gH:=
 (.seq (.gD (sq 2 [bo 2 27 0]++sq 4 [mb false])) (.seq (.seq (.gD (sq 7 [la 1 2,cf 88 [7],nt 8])) (.cond (t0 9) (.seq (.gD (sq 4 [mb false])) .ret) .skip)) (.seq (.seq (.gD (sq 10 [mv 1,ln 10,mi 0])) (.block 0 (.loop (.seq (.gD (sq 13 [bn .lss 12 11])) (.seq (.cond (t0 13) .skip (.exit 0)) (.seq (.block 1 (.seq (.gD (sq 14 [mv 12,ix 1 10 12,ld 15]++sq 5 [mv 14,mv 16])) (.seq (.gD (sq 17 [mv 6,bi .lss 17 0,mv 18]++sg 19 false 20 [mv 6,fa 0 2,ld 21,ln 22,bn .geq 20 23]++sq 25 [po 19 24,mv 25]++sg 26 false 27 [fa 0 2,ld 27,mv 6,ix 1 28 29,ld 30,bi .neq 31 2]++sq 33 [po 26 32,mv 33]++sg 34 false 35 [mv 5,bi .gtr 35 0,mv 36]++sg 37 true 38 [mv 6,mv 1,mv 5,bi .sub 40 1,ix 1 39 41,ld 42,bn .leq 38 43]++sg 34 false 45 [pa 37 44]++sq 46 [po 34 45])) (.cond (t0 46) (.seq (.gD (sq 4 [mb false])) .ret) .skip)))) (.gD (sq 47 [bi .add 12 1]++sq 12 [mv 47])))))))) (.seq (.gD (sq 4 [mb true])) .ret))))
theorem ZC:jT Tryz.prog 87 X_ 48 [.tmp 4]:=mf Tryz.func87 Tryz.ntmps87
def qv(sig:fP)(ac:fP):Int->Option fT
 |v12=>
  if(decide (v12<(ac.length:Int)))=true then
   if 0<=v12/\v12<(ac.length:Int)then
    if(decide ((ac.getD v12.toNat default)<0))=true then
     Option.map Sum.inr (
      some false)
    else
     if(decide ((sig.length:Int)<=(ac.getD v12.toNat default)))=true then
      Option.map Sum.inr (
       some false)
     else
      if 0<=(ac.getD v12.toNat default)/\(ac.getD v12.toNat default)<(sig.length:Int)then
       if((sig.getD (ac.getD v12.toNat default).toNat default) != 2)=true then
        Option.map Sum.inr (
         some false)
       else
        if(decide (0<v12))=true then
         if 0<=(IntKind.i64.wrap (v12-1))/\(IntKind.i64.wrap (v12-1))<(ac.length:Int)then
          if(decide ((ac.getD v12.toNat default)<=(ac.getD (IntKind.i64.wrap (v12-1)).toNat default)))=true then
           Option.map Sum.inr (
            some false)
          else
           some (.inl (IntKind.i64.wrap (v12+1)))
         else none
        else
         some (.inl (IntKind.i64.wrap (v12+1)))
      else none
   else none
  else
   Option.map Sum.inr (
    some true)
def uI(sig:fP)(ac:fP):Option Bool:=
 (pJ sig).bind fun r=>
 if r=true then
  gK (qv sig ac) 0
 else
  some false
instance R1{sig:fP}{ac:fP}:gW (uI sig ac) fun rr=>iC Tryz.prog 87 [gQ sig,(gE 1 iD) ac] (bD rr):=⟨@fun rr h=>by
 delta uI at h;refine ZC.iA (gC ?_);delta X_;refine g_ ?_;refine rC h fun r hr h=>?_
 refine iT h fun hc h=>?_
 refine jk h [4,5,6,12,13,14,15,16,17,18,19,20,21,22,23,24,25,26,27,28,29,30,31,32,33,34,35,36,37,38,39,40,41,42,43,44,45,46,47] (fun pp=>[(12,.d (iD pp))]) (fun pp=>[(2,.obj 27 [.d (gE 1 iD sig)])]) ?_;rintro v12 t1 h hb1;unfold qv at h;try dsimp only at h
 refine gC (g_ ?_);exact mm⟩
def SN:gH:=
 (.seq (.gD (sq 4 [mb false])) (.seq (.seq (.gD (sq 5 [mi 0])) (.block 0 (.loop (.seq (.seq (.gD (sq 6 [mv 5,mv 0,ln 7,bn .lss 6 8])) (.cond (t0 9) .skip (.exit 0))) (.seq (.block 1 (.seq (.draw (sq 12 [mv 0,mv 5,ix 1 12 13,ld 14,mv 1,bi .sub 16 1,.iw 66 [(t0 15),(i0 0),(t0 17)],nt 18,mv 19]++sg 20 false 21 [mv 5,bi .gtr 21 0,mv 22]++sg 23 true 24 [mv 0,mv 5,ix 1 24 25,ld 26,mv 0,mv 5,bi .sub 29 1,ix 1 28 30,ld 31,bn .leq 27 32]++sg 20 false 34 [pa 23 33]++sq 35 [po 20 34]) [[],[],[0,1],[2],[],[4],[3,5],[6],[7,6],[8],[9,8],[10,8,8],[11],[11],[12,13,11],[14,11],[11],[11],[17,11],[16,18,11],[19,11],[15,20,11],[11,21,8],[8,22]]) (.cond (t0 35) (.seq (.gD (sq 4 [mb false])) .ret) .skip))) (.gD (sq 10 [mv 5,bi .add 10 1]++sq 5 [mv 11]))))))) (.seq (.gD (sq 4 [mb true])) .ret)))
theorem Ww:jT Tryz.prog 134 SN 36 [.tmp 4]:=mf Tryz.func134 Tryz.ntmps134
def oU(s:fP)(n:Int):Int->Option fT
 |i=>
  if(decide (i<(s.length:Int)))=true then
   if 0<=i/\i<(s.length:Int)then
    (mR (s.getD i.toNat default) 0 (IntKind.i64.wrap (n-1))).bind fun r=>
    if r=true then
     if(decide (0<i))=true then
      if 0<=i/\i<(s.length:Int)then
       if 0<=(IntKind.i64.wrap (i-1))/\(IntKind.i64.wrap (i-1))<(s.length:Int)then
        if(decide ((s.getD i.toNat default)<=(s.getD (IntKind.i64.wrap (i-1)).toNat default)))=true then
         Option.map Sum.inr (
          some false)
        else
         some (.inl (IntKind.i64.wrap (i+1)))
       else none
      else none
     else
      some (.inl (IntKind.i64.wrap (i+1)))
    else
     Option.map Sum.inr (
      some false)
   else none
  else
   Option.map Sum.inr (
    some true)
def rN(s:fP)(n:Int):Option Bool:=
 gK (oU s n) 0
instance PM{s:fP}{n:Int}:gW (rN s n) fun rr=>iC Tryz.prog 134 [(gE 1 iD) s,iD n] (bD rr):=⟨@fun rr h=>by
 delta rN at h;refine Ww.iA (gC ?_);delta SN;refine g_ ?_;refine jk h [4,5,6,7,8,9,10,11,12,13,14,15,16,17,18,19,20,21,22,23,24,25,26,27,28,29,30,31,32,33,34,35] (fun pp=>[(5,.d (iD pp))]) (fun pp=>[]) ?_;rintro i t1 h hb1;unfold oU at h;try dsimp only at h
 refine gC (g_ ?_);exact mm⟩
def X3:gH:=
 (.seq (.gD (sq 2 [bo 2 27 0]++sq 4 [mb false])) (.seq (.seq (.gD (sq 6 [la 1 2,cf 104 [6],nt 7,mv 8]++sg 9 false 10 [mv 1,fa 0 2,ld 11,ln 12,cf 134 [10,13],nt 14]++sq 16 [po 9 15])) (.cond (t0 16) (.seq (.gD (sq 4 [mb false])) .ret) .skip)) (.seq (.seq (.gD (sq 5 [mi 0])) (.block 0 (.loop (.seq (.seq (.gD (sq 17 [mv 5,mv 1,ln 18,bn .lss 17 19])) (.cond (t0 20) .skip (.exit 0))) (.seq (.block 1 (.seq (.draw (sq 23 [fa 0 2,ld 23,mv 1,mv 5,ix 1 25 26,ld 27,ix 1 24 28,ld 29,bi .neq 30 2]) [[],[0],[],[],[2,3],[4],[1,5],[6],[7]]) (.cond (t0 31) (.seq (.gD (sq 4 [mb false])) .ret) .skip))) (.gD (sq 21 [mv 5,bi .add 21 1]++sq 5 [mv 22]))))))) (.seq (.gD (sq 4 [mb true])) .ret))))
theorem Zv:jT Tryz.prog 80 X3 32 [.tmp 4]:=mf Tryz.func80 Tryz.ntmps80
def qy(sig:fP)(ac:fP):Int->Option fT
 |i=>
  if(decide (i<(ac.length:Int)))=true then
   if 0<=i/\i<(ac.length:Int)then
    if 0<=(ac.getD i.toNat default)/\(ac.getD i.toNat default)<(sig.length:Int)then
     if((sig.getD (ac.getD i.toNat default).toNat default) != 2)=true then
      Option.map Sum.inr (
       some false)
     else
      some (.inl (IntKind.i64.wrap (i+1)))
    else none
   else none
  else
   Option.map Sum.inr (
    some true)
def uK(sig:fP)(ac:fP):Option Bool:=
 (oz sig).bind fun r=>
 if r=true then
  (rN ac (sig.length:Int)).bind fun r_1=>
  if r_1=true then
   gK (qy sig ac) 0
  else
   some false
 else
  some false
instance R4{sig:fP}{ac:fP}:gW (uK sig ac) fun rr=>iC Tryz.prog 80 [gQ sig,(gE 1 iD) ac] (bD rr):=⟨@fun rr h=>by
 delta uK at h;refine Zv.iA (gC ?_);delta X3;refine g_ ?_;refine rC h fun r hr h=>?_
 refine iT h fun hc h=>?_
 refine rC h fun r_1 hr_1 h=>?_
 refine iT h fun hc h=>?_
 refine jk h [4,5,17,18,19,20,21,22,23,24,25,26,27,28,29,30,31] (fun pp=>[(5,.d (iD pp))]) (fun pp=>[(2,.obj 27 [.d (gE 1 iD sig)])]) ?_;rintro i t1 h hb1;unfold qy at h;try dsimp only at h
 refine gC (g_ ?_);exact mm⟩
def SC:gH:=
 (.seq (.gD (sq 2 [bo 2 79 0]++sq 4 [mb false])) (.seq (.gD (sq 5 [fa 1 2,ld 5,mv 1,cf 164 [6,7]]++sq 4 [mv 8])) .ret))
theorem Wl:jT Tryz.prog 120 SC 9 [.tmp 4]:=mf Tryz.func120 Tryz.ntmps120
def kA(x:fR)(n:Int):Option Bool:=
 (iZ x.2 n).bind fun r=>
 some r
instance Ip{x:fR}{n:Int}:gW (kA x n) fun rr=>iC Tryz.prog 120 [jo x,iD n] (bD rr):=⟨@fun rr h=>by
 delta kA at h;refine Wl.iA (gC ?_);delta SC;refine g_ ?_;exact mm⟩
def SV:gH:=
 (.seq (.gD (sq 2 [bo 2 79 0]++sq 4 [.mv (.const (.slice none 0 0))])) (.seq (.gD (sq 5 [.mv (.const (.slice none 0 0))])) (.seq (.seq (.gD (sq 9 [fa 0 2,la 1 9,mv 1,.iw 123 [(t0 10),(t0 11),(i0 0)],ln 12,mi 0])) (.block 0 (.loop (.seq (.gD (sq 15 [bn .lss 14 13])) (.seq (.cond (t0 15) .skip (.exit 0)) (.seq (.block 1 (.seq (.gD (sq 16 [ix 1 12 14,ld 16]++sq 7 [mv 17])) (.seq (.gD (sq 18 [fa 0 2,la 1 18,mv 1,mv 7,cf 124 [19,20,21]]++sq 8 [mv 22])) (.seq (.draw (sq 23 [mv 8,.tD 1 (t0 23) (i0 0),ld 24,mv 1,.tD 1 (t0 26) (i0 0),ld 27,bn .eql 25 28]) [[],[0],[1],[],[3],[4],[2,5]]) (.cond (t0 29) (.gD (sq 30 [mv 5,la 2 2,mv 8,cf 142 [31,32],ap 34 22 1 24 30 33]++sq 5 [mv 34])) (.gD (sq 35 [mv 5,mv 8,.lQ 37 22 1 [(t0 36)],ap 38 22 1 24 35 37]++sq 5 [mv 38]))))))) (.gD (sq 39 [bi .add 14 1]++sq 14 [mv 39])))))))) (.seq (.gD (sq 40 [mv 5]++sq 4 [mv 40])) .ret))))
theorem WD:jT Tryz.prog 142 SV 41 [.tmp 4]:=mf Tryz.func142 Tryz.ntmps142
def pL(rec:fR->fP->Option fQ)(x:fR)(t:fP)(r:fP):f_->Option (f_⊕fQ)
 |(out,v14)=>
  if(decide (v14<(r.length:Int)))=true then
   if 0<=v14/\v14<(r.length:Int)then
    (nr x.1 t (r.getD v14.toNat default)).bind fun r_1=>
    if 0<=0/\0<(r_1.length:Int)then
     if 0<=0/\0<(t.length:Int)then
      if((r_1.getD 0 default)==(t.getD 0 default))=true then
       (rec x r_1).bind fun r_2=>
       if(out.length+r_2.length)*24<=140737488355328 then
        some (.inl ((out++r_2),(IntKind.i64.wrap (v14+1))))
       else none
      else
       if(out.length+1)*24<=140737488355328 then
        some (.inl ((out++[r_1]),(IntKind.i64.wrap (v14+1))))
       else none
     else none
    else none
   else none
  else
   Option.map Sum.inr (
    some out)
def jU:Nat->fR->fP->Option fQ
 |0,_,_=>none
 |fu+1,x,t=>
  (nE x.1 t 0).bind fun r=>
  gK (pL (jU fu) x t r) ([],0)
def ki(x:fR)(t:fP):Option fQ:=Ba fun fu=>jU fu x t
theorem vC:∀{fu:Nat}{x:fR}{t:fP}{rr:fQ}(h:jU fu x t=some rr),iC Tryz.prog 142 [jo x,(gE 1 iD) t] ((gE 1 (gE 1 iD)) rr)
 |0,_,_,_,h=>by cases h
 |fu+1,x,t,rr,h=>by
  have ih:∀{x:fR}{t:fP},gW (jU fu x t) fun rr=>iC Tryz.prog 142 [jo x,(gE 1 iD) t] ((gE 1 (gE 1 iD)) rr):=⟨fun h=>vC h⟩
  unfold jU at h;refine WD.iA (gC ?_);delta SV;refine g_ ?_;refine rC h fun r hr h=>?_
  refine mO h [5,7,8,14,15,16,17,18,19,20,21,22,23,24,25,26,27,28,29,30,31,32,33,34,35,36,37,38,39] (fun pp=>[(5,.own 1 34 (List.map (gE 1 iD) pp.1)),(14,.d (iD pp.2))]) (fun pp=>[(2,.obj 79 [.d (gE 1 iD x.1),.d (gE 1 iD x.2)]),(34,.tok 22 1 pp.1.length)]) ?_ ?_
  ·try dsimp only
   refine(gT.EB 5 34 22 1 rfl rfl).trans ?_;exact wk
  rintro⟨out,v14⟩ t1 h hb1;unfold pL at h;try dsimp only at h
  refine gC (g_ ?_);refine iT h fun hc h=>?_
  refine iU h fun hp h=>?_
  refine rC h fun r_1 hr_1 h=>?_
  refine iU h fun hp h=>?_
  refine iU h fun hp h=>?_
  refine i_ (by kernel_rfl) (g_ ?_);refine iF h fun hc h=>?_
  refine iU h fun hp h=>?_
  cases h;refine⟨_,rfl,?_⟩;refine(gT.drop 37 gB).trans ?_;exact wk
instance ED{x:fR}{t:fP}:gW (ki x t) fun rr=>iC Tryz.prog 142 [jo x,(gE 1 iD) t] ((gE 1 (gE 1 iD)) rr):=⟨fun h=>vC (pq h).choose_spec⟩
def SD:gH:=
 (.seq (.gD (sq 4 [.mv (.const (.slice none 0 0))])) (.seq (.gD (sq 5 [.mv (.const (.slice none 0 0))])) (.seq (.seq (.gD (sq 8 [mv 1,ln 8,mi 0])) (.block 0 (.loop (.seq (.gD (sq 11 [bn .lss 10 9])) (.seq (.cond (t0 11) .skip (.exit 0)) (.seq (.block 1 (.seq (.gD (sq 12 [mv 10,ix 1 8 10,ld 13]++sq 6 [mv 12,mv 14])) (.seq (.seq (.gD (sq 15 [mv 6,mv 1,ln 16,bi .sub 17 1,bn .lss 15 18])) (.cond (t0 19) (.gD (sq 20 [mv 5,mv 0,.lQ 22 2 1 [(t0 21)],ap 23 2 1 8 20 22]++sq 5 [mv 23])) .skip)) (.gD (sq 24 [mv 5,mv 7,ap 26 2 1 8 24 25]++sq 5 [mv 26]))))) (.gD (sq 27 [bi .add 10 1]++sq 10 [mv 27])))))))) (.seq (.gD (sq 28 [mv 5]++sq 4 [mv 28])) .ret))))
theorem Wm:jT Tryz.prog 121 SD 29 [.tmp 4]:=mf Tryz.func121 Tryz.ntmps121
def vj(f:Int)(parts:fQ):gp->Option (gp⊕fP)
 |(out,v10)=>
  if(decide (v10<(parts.length:Int)))=true then
   if 0<=v10/\v10<(parts.length:Int)then
    if(decide (v10<(IntKind.i64.wrap ((parts.length:Int)-1))))=true then
     if(out.length+1)*8<=140737488355328 then
      if((out++[f]).length+(parts.getD v10.toNat default).length)*8<=140737488355328 then
       some (.inl (((out++[f])++(parts.getD v10.toNat default)),(IntKind.i64.wrap (v10+1))))
      else none
     else none
    else
     if(out.length+(parts.getD v10.toNat default).length)*8<=140737488355328 then
      some (.inl ((out++(parts.getD v10.toNat default)),(IntKind.i64.wrap (v10+1))))
     else none
   else none
  else
   Option.map Sum.inr (
    some out)
def tE(f:Int)(parts:fQ):Option fP:=
 gK (vj f parts) ([],0)
instance Qi{f:Int}{parts:fQ}:gW (tE f parts) fun rr=>iC Tryz.prog 121 [iD f,(gE 1 (gE 1 iD)) parts] ((gE 1 iD) rr):=⟨@fun rr h=>by
 delta tE at h;refine Wm.iA (gC ?_);delta SD;refine g_ ?_;refine mO h [5,6,7,10,11,12,13,14,15,16,17,18,19,20,21,22,23,24,25,26,27] (fun pp=>[(5,.own 1 23 (List.map iD pp.1)),(10,.d (iD pp.2))]) (fun pp=>[(23,.tok 2 1 pp.1.length)]) ?_ ?_
 ·try dsimp only
  refine(gT.EB 5 23 2 1 rfl rfl).trans ?_;exact wk
 rintro⟨out,v10⟩ t1 h hb1;unfold vj at h;try dsimp only at h
 refine gC (g_ ?_);refine iT h fun hc h=>?_
 refine iU h fun hp h=>?_
 refine iT h fun hc h=>?_
 refine iU h fun hp h=>?_
 refine iU h fun hp h=>?_
 cases h;refine⟨_,rfl,?_⟩;refine(gT.drop 22 gB).trans ?_;exact wk⟩
def Yd:gH:=
 (.seq (.gD (sq 2 [bo 2 79 0]++sq 4 [mb false])) (.seq (.seq (.gD (sq 7 [mv 1,ln 7,mi 0])) (.block 0 (.loop (.seq (.gD (sq 10 [bn .lss 9 8])) (.seq (.cond (t0 10) .skip (.exit 0)) (.seq (.block 1 (.seq (.gD (sq 11 [mv 9,ix 1 7 9,ld 12]++sq 5 [mv 11,mv 13])) (.seq (.draw (sq 14 [la 2 2,mv 6,cf 120 [14,15],mv 16]++sg 17 true 18 [la 2 2,fa 0 2,la 1 19,mv 1,mv 5,cf 124 [20,21,22],cf 142 [18,23],ln 24,bi .gtr 25 6]++sq 27 [pa 17 26]) [[],[],[0,1],[2,2],[3],[3],[5,3],[3],[3],[6,7,8,3,3],[4,9,9,3],[10,3],[11,3],[3,12]]) (.cond (t0 27) (.seq (.gD (sq 4 [mb true])) .ret) .skip)))) (.gD (sq 28 [bi .add 9 1]++sq 9 [mv 28])))))))) (.seq (.gD (sq 4 [mb false])) .ret)))
theorem ZG:jT Tryz.prog 91 Yd 29 [.tmp 4]:=mf Tryz.func91 Tryz.ntmps91
def k_(x:fR)(t:fP):Int->Option fT
 |v9=>
  if(decide (v9<(t.length:Int)))=true then
   if 0<=v9/\v9<(t.length:Int)then
    (kA x (t.getD v9.toNat default)).bind fun r=>
    if r=true then
     (nr x.1 t v9).bind fun r_1=>
     (ki x r_1).bind fun r_2=>
     if(decide (6<(r_2.length:Int)))=true then
      Option.map Sum.inr (
       some true)
     else
      some (.inl (IntKind.i64.wrap (v9+1)))
    else
     some (.inl (IntKind.i64.wrap (v9+1)))
   else none
  else
   Option.map Sum.inr (
    some false)
def jv(x:fR)(t:fP):Option Bool:=
 gK (k_ x t) 0
instance F8{x:fR}{t:fP}:gW (jv x t) fun rr=>iC Tryz.prog 91 [jo x,(gE 1 iD) t] (bD rr):=⟨@fun rr h=>by
 delta jv at h;refine ZG.iA (gC ?_);delta Yd;refine g_ ?_;refine jk h [4,5,6,9,10,11,12,13,14,15,16,17,18,19,20,21,22,23,24,25,26,27,28] (fun pp=>[(9,.d (iD pp))]) (fun pp=>[(2,.obj 79 [.d (gE 1 iD x.1),.d (gE 1 iD x.2)])]) ?_;rintro v9 t1 h hb1;unfold k_ at h;try dsimp only at h
 refine gC (g_ ?_);exact mm⟩
def S3:gH:=
 (.seq (.gD (sq 4 [mb false])) (.seq (.seq (.gD (sq 6 [mv 0,ln 6,mv 1,ln 8,bn .neq 7 9])) (.cond (t0 10) (.seq (.gD (sq 4 [mb false])) .ret) .skip)) (.seq (.seq (.gD (sq 11 [mv 0,ln 11,mi 0])) (.block 0 (.loop (.seq (.gD (sq 14 [bn .lss 13 12])) (.seq (.cond (t0 14) .skip (.exit 0)) (.seq (.block 1 (.seq (.gD (sq 15 [mv 13]++sq 5 [mv 15])) (.seq (.draw (sq 16 [mv 0,mv 5,ix 1 16 17,ld 18,mv 1,mv 5,ix 1 20 21,ld 22,bn .neq 19 23]) [[],[],[0,1],[2],[],[],[4,5],[6],[3,7]]) (.cond (t0 24) (.seq (.gD (sq 4 [mb false])) .ret) .skip)))) (.gD (sq 25 [bi .add 13 1]++sq 13 [mv 25])))))))) (.seq (.gD (sq 4 [mb true])) .ret))))
theorem WL:jT Tryz.prog 155 S3 26 [.tmp 4]:=mf Tryz.func155 Tryz.ntmps155
def kS(s1:fP)(s2:fP):Int->Option fT
 |v13=>
  if(decide (v13<(s1.length:Int)))=true then
   if 0<=v13/\v13<(s1.length:Int)then
    if 0<=v13/\v13<(s2.length:Int)then
     if((s1.getD v13.toNat default) != (s2.getD v13.toNat default))=true then
      Option.map Sum.inr (
       some false)
     else
      some (.inl (IntKind.i64.wrap (v13+1)))
    else none
   else none
  else
   Option.map Sum.inr (
    some true)
def ig(s1:fP)(s2:fP):Option Bool:=
 if((s1.length:Int) != (s2.length:Int))=true then
  some false
 else
  gK (kS s1 s2) 0
instance De{s1:fP}{s2:fP}:gW (ig s1 s2) fun rr=>iC Tryz.prog 155 [(gE 1 iD) s1,(gE 1 iD) s2] (bD rr):=⟨@fun rr h=>by
 delta ig at h;refine WL.iA (gC ?_);delta S3;refine g_ ?_;refine iF h fun hc h=>?_
 refine jk h [4,5,13,14,15,16,17,18,19,20,21,22,23,24,25] (fun pp=>[(13,.d (iD pp))]) (fun pp=>[]) ?_;rintro v13 t1 h hb1;unfold kS at h;try dsimp only at h
 refine gC (g_ ?_);exact mm⟩
def Tn:gH:=
 (.seq (.gD (sq 4 [.mv (.const (.slice none 0 0)),.mv (.const (.slice none 0 0)),mb false])) (.seq (.seq (.gD (sq 9 [mv 0,ln 9,mi 0])) (.block 0 (.loop (.seq (.gD (sq 12 [bn .lss 11 10])) (.seq (.cond (t0 12) .skip (.exit 0)) (.seq (.block 1 (.seq (.gD (sq 13 [mv 11,ix 1 9 11,ld 14]++sq 7 [mv 13,mv 15])) (.seq (.seq (.gD (sq 16 [mv 1,mv 7,bn .shr 16 17,bi .and 18 1,bi .eql 19 0])) (.cond (t0 20) (.seq (.gD (sq 21 [mv 5,mv 8,.lQ 23 22 1 [(t0 22)],ap 24 22 1 24 21 23]++sq 5 [mv 24])) (.exit 1)) .skip)) (.seq (.seq (.gD (sq 25 [mv 7,bi .gtr 25 0,mv 26]++sg 27 true 28 [mv 1,mv 7,bi .sub 29 1,bn .shr 28 30,bi .and 31 1,bi .eql 32 0]++sq 34 [pa 27 33,mv 34]++sg 35 true 36 [mv 0,mv 7,bi .sub 37 1,ix 1 36 38,ld 39,mv 8,cf 155 [40,41]]++sq 43 [pa 35 42])) (.cond (t0 43) (.seq (.gD (sq 4 [.mv (.const (.slice none 0 0)),.mv (.const (.slice none 0 0)),mb false])) .ret) .skip)) (.gD (sq 44 [mv 4,mv 8,.lQ 46 22 1 [(t0 45)],ap 47 22 1 24 44 46]++sq 4 [mv 47])))))) (.gD (sq 48 [bi .add 11 1]++sq 11 [mv 48])))))))) (.seq (.gD (sq 49 [mv 4,mv 5]++sq 4 [mv 49,mv 50,mb true])) .ret)))
theorem W6:jT Tryz.prog 178 Tn 51 [.tmp 4,.tmp 5,.tmp 6]:=mf Tryz.func178 Tryz.ntmps178
def tF(ts:fQ)(mask:Int):gA->Option (gA⊕(fQ×fQ×Bool))
 |(own,rest,v11)=>
  if(decide (v11<(ts.length:Int)))=true then
   if 0<=v11/\v11<(ts.length:Int)then
    if 0<=v11 then
     if((zW .i64 (Bn .i64 mask v11) 1)==0)=true then
      if(rest.length+1)*24<=140737488355328 then
       some (.inl (own,(rest++[(ts.getD v11.toNat default)]),(IntKind.i64.wrap (v11+1))))
      else none
     else
      if(decide (0<v11))=true then
       if 0<=(IntKind.i64.wrap (v11-1))then
        if((zW .i64 (Bn .i64 mask (IntKind.i64.wrap (v11-1))) 1)==0)=true then
         if 0<=(IntKind.i64.wrap (v11-1))/\(IntKind.i64.wrap (v11-1))<(ts.length:Int)then
          (ig (ts.getD (IntKind.i64.wrap (v11-1)).toNat default) (ts.getD v11.toNat default)).bind fun r=>
          if r=true then
           Option.map Sum.inr (
            some ([],[],false))
          else
           if(own.length+1)*24<=140737488355328 then
            some (.inl ((own++[(ts.getD v11.toNat default)]),rest,(IntKind.i64.wrap (v11+1))))
           else none
         else none
        else
         if(own.length+1)*24<=140737488355328 then
          some (.inl ((own++[(ts.getD v11.toNat default)]),rest,(IntKind.i64.wrap (v11+1))))
         else none
       else none
      else
       if(own.length+1)*24<=140737488355328 then
        some (.inl ((own++[(ts.getD v11.toNat default)]),rest,(IntKind.i64.wrap (v11+1))))
       else none
    else none
   else none
  else
   Option.map Sum.inr (
    some (own,rest,true))
def qw(ts:fQ)(mask:Int):Option (fQ×fQ×Bool):=
 gK (tF ts mask) ([],[],0)
instance MY{ts:fQ}{mask:Int}:gW (qw ts mask) fun rr=>pn Tryz.prog 178 [(gE 1 (gE 1 iD)) ts,iD mask] [(gE 1 (gE 1 iD)) rr.1,(gE 1 (gE 1 iD)) rr.2.1,bD rr.2.2]:=⟨@fun rr h=>by
 delta qw at h;refine W6.qn (gC ?_);delta Tn;refine g_ ?_;refine mO h [4,5,6,7,8,11,12,13,14,15,16,17,18,19,20,21,22,23,24,25,26,27,28,29,30,31,32,33,34,35,36,37,38,39,40,41,42,43,44,45,46,47,48] (fun pp=>[(4,.own 1 47 (List.map (gE 1 iD) pp.1)),(5,.own 1 24 (List.map (gE 1 iD) pp.2.1)),(11,.d (iD pp.2.2))]) (fun pp=>[(24,.tok 22 1 pp.2.1.length),(47,.tok 22 1 pp.1.length)]) ?_ ?_
 ·try dsimp only
  refine(gT.EB 4 47 22 1 rfl rfl).trans ?_;refine(gT.EB 5 24 22 1 rfl rfl).trans ?_;exact wk
 rintro⟨own,rest,v11⟩ t1 h hb1;unfold tF at h;try dsimp only at h
 refine gC (g_ ?_);refine iT h fun hc h=>?_
 refine iU h fun hp h=>?_
 refine iU h fun hp h=>?_
 refine it h (fun hc h=>?_) fun hc h=>?_
 ·refine iU h fun hp h=>?_
  cases h;refine⟨_,rfl,?_⟩;refine(gT.drop 23 gB).trans ?_;exact wk
 refine it h (fun hc h=>?_) fun hc h=>?_
 ·refine iU h fun hp h=>?_
  refine it h (fun hc h=>?_) fun hc h=>?_
  ·refine iU h fun hp h=>?_
   refine rC h fun r hr h=>?_
   refine iF h fun hc h=>?_
   refine iU h fun hp h=>?_
   cases h;refine⟨_,rfl,?_⟩;refine(gT.drop 46 gB).trans ?_;exact wk
  refine iU h fun hp h=>?_
  cases h;refine⟨_,rfl,?_⟩;refine(gT.drop 46 gB).trans ?_;exact wk
 refine iU h fun hp h=>?_
 cases h;refine⟨_,rfl,?_⟩;refine(gT.drop 46 gB).trans ?_;exact wk⟩
def SY:gH:=
 (.seq (.gD (sq 2 [bo 2 27 0]++sq 4 [.mv (.const (.slice none 0 0))])) (.seq (.gD (sq 5 [.mv (.const (.slice none 0 0))])) (.seq (.seq (.gD (sq 8 [la 1 2,mv 1,.iw 123 [(t0 8),(t0 9),(i0 0)],ln 10,mi 0])) (.block 0 (.loop (.seq (.gD (sq 13 [bn .lss 12 11])) (.seq (.cond (t0 13) .skip (.exit 0)) (.seq (.block 1 (.seq (.gD (sq 14 [ix 1 10 12,ld 14]++sq 7 [mv 15])) (.gD (sq 16 [mv 5,la 1 2,mv 1,mv 7,cf 124 [17,18,19],.lQ 21 22 1 [(t0 20)],ap 22 22 1 24 16 21]++sq 5 [mv 22])))) (.gD (sq 23 [bi .add 12 1]++sq 12 [mv 23])))))))) (.seq (.gD (sq 24 [mv 5]++sq 4 [mv 24])) .ret))))
theorem WG:jT Tryz.prog 147 SY 25 [.tmp 4]:=mf Tryz.func147 Tryz.ntmps147
def um(sig:fP)(t:fP)(r:fP):f_->Option (f_⊕fQ)
 |(out,v12)=>
  if(decide (v12<(r.length:Int)))=true then
   if 0<=v12/\v12<(r.length:Int)then
    (nr sig t (r.getD v12.toNat default)).bind fun r_1=>
    if(out.length+1)*24<=140737488355328 then
     some (.inl ((out++[r_1]),(IntKind.i64.wrap (v12+1))))
    else none
   else none
  else
   Option.map Sum.inr (
    some out)
def qf(sig:fP)(t:fP):Option fQ:=
 (nE sig t 0).bind fun r=>
 gK (um sig t r) ([],0)
instance PB{sig:fP}{t:fP}:gW (qf sig t) fun rr=>iC Tryz.prog 147 [gQ sig,(gE 1 iD) t] ((gE 1 (gE 1 iD)) rr):=⟨@fun rr h=>by
 delta qf at h;refine WG.iA (gC ?_);delta SY;refine g_ ?_;refine rC h fun r hr h=>?_
 refine mO h [5,7,12,13,14,15,16,17,18,19,20,21,22,23] (fun pp=>[(5,.own 1 22 (List.map (gE 1 iD) pp.1)),(12,.d (iD pp.2))]) (fun pp=>[(2,.obj 27 [.d (gE 1 iD sig)]),(22,.tok 22 1 pp.1.length)]) ?_ ?_
 ·try dsimp only
  refine(gT.EB 5 22 22 1 rfl rfl).trans ?_;exact wk
 rintro⟨out,v12⟩ t1 h hb1;unfold um at h;try dsimp only at h
 refine gC (g_ ?_);refine iT h fun hc h=>?_
 refine iU h fun hp h=>?_
 refine rC h fun r_1 hr_1 h=>?_
 refine iU h fun hp h=>?_
 cases h;refine⟨_,rfl,?_⟩;refine(gT.drop 21 gB).trans ?_;exact wk⟩
def Tr:gH:=
 (.seq (.gD (sq 6 [mb false])) (.seq (.seq (.gD (sq 10 [mv 0,ln 10,mv 1,ln 12,bn .neq 11 13])) (.cond (t0 14) (.seq (.gD (sq 6 [mb false])) .ret) .skip)) (.seq (.seq (.gD (sq 15 [mv 0,ln 15,mi 0])) (.block 0 (.loop (.seq (.gD (sq 18 [bn .lss 17 16])) (.seq (.cond (t0 18) .skip (.exit 0)) (.seq (.block 1 (.seq (.gD (sq 19 [mv 17,ix 1 15 17,ld 20]++sq 7 [mv 19,mv 21])) (.seq (.gD (sq 22 [mv 1,mv 7,ix 1 22 23,ld 24]++sq 9 [mv 25])) (.seq (.gD (sq 26 [mv 2,mv 8,mv 9,.ug (t0 26) [(t0 27),(t0 28)],nt 29])) (.cond (t0 30) (.seq (.gD (sq 6 [mb false])) .ret) .skip))))) (.gD (sq 31 [bi .add 17 1]++sq 17 [mv 31])))))))) (.seq (.gD (sq 6 [mb true])) .ret))))
theorem W_:jT Tryz.prog 182 Tr 32 [.tmp 6]:=mf Tryz.func182 Tryz.ntmps182
def iK(s1:fQ)(s2:fQ):Int->Option fT
 |v17=>
  if(decide (v17<(s1.length:Int)))=true then
   if 0<=v17/\v17<(s1.length:Int)then
    if 0<=v17/\v17<(s2.length:Int)then
     (ig (s1.getD v17.toNat default) (s2.getD v17.toNat default)).bind fun r=>
     if r=true then
      some (.inl (IntKind.i64.wrap (v17+1)))
     else
      Option.map Sum.inr (
       some false)
    else none
   else none
  else
   Option.map Sum.inr (
    some true)
def iQ(s1:fQ)(s2:fQ):Option Bool:=
 if((s1.length:Int) != (s2.length:Int))=true then
  some false
 else
  gK (iK s1 s2) 0
instance xY{s1:fQ}{s2:fQ}:gW (iQ s1 s2) fun rr=>gN Tryz.prog 182 [.d (gE 1 (gE 1 iD) s1),.d (gE 1 (gE 1 iD) s2),.fn 155 [] []] [] 0 fun xx ss=>xx=.d (bD rr)/\ss=[]:=⟨@fun rr h=>by
 delta iQ at h;refine W_.jO (gC ?_);delta Tr;refine g_ ?_;refine iF h fun hc h=>?_
 refine jk h [6,7,8,9,17,18,19,20,21,22,23,24,25,26,27,28,29,30,31] (fun pp=>[(17,.d (iD pp))]) (fun pp=>[]) ?_;rintro v17 t1 h hb1;unfold iK at h;try dsimp only at h
 refine gC (g_ ?_);refine iT h fun hc h=>?_
 refine iU h fun hp h=>?_
 refine iU h fun hp h=>?_
 refine tW (by kernel_rfl) ?_;exact mm⟩
def S2:gH:=
 (.seq (.gD (sq 4 [mb false])) (.seq (.gD (sq 5 [mv 0,mv 1,.iw 182 [(t0 5),(t0 6),(.func 155)]]++sq 4 [mv 7])) .ret))
theorem WK:jT Tryz.prog 151 S2 8 [.tmp 4]:=mf Tryz.func151 Tryz.ntmps151
def oO(a:fQ)(b:fQ):Option Bool:=
 (iQ a b).bind fun r=>
 some r
instance KY{a:fQ}{b:fQ}:gW (oO a b) fun rr=>iC Tryz.prog 151 [(gE 1 (gE 1 iD)) a,(gE 1 (gE 1 iD)) b] (bD rr):=⟨@fun rr h=>by
 delta oO at h;refine WK.iA (gC ?_);delta S2;refine g_ ?_;refine lM [] [] h fun r hr h=>?_
 exact mm⟩
def XJ:gH:=
 (.seq (.gD (sq 3 [bo 3 27 0]++sq 6 [mb false])) (.seq (.gD (sq 7 [la 1 3,mv 1,cf 80 [7,8],mv 9]++sg 10 true 11 [la 1 3,mv 2,cf 60 [11,12]]++sq 14 [pa 10 13]++sq 6 [mv 14])) .ret))
theorem Zc:jT Tryz.prog 50 XJ 15 [.tmp 6]:=mf Tryz.func50 Tryz.ntmps50
def mY(sig:fP)(ac:fP)(t:fP):Option Bool:=
 (uK sig ac).bind fun r=>
 if r=true then
  (nF sig t).bind fun r_1=>
  some r_1
 else
  some false
instance Mq{sig:fP}{ac:fP}{t:fP}:gW (mY sig ac t) fun rr=>iC Tryz.prog 50 [gQ sig,(gE 1 iD) ac,(gE 1 iD) t] (bD rr):=⟨@fun rr h=>by
 delta mY at h;refine Zc.iA (gC ?_);delta XJ;refine g_ ?_;exact mm⟩
def Sv:gH:=
 (.seq (.gD (sq 3 [bo 3 27 0]++sq 6 [.mv (.const (.slice none 0 0))])) (.seq (.gD (sq 10 [.lQ 10 2 1 []]++sq 7 [mv 10])) (.seq (.gD (sq 11 [mv 2,bi .add 11 1]++sq 8 [mv 12])) (.seq (.seq (.draw (sq 13 [la 1 3,mv 1,mv 2,ix 1 14 15,ld 16,cf 159 [13,17]]++sq 9 [mv 18]) [[],[],[],[1,2],[3],[0,4],[5,5,0,1,2,3,4,5]]) (.block 0 (.loop (.seq (.seq (.gD (sq 19 [mv 9,bi .gtr 19 0])) (.cond (t0 20) .skip (.exit 0))) (.seq (.block 1 (.seq (.gD (sq 23 [mv 7,mv 8,.lQ 25 2 1 [(t0 24)],ap 26 2 1 8 23 25]++sq 7 [mv 26])) (.gD (sq 27 [la 1 3,mv 1,mv 8,cf 106 [27,28,29]]++sq 8 [mv 30])))) (.gD (sq 21 [mv 9,bi .sub 21 1]++sq 9 [mv 22]))))))) (.seq (.gD (sq 31 [mv 7]++sq 6 [mv 31])) .ret)))))
theorem Wd:jT Tryz.prog 111 Sv 32 [.tmp 6]:=mf Tryz.func111 Tryz.ntmps111
def ur(sig:fP)(t:fP):fS->Option (fS⊕fP)
 |(out,p,k)=>
  if(decide (0<k))=true then
   if(out.length+1)*8<=140737488355328 then
    (nA sig t p).bind fun r_1=>
    some (.inl ((out++[p]),r_1,(IntKind.i64.wrap (k-1))))
   else none
  else
   Option.map Sum.inr (
    some out)
def mJ(sig:fP)(t:fP)(jV:Int):Option fP:=
 if 0<=jV/\jV<(t.length:Int)then
  (oQ sig (t.getD jV.toNat default)).bind fun r=>
  gK (ur sig t) ([],(IntKind.i64.wrap (jV+1)),r)
 else none
instance PF{sig:fP}{t:fP}{jV:Int}:gW (mJ sig t jV) fun rr=>iC Tryz.prog 111 [gQ sig,(gE 1 iD) t,iD jV] ((gE 1 iD) rr):=⟨@fun rr h=>by
 delta mJ at h;refine Wd.iA (gC ?_);delta Sv;refine g_ ?_;refine iU h fun hp h=>?_
 refine dC h fun r hr h=>?_
 refine i_ (by kernel_rfl) (g_ ?_);refine jk h [7,8,9,19,20,21,22,23,24,25,26,27,28,29,30] (fun pp=>[(7,.own 1 10 (List.map iD pp.1)),(8,.d (iD pp.2.1)),(9,.d (iD pp.2.2))]) (fun pp=>[(3,.obj 27 [.d (gE 1 iD sig)]),(10,.tok 2 1 pp.1.length)]) ?_;rintro⟨out,p,k⟩ t1 h hb1;unfold ur at h;try dsimp only at h
 refine gC (g_ ?_);refine iT h fun hc h=>?_
 refine iU h fun hp h=>?_
 refine rC h fun r_1 hr_1 h=>?_
 cases h;refine⟨_,rfl,?_⟩;refine(gT.drop 25 gB).trans ?_;exact wk⟩
theorem OD{P:Program}{f:Nat}{args:List D}{rr:List fP}(h:gN P f (args.map .d) [] 0 fun xx ss=>xx=.kG 1 900000 rr.length/\ss=[(900000,.iM 22 1 rr.length (h_ (gE 1 iD) rr))]):iC P f args ((gE 1 (gE 1 iD)) rr):=
 gN.plain (gN.then (y:=AV.oe 900000 (List.map (gE 1 iD) rr) (.kG 1 900000 rr.length)) (t:=t_ 900000 (List.map (gE 1 iD) rr) [(900000,.iM 22 1 rr.length (h_ (gE 1 iD) rr))]) h (gX.fz 900000 (gE 1 iD) rfl rr)) yS
def vD:gH:=
 (.seq (.gD (sq 4 [bo 4 27 0]++sq 8 [.mv (.const (.slice none 0 0))])) (.seq (.seq (.gD (sq 10 [mv 2,mv 3,ix 1 10 11,ld 12,mv 1,bn .neq 13 14])) (.cond (t0 15) (.seq (.gD (sq 16 [la 1 4,mv 2,mv 3,cf 112 [16,17,18],.zX 20 22 1 [(t0 19)]]++sq 8 [mv 20])) .ret) .skip)) (.seq (.gD (sq 21 [la 1 4,mv 2,mv 3,cf 111 [21,22,23]]++sq 9 [mv 24])) (.seq (.draw (sq 25 [la 1 4,mv 1,mv 2,mv 9,.tD 1 (t0 28) (i0 0),ld 29,cf 110 [25,26,27,30],la 1 4,mv 1,mv 2,mv 9,.tD 1 (t0 35) (i0 1),ld 36,cf 110 [32,33,34,37],ap 39 22 1 24 31 38]++sq 8 [mv 39]) [[],[],[],[],[3],[4],[0,1,2,5],[],[],[],[],[10],[11],[7,8,9,12,6],[6,13,13],[14,14,0,1,2,3,4,5,6,7,8,9,10,11,12,13,14]]) .ret))))
theorem zZ:jT Tryz.prog 110 vD 40 [.tmp 8]:=mf Tryz.func110 Tryz.ntmps110
def kF:Nat->fP->Int->fP->Int->Option fQ
 |0,_,_,_,_=>none
 |fu+1,sig,f,t,jV=>
  if 0<=jV/\jV<(t.length:Int)then
   if((t.getD jV.toNat default) != f)=true then
    (jX sig t jV).bind fun r=>
    some [r]
   else
    (mJ sig t jV).bind fun r_1=>
    if 0<=0/\0<(r_1.length:Int)then
     (kF fu sig f t (r_1.getD 0 default)).bind fun r_2=>
     if 0<=1/\1<(r_1.length:Int)then
      (kF fu sig f t (r_1.getD 1 default)).bind fun r_3=>
      if(r_2.length+r_3.length)*24<=140737488355328 then
       some (r_2++r_3)
      else none
     else none
    else none
  else none
def kQ(sig:fP)(f:Int)(t:fP)(jV:Int):Option fQ:=Ba fun fu=>kF fu sig f t jV
theorem vr:∀{fu:Nat}{sig:fP}{f:Int}{t:fP}{jV:Int}{rr:fQ}(h:kF fu sig f t jV=some rr),gN Tryz.prog 110 [.d (.agg [gE 1 iD sig]),.d (iD f),.d (gE 1 iD t),.d (iD jV)] [] 0 fun xx ss=>xx=.kG 1 900000 rr.length/\ss=[(900000,.iM 22 1 rr.length (h_ (gE 1 iD) rr))]
 |0,_,_,_,_,_,h=>by cases h
 |fu+1,sig,f,t,jV,rr,h=>by
  have ih:∀{sig:fP}{f:Int}{t:fP}{jV:Int},gW (kF fu sig f t jV) fun rr=>gN Tryz.prog 110 [.d (.agg [gE 1 iD sig]),.d (iD f),.d (gE 1 iD t),.d (iD jV)] [] 0 fun xx ss=>xx=.kG 1 900000 rr.length/\ss=[(900000,.iM 22 1 rr.length (h_ (gE 1 iD) rr))]:=⟨fun h=>vr h⟩
  unfold kF at h;refine zZ.Ai (gC ?_);delta vD;refine g_ ?_;refine iU h fun hp h=>?_
  refine it h (fun hc h=>?_) fun hc h=>?_
  ·refine rC h fun r hr h=>?_
   cases h;exact gX.trans ((gX.trans (gX.move 20 900000 (ob:=.iM 22 1 1 (h_ (gE 1 iD) [r])) gB gB gB rfl (by first|rfl|(simp;done)|(simp[sat,rX,sset,iL,wm,tq,Ob.kY,Ob.kill,mj];done))) (gX.nW [4] (by simp)))) (gX.told yS jF)
  refine rC h fun r_1 hr_1 h=>?_
  refine iU h fun hp h=>?_
  refine xN [] [(900000,31)] h fun r_2 hr_2 h=>?_
  refine iU h fun hp h=>?_
  have ihD:∀{sig:fP}{f:Int}{t:fP}{jV:Int},gW (kF fu sig f t jV) fun rr=>iC Tryz.prog 110 [gQ sig,iD f,(gE 1 iD) t,iD jV] ((gE 1 (gE 1 iD)) rr):=⟨fun h=>OD (args:=[gQ _,iD _,(gE 1 iD) _,iD _]) (vr h)⟩
  refine dC h fun r_3 hr_3 h=>?_
  refine iU h fun hp h=>?_
  refine i_ (by kernel_rfl) (g_ ?_);cases h;exact gX.trans ((gX.trans (gX.move 31 900000 (ob:=.iM 22 1 ((r_2++r_3).length) (h_ (gE 1 iD) (r_2++r_3))) gB gB gB rfl (by first|rfl|(simp;done)|(simp[sat,rX,sset,iL,wm,tq,Ob.kY,Ob.kill,mj];done))) (gX.nW [4] (by simp)))) (gX.told yS jF)
instance GD{sig:fP}{f:Int}{t:fP}{jV:Int}:gW (kQ sig f t jV) fun rr=>iC Tryz.prog 110 [gQ sig,iD f,(gE 1 iD) t,iD jV] ((gE 1 (gE 1 iD)) rr):=⟨fun h=>OD (args:=[gQ _,iD _,(gE 1 iD) _,iD _]) (vr (pq h).choose_spec)⟩
def Ss:gH:=
 (.seq (.gD (sq 4 [.mv (.const (.slice none 0 0))])) (.seq (.gD (sq 7 [.lQ 7 2 1 []]++sq 5 [mv 7])) (.seq (.seq (.gD (sq 6 [mi 0])) (.block 0 (.loop (.seq (.seq (.gD (sq 8 [mv 6,mv 1,ln 9,bn .lss 8 10])) (.cond (t0 11) .skip (.exit 0))) (.seq (.block 1 (.seq (.seq (.gD (sq 14 [mv 6,bi .add 14 1,mv 1,ln 16,bn .lss 15 17])) (.cond (t0 18) (.gD (sq 19 [mv 5,mv 0,.lQ 21 2 1 [(t0 20)],ap 22 2 1 8 19 21]++sq 5 [mv 22])) .skip)) (.gD (sq 23 [mv 5,mv 1,mv 6,ix 1 24 25,ld 26,ap 28 2 1 8 23 27]++sq 5 [mv 28])))) (.gD (sq 12 [mv 6,bi .add 12 1]++sq 6 [mv 13]))))))) (.seq (.gD (sq 29 [mv 5]++sq 4 [mv 29])) .ret))))
theorem Wb:jT Tryz.prog 108 Ss 30 [.tmp 4]:=mf Tryz.func108 Tryz.ntmps108
def sF(f:Int)(parts:fQ):gp->Option (gp⊕fP)
 |(out,i)=>
  if(decide (i<(parts.length:Int)))=true then
   if(decide ((IntKind.i64.wrap (i+1))<(parts.length:Int)))=true then
    if(out.length+1)*8<=140737488355328 then
     if 0<=i/\i<(parts.length:Int)then
      if((out++[f]).length+(parts.getD i.toNat default).length)*8<=140737488355328 then
       some (.inl (((out++[f])++(parts.getD i.toNat default)),(IntKind.i64.wrap (i+1))))
      else none
     else none
    else none
   else
    if 0<=i/\i<(parts.length:Int)then
     if(out.length+(parts.getD i.toNat default).length)*8<=140737488355328 then
      some (.inl ((out++(parts.getD i.toNat default)),(IntKind.i64.wrap (i+1))))
     else none
    else none
  else
   Option.map Sum.inr (
    some out)
def qb(f:Int)(parts:fQ):Option fP:=
 gK (sF f parts) ([],0)
instance Mo{f:Int}{parts:fQ}:gW (qb f parts) fun rr=>iC Tryz.prog 108 [iD f,(gE 1 (gE 1 iD)) parts] ((gE 1 iD) rr):=⟨@fun rr h=>by
 delta qb at h;refine Wb.iA (gC ?_);delta Ss;refine g_ ?_;refine jk h [5,6,8,9,10,11,12,13,14,15,16,17,18,19,20,21,22,23,24,25,26,27,28] (fun pp=>[(5,.own 1 7 (List.map iD pp.1)),(6,.d (iD pp.2))]) (fun pp=>[(7,.tok 2 1 pp.1.length)]) ?_;rintro⟨out,i⟩ t1 h hb1;unfold sF at h;try dsimp only at h
 refine gC (g_ ?_);refine iT h fun hc h=>?_
 refine iT h fun hc h=>?_
 refine iU h fun hp h=>?_
 refine iU h fun hp h=>?_
 refine iU h fun hp h=>?_
 cases h;refine⟨_,rfl,?_⟩;refine(gT.drop 21 gB).trans ?_;exact wk⟩
def XG:gH:=
 (.seq (.gD (sq 4 [mb false])) (.seq (.seq (.gD (sq 6 [mv 0,ln 6,mv 1,ln 8,bn .neq 7 9])) (.cond (t0 10) (.seq (.gD (sq 11 [mv 0,ln 11,mv 1,ln 13,bn .lss 12 14]++sq 4 [mv 15])) .ret) .skip)) (.seq (.seq (.gD (sq 5 [mi 0])) (.block 0 (.loop (.seq (.seq (.gD (sq 16 [mv 5,mv 0,ln 17,bn .lss 16 18])) (.cond (t0 19) .skip (.exit 0))) (.seq (.block 1 (.seq (.draw (sq 22 [mv 0,mv 5,ix 1 22 23,ld 24,mv 1,mv 5,ix 1 26 27,ld 28,bn .neq 25 29]) [[],[],[0,1],[2],[],[],[4,5],[6],[3,7]]) (.cond (t0 30) (.seq (.draw (sq 31 [mv 0,mv 5,ix 1 31 32,ld 33,mv 1,mv 5,ix 1 35 36,ld 37,bn .lss 34 38]++sq 4 [mv 39]) [[],[],[0,1],[2],[],[],[4,5],[6],[3,7],[8,0,1,2,3,4,5,6,7,8]]) .ret) .skip))) (.gD (sq 20 [mv 5,bi .add 20 1]++sq 5 [mv 21]))))))) (.seq (.gD (sq 4 [mb false])) .ret))))
theorem Y_:jT Tryz.prog 46 XG 40 [.tmp 4]:=mf Tryz.func46 Tryz.ntmps46
def sC(a:fP)(b:fP):Int->Option fT
 |i=>
  if(decide (i<(a.length:Int)))=true then
   if 0<=i/\i<(a.length:Int)then
    if 0<=i/\i<(b.length:Int)then
     if((a.getD i.toNat default) != (b.getD i.toNat default))=true then
      if 0<=i/\i<(a.length:Int)then
       if 0<=i/\i<(b.length:Int)then
        Option.map Sum.inr (
         some (decide ((a.getD i.toNat default)<(b.getD i.toNat default))))
       else none
      else none
     else
      some (.inl (IntKind.i64.wrap (i+1)))
    else none
   else none
  else
   Option.map Sum.inr (
    some false)
def mW(a:fP)(b:fP):Option Bool:=
 if((a.length:Int) != (b.length:Int))=true then
  some (decide ((a.length:Int)<(b.length:Int)))
 else
  gK (sC a b) 0
instance Mj{a:fP}{b:fP}:gW (mW a b) fun rr=>iC Tryz.prog 46 [(gE 1 iD) a,(gE 1 iD) b] (bD rr):=⟨@fun rr h=>by
 delta mW at h;refine Y_.iA (gC ?_);delta XG;refine g_ ?_;refine iF h fun hc h=>?_
 refine jk h [4,5,16,17,18,19,20,21,22,23,24,25,26,27,28,29,30,31,32,33,34,35,36,37,38,39] (fun pp=>[(5,.d (iD pp))]) (fun pp=>[]) ?_;rintro i t1 h hb1;unfold sC at h;try dsimp only at h
 refine gC (g_ ?_);refine iT h fun hc h=>?_
 refine iU h fun hp h=>?_
 refine iU h fun hp h=>?_
 refine i_ (by kernel_rfl) (g_ ?_);refine iT h fun hc h=>?_
 refine iU h fun hp h=>?_
 refine iU h fun hp h=>?_
 refine i_ (by kernel_rfl) (g_ ?_);replace h:=gY h hb1;cases h;exact jF⟩
def S7:gH:=
 (.seq (.gD (sq 4 [.mv (.const (.slice none 0 0))])) (.seq (.gD (sq 7 [mv 0,ln 7]++sq 5 [mv 8])) (.seq (.block 0 (.loop (.seq (.seq (.gD (sq 9 [mv 5,bi .gtr 9 0,mv 10]++sg 11 true 12 [mv 1,mv 0,mv 5,bi .sub 14 1,ix 1 13 15,ld 16,cf 46 [12,17]]++sq 19 [pa 11 18])) (.cond (t0 19) .skip (.exit 0))) (.block 1 (.gD (sq 20 [mv 5,bi .sub 20 1]++sq 5 [mv 21])))))) (.seq (.gD (sq 22 [.lQ 22 22 1 [],mv 0,mv 5,.slc (t0 23) 1 none (some (t0 24)) none,ap 26 22 1 24 22 25]++sq 6 [mv 26])) (.seq (.gD (sq 27 [mv 6,mv 1,.lQ 29 22 1 [(t0 28)],ap 30 22 1 24 27 29]++sq 6 [mv 30])) (.seq (.gD (sq 31 [mv 6,mv 0,mv 5,.slc (t0 32) 1 (some (t0 33)) none none,ap 35 22 1 24 31 34]++sq 4 [mv 35])) .ret))))))
theorem WQ:jT Tryz.prog 160 S7 36 [.tmp 4]:=mf Tryz.func160 Tryz.ntmps160
def rB(list:fQ)(t:fP):Int->Option (Int⊕fQ)
 |k=>
  if(decide (0<k))=true then
   if 0<=(IntKind.i64.wrap (k-1))/\(IntKind.i64.wrap (k-1))<(list.length:Int)then
    (mW t (list.getD (IntKind.i64.wrap (k-1)).toNat default)).bind fun r=>
    if r=true then
     some (.inl (IntKind.i64.wrap (k-1)))
    else
     Option.map Sum.inr (
      if 0<=k/\k<=(list.length:Int)then
       if(0+(list.take k.toNat).length)*24<=140737488355328 then
        if((list.take k.toNat).length+1)*24<=140737488355328 then
         if 0<=k/\k<=(list.length:Int)then
          if(((list.take k.toNat)++[t]).length+(list.drop k.toNat).length)*24<=140737488355328 then
           some (((list.take k.toNat)++[t])++(list.drop k.toNat))
          else none
         else none
        else none
       else none
      else none)
   else none
  else
   Option.map Sum.inr (
    if 0<=k/\k<=(list.length:Int)then
     if(0+(list.take k.toNat).length)*24<=140737488355328 then
      if((list.take k.toNat).length+1)*24<=140737488355328 then
       if 0<=k/\k<=(list.length:Int)then
        if(((list.take k.toNat)++[t]).length+(list.drop k.toNat).length)*24<=140737488355328 then
         some (((list.take k.toNat)++[t])++(list.drop k.toNat))
        else none
       else none
      else none
     else none
    else none)
def mH(list:fQ)(t:fP):Option fQ:=
 gK (rB list t) (list.length:Int)
instance K2{list:fQ}{t:fP}:gW (mH list t) fun rr=>iC Tryz.prog 160 [(gE 1 (gE 1 iD)) list,(gE 1 iD) t] ((gE 1 (gE 1 iD)) rr):=⟨@fun rr h=>by
 delta mH at h;refine WQ.iA (gC ?_);delta S7;refine g_ ?_;refine jk h [5,9,10,11,12,13,14,15,16,17,18,19,20,21] (fun pp=>[(5,.d (iD pp))]) (fun pp=>[]) ?_;rintro k t1 h hb1;unfold rB at h;try dsimp only at h
 refine gC (g_ ?_);exact mm⟩
def X4:gH:=
 (.seq (.gD (sq 3 [bo 3 27 0]++sq 6 [mb false])) (.seq (.seq (.gD (sq 7 [mi 0])) (.block 0 (.loop (.seq (.seq (.gD (sq 8 [mv 7,mv 2,ln 9,bn .lss 8 10])) (.cond (t0 11) .skip (.exit 0))) (.seq (.block 1 (.seq (.draw (sq 14 [mv 1,mv 2,mv 7,ix 1 15 16,ld 17,cf 107 [14,18],mv 19]++sg 20 true 21 [la 1 3,mv 2,mv 7,ix 1 22 23,ld 24,mv 2,mv 7,cf 110 [21,25,26,27],ln 28,bi .gtr 29 6]++sq 31 [pa 20 30]) [[],[],[],[1,2],[3],[0,4],[5,5],[6],[6],[6],[8,9,6],[10,6],[6],[6],[7,11,12,13,6,6],[14,6],[15,6],[6,16]]) (.cond (t0 31) (.seq (.gD (sq 6 [mb false])) .ret) .skip))) (.gD (sq 12 [mv 7,bi .add 12 1]++sq 7 [mv 13]))))))) (.seq (.gD (sq 6 [mb true])) .ret)))
theorem Zw:jT Tryz.prog 81 X4 32 [.tmp 6]:=mf Tryz.func81 Tryz.ntmps81
def oW(sig:fP)(ac:fP)(t:fP):Int->Option fT
 |jV=>
  if(decide (jV<(t.length:Int)))=true then
   if 0<=jV/\jV<(t.length:Int)then
    (kK ac (t.getD jV.toNat default)).bind fun r=>
    if r=true then
     if 0<=jV/\jV<(t.length:Int)then
      (kQ sig (t.getD jV.toNat default) t jV).bind fun r_1=>
      if(decide (6<(r_1.length:Int)))=true then
       Option.map Sum.inr (
        some false)
      else
       some (.inl (IntKind.i64.wrap (jV+1)))
     else none
    else
     some (.inl (IntKind.i64.wrap (jV+1)))
   else none
  else
   Option.map Sum.inr (
    some true)
def nI(sig:fP)(ac:fP)(t:fP):Option Bool:=
 gK (oW sig ac t) 0
instance PO{sig:fP}{ac:fP}{t:fP}:gW (nI sig ac t) fun rr=>iC Tryz.prog 81 [gQ sig,(gE 1 iD) ac,(gE 1 iD) t] (bD rr):=⟨@fun rr h=>by
 delta nI at h;refine Zw.iA (gC ?_);delta X4;refine g_ ?_;refine jk h [6,7,8,9,10,11,12,13,14,15,16,17,18,19,20,21,22,23,24,25,26,27,28,29,30,31] (fun pp=>[(7,.d (iD pp))]) (fun pp=>[(3,.obj 27 [.d (gE 1 iD sig)])]) ?_;rintro jV t1 h hb1;unfold oW at h;try dsimp only at h
 refine gC (g_ ?_);exact mm⟩
def XI:gH:=
 (.seq (.gD (sq 4 [mb false])) (.seq (.seq (.gD (sq 6 [mv 0,ln 6,mv 1,ln 8,bn .neq 7 9])) (.cond (t0 10) (.seq (.gD (sq 4 [mb false])) .ret) .skip)) (.seq (.seq (.gD (sq 5 [mi 0])) (.block 0 (.loop (.seq (.seq (.gD (sq 11 [mv 5,mv 0,ln 12,bn .lss 11 13])) (.cond (t0 14) .skip (.exit 0))) (.seq (.block 1 (.seq (.draw (sq 17 [mv 0,mv 5,ix 1 17 18,ld 19,mv 1,mv 5,ix 1 21 22,ld 23,bn .neq 20 24]) [[],[],[0,1],[2],[],[],[4,5],[6],[3,7]]) (.cond (t0 25) (.seq (.gD (sq 4 [mb false])) .ret) .skip))) (.gD (sq 15 [mv 5,bi .add 15 1]++sq 5 [mv 16]))))))) (.seq (.gD (sq 4 [mb true])) .ret))))
theorem Zb:jT Tryz.prog 48 XI 26 [.tmp 4]:=mf Tryz.func48 Tryz.ntmps48
def pN(a:fP)(b:fP):Int->Option fT
 |i=>
  if(decide (i<(a.length:Int)))=true then
   if 0<=i/\i<(a.length:Int)then
    if 0<=i/\i<(b.length:Int)then
     if((a.getD i.toNat default) != (b.getD i.toNat default))=true then
      Option.map Sum.inr (
       some false)
     else
      some (.inl (IntKind.i64.wrap (i+1)))
    else none
   else none
  else
   Option.map Sum.inr (
    some true)
def jM(a:fP)(b:fP):Option Bool:=
 if((a.length:Int) != (b.length:Int))=true then
  some false
 else
  gK (pN a b) 0
instance Ml{a:fP}{b:fP}:gW (jM a b) fun rr=>iC Tryz.prog 48 [(gE 1 iD) a,(gE 1 iD) b] (bD rr):=⟨@fun rr h=>by
 delta jM at h;refine Zb.iA (gC ?_);delta XI;refine g_ ?_;refine iF h fun hc h=>?_
 refine jk h [4,5,11,12,13,14,15,16,17,18,19,20,21,22,23,24,25] (fun pp=>[(5,.d (iD pp))]) (fun pp=>[]) ?_;rintro i t1 h hb1;unfold pN at h;try dsimp only at h
 refine gC (g_ ?_);exact mm⟩
def SQ:gH:=
 (.seq (.gD (sq 4 [mb false])) (.seq (.seq (.gD (sq 5 [mi 0])) (.block 0 (.loop (.seq (.seq (.gD (sq 6 [mv 5,mv 0,ln 7,bn .lss 6 8])) (.cond (t0 9) .skip (.exit 0))) (.seq (.block 1 (.seq (.draw (sq 12 [mv 0,mv 5,ix 1 12 13,ld 14,mv 1,mv 5,ix 1 16 17,ld 18,cf 48 [15,19],nt 20]) [[],[],[0,1],[2],[],[],[4,5],[6],[3,7],[8]]) (.cond (t0 21) (.seq (.gD (sq 4 [mb false])) .ret) .skip))) (.gD (sq 10 [mv 5,bi .add 10 1]++sq 5 [mv 11]))))))) (.seq (.gD (sq 4 [mb true])) .ret)))
theorem Wz:jT Tryz.prog 138 SQ 22 [.tmp 4]:=mf Tryz.func138 Tryz.ntmps138
def pR(a:fQ)(b:fQ):Int->Option fT
 |i=>
  if(decide (i<(a.length:Int)))=true then
   if 0<=i/\i<(a.length:Int)then
    if 0<=i/\i<(b.length:Int)then
     (jM (a.getD i.toNat default) (b.getD i.toNat default)).bind fun r=>
     if r=true then
      some (.inl (IntKind.i64.wrap (i+1)))
     else
      Option.map Sum.inr (
       some false)
    else none
   else none
  else
   Option.map Sum.inr (
    some true)
def ng(a:fQ)(b:fQ):Option Bool:=
 gK (pR a b) 0
instance HY{a:fQ}{b:fQ}:gW (ng a b) fun rr=>iC Tryz.prog 138 [(gE 1 (gE 1 iD)) a,(gE 1 (gE 1 iD)) b] (bD rr):=⟨@fun rr h=>by
 delta ng at h;refine Wz.iA (gC ?_);delta SQ;refine g_ ?_;refine jk h [4,5,6,7,8,9,10,11,12,13,14,15,16,17,18,19,20,21] (fun pp=>[(5,.d (iD pp))]) (fun pp=>[]) ?_;rintro i t1 h hb1;unfold pR at h;try dsimp only at h
 refine gC (g_ ?_);exact mm⟩
def SR:gH:=
 (.seq (.gD (sq 4 [mb false])) (.seq (.seq (.gD (sq 5 [mi 0])) (.block 0 (.loop (.seq (.seq (.gD (sq 6 [mv 5,mv 0,ln 7,bn .lss 6 8])) (.cond (t0 9) .skip (.exit 0))) (.seq (.block 1 (.seq (.draw (sq 12 [mv 0,mv 5,ix 1 12 13,ld 14,mv 1,mv 5,ix 1 16 17,ld 18,cf 48 [15,19],nt 20]) [[],[],[0,1],[2],[],[],[4,5],[6],[3,7],[8]]) (.cond (t0 21) (.seq (.draw (sq 22 [mv 0,mv 5,ix 1 22 23,ld 24,mv 1,mv 5,ix 1 26 27,ld 28,cf 46 [25,29]]++sq 4 [mv 30]) [[],[],[0,1],[2],[],[],[4,5],[6],[3,7],[8,8,0,1,2,3,4,5,6,7,8]]) .ret) .skip))) (.gD (sq 10 [mv 5,bi .add 10 1]++sq 5 [mv 11]))))))) (.seq (.gD (sq 4 [mb false])) .ret)))
theorem WA:jT Tryz.prog 139 SR 31 [.tmp 4]:=mf Tryz.func139 Tryz.ntmps139
def sE(a:fQ)(b:fQ):Int->Option fT
 |i=>
  if(decide (i<(a.length:Int)))=true then
   if 0<=i/\i<(a.length:Int)then
    if 0<=i/\i<(b.length:Int)then
     (jM (a.getD i.toNat default) (b.getD i.toNat default)).bind fun r=>
     if r=true then
      some (.inl (IntKind.i64.wrap (i+1)))
     else
      if 0<=i/\i<(a.length:Int)then
       if 0<=i/\i<(b.length:Int)then
        (mW (a.getD i.toNat default) (b.getD i.toNat default)).bind fun r_1=>
        Option.map Sum.inr (
         some r_1)
       else none
      else none
    else none
   else none
  else
   Option.map Sum.inr (
    some false)
def qa(a:fQ)(b:fQ):Option Bool:=
 gK (sE a b) 0
instance Mn{a:fQ}{b:fQ}:gW (qa a b) fun rr=>iC Tryz.prog 139 [(gE 1 (gE 1 iD)) a,(gE 1 (gE 1 iD)) b] (bD rr):=⟨@fun rr h=>by
 delta qa at h;refine WA.iA (gC ?_);delta SR;refine g_ ?_;refine jk h [4,5,6,7,8,9,10,11,12,13,14,15,16,17,18,19,20,21,22,23,24,25,26,27,28,29,30] (fun pp=>[(5,.d (iD pp))]) (fun pp=>[]) ?_;rintro i t1 h hb1;unfold sE at h;try dsimp only at h
 refine gC (g_ ?_);exact mm⟩
def X6:gH:=
 (.seq (.gD (sq 4 [.mv (.const (.slice none 0 0))])) (.seq (.gD (sq 7 [mv 0,ln 7]++sq 5 [mv 8])) (.seq (.block 0 (.loop (.seq (.seq (.gD (sq 9 [mv 5,bi .gtr 9 0])) (.cond (t0 10) .skip (.exit 0))) (.block 1 (.seq (.seq (.gD (sq 11 [mv 0,mv 5,bi .sub 12 1,ix 1 11 13,ld 14,mv 1,cf 138 [15,16]])) (.cond (t0 17) (.seq (.gD (sq 18 [mv 0]++sq 4 [mv 18])) .ret) .skip)) (.seq (.seq (.gD (sq 19 [mv 1,mv 0,mv 5,bi .sub 21 1,ix 1 20 22,ld 23,cf 139 [19,24],nt 25])) (.cond (t0 26) (.exit 0) .skip)) (.gD (sq 27 [mv 5,bi .sub 27 1]++sq 5 [mv 28])))))))) (.seq (.gD (sq 29 [.lQ 29 45 1 [],mv 0,mv 5,.slc (t0 30) 1 none (some (t0 31)) none,ap 33 45 1 24 29 32]++sq 6 [mv 33])) (.seq (.gD (sq 34 [mv 6,mv 1,.lQ 36 45 1 [(t0 35)],ap 37 45 1 24 34 36]++sq 6 [mv 37])) (.seq (.gD (sq 38 [mv 6,mv 0,mv 5,.slc (t0 39) 1 (some (t0 40)) none none,ap 42 45 1 24 38 41]++sq 4 [mv 42])) .ret))))))
theorem Zy:jT Tryz.prog 83 X6 43 [.tmp 4]:=mf Tryz.func83 Tryz.ntmps83
def uu(list:fW)(given:fQ):Int->Option (Int⊕fW)
 |k=>
  if(decide (0<k))=true then
   if 0<=(IntKind.i64.wrap (k-1))/\(IntKind.i64.wrap (k-1))<(list.length:Int)then
    (ng (list.getD (IntKind.i64.wrap (k-1)).toNat default) given).bind fun r=>
    if r=true then
     Option.map Sum.inr (
      some list)
    else
     if 0<=(IntKind.i64.wrap (k-1))/\(IntKind.i64.wrap (k-1))<(list.length:Int)then
      (qa given (list.getD (IntKind.i64.wrap (k-1)).toNat default)).bind fun r_1=>
      if r_1=true then
       some (.inl (IntKind.i64.wrap (k-1)))
      else
       Option.map Sum.inr (
        if 0<=k/\k<=(list.length:Int)then
         if(0+(list.take k.toNat).length)*24<=140737488355328 then
          if((list.take k.toNat).length+1)*24<=140737488355328 then
           if 0<=k/\k<=(list.length:Int)then
            if(((list.take k.toNat)++[given]).length+(list.drop k.toNat).length)*24<=140737488355328 then
             some (((list.take k.toNat)++[given])++(list.drop k.toNat))
            else none
           else none
          else none
         else none
        else none)
     else none
   else none
  else
   Option.map Sum.inr (
    if 0<=k/\k<=(list.length:Int)then
     if(0+(list.take k.toNat).length)*24<=140737488355328 then
      if((list.take k.toNat).length+1)*24<=140737488355328 then
       if 0<=k/\k<=(list.length:Int)then
        if(((list.take k.toNat)++[given]).length+(list.drop k.toNat).length)*24<=140737488355328 then
         some (((list.take k.toNat)++[given])++(list.drop k.toNat))
        else none
       else none
      else none
     else none
    else none)
def nH(list:fW)(given:fQ):Option fW:=
 gK (uu list given) (list.length:Int)
instance PN{list:fW}{given:fQ}:gW (nH list given) fun rr=>iC Tryz.prog 83 [(gE 1 (gE 1 (gE 1 iD))) list,(gE 1 (gE 1 iD)) given] ((gE 1 (gE 1 (gE 1 iD))) rr):=⟨@fun rr h=>by
 delta nH at h;refine Zy.iA (gC ?_);delta X6;refine g_ ?_;refine jk h [4,5,9,10,11,12,13,14,15,16,17,18,19,20,21,22,23,24,25,26,27,28] (fun pp=>[(5,.d (iD pp))]) (fun pp=>[]) ?_;rintro k t1 h hb1;unfold uu at h;try dsimp only at h
 refine gC (g_ ?_);exact mm⟩
def we:gH:=
 (.seq (.gD (sq 6 [.mv (.const (.slice none 0 0))])) (.seq (.gD (sq 8 [.zX 8 22 1 [],mv 0,ap 10 22 1 24 8 9]++sq 7 [mv 10])) (.seq (.gD (sq 11 [mv 7,mv 1,mv 2,ix 1 11 12]++s0 (sr 1 14 13))) (.seq (.gD (sq 15 [mv 7]++sq 6 [mv 15])) .ret))))
theorem Al:jT Tryz.prog 135 we 16 [.tmp 6]:=mf Tryz.func135 Tryz.ntmps135
def oV(given:fQ)(v:Int)(t:fP):Option fQ:=
 if(0+given.length)*24<=140737488355328 then
  if 0<=v/\v<(given.length:Int)then
   some (given.set v.toNat t)
  else none
 else none
instance M4{given:fQ}{v:Int}{t:fP}:gW (oV given v t) fun rr=>iC Tryz.prog 135 [(gE 1 (gE 1 iD)) given,iD v,(gE 1 iD) t] ((gE 1 (gE 1 iD)) rr):=⟨@fun rr h=>by
 delta oV at h;refine Al.Yk (gC ?_);delta we;refine g_ ?_;refine iU h fun hp h=>?_
 refine iU h fun hp h=>?_
 refine Eg ?_;cases h;exact⟨_,_,(gX.fz 8 (gE 1 iD) rfl (given.set v.toNat t)),yS⟩⟩
def Th:gH:=
 (.seq (.gD (sq 4 [.mv (.const (.slice none 0 0))])) (.seq (.draw (sq 5 [.lQ 5 22 1 [],mv 0,mv 1,.slc (t0 6) 1 none (some (t0 7)) none,ap 9 22 1 24 5 8,mv 0,mv 1,bi .add 11 1,.slc (t0 10) 1 (some (t0 12)) none none,ap 14 22 1 24 9 13]++sq 4 [mv 14]) [[],[],[],[1,2],[0,3],[],[],[6],[5,7],[4,8,4],[9,9,0,1,2,3,4,5,6,7,8,9]]) .ret))
theorem W1:jT Tryz.prog 173 Th 15 [.tmp 4]:=mf Tryz.func173 Tryz.ntmps173
def nU(list:fQ)(jV:Int):Option fQ:=
 if 0<=jV/\jV<=(list.length:Int)then
  if(0+(list.take jV.toNat).length)*24<=140737488355328 then
   if 0<=(IntKind.i64.wrap (jV+1))/\(IntKind.i64.wrap (jV+1))<=(list.length:Int)then
    if((list.take jV.toNat).length+(list.drop (IntKind.i64.wrap (jV+1)).toNat).length)*24<=140737488355328 then
     some ((list.take jV.toNat)++(list.drop (IntKind.i64.wrap (jV+1)).toNat))
    else none
   else none
  else none
 else none
instance M5{list:fQ}{jV:Int}:gW (nU list jV) fun rr=>iC Tryz.prog 173 [(gE 1 (gE 1 iD)) list,iD jV] ((gE 1 (gE 1 iD)) rr):=⟨@fun rr h=>by
 delta nU at h;refine W1.iA (gC ?_);delta Th;refine g_ ?_;exact mm⟩
def S9:gH:=
 (.seq (.gD (sq 4 [mi 0])) (.seq (.seq (.gD (sq 5 [mi 0])) (.block 0 (.loop (.seq (.seq (.gD (sq 6 [mv 5,mv 0,ln 7,bn .lss 6 8])) (.cond (t0 9) .skip (.exit 0))) (.seq (.block 1 (.seq (.gD (sq 12 [mv 0,mv 5,ix 1 12 13,ld 14,mv 1,cf 48 [15,16]])) (.cond (t0 17) (.seq (.gD (sq 18 [mv 5]++sq 4 [mv 18])) .ret) .skip))) (.gD (sq 10 [mv 5,bi .add 10 1]++sq 5 [mv 11]))))))) (.seq (.gD (sq 4 [mi (-1)])) .ret)))
theorem WS:jT Tryz.prog 162 S9 19 [.tmp 4]:=mf Tryz.func162 Tryz.ntmps162
def ql(list:fQ)(t:fP):Int->Option (Int⊕Int)
 |i=>
  if(decide (i<(list.length:Int)))=true then
   if 0<=i/\i<(list.length:Int)then
    (jM (list.getD i.toNat default) t).bind fun r=>
    if r=true then
     Option.map Sum.inr (
      some i)
    else
     some (.inl (IntKind.i64.wrap (i+1)))
   else none
  else
   Option.map Sum.inr (
    some (-1))
def lF(list:fQ)(t:fP):Option Int:=
 gK (ql list t) 0
instance It{list:fQ}{t:fP}:gW (lF list t) fun rr=>iC Tryz.prog 162 [(gE 1 (gE 1 iD)) list,(gE 1 iD) t] (iD rr):=⟨@fun rr h=>by
 delta lF at h;refine WS.iA (gC ?_);delta S9;refine g_ ?_;refine jk h [4,5,6,7,8,9,10,11,12,13,14,15,16,17,18] (fun pp=>[(5,.d (iD pp))]) (fun pp=>[]) ?_;rintro i t1 h hb1;unfold ql at h;try dsimp only at h
 refine gC (g_ ?_);exact mm⟩
def Ti:gH:=
 (.seq (.gD (sq 4 [.mv (.const (.slice none 0 0)),mb false])) (.seq (.seq (.gD (sq 6 [mi 0])) (.block 0 (.loop (.seq (.seq (.gD (sq 8 [mv 6,mv 1,ln 9,bn .lss 8 10])) (.cond (t0 11) .skip (.exit 0))) (.seq (.block 1 (.seq (.gD (sq 14 [mv 0,mv 1,mv 6,ix 1 15 16,ld 17,cf 162 [14,18]]++sq 7 [mv 19])) (.seq (.seq (.gD (sq 20 [mv 7,bi .lss 20 0])) (.cond (t0 21) (.seq (.gD (sq 22 [mv 0]++sq 4 [mv 22,mb false])) .ret) .skip)) (.gD (sq 23 [mv 0,mv 7,cf 173 [23,24]]++sq 0 [mv 25]))))) (.gD (sq 12 [mv 6,bi .add 12 1]++sq 6 [mv 13]))))))) (.seq (.gD (sq 26 [mv 0]++sq 4 [mv 26,mb true])) .ret)))
theorem W2:jT Tryz.prog 174 Ti 27 [.tmp 4,.tmp 5]:=mf Tryz.func174 Tryz.ntmps174
def tK(gone:fQ):f_->Option (f_⊕gh)
 |(list_1,i)=>
  if(decide (i<(gone.length:Int)))=true then
   if 0<=i/\i<(gone.length:Int)then
    (lF list_1 (gone.getD i.toNat default)).bind fun r=>
    if(decide (r<0))=true then
     Option.map Sum.inr (
      some (list_1,false))
    else
     (nU list_1 r).bind fun r_1=>
     some (.inl (r_1,(IntKind.i64.wrap (i+1))))
   else none
  else
   Option.map Sum.inr (
    some (list_1,true))
def qC(list:fQ)(gone:fQ):Option gh:=
 gK (tK gone) (list,0)
instance M7{list:fQ}{gone:fQ}:gW (qC list gone) fun rr=>pn Tryz.prog 174 [(gE 1 (gE 1 iD)) list,(gE 1 (gE 1 iD)) gone] [(gE 1 (gE 1 iD)) rr.1,bD rr.2]:=⟨@fun rr h=>by
 delta qC at h;refine W2.qn (gC ?_);delta Ti;refine g_ ?_;refine jk h [0,4,5,6,7,8,9,10,11,12,13,14,15,16,17,18,19,20,21,22,23,24,25] (fun pp=>[(0,.d (gE 1 (gE 1 iD) pp.1)),(6,.d (iD pp.2))]) (fun pp=>[]) ?_;rintro⟨list_1,i⟩ t1 h hb1;unfold tK at h;try dsimp only at h
 refine gC (g_ ?_);exact mm⟩
def X7:gH:=
 (.seq (.gD (sq 2 [.mv (.const (.slice none 0 0))])) (.seq (.gD (sq 5 [.lQ 5 22 1 []]++sq 3 [mv 5])) (.seq (.seq (.gD (sq 4 [mi 0])) (.block 0 (.loop (.seq (.seq (.gD (sq 6 [mv 4,mv 0,ln 7,bn .lss 6 8])) (.cond (t0 9) .skip (.exit 0))) (.seq (.block 1 (.seq (.gD (sq 12 [mv 0,mv 4,ix 1 12 13,ld 14,ln 15,bi .eql 16 0])) (.cond (t0 17) (.gD (sq 18 [mv 3,mv 4,.bin .sub (i0 (-1)) (t0 19),.lQ 21 2 1 [(t0 20)],.lQ 22 22 1 [(t0 21)],ap 23 22 1 24 18 22]++sq 3 [mv 23])) (.gD (sq 24 [mv 3,mv 0,mv 4,ix 1 25 26,ld 27,.lQ 29 22 1 [(t0 28)],ap 30 22 1 24 24 29]++sq 3 [mv 30]))))) (.gD (sq 10 [mv 4,bi .add 10 1]++sq 4 [mv 11]))))))) (.seq (.gD (sq 31 [mv 3]++sq 2 [mv 31])) .ret))))
theorem Zz:jT Tryz.prog 84 X7 32 [.tmp 2]:=mf Tryz.func84 Tryz.ntmps84
def sG(given:fQ):f_->Option (f_⊕fQ)
 |(out,i)=>
  if(decide (i<(given.length:Int)))=true then
   if 0<=i/\i<(given.length:Int)then
    if(((given.getD i.toNat default).length:Int)==0)=true then
     if(out.length+1)*24<=140737488355328 then
      some (.inl ((out++[[(IntKind.i64.wrap ((-1)-i))]]),(IntKind.i64.wrap (i+1))))
     else none
    else
     if 0<=i/\i<(given.length:Int)then
      if(out.length+1)*24<=140737488355328 then
       some (.inl ((out++[(given.getD i.toNat default)]),(IntKind.i64.wrap (i+1))))
      else none
     else none
   else none
  else
   Option.map Sum.inr (
    some out)
def qc(given:fQ):Option fQ:=
 gK (sG given) ([],0)
instance Mp{given:fQ}:gW (qc given) fun rr=>iC Tryz.prog 84 [(gE 1 (gE 1 iD)) given] ((gE 1 (gE 1 iD)) rr):=⟨@fun rr h=>by
 delta qc at h;refine Zz.iA (gC ?_);delta X7;refine g_ ?_;refine jk h [3,4,6,7,8,9,10,11,12,13,14,15,16,17,18,19,20,21,22,23,24,25,26,27,28,29,30] (fun pp=>[(3,.own 1 5 (List.map (gE 1 iD) pp.1)),(4,.d (iD pp.2))]) (fun pp=>[(5,.tok 22 1 pp.1.length)]) ?_;rintro⟨out,i⟩ t1 h hb1;unfold sG at h;try dsimp only at h
 refine gC (g_ ?_);refine iT h fun hc h=>?_
 refine iU h fun hp h=>?_
 refine it h (fun hc h=>?_) fun hc h=>?_
 ·refine iU h fun hp h=>?_
  cases h;refine⟨_,rfl,?_⟩;refine(gT.drop 21 gB).trans ?_;refine(gT.drop 22 gB).trans ?_;exact wk
 refine iU h fun hp h=>?_
 refine iU h fun hp h=>?_
 cases h;refine⟨_,rfl,?_⟩;refine(gT.drop 29 gB).trans ?_;exact wk⟩
def Su:gH:=
 (.seq (.gD (sq 3 [bo 3 27 0]++sq 6 [.mv (.const (.slice none 0 0))])) (.seq (.gD (sq 9 [.lQ 9 22 1 []]++sq 7 [mv 9])) (.seq (.seq (.gD (sq 8 [mi 0])) (.block 0 (.loop (.seq (.seq (.gD (sq 10 [mv 8,mv 2,ln 11,bn .lss 10 12])) (.cond (t0 13) .skip (.exit 0))) (.seq (.block 1 (.draw (sq 16 [mv 7,la 1 3,mv 1,mv 2,mv 8,ix 1 19 20,ld 21,cf 62 [17,18,22],cf 160 [16,23]]++sq 7 [mv 24]) [[],[],[],[],[],[3,4],[5],[1,2,6],[0,7,7],[8,8,0,1,2,3,4,5,6,7,8]])) (.gD (sq 14 [mv 8,bi .add 14 1]++sq 8 [mv 15]))))))) (.seq (.gD (sq 25 [mv 7]++sq 6 [mv 25])) .ret))))
theorem Wc:jT Tryz.prog 109 Su 26 [.tmp 6]:=mf Tryz.func109 Tryz.ntmps109
def rE(rec:fP->fP->fP->Option fP)(sig:fP)(ac:fP)(parts:fQ):f_->Option (f_⊕fQ)
 |(out,i)=>
  if(decide (i<(parts.length:Int)))=true then
   if 0<=i/\i<(parts.length:Int)then
    (rec sig ac (parts.getD i.toNat default)).bind fun r=>
    (mH out r).bind fun r_1=>
    some (.inl (r_1,(IntKind.i64.wrap (i+1))))
   else none
  else
   Option.map Sum.inr (
    some out)
def o_(rec:fP->fP->fP->Option fP)(sig:fP)(ac:fP)(parts:fQ):Option fQ:=
 gK (rE rec sig ac parts) ([],0)
instance K3{rec:fP->fP->fP->Option fP}[ih:∀{sig:fP}{ac:fP}{t:fP},gW (rec sig ac t) fun rr=>iC Tryz.prog 62 [gQ sig,(gE 1 iD) ac,(gE 1 iD) t] ((gE 1 iD) rr)]{sig:fP}{ac:fP}{parts:fQ}:gW (o_ rec sig ac parts) fun rr=>iC Tryz.prog 109 [gQ sig,(gE 1 iD) ac,(gE 1 (gE 1 iD)) parts] ((gE 1 (gE 1 iD)) rr):=⟨@fun rr h=>by
 delta o_ at h;refine Wc.iA (gC ?_);delta Su;refine g_ ?_;refine jk h [7,8,10,11,12,13,14,15,16,17,18,19,20,21,22,23,24] (fun pp=>[(7,.d (gE 1 (gE 1 iD) pp.1)),(8,.d (iD pp.2))]) (fun pp=>[(3,.obj 27 [.d (gE 1 iD sig)]),(9,.tok 22 1 0)]) ?_;rintro⟨out,i⟩ t1 h hb1;unfold rE at h;try dsimp only at h
 refine gC (g_ ?_);exact mm⟩
def XR:gH:=
 (.seq (.gD (sq 3 [bo 3 27 0]++sq 6 [.mv (.const (.slice none 0 0))])) (.seq (.seq (.gD (sq 10 [mv 1,mv 2,.tD 1 (t0 11) (i0 0),ld 12,cf 107 [10,13]])) (.cond (t0 14) (.seq (.draw (sq 15 [mv 2,.tD 1 (t0 15) (i0 0),ld 16,la 1 3,mv 1,la 1 3,mv 2,.tD 1 (t0 21) (i0 0),ld 22,mv 2,.iw 110 [(t0 20),(t0 23),(t0 24),(i0 0)],cf 109 [18,19,25],cf 108 [17,26]]++sq 6 [mv 27]) [[],[0],[1],[],[],[],[],[6],[7],[],[5,8,9],[3,4,10,10],[2,11,11],[12,12,0,1,2,3,4,5,6,7,8,9,10,11,12]]) .ret) .skip)) (.seq (.gD (sq 28 [mv 2,.tD 1 (t0 28) (i0 0),ld 29,.lQ 31 2 1 [(t0 30)]]++sq 7 [mv 31])) (.seq (.gD (sq 32 [la 1 3,mv 2,.iw 111 [(t0 32),(t0 33),(i0 0)]]++sq 8 [mv 34])) (.seq (.seq (.gD (sq 9 [mi 0])) (.block 0 (.loop (.seq (.seq (.gD (sq 35 [mv 9,mv 8,ln 36,bn .lss 35 37])) (.cond (t0 38) .skip (.exit 0))) (.seq (.block 1 (.draw (sq 41 [mv 7,la 1 3,mv 1,la 1 3,mv 2,mv 8,mv 9,ix 1 46 47,ld 48,cf 112 [44,45,49],cf 62 [42,43,50],ap 52 2 1 8 41 51]++sq 7 [mv 52]) [[],[],[],[],[],[],[],[5,6],[7],[3,4,8],[1,2,9,9],[0,10,10],[11,11,0,1,2,3,4,5,6,7,8,9,10,11]])) (.gD (sq 39 [mv 9,bi .add 39 1]++sq 9 [mv 40]))))))) (.seq (.gD (sq 53 [mv 7]++sq 6 [mv 53])) .ret))))))
theorem Zj:jT Tryz.prog 62 XR 54 [.tmp 6]:=mf Tryz.func62 Tryz.ntmps62
def tJ(rec:fP->fP->fP->Option fP)(sig:fP)(ac:fP)(t:fP)(r_4:fP):gp->Option (gp⊕fP)
 |(out,i)=>
  if(decide (i<(r_4.length:Int)))=true then
   if 0<=i/\i<(r_4.length:Int)then
    (jX sig t (r_4.getD i.toNat default)).bind fun r_5=>
    (rec sig ac r_5).bind fun r_6=>
    if(out.length+r_6.length)*8<=140737488355328 then
     some (.inl ((out++r_6),(IntKind.i64.wrap (i+1))))
    else none
   else none
  else
   Option.map Sum.inr (
    some out)
def lp:Nat->fP->fP->fP->Option fP
 |0,_,_,_=>none
 |fu+1,sig,ac,t=>
  if 0<=0/\0<(t.length:Int)then
   (kK ac (t.getD 0 default)).bind fun r=>
   if r=true then
    if 0<=0/\0<(t.length:Int)then
     if 0<=0/\0<(t.length:Int)then
      (kQ sig (t.getD 0 default) t 0).bind fun r_1=>
      (o_ (lp fu) sig ac r_1).bind fun r_2=>
      (qb (t.getD 0 default) r_2).bind fun r_3=>
      some r_3
     else none
    else none
   else
    if 0<=0/\0<(t.length:Int)then
     (mJ sig t 0).bind fun r_4=>
     gK (tJ (lp fu) sig ac t r_4) ([(t.getD 0 default)],0)
    else none
  else none
def jq(sig:fP)(ac:fP)(t:fP):Option fP:=Ba fun fu=>lp fu sig ac t
theorem yN:∀{fu:Nat}{sig:fP}{ac:fP}{t:fP}{rr:fP}(h:lp fu sig ac t=some rr),iC Tryz.prog 62 [gQ sig,(gE 1 iD) ac,(gE 1 iD) t] ((gE 1 iD) rr)
 |0,_,_,_,_,h=>by cases h
 |fu+1,sig,ac,t,rr,h=>by
  have ih:∀{sig:fP}{ac:fP}{t:fP},gW (lp fu sig ac t) fun rr=>iC Tryz.prog 62 [gQ sig,(gE 1 iD) ac,(gE 1 iD) t] ((gE 1 iD) rr):=⟨fun h=>yN h⟩
  unfold lp at h;refine Zj.iA (gC ?_);delta XR;refine g_ ?_;refine iU h fun hp h=>?_
  refine rC h fun r hr h=>?_
  refine iF h fun hc h=>?_
  refine iU h fun hp h=>?_
  refine rC h fun r_4 hr_4 h=>?_
  refine jk h [7,9,35,36,37,38,39,40,41,42,43,44,45,46,47,48,49,50,51,52] (fun pp=>[(7,.own 1 31 (List.map iD pp.1)),(9,.d (iD pp.2))]) (fun pp=>[(3,.obj 27 [.d (gE 1 iD sig)]),(31,.tok 2 1 pp.1.length)]) ?_;rintro⟨out,i⟩ t1 h hb1;unfold tJ at h;try dsimp only at h
  refine gC (g_ ?_);exact mm
instance Iv{sig:fP}{ac:fP}{t:fP}:gW (jq sig ac t) fun rr=>iC Tryz.prog 62 [gQ sig,(gE 1 iD) ac,(gE 1 iD) t] ((gE 1 iD) rr):=⟨fun h=>yN (pq h).choose_spec⟩
end Go.Proofs.YthdnkoejpdcnpaaGreat
