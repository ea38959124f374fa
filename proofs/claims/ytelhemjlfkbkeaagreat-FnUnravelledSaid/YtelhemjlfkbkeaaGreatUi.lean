/- A part of the proof about FnUnravelled (U3). -/
import Derived.Test.YtelhemjlfkbkeaaGreatUh
set_option linter.all false
noncomputable section
namespace Go.Proofs.YtelhemjlfkbkeaaGreat
open Go oe
attribute [local irreducible] xL zb yK oW pM sV pO Er FY CG FX Cg yg pT rE EZ jr oN
set_option maxHeartbeats 4000000
set_option maxRecDepth 4000
def Xk:gR:=
 (.seq (.gz (sq 2 [bo 2 29 0]++sq 4 [mi 0])) (.seq (.gz (sq 5 [mi 0])) (.seq (.seq (.gz (sq 8 [fa 1 2,ld 8,mv 1,.slc (t0 9) 3 none (some (t0 10)) none,ln 11,mi 0])) (.block 0 (.loop (.seq (.gz (sq 14 [bn .lss 13 12])) (.seq (.cond (t0 14) .skip (.exit 0)) (.seq (.block 1 (.seq (.gz (sq 15 [ix 3 11 13,la 3 15]++sq 7 [.alloc 7 55 [.sl 0 (some true) [],.sl 0 (some true) [],.sl 0 (some true) []]]++s0 (sr 3 7 16))) (.gz (sq 17 [mv 5,fa 2 7,ld 18,ln 19,.bin .add (i0 1) (t0 20),bn .add 17 21]++sq 5 [mv 22])))) (.gz (sq 23 [bi .add 13 1]++sq 13 [mv 23])))))))) (.seq (.gz (sq 24 [mv 5]++sq 4 [mv 24])) .ret))))
theorem Zs:lE Tryz.prog 60 Xk 25 [.tmp 4]:=mf Tryz.func60 Tryz.ntmps60
def lg(cs:gm)(rule:Int):fT->Option (fT⊕Int)
 |(start,v13)=>
  if(decide (v13<((cs.2.take rule.toNat).length:Int)))=true then
   if 0<=v13/\v13<((cs.2.take rule.toNat).length:Int)then
    some (.inl ((IntKind.i64.wrap (start+(IntKind.i64.wrap (1+((((cs.2.take rule.toNat).getD v13.toNat default).2.2).length:Int))))),(IntKind.i64.wrap (v13+1))))
   else none
  else
   Option.map Sum.inr (
    some start)
def me(cs:gm)(rule:Int):Option Int:=
 if 0<=rule/\rule<=(cs.2.length:Int)then
  gI (lg cs rule) (0,0)
 else none
instance Ew{cs:gm}{rule:Int}:iH (me cs rule) fun rr=>lz Tryz.prog 60 [gP cs,iD rule] (iD rr):=⟨@fun rr h=>by
 delta me at h;refine Zs.jO (gv ?_);delta Xk;refine iL ?_;refine kz h fun hp h=>?_
 refine jV h [5,7,13,14,15,16,17,18,19,20,21,22,23] (fun pp=>[(5,.d (iD pp.1)),(13,.d (iD pp.2))]) (fun pp=>[(2,.obj 29 [.d (gN 1 iD cs.1),.d (gN 3 gB cs.2)])]) ?_;rintro⟨start,v13⟩ t1 h hb1;unfold lg at h;try dsimp only at h
 refine gv (iL ?_);refine iT h fun hc h=>?_
 refine kz h fun hp h=>?_
 cases h;refine⟨_,rfl,?_⟩;refine(iB.drop 7 gu).trans ?_;exact wk⟩
def Xm:gR:=
 (.seq (.gz (sq 1 [bo 1 36 0,.mv (.const (.slice none 0 0))])) (.seq (.seq (.gz (sq 4 [fa 1 1,ld 4,ln 5]++sq 3 [mv 6])) (.seq (.gz (sq 7 [mv 3,bi .gtr 7 0])) (.cond (t0 8) (.seq (.gz (sq 9 [fa 1 1,ld 9,mv 3,bi .sub 11 1,ix 3 10 12,fa 2 13,ld 14]++sq 2 [mv 15])) .ret) .skip))) (.seq (.gz (sq 16 [fa 0 1,ld 16]++sq 2 [mv 17])) .ret)))
theorem Zu:lE Tryz.prog 62 Xm 18 [.tmp 2]:=mf Tryz.func62 Tryz.ntmps62
def mZ(w:fX):Option fI:=
 if(decide (0<(w.2.length:Int)))=true then
  if 0<=(IntKind.i64.wrap ((w.2.length:Int)-1))/\(IntKind.i64.wrap ((w.2.length:Int)-1))<(w.2.length:Int)then
   some ((w.2.getD (IntKind.i64.wrap ((w.2.length:Int)-1)).toNat default).2.2)
  else none
 else
  some w.1
instance Nk{w:fX}:iH (mZ w) fun rr=>lz Tryz.prog 62 [jC w] ((gN 1 iD) rr):=⟨@fun rr h=>by
 delta mZ at h;refine Zu.jO (gv ?_);delta Xm;refine iL ?_;exact od⟩
def XV:gR:=
 (.seq (.gz (sq 4 [bo 4 41 0]++sq 8 [.mv (.const (.slice none 0 0)),mb false])) (.seq (.draw (sq 14 [fa 0 4,la 1 14,fa 1 4,ld 16,mv 3,ix 2 17 18,fa 0 19,ld 20,fa 0 4,la 1 22,mv 1,mv 2,cf 47 [23,24,25],cf 117 [15,21,26]]++sq 13 [mv 27]++sq 28 [ex 13 0,ex 13 1]++sq 10 [.alloc 10 93 [.sl 0 (some true) []]]++s0 (sr 1 10 28)++sq 11 [mv 29]) [[],[0],[],[2],[],[3,4],[5],[6],[],[8],[],[],[9,10,11],[1,7,12,12],[13],[14],[14],[],[17,15,13,0,1,2,3,4,5,6,7,8,9,10,11,12,13,14,15,17],[16,18,0,1,2,3,4,5,6,7,8,9,10,11,12,13,14,15,16,17,18]]) (.seq (.seq (.gz (sq 30 [mv 11,nt 30])) (.cond (t0 31) (.seq (.gz (sq 8 [.mv (.const (.slice none 0 0)),mb false])) .ret) .skip)) (.seq (.draw (sq 33 [la 1 10,fa 1 4,ld 34,mv 3,ix 2 35 36,fa 1 37,ld 38,cf 48 [33,39]]++sq 32 [mv 40]++sq 41 [ex 32 0,ex 32 1]++sq 12 [mv 41]++sq 11 [mv 42]) [[],[],[1],[],[2,3],[4],[5],[0,6],[7],[8],[8],[9,7,0,1,2,3,4,5,6,7,8,9],[10,11,0,1,2,3,4,5,6,7,8,9,10,11]]) (.seq (.seq (.gz (sq 43 [mv 11,nt 43])) (.cond (t0 44) (.seq (.gz (sq 8 [.mv (.const (.slice none 0 0)),mb false])) .ret) .skip)) (.seq (.gz (sq 45 [fa 0 4,la 1 45,mv 1,mv 2,mv 12,cf 51 [46,47,48,49],ex 50 0,ex 50 1]++sq 8 [mv 51,mv 52])) .ret))))))
theorem ZY:lE Tryz.prog 98 XV 53 [.tmp 8,.tmp 9]:=mf Tryz.func98 Tryz.ntmps98
def tu(sys:fW)(t:fI)(iz:Int)(rule:Int):Option fN:=
 if 0<=rule/\rule<(sys.2.length:Int)then
  (mP sys.1 t iz).bind fun r=>
  (ua sys.1 ((sys.2.getD rule.toNat default).1) r).bind fun r_1=>
  if r_1.2=true then
   if 0<=rule/\rule<(sys.2.length:Int)then
    (m_ r_1.1 ((sys.2.getD rule.toNat default).2)).bind fun r_2=>
    if r_2.2=true then
     (nX sys.1 t iz r_2.1).bind fun r_3=>
     some r_3
    else
     some ([],false)
   else none
  else
   some ([],false)
 else none
instance Tc{sys:fW}{t:fI}{iz:Int}{rule:Int}:iH (tu sys t iz rule) fun rr=>ki Tryz.prog 98 [jg sys,(gN 1 iD) t,iD iz,iD rule] [(gN 1 iD) rr.1,bD rr.2]:=⟨@fun rr h=>by
 delta tu at h;refine ZY.mK (gv ?_);delta XV;refine iL ?_;exact od⟩
def Xo:gR:=
 (.seq (.gz (sq 3 [bo 3 72 1])) (.draw (sq 4 [mv 0,mv 0,.rI (t0 5),fa 1 6,ld 7,fa 0 3,ld 9,fa 1 3,ld 11,fa 2 3,ld 13,cf 56 [14],.build [.lit (.int .i64 0),.lit (.int .i64 0),.sl 0 (some true) []] [(0,1,(t0 10)),(1,1,(t0 12)),(2,1,(t0 15))],.mH 17 72 3 [(t0 16)],ap 18 72 3 40 8 17,.rI (t0 4),fa 1 19]++s0 (sr 1 20 18)) [[],[],[1],[2],[3],[],[5],[],[7],[],[9],[10],[6,8,11],[12],[4,13,11],[0,0,1,2,3,4,5,6,7,8,9,10,11,12,13,14],[15,0,1,2,3,4,5,6,7,8,9,10,11,12,13,14],[16,14,14,0,1,2,3,4,5,6,7,8,9,10,11,12,13,14]]))
theorem Zw:lE Tryz.prog 65 Xo 21 []:=mf Tryz.func65 Tryz.ntmps65
def oY(s:fK)(w0:fI)(w1:fQ):Option fQ:=
 (iW s.2.2).bind fun r=>
 if(w1.length+1)*40<=140737488355328 then
  some (w1++[(s.1,s.2.1,r)])
 else none
instance Nj{s:fK}{w0:fI}{w1:fQ}:iH (oY s w0 w1) fun rr=>hY Tryz.prog 65 [.ptr 0 0,.d (.agg [iD s.1,iD s.2.1,gN 1 iD s.2.2])] [(0,.obj 36 [.d (gN 1 iD w0),.own 3 1 (List.map kO w1)]),(1,.tok 72 3 w1.length)] 2 fun xx ss=>xx=.oz []/\ss=[(0,.obj 36 [.d (gN 1 iD w0),.own 3 1 (List.map kO rr)]),(1,.tok 72 3 rr.length)]:=⟨@fun rr h=>by
 delta oY at h;refine Zw.nN (gv ?_);delta Xo;refine iL ?_;refine dC h fun r hr h=>?_
 refine kz h fun hp h=>?_
 refine jo (by kernel_rfl) (iL ?_);cases h;exact⟨[3,17],by simp,lC,lC⟩⟩
def Xl:gR:=
 (.seq (.gz (sq 5 [bo 5 41 1]++sq 8 [mb false])) (.seq (.draw (sq 12 [la 2 5,mv 0,.rI (t0 13),la 2 14,cf 62 [15],mv 2,mv 3,cf 98 [12,16,17,18]]++sq 11 [mv 19]++sq 20 [ex 11 0,ex 11 1]++sq 9 [mv 20,mv 21]) [[],[],[1],[2],[3],[],[],[0,4,5,6,4],[7],[8],[8],[9,7,0,1,2,3,4,5,6,7,8,9],[10,11,0,1,2,3,4,5,6,7,8,9,10,11]]) (.seq (.seq (.gz (sq 22 [mv 10,nt 22,mv 23]++sg 24 false 25 [mv 0,.rI (t0 25),fa 1 26,ld 27,ln 28,bi .eql 29 60]++sq 31 [po 24 30])) (.cond (t0 31) (.seq (.gz (sq 8 [mb false])) .ret) .skip)) (.seq (.gz (sq 32 [mv 0,mv 2,mv 3,mv 9,.build [.lit (.int .i64 0),.lit (.int .i64 0),.sl 0 (some true) []] [(0,1,(t0 33)),(1,1,(t0 34)),(2,1,(t0 35))],cf 65 [32,36]])) (.seq (.gz (sq 8 [mb true])) .ret)))))
theorem Zt:lE Tryz.prog 61 Xl 38 [.tmp 8]:=mf Tryz.func61 Tryz.ntmps61
def kf(sys:fW)(iz:Int)(rule:Int)(w0:fI)(w1:fQ):Option (Bool×fQ):=
 (mZ (w0,w1)).bind fun r=>
 (tu sys r iz rule).bind fun r_1=>
 if r_1.2=true then
  if((w1.length:Int)==60)=true then
   some (false,w1)
  else
   (oY (iz,rule,r_1.1) w0 w1).bind fun r_2=>
   some (true,r_2)
 else
  some (false,w1)
instance Jd{sys:fW}{iz:Int}{rule:Int}{w0:fI}{w1:fQ}:iH (kf sys iz rule w0 w1) fun rr=>hY Tryz.prog 61 [.ptr 0 0,.d (.agg [gN 1 iD sys.1,gN 2 jL sys.2]),.d (iD iz),.d (iD rule)] [(0,.obj 36 [.d (gN 1 iD w0),.own 3 1 (List.map kO w1)]),(1,.tok 72 3 w1.length)] 2 fun xx ss=>xx=.d (bD rr.1)/\ss=[(0,.obj 36 [.d (gN 1 iD w0),.own 3 1 (List.map kO rr.2)]),(1,.tok 72 3 rr.2.length)]:=⟨@fun rr h=>by
 delta kf at h;refine Zt.nN (gv ?_);delta Xl;refine iL ?_;refine dC h fun r hr h=>?_
 refine QY h fun r_1 hr_1 h=>?_
 refine jo (by kernel_rfl) (iL ?_);refine it h (fun hc h=>?_) fun hc h=>?_
 ·refine it h (fun hc h=>?_) fun hc h=>?_
  ·cases h;exact⟨[5],by simp,lC,lC⟩
  refine mA [(0,0),(1,1)] [] h fun r_2 hr_2 h=>?_
  cases h;exact⟨[5],by simp,lC,lC⟩
 cases h;exact⟨[5],by simp,lC,lC⟩⟩
def su(cs:gm)(t:fI)(depth:Int)(best:Int)(rule:Int)(to:fI)(lowest:Int)(iz:Int):Int->Option (Int⊕(f_⊕fK))
 |v44=>
  if(decide (v44<(cs.2.length:Int)))=true then
   if 0<=v44/\v44<(cs.2.length:Int)then
    (kA cs t iz ((cs.2.getD v44.toNat default).1,(cs.2.getD v44.toNat default).2.1,(cs.2.getD v44.toNat default).2.2) depth).bind fun r_1=>
    if r_1.2=true then
     Option.map Sum.inr (
      some (.inl (iz,v44,r_1.1,iz,(IntKind.i64.wrap (iz-1)))))
    else
     some (.inl (IntKind.i64.wrap (v44+1)))
   else none
  else
   Option.map Sum.inr (
    some (.inl (best,rule,to,lowest,(IntKind.i64.wrap (iz-1)))))
def sn(cs:gm)(t:fI)(depth:Int):f_->Option (f_⊕fK)
 |(best,rule,to,lowest,iz)=>
  if(decide (0<=iz))=true then
   if 0<=iz/\iz<(t.length:Int)then
    if(decide ((t.getD iz.toNat default)<0))=true then
     some (.inl (best,rule,to,lowest,(IntKind.i64.wrap (iz-1))))
    else
     (nH cs.1 t iz).bind fun r=>
     if(decide (lowest<r))=true then
      some (.inl (best,rule,to,lowest,(IntKind.i64.wrap (iz-1))))
     else
      gI (su cs t depth best rule to lowest iz) 0
   else none
  else
   Option.map Sum.inr (
    some (best,rule,to))
def kQ(cs:gm)(t:fI)(depth:Int):Option fK:=
 gI (sn cs t depth) ((-1),0,[],(t.length:Int),(IntKind.i64.wrap ((t.length:Int)-1)))
instance F8{cs:gm}{t:fI}{depth:Int}:iH (kQ cs t depth) fun rr=>ki Tryz.prog 63 [gP cs,(gN 1 iD) t,iD depth] [iD rr.1,iD rr.2.1,(gN 1 iD) rr.2.2]:=⟨@fun rr h=>by
 delta kQ at h;refine Wp.mK (gv ?_);delta UR;refine iL ?_;refine jV h [9,10,11,12,13,14,15,16,17,23,24,25,26,27,28,29,30,31,32,33,34,35,36,37,38,39,40,41,42,43,44,45,46,47,48,49,50,51,52,53,54,55,56,57,58,59,60,61,62,63] (fun pp=>[(9,.d (iD pp.1)),(10,.d (iD pp.2.1)),(11,.d (gN 1 iD pp.2.2.1)),(12,.d (iD pp.2.2.2.1)),(13,.d (iD pp.2.2.2.2))]) (fun pp=>[(3,.obj 29 [.d (gN 1 iD cs.1),.d (gN 3 gB cs.2)])]) ?_;rintro⟨best,rule,to,lowest,iz⟩ t1 h hb1;unfold sn at h;try dsimp only at h
 refine gv (iL ?_);refine iT h fun hc h=>?_
 refine kz h fun hp h=>?_
 refine iF h fun hc h=>?_
 refine rC h fun r hr h=>?_
 refine iF h fun hc h=>?_
 refine jV h [9,10,11,12,14,15,16,17,44,45,46,47,48,49,50,51,52,53,54,55,56,57,58,59,60,61,62,63] (fun pp=>[(9,.d (iD best)),(10,.d (iD rule)),(11,.d (gN 1 iD to)),(12,.d (iD lowest)),(44,.d (iD pp))]) (fun pp=>[(3,.obj 29 [.d (gN 1 iD cs.1),.d (gN 3 gB cs.2)])]) ?_;rintro v44 t2 h hb2;unfold su at h;try dsimp only at h
 refine gv (iL ?_);refine iT h fun hc h=>?_
 refine kz h fun hp h=>?_
 refine G4 h fun r_1 hr_1 h=>?_
 refine it h (fun hc h=>?_) fun hc h=>?_
 ·replace h:=g_ h hb2;cases h;refine⟨_,rfl,?_⟩;refine(iB.drop 15 gu).trans ?_;exact wk
 cases h;refine⟨_,rfl,?_⟩;refine(iB.drop 15 gu).trans ?_;exact wk⟩
def Xn:gR:=
 (.seq (.gz (sq 4 [bo 4 26 0,bo 5 36 1]++sq 8 [.alloc 8 36 [.sl 0 (some true) [],.sl 0 (some true) []],mb false])) (.seq (.gz (sq 18 [la 1 4,mv 2,mv 3,fa 0 5,ld 21,cf 51 [18,19,20,22]]++sq 17 [mv 23]++sq 24 [ex 17 0,ex 17 1]++sq 10 [mv 24,mv 25])) (.seq (.seq (.gz (sq 26 [mv 11,nt 26])) (.cond (t0 27) (.seq (.gz (sq 28 [.build [.sl 0 (some true) [],.sl 0 (some true) []] []]++s0 (sr 2 8 28)++sq 9 [mb false])) .ret) .skip)) (.seq (.gz (sq 29 [mv 10,.build [.sl 0 (some true) [],.sl 0 (some true) []] [(0,1,(t0 29))]]++sq 12 [.alloc 12 36 [.sl 0 (some true) [],.sl 0 (some true) []]]++s0 (sr 2 12 30))) (.seq (.seq (.gz (sq 31 [fa 1 5,ld 31,ln 32,mi 0])) (.block 0 (.loop (.seq (.gz (sq 35 [bn .lss 34 33])) (.seq (.cond (t0 35) .skip (.exit 0)) (.seq (.block 1 (.seq (.gz (sq 36 [ix 3 32 34,la 3 36]++sq 14 [.alloc 14 72 [.lit (.int .i64 0),.lit (.int .i64 0),.sl 0 (some true) []]]++s0 (sr 3 14 37))) (.seq (.gz (sq 39 [la 1 4,mv 2,mv 3,fa 2 14,ld 42,cf 51 [39,40,41,43]]++sq 38 [mv 44]++sq 45 [ex 38 0,ex 38 1]++sq 15 [mv 45,mv 46])) (.seq (.seq (.gz (sq 47 [mv 16,nt 47])) (.cond (t0 48) (.seq (.gz (sq 49 [.build [.sl 0 (some true) [],.sl 0 (some true) []] []]++s0 (sr 2 8 49)++sq 9 [mb false])) .ret) .skip)) (.gz (sq 50 [fa 1 12,ld 50,fa 0 14,ld 52,mv 3,bn .add 53 54,fa 1 14,ld 56,mv 15,.build [.lit (.int .i64 0),.lit (.int .i64 0),.sl 0 (some true) []] [(0,1,(t0 55)),(1,1,(t0 57)),(2,1,(t0 58))],.mH 60 72 3 [(t0 59)],ap 61 72 3 40 51 60,fa 1 12]++s0 (sr 1 62 61))))))) (.gz (sq 63 [bi .add 34 1]++sq 34 [mv 63])))))))) (.seq (.gz (sq 64 [la 2 12]++s0 (sr 2 8 64)++sq 9 [mb true])) .ret))))))
theorem Zv:lE Tryz.prog 64 Xn 65 [.cell 8 2 true,.tmp 9]:=mf Tryz.func64 Tryz.ntmps64
def pz(sig:fI)(w:fX)(t:fI)(iz:Int)(r:fN):(Int×fQ)->Option ((Int×fQ)⊕gb)
 |(v34,out)=>
  if(decide (v34<(w.2.length:Int)))=true then
   if 0<=v34/\v34<(w.2.length:Int)then
    (nX sig t iz ((w.2.getD v34.toNat default).2.2)).bind fun r_1=>
    if r_1.2=true then
     if(out.length+1)*40<=140737488355328 then
      some (.inl ((IntKind.i64.wrap (v34+1)),(out++[((IntKind.i64.wrap ((w.2.getD v34.toNat default).1+iz)),(w.2.getD v34.toNat default).2.1,r_1.1)])))
     else none
    else
     Option.map Sum.inr (
      some (([],[]),false))
   else none
  else
   Option.map Sum.inr (
    some ((r.1,out),true))
def pq(sig:fI)(w:fX)(t:fI)(iz:Int):Option gb:=
 (nX sig t iz w.1).bind fun r=>
 if r.2=true then
  gI (pz sig w t iz r) (0,[])
 else
  some (([],[]),false)
instance KQ{sig:fI}{w:fX}{t:fI}{iz:Int}:iH (pq sig w t iz) fun rr=>ki Tryz.prog 64 [iZ sig,jC w,(gN 1 iD) t,iD iz] [jC rr.1,bD rr.2]:=⟨@fun rr h=>by
 delta pq at h;refine Zv.mK (gv ?_);delta Xn;refine iL ?_;refine G4 h fun r hr h=>?_
 refine iT h fun hc h=>?_
 refine rZ h [9,14,15,16,34,35,36,37,38,39,40,41,42,43,44,45,46,47,48,49,50,51,52,53,54,55,56,57,58,59,60,61,62,63] (fun pp=>[(34,.d (iD pp.1))]) (fun pp=>[(4,.obj 26 [.d (gN 1 iD sig)]),(5,.obj 36 [.d (gN 1 iD w.1),.d (gN 3 kO w.2)]),(8,.obj 36 [.d (.sl 0 (some true) []),.d (.sl 0 (some true) [])]),(12,.obj 36 [.d (gN 1 iD r.1),.own 3 61 (List.map kO pp.2)]),(61,.tok 72 3 pp.2.length)]) ?_ ?_
 ·try dsimp only
  refine(iB.yb 12 1 61 72 3 rfl rfl rfl).trans ?_;exact wk
 rintro⟨v34,out⟩ t1 h hb1;unfold pz at h;try dsimp only at h
 refine gv (iL ?_);refine iT h fun hc h=>?_
 refine kz h fun hp h=>?_
 refine G4 h fun r_1 hr_1 h=>?_
 refine iT h fun hc h=>?_
 refine kz h fun hp h=>?_
 cases h;refine⟨_,rfl,?_⟩;refine(iB.drop 14 gu).trans ?_;refine(iB.drop 60 gu).trans ?_;exact wk⟩
def WR:gR:=
 (.seq (.gz (sq 6 [bo 6 29 0,bo 7 41 1]++sq 12 [.alloc 12 36 [.sl 0 (some true) [],.sl 0 (some true) []],mb false])) (.seq (.gz (sq 27 [fa 1 6,ld 27,mv 4,ix 3 28 29,la 3 30]++sq 14 [.alloc 14 55 [.sl 0 (some true) [],.sl 0 (some true) [],.sl 0 (some true) []]]++s0 (sr 3 14 31))) (.seq (.gz (sq 32 [mv 2,cf 56 [32],.build [.sl 0 (some true) [],.sl 0 (some true) []] [(0,1,(t0 33))]]++sq 15 [.alloc 15 36 [.sl 0 (some true) [],.sl 0 (some true) []]]++s0 (sr 2 15 34))) (.seq (.gz (sq 35 [la 2 6,mv 4,cf 60 [35,36]]++sq 16 [mv 37])) (.seq (.seq (.gz (sq 38 [la 2 7,mv 3,mv 16,cf 61 [15,38,39,40],nt 41])) (.cond (t0 42) (.seq (.gz (sq 43 [.build [.sl 0 (some true) [],.sl 0 (some true) []] []]++s0 (sr 2 12 43)++sq 13 [mb false])) .ret) .skip)) (.seq (.seq (.gz (sq 44 [fa 2 14,ld 44,ln 45,mi 0])) (.block 0 (.loop (.seq (.gz (sq 48 [bn .lss 47 46])) (.seq (.cond (t0 48) .skip (.exit 0)) (.seq (.block 1 (.seq (.gz (sq 49 [mv 47]++sq 17 [mv 49])) (.seq (.draw (sq 50 [fa 0 7,la 1 50,la 2 15,cf 62 [52],mv 3,bi .add 54 1,cf 47 [51,53,55],cf 56 [56]]++sq 18 [mv 57]) [[],[0],[],[2],[],[4],[1,3,5,3],[6,6],[7,7,0,1,2,3,4,5,6,7]]) (.seq (.block 2 (.loop (.block 3 (.seq (.gz (sq 59 [la 2 6,mv 18,mv 5,bi .sub 61 1,cf 63 [59,60,62]]++sq 58 [mv 63]++sq 64 [ex 58 0,ex 58 1,ex 58 2]++sq 19 [mv 64,mv 65,mv 66])) (.seq (.seq (.gz (sq 67 [mv 19,bi .lss 67 0])) (.cond (t0 68) (.exit 2) .skip)) (.seq (.gz (sq 70 [la 2 6,la 2 7,mv 18,mv 19,mv 20,mv 5,bi .sub 75 1,cf 25 [70,71,72,73,74,76]]++sq 69 [mv 77]++sq 78 [ex 69 0,ex 69 1]++sq 22 [.alloc 22 36 [.sl 0 (some true) [],.sl 0 (some true) []]]++s0 (sr 2 22 78)++sq 23 [mv 79])) (.seq (.seq (.gz (sq 80 [mv 23,nt 80])) (.cond (t0 81) (.seq (.gz (sq 82 [.build [.sl 0 (some true) [],.sl 0 (some true) []] []]++s0 (sr 2 12 82)++sq 13 [mb false])) .ret) .skip)) (.seq (.draw (sq 84 [fa 0 7,la 1 84,la 2 22,la 2 15,cf 62 [87],mv 3,bi .add 89 1,cf 64 [85,86,88,90]]++sq 83 [mv 91]++sq 92 [ex 83 0,ex 83 1]++sq 24 [.alloc 24 36 [.sl 0 (some true) [],.sl 0 (some true) []]]++s0 (sr 2 24 92)++sq 23 [mv 93]) [[],[0],[],[],[3],[],[5],[1,2,4,6,4],[7],[8],[8],[],[11,9,7,0,1,2,3,4,5,6,7,8,9,11],[10,12,0,1,2,3,4,5,6,7,8,9,10,11,12]]) (.seq (.seq (.gz (sq 94 [mv 23,nt 94,mv 95]++sg 96 false 97 [fa 1 15,ld 97,ln 98,fa 1 24,ld 100,ln 101,bn .add 99 102,bi .gtr 103 60]++sq 105 [po 96 104])) (.cond (t0 105) (.seq (.gz (sq 106 [.build [.sl 0 (some true) [],.sl 0 (some true) []] []]++s0 (sr 2 12 106)++sq 13 [mb false])) .ret) .skip)) (.seq (.seq (.gz (sq 107 [fa 1 24,ld 107,ln 108,mi 0])) (.block 4 (.loop (.seq (.gz (sq 111 [bn .lss 110 109])) (.seq (.cond (t0 111) .skip (.exit 4)) (.seq (.block 5 (.seq (.gz (sq 112 [ix 3 108 110,la 3 112]++sq 26 [.alloc 26 72 [.lit (.int .i64 0),.lit (.int .i64 0),.sl 0 (some true) []]]++s0 (sr 3 26 113))) (.gz (sq 114 [la 3 26,cf 65 [15,114]])))) (.gz (sq 116 [bi .add 110 1]++sq 110 [mv 116])))))))) (.gz (sq 117 [mv 21]++sq 18 [mv 117])))))))))))) (.seq (.gz (sq 118 [la 2 7,mv 3,mv 16,bi .add 120 1,mv 17,bn .add 121 122,cf 61 [15,118,119,123],nt 124])) (.cond (t0 125) (.seq (.gz (sq 126 [.build [.sl 0 (some true) [],.sl 0 (some true) []] []]++s0 (sr 2 12 126)++sq 13 [mb false])) .ret) .skip)))))) (.gz (sq 127 [bi .add 47 1]++sq 47 [mv 127])))))))) (.seq (.gz (sq 128 [la 2 15]++s0 (sr 2 12 128)++sq 13 [mb true])) .ret)))))))
theorem Y0:lE Tryz.prog 25 WR 129 [.cell 12 2 true,.tmp 13]:=mf Tryz.func25 Tryz.ntmps25
def ou(r:fI)(r_6:fK)(r_10:gb):(Int×fQ)->Option ((Int×fQ)⊕(fX⊕((Int×fQ)⊕gb)))
 |(v110,w_2)=>
  if(decide (v110<(r_10.1.2.length:Int)))=true then
   if 0<=v110/\v110<(r_10.1.2.length:Int)then
    (oY ((r_10.1.2.getD v110.toNat default).1,(r_10.1.2.getD v110.toNat default).2.1,(r_10.1.2.getD v110.toNat default).2.2) r w_2).bind fun r_11=>
    some (.inl ((IntKind.i64.wrap (v110+1)),r_11))
   else none
  else
   Option.map Sum.inr (
    some (.inl (r_6.2.2,w_2)))
def jY(rec:gm->fW->fI->Int->Int->Int->Option gb)(cs:gm)(sys:fW)(iz:Int)(depth:Int)(r:fI)(r_1:Int)(v47:Int):fX->Option (fX⊕((Int×fQ)⊕gb))
 |(u,w_1)=>
  (kQ cs u (IntKind.i64.wrap (depth-1))).bind fun r_6=>
  if(decide (r_6.1<0))=true then
   Option.map Sum.inr (
    (kf sys iz (IntKind.i64.wrap ((IntKind.i64.wrap (r_1+1))+v47)) r w_1).bind fun r_7=>
    if r_7.1=true then
     some (.inl ((IntKind.i64.wrap (v47+1)),r_7.2))
    else
     Option.map Sum.inr (
      some (([],[]),false)))
  else
   (rec cs sys u r_6.1 r_6.2.1 (IntKind.i64.wrap (depth-1))).bind fun r_8=>
   if r_8.2=true then
    (mZ (r,w_1)).bind fun r_9=>
    (pq sys.1 r_8.1 r_9 (IntKind.i64.wrap (iz+1))).bind fun r_10=>
    if r_10.2=true then
     if(decide (60<(IntKind.i64.wrap ((w_1.length:Int)+(r_10.1.2.length:Int)))))=true then
      Option.map Sum.inr (
       Option.map Sum.inr (
        some (([],[]),false)))
     else
      gI (ou r r_6 r_10) (0,w_1)
    else
     Option.map Sum.inr (
      Option.map Sum.inr (
       some (([],[]),false)))
   else
    Option.map Sum.inr (
     Option.map Sum.inr (
      some (([],[]),false)))
def jB(rec:gm->fW->fI->Int->Int->Int->Option gb)(cs:gm)(sys:fW)(iz:Int)(rule:Int)(depth:Int)(r:fI)(r_1:Int):(Int×fQ)->Option ((Int×fQ)⊕gb)
 |(v47,w)=>
  if(decide (v47<(((cs.2.getD rule.toNat default).2.2).length:Int)))=true then
   (mZ (r,w)).bind fun r_3=>
   (mP sys.1 r_3 (IntKind.i64.wrap (iz+1))).bind fun r_4=>
   (iW r_4).bind fun r_5=>
   gI (jY rec cs sys iz depth r r_1 v47) (r_5,w)
  else
   Option.map Sum.inr (
    some ((r,w),true))
def iR:Nat->gm->fW->fI->Int->Int->Int->Option gb
 |0,_,_,_,_,_,_=>none
 |fu+1,cs,sys,t,iz,rule,depth=>
  if 0<=rule/\rule<(cs.2.length:Int)then
   (iW t).bind fun r=>
   (me cs rule).bind fun r_1=>
   (kf sys iz r_1 r []).bind fun r_2=>
   if r_2.1=true then
    gI (jB (iR fu) cs sys iz rule depth r r_1) (0,r_2.2)
   else
    some (([],[]),false)
  else none
def nQ(cs:gm)(sys:fW)(t:fI)(iz:Int)(rule:Int)(depth:Int):Option gb:=AA fun fu=>iR fu cs sys t iz rule depth
theorem v_:∀{fu:Nat}{cs:gm}{sys:fW}{t:fI}{iz:Int}{rule:Int}{depth:Int}{rr:gb}(h:iR fu cs sys t iz rule depth=some rr),ki Tryz.prog 25 [gP cs,jg sys,(gN 1 iD) t,iD iz,iD rule,iD depth] [jC rr.1,bD rr.2]
 |0,_,_,_,_,_,_,_,h=>by cases h
 |fu+1,cs,sys,t,iz,rule,depth,rr,h=>by
  have ih:∀{cs:gm}{sys:fW}{t:fI}{iz:Int}{rule:Int}{depth:Int},iH (iR fu cs sys t iz rule depth) fun rr=>ki Tryz.prog 25 [gP cs,jg sys,(gN 1 iD) t,iD iz,iD rule,iD depth] [jC rr.1,bD rr.2]:=⟨fun h=>v_ h⟩
  unfold iR at h;refine Y0.mK (gv ?_);delta WR;refine iL ?_;refine kz h fun hp h=>?_
  refine rC h fun r hr h=>?_
  refine rC h fun r_1 hr_1 h=>?_
  refine Jm 15 1 300000 72 3 rfl rfl rfl (iL ?_);refine mA [(0,15),(1,300000)] [] h fun r_2 hr_2 h=>?_
  refine iT h fun hc h=>?_
  refine jV h [13,17,18,19,20,21,22,23,24,26,47,48,49,50,51,52,53,54,55,56,57,58,59,60,61,62,63,64,65,66,67,68,69,70,71,72,73,74,75,76,77,78,79,80,81,82,83,84,85,86,87,88,89,90,91,92,93,94,95,96,97,98,99,100,101,102,103,104,105,106,107,108,109,110,111,112,113,114,115,116,117,118,119,120,121,122,123,124,125,126,127] (fun pp=>[(47,.d (iD pp.1))]) (fun pp=>[(6,.obj 29 [.d (gN 1 iD cs.1),.d (gN 3 gB cs.2)]),(7,.obj 41 [.d (gN 1 iD sys.1),.d (gN 2 jL sys.2)]),(12,.obj 36 [.d (.sl 0 (some true) []),.d (.sl 0 (some true) [])]),(14,.obj 55 [.d (gN 1 iD ((cs.2.getD rule.toNat default).1)),.d (gN 1 iD ((cs.2.getD rule.toNat default).2.1)),.d (gN 2 ir ((cs.2.getD rule.toNat default).2.2))]),(15,.obj 36 [.d (gN 1 iD r),.own 3 300000 (List.map kO pp.2)]),(300000,.tok 72 3 pp.2.length)]) ?_;rintro⟨v47,w⟩ t1 h hb1;unfold jB at h;try dsimp only at h
  refine gv (iL ?_);refine iT h fun hc h=>?_
  refine dC h fun r_3 hr_3 h=>?_
  refine dC h fun r_4 hr_4 h=>?_
  refine dC h fun r_5 hr_5 h=>?_
  refine jo (by kernel_rfl) (iL ?_);refine jV h [13,18,19,20,21,22,23,24,26,58,59,60,61,62,63,64,65,66,67,68,69,70,71,72,73,74,75,76,77,78,79,80,81,82,83,84,85,86,87,88,89,90,91,92,93,94,95,96,97,98,99,100,101,102,103,104,105,106,107,108,109,110,111,112,113,114,115,116,117] (fun pp=>[(18,.d (gN 1 iD pp.1))]) (fun pp=>[(6,.obj 29 [.d (gN 1 iD cs.1),.d (gN 3 gB cs.2)]),(7,.obj 41 [.d (gN 1 iD sys.1),.d (gN 2 jL sys.2)]),(12,.obj 36 [.d (.sl 0 (some true) []),.d (.sl 0 (some true) [])]),(14,.obj 55 [.d (gN 1 iD ((cs.2.getD rule.toNat default).1)),.d (gN 1 iD ((cs.2.getD rule.toNat default).2.1)),.d (gN 2 ir ((cs.2.getD rule.toNat default).2.2))]),(15,.obj 36 [.d (gN 1 iD r),.own 3 300000 (List.map kO pp.2)]),(300000,.tok 72 3 pp.2.length)]) ?_;rintro⟨u,w_1⟩ t2 h hb2;unfold jY at h;try dsimp only at h
  refine gv (iL ?_);refine G4 h fun r_6 hr_6 h=>?_
  refine it h (fun hc h=>?_) fun hc h=>?_
  ·replace h:=g_ h hb2;refine mA [(0,15),(1,300000)] [] h fun r_7 hr_7 h=>?_
   exact od
  refine G4 h fun r_8 hr_8 h=>?_
  refine iT h fun hc h=>?_
  refine dC h fun r_9 hr_9 h=>?_
  refine QY h fun r_10 hr_10 h=>?_
  refine jo (by kernel_rfl) (iL ?_);refine iT h fun hc h=>?_
  refine iF h fun hc h=>?_
  refine jV h [26,110,111,112,113,114,115,116] (fun pp=>[(110,.d (iD pp.1))]) (fun pp=>[(6,.obj 29 [.d (gN 1 iD cs.1),.d (gN 3 gB cs.2)]),(7,.obj 41 [.d (gN 1 iD sys.1),.d (gN 2 jL sys.2)]),(12,.obj 36 [.d (.sl 0 (some true) []),.d (.sl 0 (some true) [])]),(14,.obj 55 [.d (gN 1 iD ((cs.2.getD rule.toNat default).1)),.d (gN 1 iD ((cs.2.getD rule.toNat default).2.1)),.d (gN 2 ir ((cs.2.getD rule.toNat default).2.2))]),(15,.obj 36 [.d (gN 1 iD r),.own 3 300000 (List.map kO pp.2)]),(22,.obj 36 [.d (gN 1 iD r_8.1.1),.d (gN 3 kO r_8.1.2)]),(24,.obj 36 [.d (gN 1 iD r_10.1.1),.d (gN 3 kO r_10.1.2)]),(300000,.tok 72 3 pp.2.length)]) ?_;rintro⟨v110,w_2⟩ t3 h hb3;unfold ou at h;try dsimp only at h
  refine gv (iL ?_);refine it h (fun hc h=>?_) fun hc h=>?_
  ·refine kz h fun hp h=>?_
   refine mA [(0,15),(1,300000)] [] h fun r_11 hr_11 h=>?_
   cases h;refine⟨_,rfl,?_⟩;refine(iB.drop 26 gu).trans ?_;exact wk
  replace h:=g_ h hb3;cases h;refine⟨_,rfl,?_⟩;refine(iB.drop 22 gu).trans ?_;refine(iB.drop 24 gu).trans ?_;exact wk
instance ES{cs:gm}{sys:fW}{t:fI}{iz:Int}{rule:Int}{depth:Int}:iH (nQ cs sys t iz rule depth) fun rr=>ki Tryz.prog 25 [gP cs,jg sys,(gN 1 iD) t,iD iz,iD rule,iD depth] [jC rr.1,bD rr.2]:=⟨fun h=>v_ (rY h).choose_spec⟩
def mc8:gR:=
 (.seq (.gz (sq 5 [bo 5 29 0]++sq 10 [.alloc 10 36 [.sl 0 (some true) [],.sl 0 (some true) []],mb false])) (.seq (.seq (.gz (sq 17 [la 2 5,mv 1,mv 2,mv 3,mv 4,cf 6 [17,18,19,20,21]]++sq 16 [mv 22]++sq 23 [ex 16 0,ex 16 1]++sq 12 [mv 23,mv 24])) (.seq (.gz (sq 25 [mv 13,nt 25])) (.cond (t0 26) (.seq (.gz (sq 27 [.build [.sl 0 (some true) [],.sl 0 (some true) []] []]++s0 (sr 2 10 27)++sq 11 [mb false])) .ret) .skip))) (.seq (.gz (sq 29 [la 2 5,cf 24 [29]]++sq 28 [mv 30]++sq 31 [ex 28 0,ex 28 1]++sq 14 [.alloc 14 41 [.sl 0 (some true) [],.sl 0 (some true) []]]++s0 (sr 2 14 31)++sq 15 [mv 32])) (.seq (.seq (.gz (sq 33 [mv 15,nt 33])) (.cond (t0 34) (.seq (.gz (sq 35 [.build [.sl 0 (some true) [],.sl 0 (some true) []] []]++s0 (sr 2 10 35)++sq 11 [mb false])) .ret) .skip)) (.seq (.gz (sq 36 [la 2 5,la 2 14,mv 1,mv 2,mv 3,mv 4,cf 25 [36,37,38,39,40,41],ex 42 0,ex 42 1]++s0 (sr 2 10 43)++sq 11 [mv 44])) .ret)))))
theorem fn8:lE Tryz.prog 8 mc8 45 [.cell 10 2 true,.tmp 11]:=mf Tryz.func8 Tryz.ntmps8
def rj(cs:gm)(t:fI)(iz:Int)(rule:Int)(depth:Int):Option gb:=
 (qd cs t iz rule depth).bind fun r=>
 if r.2=true then
  (lQ cs).bind fun r_1=>
  if r_1.2=true then
   (nQ cs r_1.1 t iz rule depth).bind fun r_2=>
   some r_2
  else
   some (([],[]),false)
 else
  some (([],[]),false)
instance N3{cs:gm}{t:fI}{iz:Int}{rule:Int}{depth:Int}:iH (rj cs t iz rule depth) fun rr=>ki Tryz.prog 8 [gP cs,(gN 1 iD) t,iD iz,iD rule,iD depth] [jC rr.1,bD rr.2]:=⟨@fun rr h=>by
 delta rj at h;refine fn8.mK (gv ?_);delta mc8;refine iL ?_;exact od⟩
def Xq:gR:=
 (.seq (.gz (sq 2 [bo 2 29 0]++sq 4 [mi 0])) (.seq (.gz (sq 5 [mi 0])) (.seq (.seq (.gz (sq 6 [mi 0])) (.block 0 (.loop (.seq (.seq (.gz (sq 7 [mv 6,mv 1,bn .lss 7 8])) (.cond (t0 9) .skip (.exit 0))) (.seq (.block 1 (.gz (sq 12 [mv 5,bi .add 12 1,fa 1 2,ld 14,mv 6,ix 3 15 16,fa 2 17,ld 18,ln 19,bn .add 13 20]++sq 5 [mv 21]))) (.gz (sq 10 [mv 6,bi .add 10 1]++sq 6 [mv 11]))))))) (.seq (.gz (sq 22 [mv 5]++sq 4 [mv 22])) .ret))))
theorem Zx:lE Tryz.prog 66 Xq 23 [.tmp 4]:=mf Tryz.func66 Tryz.ntmps66
def oJ(cs:gm)(rule:Int):fT->Option (fT⊕Int)
 |(n,i)=>
  if(decide (i<rule))=true then
   if 0<=i/\i<(cs.2.length:Int)then
    some (.inl ((IntKind.i64.wrap ((IntKind.i64.wrap (n+1))+(((cs.2.getD i.toNat default).2.2).length:Int))),(IntKind.i64.wrap (i+1))))
   else none
  else
   Option.map Sum.inr (
    some n)
def qL(cs:gm)(rule:Int):Option Int:=
 gI (oJ cs rule) (0,0)
instance Nq{cs:gm}{rule:Int}:iH (qL cs rule) fun rr=>lz Tryz.prog 66 [gP cs,iD rule] (iD rr):=⟨@fun rr h=>by
 delta qL at h;refine Zx.jO (gv ?_);delta Xq;refine iL ?_;refine jV h [5,6,7,8,9,10,11,12,13,14,15,16,17,18,19,20,21] (fun pp=>[(5,.d (iD pp.1)),(6,.d (iD pp.2))]) (fun pp=>[(2,.obj 29 [.d (gN 1 iD cs.1),.d (gN 3 gB cs.2)])]) ?_;rintro⟨n,i⟩ t1 h hb1;unfold oJ at h;try dsimp only at h
 refine gv (iL ?_);exact od⟩
def Xr:gR:=
 (.seq (.gz (sq 4 [bo 4 41 0,bo 5 36 1]++sq 8 [.alloc 8 36 [.sl 0 (some true) [],.sl 0 (some true) []],mb false])) (.seq (.seq (.gz (sq 13 [fa 1 5,ld 13,ln 14,bi .geq 15 60])) (.cond (t0 16) (.seq (.gz (sq 17 [la 2 5]++s0 (sr 2 8 17)++sq 9 [mb false])) .ret) .skip)) (.seq (.draw (sq 19 [la 2 4,la 2 5,cf 36 [20],mv 2,mv 3,cf 77 [19,21,22,23]]++sq 18 [mv 24]++sq 25 [ex 18 0,ex 18 1]++sq 10 [mv 25,mv 26]) [[],[],[1],[],[],[0,2,3,4,2],[5],[6],[6],[7,5,0,1,2,3,4,5,6,7],[8,9,0,1,2,3,4,5,6,7,8,9]]) (.seq (.seq (.gz (sq 27 [mv 11,nt 27])) (.cond (t0 28) (.seq (.gz (sq 29 [la 2 5]++s0 (sr 2 8 29)++sq 9 [mb false])) .ret) .skip)) (.seq (.draw (sq 30 [fa 0 5,ld 30,.mH 32 72 3 [],fa 1 5,ld 33,ap 35 72 3 40 32 34,.build [.sl 0 (some true) [],.sl 0 (some true) []] [(0,1,(t0 31)),(1,1,(t0 35))]]++sq 12 [.alloc 12 36 [.sl 0 (some true) [],.sl 0 (some true) []]]++s0 (sr 2 12 36)) [[],[0],[],[],[3],[2,4],[1,5],[],[7,6,5,0,1,2,3,4,5,6,7]]) (.seq (.gz (sq 37 [fa 1 12,ld 37,mv 2,mv 3,mv 10,.build [.lit (.int .i64 0),.lit (.int .i64 0),.sl 0 (some true) []] [(0,1,(t0 39)),(1,1,(t0 40)),(2,1,(t0 41))],.mH 43 72 3 [(t0 42)],ap 44 72 3 40 38 43,fa 1 12]++s0 (sr 1 45 44))) (.seq (.gz (sq 46 [la 2 12]++s0 (sr 2 8 46)++sq 9 [mb true])) .ret)))))))
theorem Zy:lE Tryz.prog 68 Xr 47 [.cell 8 2 true,.tmp 9]:=mf Tryz.func68 Tryz.ntmps68
def mT(sys:fW)(w:fX)(iz:Int)(rule:Int):Option gb:=
 if(decide (60<=(w.2.length:Int)))=true then
  some (w,false)
 else
  (qE w).bind fun r=>
  (qT sys r iz rule).bind fun r_1=>
  if r_1.2=true then
   if(0+w.2.length)*40<=140737488355328 then
    if(w.2.length+1)*40<=140737488355328 then
     some ((w.1,(w.2++[(iz,rule,r_1.1)])),true)
    else none
   else none
  else
   some (w,false)
instance Oe{sys:fW}{w:fX}{iz:Int}{rule:Int}:iH (mT sys w iz rule) fun rr=>ki Tryz.prog 68 [jg sys,jC w,iD iz,iD rule] [jC rr.1,bD rr.2]:=⟨@fun rr h=>by
 delta mT at h;refine Zy.mK (gv ?_);delta Xr;refine iL ?_;exact od⟩
def tJ(cs:gm)(t:fI)(depth:Int)(out:fI)(iz:Int):fT->Option (fT⊕gj)
 |(k,rule)=>
  if(decide (rule<(cs.2.length:Int)))=true then
   if(decide (k<0))=true then
    (kS cs t iz rule depth).bind fun r=>
    if r.2=true then
     some (.inl (rule,(IntKind.i64.wrap (rule+1))))
    else
     some (.inl (k,(IntKind.i64.wrap (rule+1))))
   else
    Option.map Sum.inr (
     if(out.length+1)*8<=140737488355328 then
      some (.inl ((out++[k]),(IntKind.i64.wrap (iz+1))))
     else none)
  else
   Option.map Sum.inr (
    if(out.length+1)*8<=140737488355328 then
     some (.inl ((out++[k]),(IntKind.i64.wrap (iz+1))))
    else none)
def tI(cs:gm)(t:fI)(depth:Int):fO->Option gj
 |(out,iz)=>
  if(decide (iz<(t.length:Int)))=true then
   gI (tJ cs t depth out iz) ((-1),0)
  else
   Option.map Sum.inr (
    some out)
def nL(cs:gm)(t:fI)(depth:Int):Option fI:=
 gI (tI cs t depth) ([],0)
instance Hr{cs:gm}{t:fI}{depth:Int}:iH (nL cs t depth) fun rr=>lz Tryz.prog 84 [gP cs,(gN 1 iD) t,iD depth] ((gN 1 iD) rr):=⟨@fun rr h=>by
 delta nL at h;refine Wr.jO (gv ?_);delta UT;refine iL ?_;refine jV h [7,8,9,10,11,12,14,15,16,17,18,19,20,21,22,23,24,25,26,27,28,29,30,31,32,33,34,35,36,37,38,39,40,41,42,43,44,45] (fun pp=>[(7,.own 1 13 (List.map iD pp.1)),(8,.d (iD pp.2))]) (fun pp=>[(3,.obj 29 [.d (gN 1 iD cs.1),.d (gN 3 gB cs.2)]),(13,.tok 2 1 pp.1.length)]) ?_;rintro⟨out,iz⟩ t1 h hb1;unfold tI at h;try dsimp only at h
 refine gv (iL ?_);refine iT h fun hc h=>?_
 refine jV h [9,10,11,12,20,21,22,23,24,25,26,27,28,29,30,31,32,33,34,35,36,37,38,39,40,41] (fun pp=>[(9,.d (iD pp.1)),(10,.d (iD pp.2))]) (fun pp=>[(3,.obj 29 [.d (gN 1 iD cs.1),.d (gN 3 gB cs.2)]),(13,.tok 2 1 out.length)]) ?_;rintro⟨k,rule⟩ t2 h hb2;unfold tJ at h;try dsimp only at h
 refine gv (iL ?_);refine it h (fun hc h=>?_) fun hc h=>?_
 ·refine iF h fun hc h=>?_
  replace h:=g_ h hb2;refine kz h fun hp h=>?_
  cases h;refine⟨_,rfl,?_⟩;refine(iB.drop 44 gu).trans ?_;exact wk
 replace h:=g_ h hb2;refine kz h fun hp h=>?_
 cases h;refine⟨_,rfl,?_⟩;refine(iB.drop 44 gu).trans ?_;exact wk⟩
def vn(cs:gm)(t:fI)(r:fI)(iz:Int):(Bool×Int)->Option ((Bool×Int)⊕(Int⊕gp))
 |(inmost,p)=>
  (lU cs.1 t iz).bind fun r_1=>
  if(decide (p<r_1))=true then
   if inmost=true then
    if 0<=p/\p<(r.length:Int)then
     some (.inl ((decide ((r.getD p.toNat default)<0)),(IntKind.i64.wrap (p+1))))
    else none
   else
    some (.inl (false,(IntKind.i64.wrap (p+1))))
  else
   Option.map Sum.inr (
    if inmost=true then
     if 0<=iz/\iz<(r.length:Int)then
      Option.map Sum.inr (
       some (iz,(r.getD iz.toNat default),true))
     else none
    else
     some (.inl (IntKind.i64.wrap (iz+1))))
def vm(cs:gm)(t:fI)(r:fI):Int->Option (Int⊕gp)
 |iz=>
  if(decide (iz<(t.length:Int)))=true then
   if 0<=iz/\iz<(r.length:Int)then
    if(decide ((r.getD iz.toNat default)<0))=true then
     some (.inl (IntKind.i64.wrap (iz+1)))
    else
     gI (vn cs t r iz) (true,(IntKind.i64.wrap (iz+1)))
   else none
  else
   Option.map Sum.inr (
    some (0,0,false))
def kJ(cs:gm)(t:fI)(depth:Int):Option gp:=
 (nL cs t depth).bind fun r=>
 gI (vm cs t r) 0
instance KT{cs:gm}{t:fI}{depth:Int}:iH (kJ cs t depth) fun rr=>ki Tryz.prog 43 [gP cs,(gN 1 iD) t,iD depth] [iD rr.1,iD rr.2.1,bD rr.2.2]:=⟨@fun rr h=>by
 delta kJ at h;refine Wn.mK (gv ?_);delta UP;refine iL ?_;refine rC h fun r hr h=>?_
 refine jV h [6,7,8,10,11,12,17,18,19,20,21,22,23,24,25,26,27,28,29,30,31,32,33,34,35,36,37,38,39,40,41,42,43,44,45,46,47,48,49,50,51,52] (fun pp=>[(10,.d (iD pp))]) (fun pp=>[(3,.obj 29 [.d (gN 1 iD cs.1),.d (gN 3 gB cs.2)])]) ?_;rintro iz t1 h hb1;unfold vm at h;try dsimp only at h
 refine gv (iL ?_);refine iT h fun hc h=>?_
 refine kz h fun hp h=>?_
 refine iF h fun hc h=>?_
 refine jV h [11,12,30,31,32,33,34,35,36,37,38,39,40,41,42,43,44,45,46] (fun pp=>[(11,.d (bD pp.1)),(12,.d (iD pp.2))]) (fun pp=>[(3,.obj 29 [.d (gN 1 iD cs.1),.d (gN 3 gB cs.2)])]) ?_;rintro⟨inmost,p⟩ t2 h hb2;unfold vn at h;try dsimp only at h
 refine gv (iL ?_);exact od⟩
def xu:gR:=
 (.seq (.gz (sq 6 [bo 6 29 0,bo 7 41 1,bo 8 36 2]++sq 12 [.alloc 12 36 [.sl 0 (some true) [],.sl 0 (some true) []],mb false])) (.seq (.gz (sq 26 [fa 1 6,ld 26,mv 4,ix 3 27 28,la 3 29]++sq 14 [.alloc 14 55 [.sl 0 (some true) [],.sl 0 (some true) [],.sl 0 (some true) []]]++s0 (sr 3 14 30))) (.seq (.gz (sq 31 [la 2 6,mv 4,cf 66 [31,32]]++sq 15 [mv 33])) (.seq (.draw (sq 35 [fa 0 6,la 1 35,.zz 37 24 1 24 [.sl 0 (some true) []] false (i0 24) (i0 24),fa 0 14,ld 38,fa 0 7,la 1 40,la 2 8,cf 36 [42],mv 3,cf 53 [41,43,44],cf 67 [36,37,39,45]]++sq 34 [mv 46]++sq 47 [ex 34 0,ex 34 1]++sq 16 [mv 47,mv 48]) [[],[0],[],[],[3],[],[5],[],[7],[],[6,8,9,8],[1,2,4,10,10],[11],[12],[12],[13,11,0,1,2,3,4,5,6,7,8,9,10,11,12,13],[14,15,0,1,2,3,4,5,6,7,8,9,10,11,12,13,14,15]]) (.seq (.gz (sq 50 [la 2 7,la 2 8,mv 3,mv 15,cf 68 [50,51,52,53]]++sq 49 [mv 54]++sq 55 [ex 49 0,ex 49 1]++s0 (sr 2 8 55)++sq 18 [mv 56])) (.seq (.seq (.gz (sq 19 [mi 0])) (.block 0 (.loop (.seq (.seq (.gz (sq 57 [mv 19,fa 2 14,ld 58,ln 59,bn .lss 57 60,mv 61]++sg 62 true 63 [mv 18]++sq 64 [pa 62 63])) (.cond (t0 64) .skip (.exit 0))) (.seq (.block 1 (.seq (.gz (sq 68 [mv 16,.build [.sl 0 (some true) []] [(0,1,(t0 68))],fa 2 14,ld 70,mv 19,ix 2 71 72,fa 0 73,ld 74,cf 54 [69,75]]++sq 67 [mv 76]++sq 77 [ex 67 0,ex 67 1]++sq 20 [mv 77,mv 78])) (.seq (.seq (.gz (sq 22 [mi 0])) (.block 2 (.loop (.seq (.seq (.gz (sq 79 [mv 22,bi .lss 79 8])) (.cond (t0 80) .skip (.exit 2))) (.seq (.block 3 (.seq (.gz (sq 84 [la 2 6,mv 20,mv 5,bi .sub 86 1,cf 43 [84,85,87]]++sq 83 [mv 88]++sq 89 [ex 83 0,ex 83 1,ex 83 2]++sq 23 [mv 89,mv 90,mv 91])) (.seq (.seq (.gz (sq 92 [mv 25,nt 92])) (.cond (t0 93) (.exit 2) .skip)) (.seq (.gz (sq 95 [la 2 6,la 2 7,la 2 8,mv 3,bi .add 98 1,mv 23,bn .add 99 100,mv 24,mv 5,bi .sub 103 1,cf 26 [95,96,97,101,102,104]]++sq 94 [mv 105]++sq 106 [ex 94 0,ex 94 1]++s0 (sr 2 8 106)++sq 18 [mv 107])) (.seq (.seq (.gz (sq 108 [mv 18,nt 108])) (.cond (t0 109) (.seq (.gz (sq 110 [la 2 8]++s0 (sr 2 12 110)++sq 13 [mb false])) .ret) .skip)) (.gz (sq 112 [la 2 6,mv 20,mv 23,mv 24,mv 5,bi .sub 116 1,cf 23 [112,113,114,115,117]]++sq 111 [mv 118]++sq 119 [ex 111 0,ex 111 1]++sq 20 [mv 119]))))))) (.gz (sq 81 [mv 22,bi .add 81 1]++sq 22 [mv 82]))))))) (.seq (.draw (sq 122 [fa 0 6,la 1 122,mv 16,fa 2 14,ld 125,mv 19,ix 2 126 127,fa 1 128,ld 129,mv 20,cf 67 [123,124,130,131]]++sq 121 [mv 132]++sq 133 [ex 121 0,ex 121 1]++sq 16 [mv 133]) [[],[0],[],[],[3],[],[4,5],[6],[7],[],[1,2,8,9],[10],[11],[11],[12,10,0,1,2,3,4,5,6,7,8,9,10,11,12]]) (.gz (sq 136 [la 2 7,la 2 8,mv 3,mv 15,mv 19,bn .add 139 140,bi .add 141 1,cf 68 [136,137,138,142]]++sq 135 [mv 143]++sq 144 [ex 135 0,ex 135 1]++s0 (sr 2 8 144)++sq 18 [mv 145])))))) (.gz (sq 65 [mv 19,bi .add 65 1]++sq 19 [mv 66]))))))) (.seq (.gz (sq 146 [la 2 8,mv 18]++s0 (sr 2 12 146)++sq 13 [mv 147])) .ret)))))))
theorem A8:lE Tryz.prog 26 xu 148 [.cell 12 2 true,.tmp 13]:=mf Tryz.func26 Tryz.ntmps26
def kL(rec:gm->fW->fX->Int->Int->Int->Option gb)(cs:gm)(sys:fW)(iz:Int)(rule:Int)(depth:Int)(r:Int)(given:fM)(i:Int):(fI×Int×fI×fQ)->Option ((fI×Int×fI×fQ)⊕((fM×Bool×Int×fI×fQ)⊕gb))
 |(u,k,w_3,w_4)=>
  if(decide (k<8))=true then
   (kJ cs u (IntKind.i64.wrap (depth-1))).bind fun r_6=>
   if r_6.2.2=true then
    (rec cs sys (w_3,w_4) (IntKind.i64.wrap ((IntKind.i64.wrap (iz+1))+r_6.1)) r_6.2.1 (IntKind.i64.wrap (depth-1))).bind fun r_7=>
    if r_7.2=true then
     (kS cs u r_6.1 r_6.2.1 (IntKind.i64.wrap (depth-1))).bind fun r_8=>
     some (.inl (r_8.1,(IntKind.i64.wrap (k+1)),r_7.1.1,r_7.1.2))
    else
     Option.map Sum.inr (
      Option.map Sum.inr (
       some (r_7.1,false)))
   else
    Option.map Sum.inr (
     if 0<=i/\i<(((cs.2.getD rule.toNat default).2.2).length:Int)then
      (je cs.1 given ((((cs.2.getD rule.toNat default).2.2).getD i.toNat default).2) u).bind fun r_9=>
      (mT sys (w_3,w_4) iz (IntKind.i64.wrap ((IntKind.i64.wrap (r+i))+1))).bind fun r_10=>
      some (.inl (r_9.1,r_10.2,(IntKind.i64.wrap (i+1)),r_10.1.1,r_10.1.2))
     else none)
  else
   Option.map Sum.inr (
    if 0<=i/\i<(((cs.2.getD rule.toNat default).2.2).length:Int)then
     (je cs.1 given ((((cs.2.getD rule.toNat default).2.2).getD i.toNat default).2) u).bind fun r_11=>
     (mT sys (w_3,w_4) iz (IntKind.i64.wrap ((IntKind.i64.wrap (r+i))+1))).bind fun r_12=>
     some (.inl (r_11.1,r_12.2,(IntKind.i64.wrap (i+1)),r_12.1.1,r_12.1.2))
    else none)
def lu(rec:gm->fW->fX->Int->Int->Int->Option gb)(cs:gm)(sys:fW)(iz:Int)(rule:Int)(depth:Int)(r:Int):(fM×Bool×Int×fI×fQ)->Option ((fM×Bool×Int×fI×fQ)⊕gb)
 |(given,ok,i,w_1,w_2)=>
  if(decide (i<(((cs.2.getD rule.toNat default).2.2).length:Int)))=true then
   if ok=true then
    if 0<=i/\i<(((cs.2.getD rule.toNat default).2.2).length:Int)then
     (ku given ((((cs.2.getD rule.toNat default).2.2).getD i.toNat default).1)).bind fun r_5=>
     gI (kL rec cs sys iz rule depth r given i) (r_5.1,0,w_1,w_2)
    else none
   else
    Option.map Sum.inr (
     some ((w_1,w_2),false))
  else
   Option.map Sum.inr (
    some ((w_1,w_2),ok))
def j_:Nat->gm->fW->fX->Int->Int->Int->Option gb
 |0,_,_,_,_,_,_=>none
 |fu+1,cs,sys,w,iz,rule,depth=>
  if 0<=rule/\rule<(cs.2.length:Int)then
   (qL cs rule).bind fun r=>
   (qE w).bind fun r_1=>
   (kR sys.1 r_1 iz).bind fun r_2=>
   (je cs.1 (List.replicate 24 []) ((cs.2.getD rule.toNat default).1) r_2).bind fun r_3=>
   (mT sys w iz r).bind fun r_4=>
   gI (lu (j_ fu) cs sys iz rule depth r) (r_3.1,r_4.2,0,r_4.1.1,r_4.1.2)
  else none
def qC(cs:gm)(sys:fW)(w:fX)(iz:Int)(rule:Int)(depth:Int):Option gb:=AA fun fu=>j_ fu cs sys w iz rule depth
theorem zj:∀{fu:Nat}{cs:gm}{sys:fW}{w:fX}{iz:Int}{rule:Int}{depth:Int}{rr:gb}(h:j_ fu cs sys w iz rule depth=some rr),ki Tryz.prog 26 [gP cs,jg sys,jC w,iD iz,iD rule,iD depth] [jC rr.1,bD rr.2]
 |0,_,_,_,_,_,_,_,h=>by cases h
 |fu+1,cs,sys,w,iz,rule,depth,rr,h=>by
  have ih:∀{cs:gm}{sys:fW}{w:fX}{iz:Int}{rule:Int}{depth:Int},iH (j_ fu cs sys w iz rule depth) fun rr=>ki Tryz.prog 26 [gP cs,jg sys,jC w,iD iz,iD rule,iD depth] [jC rr.1,bD rr.2]:=⟨fun h=>zj h⟩
  unfold j_ at h;refine A8.mK (gv ?_);delta xu;refine iL ?_;refine kz h fun hp h=>?_
  refine rC h fun r hr h=>?_
  refine Cy ?_;refine dC h fun r_1 hr_1 h=>?_
  refine dC h fun r_2 hr_2 h=>?_
  refine QY h fun r_3 hr_3 h=>?_
  refine jo (by kernel_rfl) (iL ?_);refine G4 h fun r_4 hr_4 h=>?_
  refine jV h [13,16,18,19,20,21,22,23,24,25,57,58,59,60,61,62,63,64,65,66,67,68,69,70,71,72,73,74,75,76,77,78,79,80,81,82,83,84,85,86,87,88,89,90,91,92,93,94,95,96,97,98,99,100,101,102,103,104,105,106,107,108,109,110,111,112,113,114,115,116,117,118,119,120,121,122,123,124,125,126,127,128,129,130,131,132,133,134,135,136,137,138,139,140,141,142,143,144,145] (fun pp=>[(16,.d (gN 1 (gN 1 iD) pp.1)),(18,.d (bD pp.2.1)),(19,.d (iD pp.2.2.1))]) (fun pp=>[(6,.obj 29 [.d (gN 1 iD cs.1),.d (gN 3 gB cs.2)]),(7,.obj 41 [.d (gN 1 iD sys.1),.d (gN 2 jL sys.2)]),(8,.obj 36 [.d (gN 1 iD pp.2.2.2.1),.d (gN 3 kO pp.2.2.2.2)]),(12,.obj 36 [.d (.sl 0 (some true) []),.d (.sl 0 (some true) [])]),(14,.obj 55 [.d (gN 1 iD ((cs.2.getD rule.toNat default).1)),.d (gN 1 iD ((cs.2.getD rule.toNat default).2.1)),.d (gN 2 ir ((cs.2.getD rule.toNat default).2.2))])]) ?_;rintro⟨given,ok,i,w_1,w_2⟩ t1 h hb1;unfold lu at h;try dsimp only at h
  refine gv (iL ?_);refine iT h fun hc h=>?_
  refine iT h fun hc h=>?_
  refine kz h fun hp h=>?_
  refine G4 h fun r_5 hr_5 h=>?_
  refine jV h [13,18,20,22,23,24,25,79,80,81,82,83,84,85,86,87,88,89,90,91,92,93,94,95,96,97,98,99,100,101,102,103,104,105,106,107,108,109,110,111,112,113,114,115,116,117,118,119,120] (fun pp=>[(20,.d (gN 1 iD pp.1)),(22,.d (iD pp.2.1))]) (fun pp=>[(6,.obj 29 [.d (gN 1 iD cs.1),.d (gN 3 gB cs.2)]),(7,.obj 41 [.d (gN 1 iD sys.1),.d (gN 2 jL sys.2)]),(8,.obj 36 [.d (gN 1 iD pp.2.2.1),.d (gN 3 kO pp.2.2.2)]),(12,.obj 36 [.d (.sl 0 (some true) []),.d (.sl 0 (some true) [])]),(14,.obj 55 [.d (gN 1 iD ((cs.2.getD rule.toNat default).1)),.d (gN 1 iD ((cs.2.getD rule.toNat default).2.1)),.d (gN 2 ir ((cs.2.getD rule.toNat default).2.2))])]) ?_;rintro⟨u,k,w_3,w_4⟩ t2 h hb2;unfold kL at h;try dsimp only at h
  refine gv (iL ?_);exact od
instance Jl{cs:gm}{sys:fW}{w:fX}{iz:Int}{rule:Int}{depth:Int}:iH (qC cs sys w iz rule depth) fun rr=>ki Tryz.prog 26 [gP cs,jg sys,jC w,iD iz,iD rule,iD depth] [jC rr.1,bD rr.2]:=⟨fun h=>zj (rY h).choose_spec⟩
def mc9:gR:=
 (.seq (.gz (sq 5 [bo 5 29 0]++sq 10 [.alloc 10 36 [.sl 0 (some true) [],.sl 0 (some true) []],mb false])) (.seq (.gz (sq 19 [la 2 5,mv 1,mv 2,mv 3,mv 4,cf 7 [19,20,21,22,23]]++sq 18 [mv 24]++sq 25 [ex 18 0,ex 18 1]++sq 12 [mv 25,mv 26])) (.seq (.gz (sq 28 [la 2 5,cf 11 [28]]++sq 27 [mv 29]++sq 30 [ex 27 0,ex 27 1]++sq 14 [.alloc 14 41 [.sl 0 (some true) [],.sl 0 (some true) []]]++s0 (sr 2 14 30)++sq 15 [mv 31])) (.seq (.seq (.gz (sq 32 [mv 13,nt 32,mv 33]++sg 34 false 35 [mv 15,nt 35]++sq 37 [po 34 36])) (.cond (t0 37) (.seq (.gz (sq 38 [.build [.sl 0 (some true) [],.sl 0 (some true) []] []]++s0 (sr 2 10 38)++sq 11 [mb false])) .ret) .skip)) (.seq (.draw (sq 40 [la 2 5,la 2 14,mv 1,cf 27 [42],.build [.sl 0 (some true) [],.sl 0 (some true) []] [(0,1,(t0 43))],mv 2,mv 3,mv 4,cf 26 [40,41,44,45,46,47]]++sq 39 [mv 48]++sq 49 [ex 39 0,ex 39 1]++sq 16 [.alloc 16 36 [.sl 0 (some true) [],.sl 0 (some true) []]]++s0 (sr 2 16 49)++sq 17 [mv 50]) [[],[],[],[2],[3],[],[],[],[0,1,4,5,6,7,3],[8],[9],[9],[],[12,10,8,0,1,2,3,4,5,6,7,8,9,10,12],[11,13,0,1,2,3,4,5,6,7,8,9,10,11,12,13]]) (.seq (.seq (.gz (sq 51 [mv 17,nt 51])) (.cond (t0 52) (.seq (.gz (sq 53 [.build [.sl 0 (some true) [],.sl 0 (some true) []] []]++s0 (sr 2 10 53)++sq 11 [mb false])) .ret) .skip)) (.seq (.gz (sq 54 [la 2 16]++s0 (sr 2 10 54)++sq 11 [mb true])) .ret)))))))
theorem fn9:lE Tryz.prog 9 mc9 55 [.cell 10 2 true,.tmp 11]:=mf Tryz.func9 Tryz.ntmps9
def ru(cs:gm)(t:fI)(iz:Int)(rule:Int)(depth:Int):Option gb:=
 (qf cs t iz rule depth).bind fun r=>
 (nT cs).bind fun r_1=>
 if r.2=true then
  if r_1.2=true then
   (iX t).bind fun r_2=>
   (qC cs r_1.1 (r_2,[]) iz rule depth).bind fun r_3=>
   if r_3.2=true then
    some (r_3.1,true)
   else
    some (([],[]),false)
  else
   some (([],[]),false)
 else
  some (([],[]),false)
instance N8{cs:gm}{t:fI}{iz:Int}{rule:Int}{depth:Int}:iH (ru cs t iz rule depth) fun rr=>ki Tryz.prog 9 [gP cs,(gN 1 iD) t,iD iz,iD rule,iD depth] [jC rr.1,bD rr.2]:=⟨@fun rr h=>by
 delta ru at h;refine fn9.mK (gv ?_);delta mc9;refine iL ?_;refine G4 h fun r hr h=>?_
 refine G4 h fun r_1 hr_1 h=>?_
 refine iT h fun hc h=>?_
 refine iT h fun hc h=>?_
 refine wu [] [(3,43)] h fun r_2 hr_2 h=>?_
 exact od⟩
end Go.Proofs.YtelhemjlfkbkeaaGreat
