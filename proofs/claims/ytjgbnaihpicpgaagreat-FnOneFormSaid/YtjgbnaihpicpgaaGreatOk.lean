/- A part of the proof about FnOneForm (MT, H5). -/
import Derived.Test.YtjgbnaihpicpgaaGreatOc
import Derived.Test.YtjgbnaihpicpgaaGreatOj
set_option linter.all false
noncomputable section
namespace Go.Proofs.YtjgbnaihpicpgaaGreat
open Go ng
attribute [local irreducible] uh wo vz mL mC ot kQ Be Cb zM Ca zD uj mu og BY iY lg D7
set_option maxHeartbeats 4000000
set_option maxRecDepth 4000
def lB(x:Int×Int×Int):D:=.agg [iD x.1,iD x.2.1,iD x.2.2]
instance:xd lB 3:=⟨fun _=>rfl⟩
attribute [go_sem] lB
abbrev FW:=gB×List gD
abbrev Ju:=Int×Int×Int
def wg(sys:FW)(ov iS:Nat):Nat->Option (List Ju)
 |0=>some []
 |k+1=>
  if(decide ((sys.2.getD ov default).1.getD iS default<0))=true then wg sys ov iS k
  else(jq sys (ov:Int) (iS:Int) ((sys.2.length-(k+1):Nat):Int)).bind (Sum.elim (fun _=>(wg sys ov iS k).map fun l=>((ov:Int),(iS:Int),((sys.2.length-(k+1):Nat):Int))::l) (fun _=>wg sys ov iS k))
def BI(sys:FW)(ov:Nat):Nat->Option (List Ju)
 |0=>some []
 |k+1=>(wg sys ov ((sys.2.getD ov default).1.length-(k+1)) sys.2.length).bind fun xs=>(BI sys ov k).map fun ys=>xs++ys
def BJ(sys:FW):Nat->Option (List Ju)
 |0=>some []
 |k+1=>(BI sys (sys.2.length-(k+1)) ((sys.2.getD (sys.2.length-(k+1)) default).1).length).bind fun xs=>(BJ sys k).map fun ys=>xs++ys
def Bh(sys:FW):Option (List Ju):=BJ sys sys.2.length
theorem Lr{P:Program}{l:Nat}{ms:List iO}(pre post:List iO)(d q0:Nat)(want:Bool)(g:Operand)(args:List Operand){Q:uJ}{env:List AV}{x:List D}{r:List (List D)}(hms:ms=pre++⟨some d,.qW g args,some (some q0,want)⟩::post)
 (hpre:vA P 0 pre env [] (fun env' s'=>∃env1,iV 0 env' s' env1 []/\AV.jk (fun _=>none) env1=env1/\ev env1 g=.d (.lit (.func (.yield l) #[] #[]))/\args.map (ev env1)=x.map .d/\env1.getD q0 .iG=.d (.lit (.bool want))/\
  ∀b,vA P 0 post (env1.set d (.d (bD b))) [] (fun env' s'=>∃env2,iV 0 env' s' env2 []/\AV.jk (fun _=>none) env2=env2/\Q .normal env2 (if b then some r else none)))):D7 P l (.ie ms) Q env (some (x::r)):=by
 subst hms;exact N4 hpre
def Tt:ir:=
 (.seq (.ie (sq 10 [fa 1 1,ld 10,ln 11,mi 0])) (.block 0 (.loop (.seq (.ie (sq 14 [bn .lss 13 12])) (.seq (.cond (t0 14) .skip (.exit 0)) (.seq (.block 1 (.seq (.ie (sq 15 [mv 13,ix 2 11 13,la 2 16]++sq 4 [.alloc 4 77 [.sl 0 (some true) [],.sl 0 (some true) []]]++sq 3 [mv 15]++s0 (sr 2 4 17))) (.seq (.ie (sq 18 [fa 0 4,ld 18,ln 19,mi 0])) (.block 2 (.loop (.seq (.ie (sq 22 [bn .lss 21 20])) (.seq (.cond (t0 22) .skip (.exit 2)) (.seq (.block 3 (.seq (.ie (sq 23 [mv 21,ix 1 19 21,ld 24]++sq 5 [mv 23,mv 25])) (.seq (.ie (sq 26 [fa 1 1,ld 26,ln 27,mi 0])) (.block 4 (.loop (.seq (.ie (sq 30 [bn .lss 29 28])) (.seq (.cond (t0 30) .skip (.exit 4)) (.seq (.block 5 (.seq (.ie (sq 31 [mv 29]++sq 7 [mv 31])) (.seq (.seq (.ie (sq 32 [mv 6,bi .lss 32 0])) (.cond (t0 33) (.exit 5) .skip)) (.seq (.ie (sq 35 [la 2 1,mv 3,mv 5,mv 7,cf 166 [35,36,37,38]]++sq 34 [mv 39]++sq 40 [ex 34 0,ex 34 1]++sq 8 [mv 40,mv 41])) (.seq (.ie (sq 42 [mv 9,mv 42]++sg 43 true 44 [mv 0,mv 3,mv 5,mv 7,.build [.lit (.int .i64 0),.lit (.int .i64 0),.lit (.int .i64 0)] [(0,1,(t0 45)),(1,1,(t0 46)),(2,1,(t0 47))],.qW (t0 44) [(t0 48)],nt 49]++sq 51 [pa 43 50])) (.cond (t0 51) .ret .skip)))))) (.ie (sq 52 [bi .add 29 1]++sq 29 [mv 52])))))))))) (.ie (sq 53 [bi .add 21 1]++sq 21 [mv 53])))))))))) (.ie (sq 54 [bi .add 13 1]++sq 13 [mv 54]))))))))
theorem WZ:kS Tryz.prog 165 Tt 55 []:=mf Tryz.func165 Tryz.ntmps165
def S4:ir:=
 (.seq (.ie (sq 1 [bo 1 32 0,.mv (.const .nilFunc)])) (.seq (.ie (sq 3 [.Cj 165 [] [(t0 1)]]++sq 2 [mv 3])) .ret))
theorem Wy:kS Tryz.prog 109 S4 4 [.tmp 2]:=mf Tryz.func109 Tryz.ntmps109
section
variable(sys:FW)(l:Nat)
def J9(ov:Nat):List AV:=[.d (.lit (.func (.yield l) #[] #[])),.pv [iq 1 iD sys.1,iq 2 ic sys.2]]++List.replicate 9 .iG++[.d (iq 2 ic sys.2),.d (iD (sys.2.length:Int)),.d (iD (ov:Int))]++List.replicate 41 .iG
def mtI(ov:Nat):List AV:=[.d (.lit (.func (.yield l) #[] #[])),.pv [iq 1 iD sys.1,iq 2 ic sys.2],.iG,.d (iD (ov:Int)),.pv [iq 1 iD (sys.2.getD ov default).1,iq 1 iD (sys.2.getD ov default).2]]++List.replicate 6 .iG++[.d (iq 2 ic sys.2),.d (iD (sys.2.length:Int)),.d (iD (ov:Int))]++List.replicate 41 .iG
def MA(ov iS:Nat):List AV:=[.d (.lit (.func (.yield l) #[] #[])),.pv [iq 1 iD sys.1,iq 2 ic sys.2],.iG,.d (iD (ov:Int)),.pv [iq 1 iD (sys.2.getD ov default).1,iq 1 iD (sys.2.getD ov default).2]]++List.replicate 6 .iG++[.d (iq 2 ic sys.2),.d (iD (sys.2.length:Int)),.d (iD (ov:Int))]++List.replicate 5 .iG++[.d (iq 1 iD (sys.2.getD ov default).1),.d (iD ((sys.2.getD ov default).1.length:Int)),.d (iD (iS:Int))]++List.replicate 33 .iG
def mtJ(ov iS:Nat):List AV:=[.d (.lit (.func (.yield l) #[] #[])),.pv [iq 1 iD sys.1,iq 2 ic sys.2],.iG,.d (iD (ov:Int)),.pv [iq 1 iD (sys.2.getD ov default).1,iq 1 iD (sys.2.getD ov default).2],.d (iD (iS:Int)),.d (iD ((sys.2.getD ov default).1.getD iS default))]++List.replicate 4 .iG++[.d (iq 2 ic sys.2),.d (iD (sys.2.length:Int)),.d (iD (ov:Int))]++List.replicate 5 .iG++[.d (iq 1 iD (sys.2.getD ov default).1),.d (iD ((sys.2.getD ov default).1.length:Int)),.d (iD (iS:Int))]++List.replicate 33 .iG
def EH(ov iS un:Nat):List AV:=[.d (.lit (.func (.yield l) #[] #[])),.pv [iq 1 iD sys.1,iq 2 ic sys.2],.iG,.d (iD (ov:Int)),.pv [iq 1 iD (sys.2.getD ov default).1,iq 1 iD (sys.2.getD ov default).2],.d (iD (iS:Int)),.d (iD ((sys.2.getD ov default).1.getD iS default))]++List.replicate 4 .iG++[.d (iq 2 ic sys.2),.d (iD (sys.2.length:Int)),.d (iD (ov:Int))]++List.replicate 5 .iG++[.d (iq 1 iD (sys.2.getD ov default).1),.d (iD ((sys.2.getD ov default).1.length:Int)),.d (iD (iS:Int))]++List.replicate 5 .iG++[.d (iq 2 ic sys.2),.d (iD (sys.2.length:Int)),.d (iD (un:Int))]++List.replicate 25 .iG
def V3(ov iS un:Nat):List AV:=[.d (.lit (.func (.yield l) #[] #[])),.pv [iq 1 iD sys.1,iq 2 ic sys.2],.iG,.d (iD (ov:Int)),.pv [iq 1 iD (sys.2.getD ov default).1,iq 1 iD (sys.2.getD ov default).2],.d (iD (iS:Int)),.d (iD ((sys.2.getD ov default).1.getD iS default)),.d (iD (un:Int)),.iG,.iG,.iG,.d (iq 2 ic sys.2),.d (iD (sys.2.length:Int)),.d (iD (ov:Int))]++List.replicate 5 .iG++[.d (iq 1 iD (sys.2.getD ov default).1),.d (iD ((sys.2.getD ov default).1.length:Int)),.d (iD (iS:Int))]++List.replicate 5 .iG++[.d (iq 2 ic sys.2),.d (iD (sys.2.length:Int)),.d (iD (un:Int))]++List.replicate 25 .iG
def mt9(ov iS un:Nat):List AV:=[.d (.lit (.func (.yield l) #[] #[])),.pv [iq 1 iD sys.1,iq 2 ic sys.2],.iG,.d (iD (ov:Int)),.pv [iq 1 iD (sys.2.getD ov default).1,iq 1 iD (sys.2.getD ov default).2],.d (iD (iS:Int)),.d (iD ((sys.2.getD ov default).1.getD iS default)),.d (iD (un:Int)),.iG,.d (bD true),.iG,.d (iq 2 ic sys.2),.d (iD (sys.2.length:Int)),.d (iD (ov:Int))]++List.replicate 5 .iG++[.d (iq 1 iD (sys.2.getD ov default).1),.d (iD ((sys.2.getD ov default).1.length:Int)),.d (iD (iS:Int))]++List.replicate 5 .iG++[.d (iq 2 ic sys.2),.d (iD (sys.2.length:Int)),.d (iD (un:Int))]++List.replicate 25 .iG
def mtY(ov iS un:Nat):List AV:=[.d (.lit (.func (.yield l) #[] #[])),.pv [iq 1 iD sys.1,iq 2 ic sys.2],.iG,.d (iD (ov:Int)),.pv [iq 1 iD (sys.2.getD ov default).1,iq 1 iD (sys.2.getD ov default).2],.d (iD (iS:Int)),.d (iD ((sys.2.getD ov default).1.getD iS default))]++List.replicate 4 .iG++[.d (iq 2 ic sys.2),.d (iD (sys.2.length:Int)),.d (iD (ov:Int))]++List.replicate 5 .iG++[.d (iq 1 iD (sys.2.getD ov default).1),.d (iD ((sys.2.getD ov default).1.length:Int)),.d (iD (iS:Int))]++List.replicate 5 .iG++[.d (iq 2 ic sys.2),.d (iD (sys.2.length:Int)),.d (iD (un:Int))]++List.replicate 13 .iG++[.d (bD true),.d (.lit (.func (.yield l) #[] #[])),.iG,.iG,.iG,.d (lB ((ov:Int),(iS:Int),(un:Int)))]++List.replicate 6 .iG
def mtB(ov iS un:Nat)(b:Bool):List AV:=[.d (.lit (.func (.yield l) #[] #[])),.pv [iq 1 iD sys.1,iq 2 ic sys.2],.iG,.d (iD (ov:Int)),.pv [iq 1 iD (sys.2.getD ov default).1,iq 1 iD (sys.2.getD ov default).2],.d (iD (iS:Int)),.d (iD ((sys.2.getD ov default).1.getD iS default))]++List.replicate 4 .iG++[.d (iq 2 ic sys.2),.d (iD (sys.2.length:Int)),.d (iD (ov:Int))]++List.replicate 5 .iG++[.d (iq 1 iD (sys.2.getD ov default).1),.d (iD ((sys.2.getD ov default).1.length:Int)),.d (iD (iS:Int))]++List.replicate 5 .iG++[.d (iq 2 ic sys.2),.d (iD (sys.2.length:Int)),.d (iD (un:Int))]++List.replicate 21 .iG++[.d (bD (!b)),.iG,.iG,.iG]
end
theorem GH{sys:FW}{els:List Ju}(h0:Bh sys=some els):Iter Tryz.prog 165 [.pv [iq 1 iD sys.1,iq 2 ic sys.2]] (els.map fun x=>[lB x]):=by
 refine Q4 WZ (by kernel_rfl) rfl fun l=>N2 (p:=sys.2.length<2^63) (fun X a W hst=>by have:=OJ (i:=1) (cs1:=[iq 1 iD sys.1]) (cs2:=[]) (ds:=sys.2.map ic) (e:=2) (nl:=none) hst rfl;simpa using this) fun hlen2=>?_
 delta Tt;refine qX (nG rfl (ia ?_));show uh _ _ _ _ ([.d (.lit (.func (.yield l) #[] #[])),.pv [iq 1 iD sys.1,iq 2 ic sys.2]]++List.replicate 53 .iG) [];refine iR ?_;refine⟨J9 sys l 0,(by delta J9;exact wk),rfl,zc ?_⟩;refine IA (ι:=Nat×List Ju) (fun p=>J9 sys l p.1) (fun p=>some (p.2.map fun x=>[lB x])) (fun p=>p.1<=sys.2.length/\BJ sys (sys.2.length-p.1)=some p.2) (fun p=>sys.2.length-p.1) (0,els) ⟨cW _,h0⟩ .refl (fun _=>rfl) ?_;rintro⟨ov,r⟩ ⟨hov,h⟩;simp only at hov h⊢;refine qX (nG rfl (ia ?_));delta J9;by_cases hlt:ov<sys.2.length
 rotate_left
 ·have hc:decide ((ov:Int)<(sys.2.length:Int))=false:=by simpa using hlt
  refine uF hc ?_;refine⟨[.d (.lit (.func (.yield l) #[] #[])),.pv [iq 1 iD sys.1,iq 2 ic sys.2]]++List.replicate 9 .iG++[.d (iq 2 ic sys.2),.d (iD (sys.2.length:Int)),.d (iD (ov:Int)),.d (bD false)]++List.replicate 40 .iG,wk,rfl,qX (nG rfl (ia ?_))⟩;refine iR ?_;have:ov=sys.2.length:=by omega
  subst this;rw[cQ]at h;cases h;exact⟨J9 sys l sys.2.length,(by delta J9;exact wk),rfl,.inl rfl,.inl rfl⟩
 have hc:decide ((ov:Int)<(sys.2.length:Int))=true:=by simpa using hlt
 refine uF hc ?_;refine⟨[.d (.lit (.func (.yield l) #[] #[])),.pv [iq 1 iD sys.1,iq 2 ic sys.2]]++List.replicate 9 .iG++[.d (iq 2 ic sys.2),.d (iD (sys.2.length:Int)),.d (iD (ov:Int)),.d (bD true)]++List.replicate 40 .iG,wk,rfl,qX (nG rfl (ia ?_))⟩;refine iR ?_;refine⟨J9 sys l ov,(by delta J9;exact wk),rfl,?_⟩;obtain⟨k0,hk0⟩:∃k0,sys.2.length-ov=k0+1:=⟨sys.2.length-ov-1,h_⟩;rw[hk0]at h;simp only[BJ]at h;rw[show sys.2.length-(k0+1)=ov by omega]at h;obtain⟨xs,hxs,h⟩:=aq.1 h;obtain⟨rest,hrest,hr⟩:=ay.1 h;subst hr;clear h;refine qX (zc (qX (nG rfl (ia ?_))));delta J9;refine iR ?_;repeat(refine wj h_ ?_;refine iR ?_)
 refine⟨mtI sys l ov,(iV.RM 4 (ds:=[iq 1 iD (sys.2.getD ov default).1,iq 1 iD (sys.2.getD ov default).2]) h_ rfl).trans ((iV.drop 4 h_).trans (by delta mtI;exact wk)),rfl,?_⟩;refine N2 (p:=(sys.2.getD ov default).1.length<2^63) (fun X a W hst=>by have:=OJ (i:=4) (cs1:=[]) (cs2:=[iq 1 iD (sys.2.getD ov default).2]) (ds:=((sys.2.getD ov default).1).map iD) (e:=1) (nl:=none) hst rfl;simpa using this) fun hlenL=>?_
 refine qX (nG rfl (ia ?_));delta mtI;refine iR ?_;refine⟨MA sys l ov 0,(by delta MA;exact wk),rfl,?_⟩;refine zc ?_;refine IA (ι:=Nat×List Ju) (fun p=>MA sys l ov p.1) (fun p=>some ((fun p:Nat×List Ju=>(p.2++rest).map fun x=>[lB x]) p)) (fun p=>p.1<=(sys.2.getD ov default).1.length/\BI sys ov ((sys.2.getD ov default).1.length-p.1)=some p.2) (fun p=>(sys.2.getD ov default).1.length-p.1) (0,xs) ⟨cW _,hxs⟩ .refl (fun _=>rfl) ?_;clear hxs;rintro⟨iS,r2⟩ ⟨hat,h⟩;simp only at hat h⊢;refine qX (nG rfl (ia ?_));delta MA;by_cases hla:iS<(sys.2.getD ov default).1.length
 rotate_left
 ·have hc:decide ((iS:Int)<((sys.2.getD ov default).1.length:Int))=false:=by simpa using hla
  refine uF hc ?_;refine⟨[.d (.lit (.func (.yield l) #[] #[])),.pv [iq 1 iD sys.1,iq 2 ic sys.2],.iG,.d (iD (ov:Int)),.pv [iq 1 iD (sys.2.getD ov default).1,iq 1 iD (sys.2.getD ov default).2]]++List.replicate 6 .iG++[.d (iq 2 ic sys.2),.d (iD (sys.2.length:Int)),.d (iD (ov:Int))]++List.replicate 5 .iG++[.d (iq 1 iD (sys.2.getD ov default).1),.d (iD ((sys.2.getD ov default).1.length:Int)),.d (iD (iS:Int)),.d (bD false)]++List.replicate 32 .iG,wk,rfl,qX (nG rfl (ia ?_))⟩;refine iR ?_;have:iS=(sys.2.getD ov default).1.length:=by omega
  subst this;rw[cQ]at h;cases h;refine⟨J9 sys l ov,(by delta J9;exact wk),rfl,?_⟩;show D7 _ _ _ _ _ _;refine nG rfl (ia ?_);delta J9;refine iR ?_;have hw1:IntKind.i64.wrap ((ov:Int)+1)=((ov+1:Nat):Int):=by rw[wrap_i64 h_ h_];omega
  rw[hw1];refine⟨J9 sys l (ov+1),(by delta J9;exact wk),rfl,(ov+1,rest),⟨⟨h_,?_⟩,by simp only;omega⟩,.refl,rfl⟩;simp only;rw[show sys.2.length-(ov+1)=k0 by omega];exact hrest
 have hc:decide ((iS:Int)<((sys.2.getD ov default).1.length:Int))=true:=by simpa using hla
 refine uF hc ?_;refine⟨[.d (.lit (.func (.yield l) #[] #[])),.pv [iq 1 iD sys.1,iq 2 ic sys.2],.iG,.d (iD (ov:Int)),.pv [iq 1 iD (sys.2.getD ov default).1,iq 1 iD (sys.2.getD ov default).2]]++List.replicate 6 .iG++[.d (iq 2 ic sys.2),.d (iD (sys.2.length:Int)),.d (iD (ov:Int))]++List.replicate 5 .iG++[.d (iq 1 iD (sys.2.getD ov default).1),.d (iD ((sys.2.getD ov default).1.length:Int)),.d (iD (iS:Int)),.d (bD true)]++List.replicate 32 .iG,wk,rfl,qX (nG rfl (ia ?_))⟩;refine iR ?_;refine⟨MA sys l ov iS,(by delta MA;exact wk),rfl,?_⟩;obtain⟨k1,hk1⟩:∃k1,(sys.2.getD ov default).1.length-iS=k1+1:=⟨(sys.2.getD ov default).1.length-iS-1,h_⟩;rw[hk1]at h;simp only[BI]at h;rw[show(sys.2.getD ov default).1.length-(k1+1)=iS by omega]at h;obtain⟨xs2,hxs2,h⟩:=aq.1 h;obtain⟨rest2,hrest2,hr2⟩:=ay.1 h;subst hr2;clear h;rw[aH];refine qX (zc (qX (nG rfl (ia ?_))));delta MA;refine iR ?_;repeat(refine wj h_ ?_;refine iR ?_)
 refine⟨mtJ sys l ov iS,(by delta mtJ;exact wk),rfl,qX (nG rfl (ia ?_))⟩;delta mtJ;refine iR ?_;refine⟨EH sys l ov iS 0,(by delta EH;exact wk),rfl,zc ?_⟩;refine IA (ι:=Nat×List Ju) (fun p=>EH sys l ov iS p.1) (fun p=>some ((fun p:Nat×List Ju=>(p.2++(rest2++rest)).map fun x=>[lB x]) p)) (fun p=>p.1<=sys.2.length/\wg sys ov iS (sys.2.length-p.1)=some p.2) (fun p=>sys.2.length-p.1) (0,xs2) ⟨cW _,hxs2⟩ .refl (fun _=>rfl) ?_;clear hxs2;rintro⟨un,ys⟩ ⟨hun,h⟩;simp only at hun h⊢;refine qX (nG rfl (ia ?_));delta EH;by_cases hlu:un<sys.2.length
 rotate_left
 ·have hc:decide ((un:Int)<(sys.2.length:Int))=false:=by simpa using hlu
  refine uF hc ?_;refine⟨[.d (.lit (.func (.yield l) #[] #[])),.pv [iq 1 iD sys.1,iq 2 ic sys.2],.iG,.d (iD (ov:Int)),.pv [iq 1 iD (sys.2.getD ov default).1,iq 1 iD (sys.2.getD ov default).2],.d (iD (iS:Int)),.d (iD ((sys.2.getD ov default).1.getD iS default))]++List.replicate 4 .iG++[.d (iq 2 ic sys.2),.d (iD (sys.2.length:Int)),.d (iD (ov:Int))]++List.replicate 5 .iG++[.d (iq 1 iD (sys.2.getD ov default).1),.d (iD ((sys.2.getD ov default).1.length:Int)),.d (iD (iS:Int))]++List.replicate 5 .iG++[.d (iq 2 ic sys.2),.d (iD (sys.2.length:Int)),.d (iD (un:Int)),.d (bD false)]++List.replicate 24 .iG,wk,rfl,qX (nG rfl (ia ?_))⟩;refine iR ?_;have:un=sys.2.length:=by omega
  subst this;rw[cQ]at h;cases h;refine⟨MA sys l ov iS,(by delta MA;exact wk),rfl,?_⟩;show D7 _ _ _ _ _ _;refine nG rfl (ia ?_);delta MA;refine iR ?_;have hw1:IntKind.i64.wrap ((iS:Int)+1)=((iS+1:Nat):Int):=by rw[wrap_i64 h_ h_];omega
  rw[hw1];refine⟨MA sys l ov (iS+1),(by delta MA;exact wk),rfl,(iS+1,rest2),⟨⟨h_,?_⟩,by simp only;omega⟩,.refl,rfl⟩;simp only;rw[show(sys.2.getD ov default).1.length-(iS+1)=k1 by omega];exact hrest2
 have hc:decide ((un:Int)<(sys.2.length:Int))=true:=by simpa using hlu
 refine uF hc ?_;refine⟨[.d (.lit (.func (.yield l) #[] #[])),.pv [iq 1 iD sys.1,iq 2 ic sys.2],.iG,.d (iD (ov:Int)),.pv [iq 1 iD (sys.2.getD ov default).1,iq 1 iD (sys.2.getD ov default).2],.d (iD (iS:Int)),.d (iD ((sys.2.getD ov default).1.getD iS default))]++List.replicate 4 .iG++[.d (iq 2 ic sys.2),.d (iD (sys.2.length:Int)),.d (iD (ov:Int))]++List.replicate 5 .iG++[.d (iq 1 iD (sys.2.getD ov default).1),.d (iD ((sys.2.getD ov default).1.length:Int)),.d (iD (iS:Int))]++List.replicate 5 .iG++[.d (iq 2 ic sys.2),.d (iD (sys.2.length:Int)),.d (iD (un:Int)),.d (bD true)]++List.replicate 24 .iG,wk,rfl,qX (nG rfl (ia ?_))⟩;refine iR ?_;refine⟨EH sys l ov iS un,(by delta EH;exact wk),rfl,?_⟩;obtain⟨k2,hk2⟩:∃k2,sys.2.length-un=k2+1:=⟨sys.2.length-un-1,h_⟩;rw[hk2]at h;simp only[wg]at h;rw[show sys.2.length-(k2+1)=un by omega]at h;have hnext:∀(Q:uJ) ys',wg sys ov iS k2=some ys'->∀env1,iV 0 env1 [] (EH sys l ov iS un) []->D7 Tryz.prog l (.ie (sq 52 [bi .add 29 1]++sq 29 [mv 52])) (SP (fun p:Nat×List Ju=>EH sys l ov iS p.1) (fun p:Nat×List Ju=>some ((fun p:Nat×List Ju=>(p.2++(rest2++rest)).map fun x=>[lB x]) p)) (fun i':Nat×List Ju=>(i'.1<=sys.2.length/\wg sys ov iS (sys.2.length-i'.1)=some i'.2)/\sys.2.length-i'.1<sys.2.length-un) Q) env1 (some ((ys'++(rest2++rest)).map fun x=>[lB x])):=fun Q ys' hys' env1 hw=>by
  refine N3 hw rfl (nG rfl (ia ?_));delta EH;refine iR ?_;have hw1:IntKind.i64.wrap ((un:Int)+1)=((un+1:Nat):Int):=by rw[wrap_i64 h_ h_];omega
  rw[hw1];refine⟨EH sys l ov iS (un+1),(by delta EH;exact wk),rfl,(un+1,ys'),⟨⟨h_,?_⟩,by simp only;omega⟩,.refl,rfl⟩;simp only;rw[show sys.2.length-(un+1)=k2 by omega];exact hys'
 refine qX (zc (qX (nG rfl (ia ?_))));delta EH;refine iR ?_;refine⟨V3 sys l ov iS un,(by delta V3;exact wk),rfl,qX (nG rfl (ia ?_))⟩;delta V3;by_cases hneg:(sys.2.getD ov default).1.getD iS default<0
 ·have hc:decide ((sys.2.getD ov default).1.getD iS default<0)=true:=by simpa using hneg
  simp only[hc,aC]at h;refine uF hc ?_;exact⟨EH sys l ov iS un,(by delta EH;exact wk),rfl,hnext _ ys h _ .refl⟩
 have hc:decide ((sys.2.getD ov default).1.getD iS default<0)=false:=by simpa using hneg
 simp only[hc,ak,aB]at h;refine uF hc ?_;refine⟨V3 sys l ov iS un,(by delta V3;exact wk),rfl,qX (nG rfl (ia ?_))⟩;delta V3;refine iR ?_;refine DF [] [(21,200000)] h (fun rt hrt h=>?_) fun rf hrf h=>?_
 ·obtain⟨ys',hys',hy⟩:=ay.1 h;subst hy;refine⟨mt9 sys l ov iS un,(iV.drop 200000 h_).trans (by delta mt9;exact wk),rfl,qX (Lr (sq 42 [mv 9,mv 42]++sg 43 true 44 [mv 0,mv 3,mv 5,mv 7,.build [.lit (.int .i64 0),.lit (.int .i64 0),.lit (.int .i64 0)] [(0,1,(t0 45)),(1,1,(t0 46)),(2,1,(t0 47))]]) (sg 43 true 50 [nt 49]++sq 51 [pa 43 50]) 49 43 true (t0 44) [(t0 48)] rfl (rK ?_))⟩;delta mt9;refine iR ?_;refine⟨mtY sys l ov iS un,(by delta mtY;exact wk),rfl,rfl,rfl,rfl,fun b=>rK ?_⟩;delta mtY;refine iR ?_;refine⟨mtB sys l ov iS un b,(by delta mtB;exact wk),rfl,nG rfl (ia ?_)⟩;delta mtB;cases b with
  |false=>refine iR ?_;exact⟨EH sys l ov iS un,(by delta EH;exact wk),rfl,.inr rfl,.inr rfl⟩
  |true=>refine iR ?_;exact⟨EH sys l ov iS un,(by delta EH;exact wk),rfl,hnext _ ys' hys' _ .refl⟩
 ·refine⟨[.d (.lit (.func (.yield l) #[] #[])),.pv [iq 1 iD sys.1,iq 2 ic sys.2],.iG,.d (iD (ov:Int)),.pv [iq 1 iD (sys.2.getD ov default).1,iq 1 iD (sys.2.getD ov default).2],.d (iD (iS:Int)),.d (iD ((sys.2.getD ov default).1.getD iS default)),.d (iD (un:Int)),.iG,.d (bD false),.iG,.d (iq 2 ic sys.2),.d (iD (sys.2.length:Int)),.d (iD (ov:Int))]++List.replicate 5 .iG++[.d (iq 1 iD (sys.2.getD ov default).1),.d (iD ((sys.2.getD ov default).1.length:Int)),.d (iD (iS:Int))]++List.replicate 5 .iG++[.d (iq 2 ic sys.2),.d (iD (sys.2.length:Int)),.d (iD (un:Int))]++List.replicate 25 .iG,(iV.drop 200000 h_).trans wk,rfl,qX (nG rfl (ia ?_))⟩;refine iR ?_;refine⟨[.d (.lit (.func (.yield l) #[] #[])),.pv [iq 1 iD sys.1,iq 2 ic sys.2],.iG,.d (iD (ov:Int)),.pv [iq 1 iD (sys.2.getD ov default).1,iq 1 iD (sys.2.getD ov default).2],.d (iD (iS:Int)),.d (iD ((sys.2.getD ov default).1.getD iS default))]++List.replicate 4 .iG++[.d (iq 2 ic sys.2),.d (iD (sys.2.length:Int)),.d (iD (ov:Int))]++List.replicate 5 .iG++[.d (iq 1 iD (sys.2.getD ov default).1),.d (iD ((sys.2.getD ov default).1.length:Int)),.d (iD (iS:Int))]++List.replicate 5 .iG++[.d (iq 2 ic sys.2),.d (iD (sys.2.length:Int)),.d (iD (un:Int))]++List.replicate 21 .iG++[.d (bD false),.iG,.iG,.iG],wk,rfl,nG rfl (ia ?_)⟩;refine iR ?_;exact⟨EH sys l ov iS un,(by delta EH;exact wk),rfl,hnext _ ys h _ .refl⟩
def uo(sys:FW):Option Unit:=some ()
instance Mm{sys:FW}:iU (uo sys) fun _=>iH Tryz.prog 109 [.d (iC sys)] [] 0 fun xx ss=>xx=.fn 165 [] [.pv [iq 1 iD sys.1,iq 2 ic sys.2]]/\ss=[]:=⟨@fun rr h=>by
 have h1:iH Tryz.prog 109 [.d (iC sys)] [] 0 fun xx ss=>xx=.fn 165 [] [.ptr 1 0]/\ss=(1,.obj 32 ([iq 1 iD sys.1,iq 2 ic sys.2].map .d))::[]:=by
  refine Wy.kL (ia ?_);delta S4;refine iR ?_;exact⟨[],by simp,lM⟩
 exact h1.pvs rfl rfl rfl⟩
end Go.Proofs.YtjgbnaihpicpgaaGreat
namespace Go.Proofs.YtjgbnaihpicpgaaGreat
open Go ng
attribute [local irreducible] uh wo vz mL mC ot kQ Be Cb zM Ca zD uj mu og BY iY lg
set_option maxHeartbeats 4000000
set_option maxRecDepth 4000
def Yc:ir:=
 (.seq (.ie (sq 1 [bo 1 32 0,.alloc 2 82 [.sl 0 (some true) []],.alloc 3 4 [.lit (.bool false)]])) (.seq (.ie (sq 4 [.alloc 4 82 [.sl 0 (some true) []]])) (.seq (.seq (.ie (sq 8 [la 2 1,cf 109 [8]])) (.block 0 (.G8 (t0 9) [10] (.ie (sq 5 [.alloc 5 144 [.lit (.int .i64 0),.lit (.int .i64 0),.lit (.int .i64 0)]]++s0 (sr 3 5 10))) (.block 1 (.seq (.ie (sq 12 [la 2 1,fa 0 5,ld 13,fa 1 5,ld 15,fa 2 5,ld 17,cf 110 [12,14,16,18]]++sq 11 [mv 19]++sq 20 [ex 11 0,ex 11 1]++sq 6 [.alloc 6 44 [.sl 0 (some true) [],.sl 0 (some true) [],.sl 0 (some true) [],.lit (.int .i64 0),.lit (.int .i64 0),.lit (.int .i64 0)]]++s0 (sr 6 6 20)++sq 7 [mv 21])) (.seq (.seq (.ie (sq 22 [mv 7,nt 22,mv 23]++sg 24 false 25 [ld 4,ln 25,bi .eql 26 64]++sq 28 [po 24 27])) (.cond (t0 28) (.seq (.ie (s0 (.store 1 (t0 2) (.const (.slice none 0 0)))++s0 (.store 1 (t0 3) (.const (.bool false))))) .ret) .skip)) (.ie (sq 29 [ld 4,la 6 6,.mD 31 44 6 [(t0 30)],ap 32 44 6 96 29 31]++s0 (sr 1 4 32))))))))) (.seq (.ie (sq 33 [ld 4]++s0 (sr 1 2 33)++s0 (.store 1 (t0 3) (.const (.bool true))))) .ret))))
theorem ZG:kS Tryz.prog 61 Yc 34 [.cell 2 1 false,.cell 3 1 false]:=mf Tryz.func61 Tryz.ntmps61
def mJ(sys:gR)(els:(List gL)):(Nat×gP)->Option ((Nat×gP)⊕(gP×Bool))
 |(jj,out)=>
  if jj<els.length then
   (mV sys ((els.getD jj default).1) ((els.getD jj default).2.1) ((els.getD jj default).2.2)).bind fun r_1=>
   if r_1.2=true then
    if((out.length:Int)==64)=true then
     Option.map Sum.inr (
      some ([],false))
    else
     if(out.length+1)*96<=140737488355328 then
      some (.inl (jj+1,(out++[r_1.1])))
     else none
   else
    Option.map Sum.inr (
     some ([],false))
  else
   Option.map Sum.inr (
    some (out,true))
def oY(sys:gR):Option (gP×Bool):=
 (uo sys).bind fun r=>
 (Bh sys).bind fun els=>
 iB (mJ sys els) (0,[])
instance Qs{sys:gR}:iU (oY sys) fun rr=>qV Tryz.prog 61 [iC sys] [(iq 6 jC) rr.1,bD rr.2]:=⟨@fun rr h=>by
 delta oY at h;refine ZG.r_ (ia ?_);delta Yc;refine iR ?_;refine qC [] [] h fun r hr h=>?_
 obtain⟨els,hels,h⟩:=aq.1 h;refine U6 (xs:=els) h (GH hels) 5 (fun pp=>[(1,.obj 32 [.d (iq 1 iD sys.1),.d (iq 2 ic sys.2)]),(2,.obj 82 [.d (.sl 0 (some true) [])]),(3,.obj 4 [.d (bD false)]),(4,.obj 82 [.own 6 32 (List.map jC pp)]),(32,.tok 44 6 pp.length)]) ?_ ?_ ?_
 ·try dsimp only
  refine(iV.A8 4 0 32 44 6 rfl rfl rfl).trans ?_;exact wk
 ·rintro jj out t1 hj h hb1;unfold mJ at h;try dsimp only at h
  rw[ah hj]at h;refine iR ?_;refine T7 h fun r_1 hr_1 h=>?_
  refine it h (fun hc1 h=>?_) fun hc1 h=>?_
  ·refine it h (fun hc2 h=>?_) fun hc2 h=>?_
   ·refine MI.of (s2:=[(1,.obj 32 [.d (iq 1 iD sys.1),.d (iq 2 ic sys.2)]),(2,.obj 82 [.d (.sl 0 (some true) [])]),(3,.obj 4 [.d (bD false)]),(4,.obj 82 [.d (iq 6 jC out)])]) ((iV.drop 5 h_).trans ((iV.drop 6 h_).trans ((iV.drop 32 h_).trans (wk (iY.refl _))))) ?_;refine iR ?_;exact lP
   refine kz h fun hp h=>?_
   cases h;refine⟨_,rfl,?_⟩;exact⟨_,(iV.drop 5 h_).trans ((iV.drop 6 h_).trans ((iV.drop 31 h_).trans (wk (iY.refl _))))⟩
  refine MI.of (s2:=[(1,.obj 32 [.d (iq 1 iD sys.1),.d (iq 2 ic sys.2)]),(2,.obj 82 [.d (.sl 0 (some true) [])]),(3,.obj 4 [.d (bD false)]),(4,.obj 82 [.d (iq 6 jC out)])]) ((iV.drop 5 h_).trans ((iV.drop 6 h_).trans ((iV.drop 32 h_).trans (wk (iY.refl _))))) ?_;refine iR ?_;exact lP
 ·rintro out t1 h hb1;unfold mJ at h;try dsimp only at h
  rw[aj (fJ _)]at h;refine iR ?_;exact lP⟩
end Go.Proofs.YtjgbnaihpicpgaaGreat
