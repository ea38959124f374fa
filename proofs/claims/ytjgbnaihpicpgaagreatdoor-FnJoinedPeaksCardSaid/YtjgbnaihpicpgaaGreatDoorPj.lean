/- A part of the proof about FnJoinedPeaks (MT, H5). -/
import Derived.Test.YtjgbnaihpicpgaaGreatDoorPc
import Derived.Test.YtjgbnaihpicpgaaGreatDoorPi
set_option linter.all false
noncomputable section
namespace Go.Proofs.YtjgbnaihpicpgaaGreatDoor
open Go mm
attribute [local irreducible] rj vP uV mz lN nj kj Au Bm zm Bl yp tF lM nc AJ iS kN Cr
set_option maxHeartbeats 4000000
set_option maxRecDepth 4000
def lu(x:Int×Int×Int):D:=.agg [iD x.1,iD x.2.1,iD x.2.2]
instance:wC lu 3:=⟨fun _=>rfl⟩
attribute [go_sem] lu
abbrev Gc:=gv×List gz
abbrev JL:=Int×Int×Int
def wI(sys:Gc)(ov at':Nat):Nat->Option (List JL)
 |0=>some []
 |k+1=>
  if(decide ((sys.2.getD ov default).1.getD at' default<0))=true then wI sys ov at' k
  else(je sys (ov:Int) (at':Int) ((sys.2.length-(k+1):Nat):Int)).bind (Sum.elim (fun _=>(wI sys ov at' k).map fun l=>((ov:Int),(at':Int),((sys.2.length-(k+1):Nat):Int))::l) (fun _=>wI sys ov at' k))
def BO(sys:Gc)(ov:Nat):Nat->Option (List JL)
 |0=>some []
 |k+1=>(wI sys ov ((sys.2.getD ov default).1.length-(k+1)) sys.2.length).bind fun xs=>(BO sys ov k).map fun ys=>xs++ys
def BP(sys:Gc):Nat->Option (List JL)
 |0=>some []
 |k+1=>(BO sys (sys.2.length-(k+1)) ((sys.2.getD (sys.2.length-(k+1)) default).1).length).bind fun xs=>(BP sys k).map fun ys=>xs++ys
def Bt(sys:Gc):Option (List JL):=BP sys sys.2.length
theorem LJ{P:Program}{l:Nat}{ms:List iJ}(pre post:List iJ)(d q0:Nat)(want:Bool)(g:Operand)(args:List Operand){Q:tI}{env:List AV}{x:List D}{r:List (List D)}(hms:ms=pre++⟨some d,.ng g args,some (some q0,want)⟩::post)
 (hpre:ue P 0 pre env [] (fun env' s'=>∃env1,iL 0 env' s' env1 []/\AV.i_ (fun _=>none) env1=env1/\ev env1 g=.d (.lit (.func (.yield l) #[] #[]))/\args.map (ev env1)=x.map .d/\env1.getD q0 .ig=.d (.lit (.bool want))/\
  ∀b,ue P 0 post (env1.set d (.d (bD b))) [] (fun env' s'=>∃env2,iL 0 env' s' env2 []/\AV.i_ (fun _=>none) env2=env2/\Q .normal env2 (if b then some r else none)))):Cr P l (.h_ ms) Q env (some (x::r)):=by
 subst hms;exact Oi hpre
def YH:ie:=
 (.seq (.h_ (sq 10 [fa 1 1,ld 10,ln 11,mi 0])) (.block 0 (.loop (.seq (.h_ (sq 14 [bn .lss 13 12])) (.seq (.cond (t0 14) .skip (.exit 0)) (.seq (.block 1 (.seq (.h_ (sq 15 [mv 13,ix 2 11 13,la 2 16]++sq 4 [.alloc 4 81 [.sl 0 (some true) [],.sl 0 (some true) []]]++sq 3 [mv 15]++s0 (sr 2 4 17))) (.seq (.h_ (sq 18 [fa 0 4,ld 18,ln 19,mi 0])) (.block 2 (.loop (.seq (.h_ (sq 22 [bn .lss 21 20])) (.seq (.cond (t0 22) .skip (.exit 2)) (.seq (.block 3 (.seq (.h_ (sq 23 [mv 21,ix 1 19 21,ld 24]++sq 5 [mv 23,mv 25])) (.seq (.h_ (sq 26 [fa 1 1,ld 26,ln 27,mi 0])) (.block 4 (.loop (.seq (.h_ (sq 30 [bn .lss 29 28])) (.seq (.cond (t0 30) .skip (.exit 4)) (.seq (.block 5 (.seq (.h_ (sq 31 [mv 29]++sq 7 [mv 31])) (.seq (.seq (.h_ (sq 32 [mv 6,bi .lss 32 0])) (.cond (t0 33) (.exit 5) .skip)) (.seq (.h_ (sq 35 [la 2 1,mv 3,mv 5,mv 7,cf 92 [35,36,37,38]]++sq 34 [mv 39]++sq 40 [ex 34 0,ex 34 1]++sq 8 [mv 40,mv 41])) (.seq (.h_ (sq 42 [mv 9,mv 42]++sg 43 true 44 [mv 0,mv 3,mv 5,mv 7,.build [.lit (.int .i64 0),.lit (.int .i64 0),.lit (.int .i64 0)] [(0,1,(t0 45)),(1,1,(t0 46)),(2,1,(t0 47))],.ng (t0 44) [(t0 48)],nt 49]++sq 51 [pa 43 50])) (.cond (t0 51) .ret .skip)))))) (.h_ (sq 52 [bi .add 29 1]++sq 29 [mv 52])))))))))) (.h_ (sq 53 [bi .add 21 1]++sq 21 [mv 53])))))))))) (.h_ (sq 54 [bi .add 13 1]++sq 13 [mv 54]))))))))
theorem aas:kH Tryz.prog 91 YH 55 []:=mf Tryz.func91 Tryz.ntmps91
def Yo:ie:=
 (.seq (.h_ (sq 1 [bo 1 33 0,.mv (.const .nilFunc)])) (.seq (.h_ (sq 3 [.A2 91 [] [(t0 1)]]++sq 2 [mv 3])) .ret))
theorem Z9:kH Tryz.prog 66 Yo 4 [.tmp 2]:=mf Tryz.func66 Tryz.ntmps66
section
variable(sys:Gc)(l:Nat)
def Ko(ov:Nat):List AV:=[.d (.lit (.func (.yield l) #[] #[])),.pv [ia 1 iD sys.1,ia 2 g_ sys.2]]++List.replicate 9 .ig++[.d (ia 2 g_ sys.2),.d (iD (sys.2.length:Int)),.d (iD (ov:Int))]++List.replicate 41 .ig
def mtI(ov:Nat):List AV:=[.d (.lit (.func (.yield l) #[] #[])),.pv [ia 1 iD sys.1,ia 2 g_ sys.2],.ig,.d (iD (ov:Int)),.pv [ia 1 iD (sys.2.getD ov default).1,ia 1 iD (sys.2.getD ov default).2]]++List.replicate 6 .ig++[.d (ia 2 g_ sys.2),.d (iD (sys.2.length:Int)),.d (iD (ov:Int))]++List.replicate 41 .ig
def MW(ov at':Nat):List AV:=[.d (.lit (.func (.yield l) #[] #[])),.pv [ia 1 iD sys.1,ia 2 g_ sys.2],.ig,.d (iD (ov:Int)),.pv [ia 1 iD (sys.2.getD ov default).1,ia 1 iD (sys.2.getD ov default).2]]++List.replicate 6 .ig++[.d (ia 2 g_ sys.2),.d (iD (sys.2.length:Int)),.d (iD (ov:Int))]++List.replicate 5 .ig++[.d (ia 1 iD (sys.2.getD ov default).1),.d (iD ((sys.2.getD ov default).1.length:Int)),.d (iD (at':Int))]++List.replicate 33 .ig
def mtJ(ov at':Nat):List AV:=[.d (.lit (.func (.yield l) #[] #[])),.pv [ia 1 iD sys.1,ia 2 g_ sys.2],.ig,.d (iD (ov:Int)),.pv [ia 1 iD (sys.2.getD ov default).1,ia 1 iD (sys.2.getD ov default).2],.d (iD (at':Int)),.d (iD ((sys.2.getD ov default).1.getD at' default))]++List.replicate 4 .ig++[.d (ia 2 g_ sys.2),.d (iD (sys.2.length:Int)),.d (iD (ov:Int))]++List.replicate 5 .ig++[.d (ia 1 iD (sys.2.getD ov default).1),.d (iD ((sys.2.getD ov default).1.length:Int)),.d (iD (at':Int))]++List.replicate 33 .ig
def E0(ov at' un:Nat):List AV:=[.d (.lit (.func (.yield l) #[] #[])),.pv [ia 1 iD sys.1,ia 2 g_ sys.2],.ig,.d (iD (ov:Int)),.pv [ia 1 iD (sys.2.getD ov default).1,ia 1 iD (sys.2.getD ov default).2],.d (iD (at':Int)),.d (iD ((sys.2.getD ov default).1.getD at' default))]++List.replicate 4 .ig++[.d (ia 2 g_ sys.2),.d (iD (sys.2.length:Int)),.d (iD (ov:Int))]++List.replicate 5 .ig++[.d (ia 1 iD (sys.2.getD ov default).1),.d (iD ((sys.2.getD ov default).1.length:Int)),.d (iD (at':Int))]++List.replicate 5 .ig++[.d (ia 2 g_ sys.2),.d (iD (sys.2.length:Int)),.d (iD (un:Int))]++List.replicate 25 .ig
def V_(ov at' un:Nat):List AV:=[.d (.lit (.func (.yield l) #[] #[])),.pv [ia 1 iD sys.1,ia 2 g_ sys.2],.ig,.d (iD (ov:Int)),.pv [ia 1 iD (sys.2.getD ov default).1,ia 1 iD (sys.2.getD ov default).2],.d (iD (at':Int)),.d (iD ((sys.2.getD ov default).1.getD at' default)),.d (iD (un:Int)),.ig,.ig,.ig,.d (ia 2 g_ sys.2),.d (iD (sys.2.length:Int)),.d (iD (ov:Int))]++List.replicate 5 .ig++[.d (ia 1 iD (sys.2.getD ov default).1),.d (iD ((sys.2.getD ov default).1.length:Int)),.d (iD (at':Int))]++List.replicate 5 .ig++[.d (ia 2 g_ sys.2),.d (iD (sys.2.length:Int)),.d (iD (un:Int))]++List.replicate 25 .ig
def mt9(ov at' un:Nat):List AV:=[.d (.lit (.func (.yield l) #[] #[])),.pv [ia 1 iD sys.1,ia 2 g_ sys.2],.ig,.d (iD (ov:Int)),.pv [ia 1 iD (sys.2.getD ov default).1,ia 1 iD (sys.2.getD ov default).2],.d (iD (at':Int)),.d (iD ((sys.2.getD ov default).1.getD at' default)),.d (iD (un:Int)),.ig,.d (bD true),.ig,.d (ia 2 g_ sys.2),.d (iD (sys.2.length:Int)),.d (iD (ov:Int))]++List.replicate 5 .ig++[.d (ia 1 iD (sys.2.getD ov default).1),.d (iD ((sys.2.getD ov default).1.length:Int)),.d (iD (at':Int))]++List.replicate 5 .ig++[.d (ia 2 g_ sys.2),.d (iD (sys.2.length:Int)),.d (iD (un:Int))]++List.replicate 25 .ig
def mtY(ov at' un:Nat):List AV:=[.d (.lit (.func (.yield l) #[] #[])),.pv [ia 1 iD sys.1,ia 2 g_ sys.2],.ig,.d (iD (ov:Int)),.pv [ia 1 iD (sys.2.getD ov default).1,ia 1 iD (sys.2.getD ov default).2],.d (iD (at':Int)),.d (iD ((sys.2.getD ov default).1.getD at' default))]++List.replicate 4 .ig++[.d (ia 2 g_ sys.2),.d (iD (sys.2.length:Int)),.d (iD (ov:Int))]++List.replicate 5 .ig++[.d (ia 1 iD (sys.2.getD ov default).1),.d (iD ((sys.2.getD ov default).1.length:Int)),.d (iD (at':Int))]++List.replicate 5 .ig++[.d (ia 2 g_ sys.2),.d (iD (sys.2.length:Int)),.d (iD (un:Int))]++List.replicate 13 .ig++[.d (bD true),.d (.lit (.func (.yield l) #[] #[])),.ig,.ig,.ig,.d (lu ((ov:Int),(at':Int),(un:Int)))]++List.replicate 6 .ig
def mtB(ov at' un:Nat)(b:Bool):List AV:=[.d (.lit (.func (.yield l) #[] #[])),.pv [ia 1 iD sys.1,ia 2 g_ sys.2],.ig,.d (iD (ov:Int)),.pv [ia 1 iD (sys.2.getD ov default).1,ia 1 iD (sys.2.getD ov default).2],.d (iD (at':Int)),.d (iD ((sys.2.getD ov default).1.getD at' default))]++List.replicate 4 .ig++[.d (ia 2 g_ sys.2),.d (iD (sys.2.length:Int)),.d (iD (ov:Int))]++List.replicate 5 .ig++[.d (ia 1 iD (sys.2.getD ov default).1),.d (iD ((sys.2.getD ov default).1.length:Int)),.d (iD (at':Int))]++List.replicate 5 .ig++[.d (ia 2 g_ sys.2),.d (iD (sys.2.length:Int)),.d (iD (un:Int))]++List.replicate 21 .ig++[.d (bD (!b)),.ig,.ig,.ig]
end
theorem G2{sys:Gc}{els:List JL}(h0:Bt sys=some els):Iter Tryz.prog 91 [.pv [ia 1 iD sys.1,ia 2 g_ sys.2]] (els.map fun x=>[lu x]):=by
 refine Fy aas (by kernel_rfl) rfl fun l=>Dy (p:=sys.2.length<2^63) (fun X a W hst=>by have:=DT (i:=1) (cs1:=[ia 1 iD sys.1]) (cs2:=[]) (ds:=sys.2.map g_) (e:=2) (nl:=none) hst rfl;simpa using this) fun hlen2=>?_
 delta YH;refine kZ (jJ rfl (gZ ?_));show rj _ _ _ _ ([.d (.lit (.func (.yield l) #[] #[])),.pv [ia 1 iD sys.1,ia 2 g_ sys.2]]++List.replicate 53 .ig) [];refine iN ?_;refine⟨Ko sys l 0,(by delta Ko;exact wk),rfl,rY ?_⟩;refine BM (ι:=Nat×List JL) (fun p=>Ko sys l p.1) (fun p=>some (p.2.map fun x=>[lu x])) (fun p=>p.1<=sys.2.length/\BP sys (sys.2.length-p.1)=some p.2) (fun p=>sys.2.length-p.1) (0,els) ⟨cZ _,h0⟩ .refl (fun _=>rfl) ?_;rintro⟨ov,r⟩ ⟨hov,h⟩;simp only at hov h⊢;refine kZ (jJ rfl (gZ ?_));delta Ko;by_cases hlt:ov<sys.2.length
 rotate_left
 ·have hc:decide ((ov:Int)<(sys.2.length:Int))=false:=by simpa using hlt
  refine rz hc ?_;refine⟨[.d (.lit (.func (.yield l) #[] #[])),.pv [ia 1 iD sys.1,ia 2 g_ sys.2]]++List.replicate 9 .ig++[.d (ia 2 g_ sys.2),.d (iD (sys.2.length:Int)),.d (iD (ov:Int)),.d (bD false)]++List.replicate 40 .ig,wk,rfl,kZ (jJ rfl (gZ ?_))⟩;refine iN ?_;have:ov=sys.2.length:=by omega
  subst this;rw[cM]at h;cases h;exact⟨Ko sys l sys.2.length,(by delta Ko;exact wk),rfl,.inl rfl,.inl rfl⟩
 have hc:decide ((ov:Int)<(sys.2.length:Int))=true:=by simpa using hlt
 refine rz hc ?_;refine⟨[.d (.lit (.func (.yield l) #[] #[])),.pv [ia 1 iD sys.1,ia 2 g_ sys.2]]++List.replicate 9 .ig++[.d (ia 2 g_ sys.2),.d (iD (sys.2.length:Int)),.d (iD (ov:Int)),.d (bD true)]++List.replicate 40 .ig,wk,rfl,kZ (jJ rfl (gZ ?_))⟩;refine iN ?_;refine⟨Ko sys l ov,(by delta Ko;exact wk),rfl,?_⟩;obtain⟨k0,hk0⟩:∃k0,sys.2.length-ov=k0+1:=⟨sys.2.length-ov-1,gY⟩;rw[hk0]at h;simp only[BP]at h;rw[show sys.2.length-(k0+1)=ov by omega]at h;obtain⟨xs,hxs,h⟩:=au.1 h;obtain⟨rest,hrest,hr⟩:=az.1 h;subst hr;clear h;refine kZ (rY (kZ (jJ rfl (gZ ?_))));delta Ko;refine iN ?_;repeat(refine yW gY ?_;refine iN ?_)
 refine⟨mtI sys l ov,(iL.R5 4 (ds:=[ia 1 iD (sys.2.getD ov default).1,ia 1 iD (sys.2.getD ov default).2]) gY rfl).trans ((iL.drop 4 gY).trans (by delta mtI;exact wk)),rfl,?_⟩;refine Dy (p:=(sys.2.getD ov default).1.length<2^63) (fun X a W hst=>by have:=DT (i:=4) (cs1:=[]) (cs2:=[ia 1 iD (sys.2.getD ov default).2]) (ds:=((sys.2.getD ov default).1).map iD) (e:=1) (nl:=none) hst rfl;simpa using this) fun hlenL=>?_
 refine kZ (jJ rfl (gZ ?_));delta mtI;refine iN ?_;refine⟨MW sys l ov 0,(by delta MW;exact wk),rfl,?_⟩;refine rY ?_;refine BM (ι:=Nat×List JL) (fun p=>MW sys l ov p.1) (fun p=>some ((fun p:Nat×List JL=>(p.2++rest).map fun x=>[lu x]) p)) (fun p=>p.1<=(sys.2.getD ov default).1.length/\BO sys ov ((sys.2.getD ov default).1.length-p.1)=some p.2) (fun p=>(sys.2.getD ov default).1.length-p.1) (0,xs) ⟨cZ _,hxs⟩ .refl (fun _=>rfl) ?_;clear hxs;rintro⟨at',r2⟩ ⟨hat,h⟩;simp only at hat h⊢;refine kZ (jJ rfl (gZ ?_));delta MW;by_cases hla:at'<(sys.2.getD ov default).1.length
 rotate_left
 ·have hc:decide ((at':Int)<((sys.2.getD ov default).1.length:Int))=false:=by simpa using hla
  refine rz hc ?_;refine⟨[.d (.lit (.func (.yield l) #[] #[])),.pv [ia 1 iD sys.1,ia 2 g_ sys.2],.ig,.d (iD (ov:Int)),.pv [ia 1 iD (sys.2.getD ov default).1,ia 1 iD (sys.2.getD ov default).2]]++List.replicate 6 .ig++[.d (ia 2 g_ sys.2),.d (iD (sys.2.length:Int)),.d (iD (ov:Int))]++List.replicate 5 .ig++[.d (ia 1 iD (sys.2.getD ov default).1),.d (iD ((sys.2.getD ov default).1.length:Int)),.d (iD (at':Int)),.d (bD false)]++List.replicate 32 .ig,wk,rfl,kZ (jJ rfl (gZ ?_))⟩;refine iN ?_;have:at'=(sys.2.getD ov default).1.length:=by omega
  subst this;rw[cM]at h;cases h;refine⟨Ko sys l ov,(by delta Ko;exact wk),rfl,?_⟩;show Cr _ _ _ _ _ _;refine jJ rfl (gZ ?_);delta Ko;refine iN ?_;have hw1:IntKind.i64.wrap ((ov:Int)+1)=((ov+1:Nat):Int):=by rw[wrap_i64 gY gY];omega
  rw[hw1];refine⟨Ko sys l (ov+1),(by delta Ko;exact wk),rfl,(ov+1,rest),⟨⟨gY,?_⟩,by simp only;omega⟩,.refl,rfl⟩;simp only;rw[show sys.2.length-(ov+1)=k0 by omega];exact hrest
 have hc:decide ((at':Int)<((sys.2.getD ov default).1.length:Int))=true:=by simpa using hla
 refine rz hc ?_;refine⟨[.d (.lit (.func (.yield l) #[] #[])),.pv [ia 1 iD sys.1,ia 2 g_ sys.2],.ig,.d (iD (ov:Int)),.pv [ia 1 iD (sys.2.getD ov default).1,ia 1 iD (sys.2.getD ov default).2]]++List.replicate 6 .ig++[.d (ia 2 g_ sys.2),.d (iD (sys.2.length:Int)),.d (iD (ov:Int))]++List.replicate 5 .ig++[.d (ia 1 iD (sys.2.getD ov default).1),.d (iD ((sys.2.getD ov default).1.length:Int)),.d (iD (at':Int)),.d (bD true)]++List.replicate 32 .ig,wk,rfl,kZ (jJ rfl (gZ ?_))⟩;refine iN ?_;refine⟨MW sys l ov at',(by delta MW;exact wk),rfl,?_⟩;obtain⟨k1,hk1⟩:∃k1,(sys.2.getD ov default).1.length-at'=k1+1:=⟨(sys.2.getD ov default).1.length-at'-1,gY⟩;rw[hk1]at h;simp only[BO]at h;rw[show(sys.2.getD ov default).1.length-(k1+1)=at' by omega]at h;obtain⟨xs2,hxs2,h⟩:=au.1 h;obtain⟨rest2,hrest2,hr2⟩:=az.1 h;subst hr2;clear h;rw[aG];refine kZ (rY (kZ (jJ rfl (gZ ?_))));delta MW;refine iN ?_;repeat(refine yW gY ?_;refine iN ?_)
 refine⟨mtJ sys l ov at',(by delta mtJ;exact wk),rfl,kZ (jJ rfl (gZ ?_))⟩;delta mtJ;refine iN ?_;refine⟨E0 sys l ov at' 0,(by delta E0;exact wk),rfl,rY ?_⟩;refine BM (ι:=Nat×List JL) (fun p=>E0 sys l ov at' p.1) (fun p=>some ((fun p:Nat×List JL=>(p.2++(rest2++rest)).map fun x=>[lu x]) p)) (fun p=>p.1<=sys.2.length/\wI sys ov at' (sys.2.length-p.1)=some p.2) (fun p=>sys.2.length-p.1) (0,xs2) ⟨cZ _,hxs2⟩ .refl (fun _=>rfl) ?_;clear hxs2;rintro⟨un,ys⟩ ⟨hun,h⟩;simp only at hun h⊢;refine kZ (jJ rfl (gZ ?_));delta E0;by_cases hlu:un<sys.2.length
 rotate_left
 ·have hc:decide ((un:Int)<(sys.2.length:Int))=false:=by simpa using hlu
  refine rz hc ?_;refine⟨[.d (.lit (.func (.yield l) #[] #[])),.pv [ia 1 iD sys.1,ia 2 g_ sys.2],.ig,.d (iD (ov:Int)),.pv [ia 1 iD (sys.2.getD ov default).1,ia 1 iD (sys.2.getD ov default).2],.d (iD (at':Int)),.d (iD ((sys.2.getD ov default).1.getD at' default))]++List.replicate 4 .ig++[.d (ia 2 g_ sys.2),.d (iD (sys.2.length:Int)),.d (iD (ov:Int))]++List.replicate 5 .ig++[.d (ia 1 iD (sys.2.getD ov default).1),.d (iD ((sys.2.getD ov default).1.length:Int)),.d (iD (at':Int))]++List.replicate 5 .ig++[.d (ia 2 g_ sys.2),.d (iD (sys.2.length:Int)),.d (iD (un:Int)),.d (bD false)]++List.replicate 24 .ig,wk,rfl,kZ (jJ rfl (gZ ?_))⟩;refine iN ?_;have:un=sys.2.length:=by omega
  subst this;rw[cM]at h;cases h;refine⟨MW sys l ov at',(by delta MW;exact wk),rfl,?_⟩;show Cr _ _ _ _ _ _;refine jJ rfl (gZ ?_);delta MW;refine iN ?_;have hw1:IntKind.i64.wrap ((at':Int)+1)=((at'+1:Nat):Int):=by rw[wrap_i64 gY gY];omega
  rw[hw1];refine⟨MW sys l ov (at'+1),(by delta MW;exact wk),rfl,(at'+1,rest2),⟨⟨gY,?_⟩,by simp only;omega⟩,.refl,rfl⟩;simp only;rw[show(sys.2.getD ov default).1.length-(at'+1)=k1 by omega];exact hrest2
 have hc:decide ((un:Int)<(sys.2.length:Int))=true:=by simpa using hlu
 refine rz hc ?_;refine⟨[.d (.lit (.func (.yield l) #[] #[])),.pv [ia 1 iD sys.1,ia 2 g_ sys.2],.ig,.d (iD (ov:Int)),.pv [ia 1 iD (sys.2.getD ov default).1,ia 1 iD (sys.2.getD ov default).2],.d (iD (at':Int)),.d (iD ((sys.2.getD ov default).1.getD at' default))]++List.replicate 4 .ig++[.d (ia 2 g_ sys.2),.d (iD (sys.2.length:Int)),.d (iD (ov:Int))]++List.replicate 5 .ig++[.d (ia 1 iD (sys.2.getD ov default).1),.d (iD ((sys.2.getD ov default).1.length:Int)),.d (iD (at':Int))]++List.replicate 5 .ig++[.d (ia 2 g_ sys.2),.d (iD (sys.2.length:Int)),.d (iD (un:Int)),.d (bD true)]++List.replicate 24 .ig,wk,rfl,kZ (jJ rfl (gZ ?_))⟩;refine iN ?_;refine⟨E0 sys l ov at' un,(by delta E0;exact wk),rfl,?_⟩;obtain⟨k2,hk2⟩:∃k2,sys.2.length-un=k2+1:=⟨sys.2.length-un-1,gY⟩;rw[hk2]at h;simp only[wI]at h;rw[show sys.2.length-(k2+1)=un by omega]at h;have hnext:∀(Q:tI) ys',wI sys ov at' k2=some ys'->∀env1,iL 0 env1 [] (E0 sys l ov at' un) []->Cr Tryz.prog l (.h_ (sq 52 [bi .add 29 1]++sq 29 [mv 52])) (Kg (fun p:Nat×List JL=>E0 sys l ov at' p.1) (fun p:Nat×List JL=>some ((fun p:Nat×List JL=>(p.2++(rest2++rest)).map fun x=>[lu x]) p)) (fun i':Nat×List JL=>(i'.1<=sys.2.length/\wI sys ov at' (sys.2.length-i'.1)=some i'.2)/\sys.2.length-i'.1<sys.2.length-un) Q) env1 (some ((ys'++(rest2++rest)).map fun x=>[lu x])):=fun Q ys' hys' env1 hw=>by
  refine IM hw rfl (jJ rfl (gZ ?_));delta E0;refine iN ?_;have hw1:IntKind.i64.wrap ((un:Int)+1)=((un+1:Nat):Int):=by rw[wrap_i64 gY gY];omega
  rw[hw1];refine⟨E0 sys l ov at' (un+1),(by delta E0;exact wk),rfl,(un+1,ys'),⟨⟨gY,?_⟩,by simp only;omega⟩,.refl,rfl⟩;simp only;rw[show sys.2.length-(un+1)=k2 by omega];exact hys'
 refine kZ (rY (kZ (jJ rfl (gZ ?_))));delta E0;refine iN ?_;refine⟨V_ sys l ov at' un,(by delta V_;exact wk),rfl,kZ (jJ rfl (gZ ?_))⟩;delta V_;by_cases hneg:(sys.2.getD ov default).1.getD at' default<0
 ·have hc:decide ((sys.2.getD ov default).1.getD at' default<0)=true:=by simpa using hneg
  simp only[hc,aC]at h;refine rz hc ?_;exact⟨E0 sys l ov at' un,(by delta E0;exact wk),rfl,hnext _ ys h _ .refl⟩
 have hc:decide ((sys.2.getD ov default).1.getD at' default<0)=false:=by simpa using hneg
 simp only[hc,aj,aE]at h;refine rz hc ?_;refine⟨V_ sys l ov at' un,(by delta V_;exact wk),rfl,kZ (jJ rfl (gZ ?_))⟩;delta V_;refine iN ?_;refine CA [] [(21,200000)] h (fun rt hrt h=>?_) fun rf hrf h=>?_
 ·obtain⟨ys',hys',hy⟩:=az.1 h;subst hy;refine⟨mt9 sys l ov at' un,(iL.drop 200000 gY).trans (by delta mt9;exact wk),rfl,kZ (LJ (sq 42 [mv 9,mv 42]++sg 43 true 44 [mv 0,mv 3,mv 5,mv 7,.build [.lit (.int .i64 0),.lit (.int .i64 0),.lit (.int .i64 0)] [(0,1,(t0 45)),(1,1,(t0 46)),(2,1,(t0 47))]]) (sg 43 true 50 [nt 49]++sq 51 [pa 43 50]) 49 43 true (t0 44) [(t0 48)] rfl (oA ?_))⟩;delta mt9;refine iN ?_;refine⟨mtY sys l ov at' un,(by delta mtY;exact wk),rfl,rfl,rfl,rfl,fun b=>oA ?_⟩;delta mtY;refine iN ?_;refine⟨mtB sys l ov at' un b,(by delta mtB;exact wk),rfl,jJ rfl (gZ ?_)⟩;delta mtB;cases b with
  |false=>refine iN ?_;exact⟨E0 sys l ov at' un,(by delta E0;exact wk),rfl,.inr rfl,.inr rfl⟩
  |true=>refine iN ?_;exact⟨E0 sys l ov at' un,(by delta E0;exact wk),rfl,hnext _ ys' hys' _ .refl⟩
 ·refine⟨[.d (.lit (.func (.yield l) #[] #[])),.pv [ia 1 iD sys.1,ia 2 g_ sys.2],.ig,.d (iD (ov:Int)),.pv [ia 1 iD (sys.2.getD ov default).1,ia 1 iD (sys.2.getD ov default).2],.d (iD (at':Int)),.d (iD ((sys.2.getD ov default).1.getD at' default)),.d (iD (un:Int)),.ig,.d (bD false),.ig,.d (ia 2 g_ sys.2),.d (iD (sys.2.length:Int)),.d (iD (ov:Int))]++List.replicate 5 .ig++[.d (ia 1 iD (sys.2.getD ov default).1),.d (iD ((sys.2.getD ov default).1.length:Int)),.d (iD (at':Int))]++List.replicate 5 .ig++[.d (ia 2 g_ sys.2),.d (iD (sys.2.length:Int)),.d (iD (un:Int))]++List.replicate 25 .ig,(iL.drop 200000 gY).trans wk,rfl,kZ (jJ rfl (gZ ?_))⟩;refine iN ?_;refine⟨[.d (.lit (.func (.yield l) #[] #[])),.pv [ia 1 iD sys.1,ia 2 g_ sys.2],.ig,.d (iD (ov:Int)),.pv [ia 1 iD (sys.2.getD ov default).1,ia 1 iD (sys.2.getD ov default).2],.d (iD (at':Int)),.d (iD ((sys.2.getD ov default).1.getD at' default))]++List.replicate 4 .ig++[.d (ia 2 g_ sys.2),.d (iD (sys.2.length:Int)),.d (iD (ov:Int))]++List.replicate 5 .ig++[.d (ia 1 iD (sys.2.getD ov default).1),.d (iD ((sys.2.getD ov default).1.length:Int)),.d (iD (at':Int))]++List.replicate 5 .ig++[.d (ia 2 g_ sys.2),.d (iD (sys.2.length:Int)),.d (iD (un:Int))]++List.replicate 21 .ig++[.d (bD false),.ig,.ig,.ig],wk,rfl,jJ rfl (gZ ?_)⟩;refine iN ?_;exact⟨E0 sys l ov at' un,(by delta E0;exact wk),rfl,hnext _ ys h _ .refl⟩
def uH(sys:Gc):Option Unit:=some ()
instance MI{sys:Gc}:iR (uH sys) fun _=>iC Tryz.prog 66 [.d (iA sys)] [] 0 fun xx ss=>xx=.fn 91 [] [.pv [ia 1 iD sys.1,ia 2 g_ sys.2]]/\ss=[]:=⟨@fun rr h=>by
 have h1:iC Tryz.prog 66 [.d (iA sys)] [] 0 fun xx ss=>xx=.fn 91 [] [.ptr 1 0]/\ss=(1,.obj 33 ([ia 1 iD sys.1,ia 2 g_ sys.2].map .d))::[]:=by
  refine Z9.lO (gZ ?_);delta Yo;refine iN ?_;exact⟨[],by simp,mT⟩
 exact h1.pvs rfl rfl rfl⟩
end Go.Proofs.YtjgbnaihpicpgaaGreatDoor
namespace Go.Proofs.YtjgbnaihpicpgaaGreatDoor
open Go mm
attribute [local irreducible] rj vP uV mz lN nj kj Au Bm zm Bl yp tF lM nc AJ iS kN
set_option maxHeartbeats 4000000
set_option maxRecDepth 4000
def X9:ie:=
 (.seq (.h_ (sq 1 [bo 1 33 0,.alloc 2 44 [.sl 0 (some true) []],.alloc 3 4 [.lit (.bool false)]])) (.seq (.h_ (sq 4 [.alloc 4 44 [.sl 0 (some true) []]])) (.seq (.seq (.h_ (sq 8 [la 2 1,cf 66 [8]])) (.block 0 (.Es (t0 9) [10] (.h_ (sq 5 [.alloc 5 112 [.lit (.int .i64 0),.lit (.int .i64 0),.lit (.int .i64 0)]]++s0 (sr 3 5 10))) (.block 1 (.seq (.h_ (sq 12 [la 2 1,fa 0 5,ld 13,fa 1 5,ld 15,fa 2 5,ld 17,cf 67 [12,14,16,18]]++sq 11 [mv 19]++sq 20 [ex 11 0,ex 11 1]++sq 6 [.alloc 6 54 [.sl 0 (some true) [],.sl 0 (some true) [],.sl 0 (some true) [],.lit (.int .i64 0),.lit (.int .i64 0),.lit (.int .i64 0)]]++s0 (sr 6 6 20)++sq 7 [mv 21])) (.seq (.seq (.h_ (sq 22 [mv 7,nt 22,mv 23]++sg 24 false 25 [ld 4,ln 25,bi .eql 26 64]++sq 28 [po 24 27])) (.cond (t0 28) (.seq (.h_ (s0 (.store 1 (t0 2) (.const (.slice none 0 0)))++s0 (.store 1 (t0 3) (.const (.bool false))))) .ret) .skip)) (.h_ (sq 29 [ld 4,la 6 6,.mP 31 54 6 [(t0 30)],ap 32 54 6 96 29 31]++s0 (sr 1 4 32))))))))) (.seq (.h_ (sq 33 [ld 4]++s0 (sr 1 2 33)++s0 (.store 1 (t0 3) (.const (.bool true))))) .ret))))
theorem ZT:kH Tryz.prog 34 X9 34 [.cell 2 1 false,.cell 3 1 false]:=mf Tryz.func34 Tryz.ntmps34
def mL(sys:gJ)(els:(List gG)):(Nat×gL)->Option ((Nat×gL)⊕(gL×Bool))
 |(jj,out)=>
  if jj<els.length then
   (mZ sys ((els.getD jj default).1) ((els.getD jj default).2.1) ((els.getD jj default).2.2)).bind fun r_1=>
   if r_1.2=true then
    if((out.length:Int)==64)=true then
     Option.map Sum.inr (
      some ([],false))
    else
     if(out.length+1)*96<=140737488355328 then
      some (.inl (jj+1,(out++[r_1.1])))
     else none
   else
    Option.map Sum.inr (
     some ([],false))
  else
   Option.map Sum.inr (
    some (out,true))
def qL(sys:gJ):Option (gL×Bool):=
 (uH sys).bind fun r=>
 (Bt sys).bind fun els=>
 iw (mL sys els) (0,[])
instance QG{sys:gJ}:iR (qL sys) fun rr=>oH Tryz.prog 34 [iA sys] [(ia 6 jv) rr.1,bD rr.2]:=⟨@fun rr h=>by
 delta qL at h;refine ZT.pg (gZ ?_);delta X9;refine iN ?_;refine rB [] [] h fun r hr h=>?_
 obtain⟨els,hels,h⟩:=au.1 h;refine Vc (xs:=els) h (G2 hels) 5 (fun pp=>[(1,.obj 33 [.d (ia 1 iD sys.1),.d (ia 2 g_ sys.2)]),(2,.obj 44 [.d (.sl 0 (some true) [])]),(3,.obj 4 [.d (bD false)]),(4,.obj 44 [.own 6 32 (List.map jv pp)]),(32,.tok 54 6 pp.length)]) ?_ ?_ ?_
 ·try dsimp only
  refine(iL.xC 4 0 32 54 6 rfl rfl rfl).trans ?_;exact wk
 ·rintro jj out t1 hj h hb1;unfold mL at h;try dsimp only at h
  rw[ah hj]at h;refine iN ?_;refine R8 h fun r_1 hr_1 h=>?_
  refine it h (fun hc1 h=>?_) fun hc1 h=>?_
  ·refine it h (fun hc2 h=>?_) fun hc2 h=>?_
   ·refine M5.of (s2:=[(1,.obj 33 [.d (ia 1 iD sys.1),.d (ia 2 g_ sys.2)]),(2,.obj 44 [.d (.sl 0 (some true) [])]),(3,.obj 4 [.d (bD false)]),(4,.obj 44 [.d (ia 6 jv out)])]) ((iL.drop 5 gY).trans ((iL.drop 6 gY).trans ((iL.drop 32 gY).trans (wk (iS.refl _))))) ?_;refine iN ?_;exact mA
   refine j_ h fun hp h=>?_
   cases h;refine⟨_,rfl,?_⟩;exact⟨_,(iL.drop 5 gY).trans ((iL.drop 6 gY).trans ((iL.drop 31 gY).trans (wk (iS.refl _))))⟩
  refine M5.of (s2:=[(1,.obj 33 [.d (ia 1 iD sys.1),.d (ia 2 g_ sys.2)]),(2,.obj 44 [.d (.sl 0 (some true) [])]),(3,.obj 4 [.d (bD false)]),(4,.obj 44 [.d (ia 6 jv out)])]) ((iL.drop 5 gY).trans ((iL.drop 6 gY).trans ((iL.drop 32 gY).trans (wk (iS.refl _))))) ?_;refine iN ?_;exact mA
 ·rintro out t1 h hb1;unfold mL at h;try dsimp only at h
  rw[ak (eH _)]at h;refine iN ?_;exact mA⟩
end Go.Proofs.YtjgbnaihpicpgaaGreatDoor
