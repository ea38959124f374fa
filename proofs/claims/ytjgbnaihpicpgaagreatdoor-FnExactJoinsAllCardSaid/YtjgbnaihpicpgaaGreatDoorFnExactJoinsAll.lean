/- The statement about FnExactJoinsAll is proved: the law returns true at every input and leaves the input as it was; nothing is assumed. -/
import Derived.Test.YtjgbnaihpicpgaaGreatDoorTa
import Derived.Test.YtjgbnaihpicpgaaGreatDoorTd
import Derived.Test.YtjgbnaihpicpgaaGreatDoorTl
import Derived.Test.YtjgbnaihpicpgaaGreatDoorTm
import Derived.Test.YtjgbnaihpicpgaaGreatDoorTn
import Derived.Carry
import Derived.Test.YtjgbnaihpicpgaaGreatDoorRows
import Derived.LaidMore
import Derived.Stop.Joined
import Derived.Stop.LaidErr
import Derived.WalkSmall
import Derived.MakeChecks
import Derived.LaidLaws
import Derived.ProofKit
import Derived.JoinedOf
import Derived.KernelRfl
import Derived.Test.YtjgbnaihpicpgaaGreatDoorTie
import Derived.Test.YtjgbnaihpicpgaaGreatDoorCards
import Derived.SevenTiedAt
set_option linter.all false
noncomputable section
namespace Go.Proofs.YtjgbnaihpicpgaaGreatDoor
open Go lY Tm
open Un hiding Bd
theorem Am(steps:Int):qE steps=some (PO steps):=by
 unfold qE PO;by_cases h:0<=steps<;>simp[h]
theorem FY{x:Eg}{w0:gk}{w1:List Eg}(hx:x.2.2.length<=60)(hw:w1.length<=1000):nu x w0 w1=some (w1++[x]):=by
 unfold nu;rw[pI (by show List.length _<_;omega),aa,ah gN]
theorem zM{r:gk}{L:List Eg}(hl:L.length<=200)(hx:∀x∈L,x.2.2.length<=60):g_ (kV r L) (0,[])=some (r,L.reverse):=by
 have h0:((0:Nat),([]:List Eg))=((fun i:Nat=>(i,L.reverse.take i)) 0):=by simp
 rw[h0];refine pN (n:=L.length) (fun i:Nat=>(i,L.reverse.take i)) (fun i hi=>?_) ?_
 ·have hi':i<L.reverse.length:=by simpa using hi
  have e:L.getD (L.length-1-i) default=L.reverse[i]:=by rw[iy gN,List.getElem_reverse]
  rw[kV,ah hi,e];have:=FY (x:=L.reverse[i]) (w0:=r) (w1:=L.reverse.take i) (hx _ (by rw[<-List.mem_reverse];exact bC hi')) (by rw[ck];omega);rw[show nu ((L.reverse[i]).1,(L.reverse[i]).2.1,(L.reverse[i]).2.2) r (L.reverse.take i)=_ from this,aa,bM hi']
 ·rw[kV,ak gN,bH (by simp)];rfl
theorem EW{r:gk}{L:List Eg}(hl:L.length<=200)(hx:∀x∈L,x.2.2.length<=60):g_ (oy L r) (IntKind.i64.wrap ((L.length:Int)-1),[])=some (r,L.reverse):=by
 have h0:(IntKind.i64.wrap ((L.length:Int)-1),([]:List Eg))=((fun i:Nat=>((L.length:Int)-1-(i:Int),L.reverse.take i)) 0):=by rw[lX gN gN];simp
 rw[h0];refine pN (n:=L.length) (fun i:Nat=>((L.length:Int)-1-(i:Int),L.reverse.take i)) (fun i hi=>?_) ?_
 ·have hi':i<L.reverse.length:=by simpa using hi
  have e:L.getD ((L.length:Int)-1-(i:Int)).toNat default=L.reverse[i]:=by rw[show((L.length:Int)-1-(i:Int)).toNat=L.length-1-i by omega,iy gN,List.getElem_reverse]
  have hxl:=hx (L.reverse[i]) (by rw[<-List.mem_reverse];exact bC hi');rw[oy,ah (by simp only[aA];omega),ah gN,ah gN,ah gN,e,mE (by show List.length _<_;omega),aa,ah (by rw[ck];omega),lX gN gN,bM hi',
   show(L.length:Int)-1-(i:Int)-1=(L.length:Int)-1-((i+1:Nat):Int) by omega]
 ·rw[oy,ak (by simp only[aA];omega),bH (by simp)];rfl
theorem R6.Ta{s:Sys}{steps:Int}{A:List I6}(h:R6 s steps A){j:Nat}(hj:j<A.length)(h0:0<j):(X4 (xl A j)).2.2.length<=60:=by
 obtain⟨p,_,_,_,p4⟩:=(h.el j hj).up h0;have:=(h.el j hj).tm;show(xl A j).2.2.2.2.1.length<=60;rw[p4];exact(ig.1 this).2.2.1
theorem vR{s:Sys}{steps:Int}{A:List I6}(h:R6 s steps A){j:Nat}(hj:j<A.length):nA A j=some ((xl A 0).1,(J6 A j j).reverse):=by
 have hl:=h.len;have hp:=h.pos;have hr:=h.sm;unfold nA;rw[ah gN,show(A.getD 0 default).1=(xl A 0).1 from rfl,pI (by have:=(h.el 0 hp).tm;have:=(ig.1 this).2.2.1;show List.length _<_;omega),aa];have key:∀(f k:Nat)(o:List Eg),k<A.length->k<=f->o.length+f<=100->(∀x∈o,x.2.2.length<=60)->g_ (kU A (xl A 0).1) ((k:Int),o)=some ((xl A 0).1,(o++J6 A f k).reverse):=by
  intro f;induction f with
  |zero=>
   intro k o hk hf ho hx;have:k=0:=by omega
   subst this;refine ie ?_;rw[kU,ak (by simp),J6,aV];unfold jq;rw[aa,zM gN hx];rfl
  |succ f ih=>
   intro k o hk hf ho hx;by_cases h0:k=0
   ·subst h0;refine ie ?_;rw[kU,ak (by simp),J6,ah rfl,aV];unfold jq;rw[aa,zM gN hx];rfl
   ·obtain⟨p,p1,p2,_,_⟩:=(h.el k hk).up gN;have p1':(A.getD k default).2.1=(p:Int):=p1;have i1:=ih p (o++[X4 (xl A k)]) gN gN (by rw[aq,aY];omega) (fun x hx'=>by
     rcases aH.1 hx' with c|c
     ·exact hx x c
     ·rw[aU.1 c];exact h.Ta hk gN)
    refine(iB ?_).trans (i1.trans ?_)
    ·rw[kU,ah (by simp only[aA];omega),ah gN,ah gN,ah gN,au,p1'];rfl
    ·rw[J6,ak h0,p1,au,aG];rfl
 have:=key j j [] hj (aC _) (by simp;omega) (by simp);rw[bh]at this;exact this
theorem wg{s:Sys}{steps:Int}{A:List I6}{b:Bool}(h:R6 s steps A){j:Nat}(hj:j<A.length):pn (m1 A,m2 A,m3 A,m4 A,b) j=some ((xl A 0).1,(J6 A j j).reverse):=by
 have hl:=h.len;have hp:=h.pos;have hr:=h.sm;unfold pn;have g2:∀{k:Nat},k<A.length->(m2 A).getD k default=(xl A k).2.1:=fun hk=>uC (g:=fun x:I6=>x.2.1) hk
 have g3:∀{k:Nat},k<A.length->(m3 A).getD k default=X4 (xl A k):=fun hk=>uC (g:=fun x:I6=>(x.2.2.1,x.2.2.2.1,x.2.2.2.2.1)) hk
 have g1:(m1 A).getD 0 default=(xl A 0).1:=uC (g:=fun x:I6=>x.1) hp;have stop:∀(o:List Eg),o.length<=100->(∀x∈o,x.2.2.length<=60)->mG (m1 A,m2 A,m3 A,m4 A,b) (((0:Nat):Int),o)=some (.inr ((xl A 0).1,o.reverse)):=fun o ho hx=>by
  have hroot:(xl A 0).2.1= -1:=(h.el 0 hp).root rfl;rw[mG];simp only[aK,au,g2 hp,hroot,g1];rw[ah gN,ak (by simp),ah gN,mE (by have:=(h.el 0 hp).tm;have:=(ig.1 this).2.2.1;show List.length _<_;omega),aa,EW gN hx];rfl
 have key:∀(f k:Nat)(o:List Eg),k<A.length->k<=f->o.length+f<=100->(∀x∈o,x.2.2.length<=60)->g_ (mG (m1 A,m2 A,m3 A,m4 A,b)) ((k:Int),o)=some ((xl A 0).1,(o++J6 A f k).reverse):=by
  intro f;induction f with
  |zero=>
   intro k o hk hf ho hx;have:k=0:=by omega
   subst this;rw[ie (stop o gN hx),J6,aV]
  |succ f ih=>
   intro k o hk hf ho hx;by_cases h0:k=0
   ·subst h0;rw[ie (stop o gN hx),J6,ah rfl,aV]
   ·obtain⟨p,p1,p2,_,_⟩:=(h.el k hk).up gN;have i1:=ih p (o++[X4 (xl A k)]) gN gN (by rw[aq,aY];omega) (fun x hx'=>by
     rcases aH.1 hx' with c|c
     ·exact hx x c
     ·rw[aU.1 c];exact h.Ta hk gN)
    refine(iB ?_).trans (i1.trans ?_)
    ·rw[mG];simp only[aK,au,g2 hk,g3 hk,p1];rw[ah gN,ah (by simp),ah gN,ah gN,ah gN]
    ·rw[J6,ak h0,p1,au,aG];rfl
 have:=key j j [] hj (aC _) (by simp;omega) (by simp);rw[bh]at this;exact this
theorem NJ{a o:gk}(ho:o.length<=24):∀{t:gk}{k:Nat},Wv a k t->(∀y∈t,y<0->y∈o)->Wf a k (yD o t)
 |[],k,h,_=>by
  have:=h.len;obtain rfl:k=0:=by simpa using this
  exact Wf.nil
 |x::t,0,h,_=>by have:=h.zero;cases this
 |x::t,k+1,h,hm=>by
  obtain⟨h1,h2⟩:=Wv.iY.1 h;show Wf a (k+1) (yI o x::yD o t);have e:EM a (yI o x)/\mS a (yI o x)=mS a x:=by
   unfold yI;by_cases hx:x<0
   ·rw[ah hx];have:=List.idxOf_lt_length_of_mem (hm x (aZ ..) hx);exact⟨⟨gN,gN⟩,by rw[uT hx,uT gN]⟩
   ·rw[ak hx];exact⟨⟨gN,h1⟩,rfl⟩
  refine Wf.iY.2 ⟨e.1,?_⟩;rw[e.2];exact NJ ho h2 fun y hy=>hm y (a_ _ hy)
theorem Jz{sys:Sys}:∀{xs:List gB}{out o:List Pk},EP sys xs out=some o->∀y∈o,y∈out\/∃x∈xs,(LK sys x).2=true/\y=(LK sys x).1
 |[],out,o,h,y,hy=>by cases h;exact .inl hy
 |x::xs,out,o,h,y,hy=>by
  rw[EP]at h;split at h
  ·next h2=>
   split at h
   ·cases h
   ·rcases Jz h y hy with c|⟨z,hz,c⟩
    ·rcases aH.1 c with c|c
     ·exact .inl c
     ·exact .inr ⟨x,aZ ..,h2,by simpa using c⟩
    ·exact .inr ⟨z,a_ _ hz,c⟩
  ·cases h
theorem QD{sys:Sys}{y:Pk}(h:y∈(xR sys).1):∃x,Vg sys x/\(LK sys x).2=true/\y=(LK sys x).1:=by
 unfold xR at h;split at h
 ·next o ho=>
  rcases Jz ho y h with c|⟨x,hx,c⟩
  ·cases c
  ·exact⟨x,Ny _ (aC _) x hx,c⟩
 ·cases h
theorem OA{a u v s:gk}(hu:Wv a 1 u)(hv:Wv a 1 v):∀{p:gk}{k:Nat},Wv a k (p++(u++s))->Wv a k (p++(v++s))
 |[],0,h=>by
  have:=h.zero;have:=hu.ne
  simp_all
 |[],k+1,h=>by
  rw[show k+1=1+k by omega]at h⊢;obtain⟨u',v',e,h1,h2⟩:=h.split;obtain⟨rfl,rfl⟩:=Wv.uniq hu h1 e;exact hv.app h2
 |x::p,0,h=>by have:=h.zero;cases this
 |x::p,k+1,h=>by
  obtain⟨h1,h2⟩:=Wv.iY.1 h;exact Wv.iY.2 ⟨h1,OA hu hv h2⟩
theorem NB{sys:Sys}(hs:kB sys=true){y:Pk}(hy:y∈(xR sys).1):iX sys.1 y.2.1=true/\iX sys.1 y.2.2.1=true:=by
 obtain⟨x,⟨ov,i,un,rfl,hov,hi,hun,hm⟩,h2,rfl⟩:=QD hy;obtain⟨ha,hn,hrs⟩:=nG.1 hs;obtain⟨k1,k2,k3,k4⟩:=mX.1 (hrs _ (jP hov));obtain⟨m1,m2,m3,m4⟩:=mX.1 (hrs _ (jP hun));obtain⟨_,a1,a2,a3⟩:=ig.1 k1;obtain⟨_,b1,b2,b3⟩:=ig.1 k2;obtain⟨_,c1,c2,c3⟩:=ig.1 m1;obtain⟨_,d1,d2,d3⟩:=ig.1 m2;obtain⟨p,s,q,e,hp,hw⟩:=a3.place hi;have h:Ov sys.1 (sys.2.getD ov default).1 (sys.2.getD ov default).2 (sys.2.getD un default).1 (sys.2.getD un default).2 p s q:=⟨ha,e,hw,a3,b3,c3,d3,a2,b2,c2,d2,k4,m4⟩;subst hp;have hx:¬(sys.2.getD ov default).1.getD p.length default<0:=fun c=>by unfold Dt at hm;rw[ah c]at hm;cases hm
 have hne:¬(ov=un/\p.length=0):=fun c=>by
  have ho:iQ sys ov (p.length:Int) un=some (.inr ()):=by
   unfold iQ;rw[ah (by simp only[bF];omega),ah (by simp only[bF];omega)]
  unfold Dt at hm;rw[ak hx,ho]at hm;cases hm
 rcases DY h hov hun rfl rfl hx hne with⟨b1',b2',σ1,σ2,e1,e2,e3,hb⟩|⟨e1,e2⟩
 ·have ev:=zN h hov hun rfl rfl hb e1;have ev':LK sys ((ov:Int),(p.length:Int),(un:Int))=QE σ1 (sys.2.getD ov default).1 (sys.2.getD ov default).2 (tK p q (sys.2.getD un default).2) (p.length:Int) un ov:=by unfold LK;rw[ev];rfl
  rw[ev']at h2⊢;unfold QE at h2⊢;by_cases c:(sub σ1 (sys.2.getD ov default).1).length<=60/\(sub σ1 (sys.2.getD ov default).2).length<=60/\(sub σ1 (tK p q (sys.2.getD un default).2)).length<=60/\(lQ [] (sub σ1 (sys.2.getD ov default).1)).length<=24
  ·rw[ah c]at h2⊢;obtain⟨ρ,hn⟩:=hb.Yo;have hsub:∀{t:gk}{k:Nat},Wv sys.1 k t->Wv sys.1 k (sub σ1 t):=fun ht=>ht.sub fun x _ hx=>hn.wv x hx
   have hl:Wv sys.1 1 (sub σ1 (sys.2.getD ov default).1):=hsub (uN a3);have hmid:Wv sys.1 1 (sub σ1 (tK p q (sys.2.getD un default).2)):=by
    unfold tK;rw[kS,kS];rw[h.split,kS,kS]at hl;exact OA (hsub (uN hw)) (hsub (Ei (uN d3))) hl
   have hr:Wv sys.1 1 (sub σ1 (sys.2.getD ov default).2):=hsub (uN b3);constructor
   ·refine ig.2 ⟨ha,?_,?_,NJ c.2.2.2 hmid fun y hy h0=>ze (h.UR hb.Z9 y hy h0) h0⟩
    ·have:=hmid.len;simpa[yD]using this
    ·simpa[yD]using c.2.2.1
   ·refine ig.2 ⟨ha,?_,?_,NJ c.2.2.2 hr fun y hy h0=>ze (h.Z1 y hy h0) h0⟩
    ·have:=hr.len;simpa[yD]using this
    ·simpa[yD]using c.2.1
  ·rw[ak c]at h2;cases h2
 ·exfalso;unfold Dt at hm;rw[ak hx,e1]at hm;cases hm
abbrev W2:=(gk×List Eg)×(gk×List Eg)×Bool
theorem DQ{s:Sys}{steps:Int}{A B:List I6}{bA bB:Bool}(hA:R6 s steps A)(hB:R6 s steps B):∀(k i:Nat),i+k=A.length->
 ∃w:W2,g_ (oe (A,bA) (B,bB)) (i:Int)=some w/\g_ (mC (m1 A,m2 A,m3 A,m4 A,bA) (m1 B,m2 B,m3 B,m4 B,bB)) (i:Int)=some w
 |0,i,h=>⟨(([],[]),([],[]),false),ie (by rw[oe,ak (by simp only[aA];omega)];rfl),ie (by rw[mC,ak (by simp only[aA,aK];omega)];rfl)⟩
 |k+1,i,h=>by
  have hl:=hB.len;have hsm0:=hB.sm;have Dl:∀r∈B,Small r.1:=fun r hr=>by have:=hsm0 r hr;show r.1.length<_;omega
  have hsm1:∀t∈m1 B,Small t:=fun t ht=>by
   obtain⟨y,hy,rfl⟩:=bw.1 ht;exact Dl y hy
  have hi:i<A.length:=by omega
  have g1:(m1 A).getD i default=(A.getD i default).1:=uC (g:=fun x:I6=>x.1) hi;have hfs:=sA (l:=m1 B) (by simp;omega) hsm1 (A.getD i default).1;have hff:mo (fun y=>y==(A.getD i default).1) (m1 B)=mo (fun r:I6=>r.1==(A.getD i default).1) B:=by
   unfold mo;rw[List.findIdx?_map];rfl
  by_cases hneg:0<=mo (fun r:I6=>r.1==(A.getD i default).1) B
  ·have hlt:=(Kt (p:=fun r:I6=>r.1==(A.getD i default).1) (xs:=B)).2;obtain⟨j,hj⟩:∃j:Nat,mo (fun r:I6=>r.1==(A.getD i default).1) B=j:=⟨(mo (fun r:I6=>r.1==(A.getD i default).1) B).toNat,gN⟩;have hj':j<B.length:=by omega
   refine⟨(((xl A 0).1,(J6 A i i).reverse),((xl B 0).1,(J6 B j j).reverse),true),ie ?_,ie ?_⟩
   ·rw[oe];dsimp only;rw[ah (by simp only[aA];omega),ah gN,au,tB hl Dl,aa,ah (by simpa using hneg),hj,vR hA hi,aa,vR hB hj',aa];rfl
   ·rw[mC];dsimp only;rw[ah (by simp only[aA,aK];omega),ah (by simp only[aK];omega),au,g1,hfs,hff,aa,ah (by simpa using hneg),hj,wg hA hi,aa,wg hB hj',aa];rfl
  ·obtain⟨w,w1,w2⟩:=DQ hA hB k (i+1) gN;refine⟨w,(iB ?_).trans w1,(iB ?_).trans w2⟩
   ·rw[oe];dsimp only;rw[ah (by simp only[aA];omega),ah gN,au,tB hl Dl,aa,ak (by simpa using hneg),lX (by have:=hA.len;omega) (by have:=hA.len;omega)];rfl
   ·rw[mC];dsimp only;rw[ah (by simp only[aA,aK];omega),ah (by simp only[aK];omega),au,g1,hfs,hff,aa,ak (by simpa using hneg),lX (by have:=hA.len;omega) (by have:=hA.len;omega)];rfl
theorem HL{s:Sys}{a b:gk}{steps:Int}(ha:zh s a steps=true)(hb:zh s b steps=true):∃w:W2,nI s a b steps=some w/\qH s a b steps=some w:=by
 obtain⟨A,bA,hA,_,e1,e2⟩:=B5 ha;obtain⟨B,bB,hB,_,e3,e4⟩:=B5 hb;obtain⟨w,w1,w2⟩:=DQ (bA:=bA) (bB:=bB) hA hB A.length 0 gN;refine⟨w,?_,?_⟩
 ·unfold nI;rw[e1,aa,e3,aa];exact w1
 ·unfold qH;rw[uS,aa,ah ha,uS,aa,ah hb,e2,aa,e4,aa];exact w2
def E8(sys:Sys)(steps:Int)(y:Pk):Bool:=match nI sys y.2.1 y.2.2.1 steps with|some w=>w.2.2|none=>false
theorem Je{sys:Sys}{steps:Int}(hs:kB sys=true)(hd:PO steps=true){y:Pk}(hy:y∈(xR sys).1):nH y sys.1 sys.2 steps=some (!E8 sys steps y)/\pU sys y.2.1 y.2.2.1 steps=some (E8 sys steps y):=by
 obtain⟨h1,h2⟩:=NB hs hy;obtain⟨h3,h4⟩:=PR.1 hd;obtain⟨w,e1,e2⟩:=HL (zi.2 ⟨hs,h1,h3,h4⟩) (zi.2 ⟨hs,h2,h3,h4⟩);unfold nH pU E8;have e1':nI (sys.1,sys.2) y.2.1 y.2.2.1 steps=some w:=e1;rw[e1',e2];exact⟨rfl,rfl⟩
theorem Ks{α:Type}{p:α->Bool}{L:List α}{i:Nat}(hi:i<L.length):(L.take (i+1)).filter p=(L.take i).filter p++(if p L[i]=true then [L[i]]else []):=by
 rw[bM hi,fI];by_cases h:p L[i]=true<;>simp[h]
theorem Jy(sys:Sys):(xR sys).1.length<=64:=by
 unfold xR;split
 ·next o ho=>exact BJ ho (by simp)
 ·simp
def Wp(sys:Sys)(steps:Int):Bool:=kB sys&&(PO steps&&((xR sys).2&&(xR sys).1.all (E8 sys steps)))
theorem yQ(sys:Sys)(steps:Int):oO sys steps=some (Wp sys steps):=by
 unfold oO Wp;rw[yR,aa,Am,aa];cases hs:kB sys with
 |false=>rfl
 |true=>
  cases hd:PO steps with
  |false=>rfl
  |true=>
   rw[ah rfl,ah rfl,Bl hs,aa];cases hp:(xR sys).2 with
   |false=>rfl
   |true=>
    rw[ah rfl];have hl:=Jy sys;have hf:iS (xR sys).1 sys.1 sys.2 steps=some (mo (fun y=>!E8 sys steps y) (xR sys).1):=by
     unfold iS;refine wK (fun i x hi hx hg=>?_) (by simp[ja]);have hj:=(Je hs hd hx).1;have hj':nH (((xR sys).1.getD i default).1,((xR sys).1.getD i default).2.1,((xR sys).1.getD i default).2.2.1,((xR sys).1.getD i default).2.2.2.1,((xR sys).1.getD i default).2.2.2.2.1,((xR sys).1.getD i default).2.2.2.2.2) sys.1 sys.2 steps=some (!E8 sys steps x):=by rw[<-hj,<-hg]
     rw[ja,ah (by simp only[aA];omega),ah gN,au,hj',aa,lX gN gN];cases E8 sys steps x<;>rfl
    unfold i_;rw[hf,aa,aa];congr 1;cases ha:(xR sys).1.all (E8 sys steps)with
    |true=>
     have:mo (fun y=>!E8 sys steps y) (xR sys).1= -1:=A8 fun x hx=>by rw[cm.1 ha x hx];rfl
     rw[this];rfl
    |false=>
     obtain⟨x,hx,hxf⟩:=List.all_eq_false.1 ha;have:=DK (p:=fun y=>!E8 sys steps y) hx (by simpa using hxf);rw[decide_eq_true this];rfl
theorem yS(sys:Sys)(steps:Int):oT sys steps=some (Wp sys steps):=by
 unfold oT pJ oU Wp;rw[zn,aa];cases hs:kB sys with
 |false=>rfl
 |true=>
  simp only[aB,cj];cases hp:(xR sys).2 with
  |false=>simp
  |true=>
   have hin:ki steps 0 20=some (PO steps):=by rw[kH];rfl
   simp only[aB,hin,aa];cases hd:PO steps with
   |false=>rfl
   |true=>
    simp only[aB,cj];have hl:=Jy sys;have hf:g_ (kg sys steps (xR sys)) ([],0)=some ((xR sys).1.filter fun y=>!E8 sys steps y):=by
     have A:=pN (n:=(xR sys).1.length) (fun i=>(((xR sys).1.take i).filter fun y=>!E8 sys steps y,(i:Int))) (c:=(xR sys).1.filter fun y=>!E8 sys steps y) (f:=kg sys steps (xR sys)) (fun i hi=>by
      have hx:(xR sys).1.getD i default∈(xR sys).1:=jP hi;have hj:=(Je hs hd hx).2;have hfl:(((xR sys).1.take i).filter fun y=>!E8 sys steps y).length<=i:=cI (List.length_filter_le _ _) (by rw[ck];omega);rw[kg,ah (by simp only[aA];omega),ah gN,ah gN,au,hj,aa,lX gN gN,Ks hi,<-iy hi];cases hjn:E8 sys steps ((xR sys).1.getD i default)with
      |true=>rw[ah rfl,ak (by simp),aV];rfl
      |false=>rw[ak (by simp),ah gN,ah gN,ah (by simp)];rfl) (by
      rw[kg,ak (by simp),cz];rfl)
     exact A
    rw[hf,hp,ah rfl,aa];congr 1;cases ha:(xR sys).1.all (E8 sys steps)with
    |true=>
     have:((xR sys).1.filter fun y=>!E8 sys steps y)=[]:=List.filter_eq_nil_iff.2 fun x hx=>by rw[cm.1 ha x hx];simp
     rw[this];rfl
    |false=>
     obtain⟨x,hx,hxf⟩:=List.all_eq_false.1 ha;have:x∈((xR sys).1.filter fun y=>!E8 sys steps y):=dZ.2 ⟨hx,by simpa using hxf⟩;have:=er this;simp only[bW,fK];omega
end Go.Proofs.YtjgbnaihpicpgaaGreatDoor
namespace Go.Proofs.YtjgbnaihpicpgaaGreatDoor
open Go lY Tm
abbrev Mx:Nat:=1048576
abbrev OB{α:Type}(xs:List α):Prop:=xs.length<9223372036854775808
theorem ZW{a:gk}(ha:OB a){left:Int}(h0:0<=left)(hM:left<=Mx):∃r,lV a left=some r/\ -1<=r/\r<=left/\(0<=r->a.length<=Mx):=by
 unfold lV;have ha':a.length<9223372036854775808:=ha;have hM':left<=1048576:=hM;rw[lX (n:=left-(a.length:Int)) gN gN];by_cases h:left-(a.length:Int)<0
 ·exact⟨-1,by simp[h],gN,gN,gN⟩
 ·exact⟨left-a.length,by simp[h],gN,gN,fun _=>by show a.length<=1048576;omega⟩
theorem Qe{α:Type}[Inhabited α]{a:List α}{Q:α->Prop}{f:Int×Int->Option (gG⊕Int)}
 (h:∀(i:Nat)(left:Int)(x:α),i<a.length->x∈a->a.getD i default=x->0<=left->left<=Mx->(∃r,0<=r/\r<=left/\Q x/\f (left,(i:Int))=some (.inl (r,(i:Int)+1)))\/f (left,(i:Int))=some (.inr (-1)))
 (he:∀left,f (left,(a.length:Int))=some (.inr left)) {left:Int} (h0:0<=left) (hM:left<=Mx):∃r,g_ f (left,0)=some r/\ -1<=r/\r<=left/\(0<=r->∀x∈a,Q x):=by
 have key:∀(rs:List α)(i:Nat)(left:Int),a.drop i=rs->i+rs.length=a.length->0<=left->left<=Mx->∃r,g_ f (left,(i:Int))=some r/\ -1<=r/\r<=left/\(0<=r->∀x∈rs,Q x):=by
  intro rs;induction rs with
  |nil=>
   intro i left hd hl h0 hM;obtain rfl:i=a.length:=by simpa using hl
   exact⟨left,ie (he _),gN,gN,fun _ x hx=>by cases hx⟩
  |cons x rs ih=>
   intro i left hd hl h0 hM;simp only[aQ]at hl;obtain⟨g1,g2,g3⟩:=drop_cons hd;rcases h i left x g1 (by rw[<-g2];exact jP g1) g2 h0 hM with⟨r,r0,r1,r2,r3⟩|hx
   ·obtain⟨r',e1,e2,e3,e4⟩:=ih (i+1) r g3 gN r0 gN;rw[iB r3,show((i:Int)+1)=((i+1:Nat):Int) by omega];refine⟨r',e1,e2,gN,fun hr y hy=>?_⟩;rcases bL.1 hy with rfl|hy
    ·exact r2
    ·exact e4 hr y hy
   ·exact⟨-1,ie hx,gN,gN,gN⟩
 exact key a 0 left (by simp) (by simp) h0 hM
theorem Of{x:gk×gk}(h1:OB x.1)(h2:OB x.2){left:Int}(h0:0<=left)(hM:left<=Mx):∃r,qG x left=some r/\ -1<=r/\r<=left/\(0<=r->x.1.length<=Mx/\x.2.length<=Mx):=by
 obtain⟨r,e1,e2,e3,e4⟩:=ZW h1 h0 hM;unfold qG;rw[e1,aa];by_cases hr:r<0
 ·exact⟨-1,by simp[hr],gN,gN,gN⟩
 ·obtain⟨r',g1,g2,g3,g4⟩:=ZW h2 (left:=r) gN gN;rw[g1];by_cases hr':r'<0
  ·exact⟨-1,by simp[hr,hr'],gN,gN,gN⟩
  ·exact⟨r',by simp[hr,hr'],gN,gN,fun _=>⟨e4 gN,g4 gN⟩⟩
structure Tc(s:Sys):Prop where
 sig:OB s.1
 rules:OB s.2
 to:∀r∈s.2,OB r.1/\OB r.2
structure Ya(s:Sys):Prop where
 sig:s.1.length<=Mx
 rules:s.2.length<=Mx
 to:∀r∈s.2,r.1.length<=Mx/\r.2.length<=Mx
theorem JS{a:List gm}(ha:OB a)(ht:∀r∈a,OB r.1/\OB r.2){left:Int}(h0:0<=left)(hM:left<=Mx):
 ∃r,pT a left=some r/\ -1<=r/\r<=left/\(0<=r->a.length<=Mx/\∀x∈a,x.1.length<=Mx/\x.2.length<=Mx):=by
 unfold pT;have ha':a.length<9223372036854775808:=ha;have hM':left<=1048576:=hM;rw[lX (n:=left-(a.length:Int)) gN gN];by_cases h:left-(a.length:Int)<0
 ·exact⟨-1,by simp[h],gN,gN,gN⟩
 ·obtain⟨r,e1,e2,e3,e4⟩:=Qe (a:=a) (Q:=fun x=>x.1.length<=Mx/\x.2.length<=Mx) (f:=nJ a) (left:=left-a.length) (fun i left x hi hx hg h0 hM=>by
   obtain⟨r,e1,e2,e3,e4⟩:=Of (ht x hx).1 (ht x hx).2 h0 hM;simp only[nJ,show(i:Int)<a.length by omega,aR,aB,show(0:Int)<=i by omega,bK,au,hg,e1,aa,lX (n:=(i:Int)+1) gN gN];by_cases hr:r<0
   ·exact .inr (by simp[hr])
   ·exact .inl ⟨r,gN,e3,e4 gN,by simp[hr]⟩) (fun left=>by simp[nJ]) gN (by show left-a.length<=1048576;omega)
  refine⟨r,by rw[ak (by simpa using h)];exact e1,e2,gN,fun hr=>⟨?_,e4 hr⟩⟩;show a.length<=1048576;omega
theorem GH{s:Sys}(hs:Tc s):∃r,oS s 1048576=some r/\(0<=r->Ya s):=by
 obtain⟨r,e1,e2,e3,e4⟩:=ZW hs.sig (left:=1048576) gN (by decide);unfold oS tQ;rw[e1,aa];by_cases hr:r<0
 ·exact⟨-1,by simp[hr],gN⟩
 ·obtain⟨r',g1,g2,g3,g4⟩:=JS hs.rules hs.to (left:=r) gN (Int.le_trans e3 (by decide));simp only[hr,aW,aj,aF,aa,g1];by_cases hr':r'<0
  ·exact⟨-1,by simp[hr'],gN⟩
  ·exact⟨r',by simp[hr'],fun h=>⟨e4 gN,(g4 h).1,(g4 h).2⟩⟩
theorem uq{a:gk}(h:a.length<=Mx):qa a=some a:=by
 have h':a.length<=1048576:=h;unfold qa;rw[ah ⟨gN,gN,gN⟩];have:=Ji (a:=a) (z:=List.replicate a.length 0) (g:=id) (f:=qK a) (by simp) (fun i out hi ho hm=>by
  simp only[qK,show(i:Int)<a.length by omega,show(i:Int)<out.length by omega,aR,aB,show(0:Int)<=i by omega,bK,au,lX (n:=(i:Int)+1) gN gN,id]) (fun out=>by simp[qK])
 simpa using this
theorem Ef{x:gk×gk}(h:x.1.length<=Mx/\x.2.length<=Mx):vC x=some x:=by
 unfold vC;rw[uq h.1,aa,uq h.2,aa]
theorem Dd{a:List gm}(h:a.length<=Mx)(ht:∀x∈a,x.1.length<=Mx/\x.2.length<=Mx):ur a=some a:=by
 have h':a.length<=1048576:=h;unfold ur;rw[ah ⟨gN,gN,gN⟩];have:=Ji (a:=a) (z:=List.replicate a.length ([],[])) (g:=id) (f:=rV a) (by simp) (fun i out hi ho hm=>by
  simp only[rV,show(i:Int)<a.length by omega,show(i:Int)<out.length by omega,aR,aB,show(0:Int)<=i by omega,bK,au,Ef (ht _ hm),aa,lX (n:=(i:Int)+1) gN gN,id]) (fun out=>by simp[rV])
 simpa using this
theorem xj{s:Sys}(h:Ya s):qb s=some s:=by
 unfold qb zx;rw[uq h.sig,aa,aa,Dd h.rules h.to,aa]
theorem Bp{s:Sys}(h:Ya s):tR s=some s:=by
 unfold tR;rw[xj h,aa,ah ⟨rfl,rfl⟩]
theorem Ce{a:gk}(h:Small a):lU a a=some true:=by
 have h':a.length<1099511627776:=h;unfold lU;rw[ak (by simp)];refine DU (a:=a) (fun i hi=>?_) (by simp[oJ]);simp[oJ,show(i:Int)<a.length by omega,lX (n:=(i:Int)+1) gN gN]
theorem FJ{x:gk×gk}(h:x.1.length<=Mx/\x.2.length<=Mx):qF x x=some true:=by
 have h1:x.1.length<=1048576:=h.1;have h2:x.2.length<=1048576:=h.2;unfold qF;rw[Ce (show x.1.length<_ by omega),aa,ah rfl,Ce (show x.2.length<_ by omega),aa,ah rfl]
theorem Dk{s:Sys}(h:Ya s):oR s s=some true:=by
 have h1:s.1.length<=1048576:=h.sig;have h2:s.2.length<=1048576:=h.rules;have e:pS s.2 s.2=some true:=by
  unfold pS;rw[ak (by simp)];refine DU (a:=s.2) (fun i hi=>?_) (by simp[pH]);simp only[pH,show(i:Int)<s.2.length by omega,aR,aB,show(0:Int)<=i by omega,bK,au,FJ (h.to _ (jP hi)),aa,lX (n:=(i:Int)+1) gN gN]
 unfold oR tP;rw[Ce (show s.1.length<_ by omega)];simp[e]
theorem KI{s:Sys}{steps:Int}(hs:Tc s):mh s steps=some true:=by
 unfold mh;obtain⟨r,e1,e2⟩:=GH hs;rw[e1,aa];by_cases hr:r<0
 ·rw[ah (by simpa using hr)]
 rw[ak (by simpa using hr)];have sm:=e2 gN;have l1:ql s.1.length s.2.length s steps=some (Wp s steps):=by unfold ql;rw[ah ⟨rfl,rfl⟩];exact yQ s steps
 have l3:qm s.1.length s.2.length s.1.length s.2.length s s=some true:=by unfold qm;rw[ah ⟨rfl,rfl,rfl,rfl⟩];exact Dk sm
 simp only[Bp sm,yS,xj sm,aa,l1,l3,ej,aj,aF,aB]
theorem CB{s:Sys}{steps:Int}(hs:Tc s):jF Tryz.prog 3 [lA s,iD steps] (bD true):=wB.c (KI hs)
end Go.Proofs.YtjgbnaihpicpgaaGreatDoor
namespace Go.Proofs.YtjgbnaihpicpgaaGreatDoor
open Go lY Go.ChangeShapes Go.WideShapes Go.ChangeAt Go.RowKit
theorem ZF:ownKnob Tryz.prog.godebug=none:=by kernel_rfl
theorem RO:laidOutB Tryz.prog=true:=by kernel_rfl
theorem PJ{α:Type}{f:α->D}(hf:∀y,∃cs,f y=.agg cs):∀y O w vs,D.ir O w (gT (f y)) vs->D.FA O w (f y) vs:=fun y O w vs h=>by
 obtain⟨cs,e⟩:=hf y;rw[e]at h⊢;exact h
theorem PK{α:Type}{f:α->D}(hf:∀y,gT (f y)=[f y])(ha:∀y cs,f y≠ .agg cs):∀y O w vs,D.ir O w (gT (f y)) vs->D.FA O w (f y) vs:=fun y O w vs h=>by
 rw[hf]at h;obtain⟨v,r,e,_,h2,h3⟩:=h;have h3':r=[]:=h3;subst h3';have:=ha y;cases hy:f y with
 |agg cs=>exact absurd hy (this cs)
 |_=>rw[hy]at h2;exact⟨v,e,h2⟩
theorem rd2:Rd Tryz.prog 2 1 iD (fun _=>True):=Rd.int Tryz.underlying2 (by kernel_rfl)
theorem Up:Rd Tryz.prog 22 1 (gS 1 iD) (fun x:gk=>(yx x/\∀y0:Int,y0∈x->True)):=Rd.slice Tryz.underlying22 (by kernel_rfl) (by decide) rd2 (PK (fun _=>rfl) (fun _ _ h=>nomatch h))
theorem ZK:Rd Tryz.prog 24 1 wm (fun x:gk=>((yx x/\∀y0:Int,y0∈x->True))):=by
 have h:=II.cons (P:=Tryz.prog) (f:={name:= "Arity",type:=22,offset:=0,embedded:=false,tag:= "",pkgPath:= "",byteOffset:=0}) (m:=1) rfl Up rfl (II.nil);exact Rd.struct (fun y:gk×Unit=>y.1) Tryz.underlying24 (by kernel_rfl) h (fun _=>rfl) (fun _ h=>h.1)
theorem XP:Rd Tryz.prog 102 2 kN (fun x:gm=>((yx x.1/\∀y0:Int,y0∈x.1->True)/\(yx x.2/\∀y0:Int,y0∈x.2->True))):=by
 have h:=II.cons (P:=Tryz.prog) (f:={name:= "L",type:=22,offset:=0,embedded:=false,tag:= "",pkgPath:= "",byteOffset:=0}) (m:=2) rfl Up rfl (II.cons (f:={name:= "R",type:=22,offset:=1,embedded:=false,tag:= "",pkgPath:= "",byteOffset:=24}) rfl Up rfl (II.nil));exact Rd.struct (fun y:gk×gk×Unit=>(y.1,y.2.1)) Tryz.underlying102 (by kernel_rfl) h (fun _=>rfl) (fun _ h=>⟨h.1,h.2.1⟩)
theorem ZL:Rd Tryz.prog 25 1 (gS 2 kN) (fun x:gw=>(yx x/\∀y0:gm,y0∈x->((yx y0.1/\∀y1:Int,y1∈y0.1->True)/\(yx y0.2/\∀y1:Int,y1∈y0.2->True)))):=Rd.slice Tryz.underlying25 (by kernel_rfl) (by decide) XP (PJ fun _=>⟨_,rfl⟩)
theorem ZM:Rd Tryz.prog 27 2 lA (fun x:gC=>(((yx x.1/\∀y0:Int,y0∈x.1->True))/\(yx x.2/\∀y0:gm,y0∈x.2->((yx y0.1/\∀y1:Int,y1∈y0.1->True)/\(yx y0.2/\∀y1:Int,y1∈y0.2->True))))):=by
 have h:=II.cons (P:=Tryz.prog) (f:={name:= "Sig",type:=24,offset:=0,embedded:=false,tag:= "",pkgPath:= "",byteOffset:=0}) (m:=2) rfl ZK rfl (II.cons (f:={name:= "Rules",type:=25,offset:=1,embedded:=false,tag:= "",pkgPath:= "",byteOffset:=24}) rfl ZL rfl (II.nil));exact Rd.struct (fun y:gk×gw×Unit=>(y.1,y.2.1)) Tryz.underlying27 (by kernel_rfl) h (fun _=>rfl) (fun _ h=>⟨h.1,h.2.1⟩)
end Go.Proofs.YtjgbnaihpicpgaaGreatDoor
namespace Go.Proofs.YtjgbnaihpicpgaaGreatDoor
open Go lY Go.ChangeShapes Go.WideShapes Go.ChangeAt Go.RowKit
open Go.Extern.Stop Go.Stop Go.Extern
section
variable{H:Type}{enc:TypeId×Value->H}{P:Program}{w:World}{base:Nat}{spare:Nat->Bool}{held:Bool}
theorem Ir{t0 t1:TypeId}{args:Array Value}{ds:List (DataW H)}{ps:List MemPlace}(h:DataW.TrodAll enc P w base spare held [t0,t1] args.toList ds ps):
 ∃v0 v1 d0 d1 p0 p1,args=#[v0,v1]/\ds=[d0,d1]/\ps=p0++p1/\DataW.Trod enc P w base spare held t0 v0 d0 p0/\DataW.Trod enc P w base spare held t1 v1 d1 p1:=by
 obtain⟨v0,vs0,d0,ds0,p0,q0,hargs,rfl,rfl,k0,h0⟩:=trodAll_cons h;obtain⟨v1,vs1,d1,ds1,p1,q1,rfl,rfl,rfl,k1,h1⟩:=trodAll_cons h0;obtain⟨rfl,rfl,rfl⟩:=trodAll_nil h1;exact⟨v0,v1,d0,d1,p0,p1,by cases args;simp_all,rfl,by simp,k0,k1⟩
end
theorem KJ{W:World}(hgw:GW IG W){v0 v1:Value}{x0:gC}{x1:Int}(g0:(((yx x0.1/\∀y0:Int,y0∈x0.1->True))/\(yx x0.2/\∀y0:gm,y0∈x0.2->((yx y0.1/\∀y1:Int,y1∈y0.1->True)/\(yx y0.2/\∀y1:Int,y1∈y0.2->True)))))(g1:True)(h0:D.ok IG W (lA x0) v0)(h1:D.ok IG W (iD x1) v1):
 Calls Tryz.prog 3 #[v0,v1] W fun e W'=>e=.returned (.bool true)/\Below W.heap.size W W':=
 (Gn (show jF Tryz.prog 3 [lA x0,iD x1] (bD true)from CB (hs:=⟨g0.1.1,g0.2.1,fun r hr=>⟨(g0.2.2 r hr).1.1,(g0.2.2 r hr).2.1⟩⟩)) hgw (vs:=#[v0,v1]) (fun _ _=>trivial) ⟨v0,_,rfl,h0,v1,_,rfl,h1,rfl⟩).mono fun _ _ ⟨⟨_,h1,h2⟩,h3⟩=>by
  simp only[D.ok]at h2;exact⟨by rw[h1,h2.1],h3⟩
theorem gE:Tryz.prog.globalNamed "loop.example/g00895/impl.errApart" =some 0:=by kernel_rfl
theorem MP:(Tryz.prog.globals[0]?).map (·.type)=some 71:=by kernel_rfl
theorem TB:Tryz.prog.cellsOf 268=1:=by kernel_rfl
theorem TC:Tryz.prog.cellsOf 9=1:=by kernel_rfl
theorem S9: "*" ++ "errors.errorString" = "*errors.errorString" :=by decide
theorem ZN(u:TypeId)(h:Tryz.prog.typeName? 3 u=some "*errors.errorString"):u=242:=
 typeName_ptr_named (nm:= "errors.errorString") (by rw[S9];kernel_rfl) (by kernel_rfl) (by decide) u (by rw[S9];exact h)
set_option maxRecDepth 100000 in
theorem wF(os:Os)(started:os.Started)(H:Type)(enc:TypeId×Value->H):
 ReturnsInHanded {} Tryz.checked os 3 .any (fun w args=>(Rows.fnExactJoinsAllSpec.pre enc Tryz.prog Tryz.f3 Rows.fnExactJoinsAllRow.domain false w args/\laidMetH Tryz.prog Rows.fnExactJoinsAllRow.laid w)/\sizedMet enc Tryz.prog Tryz.f3 (OpenSpec.ofChange Rows.fnExactJoinsAllSpec) false w args)
  (Rows.fnExactJoinsAllSpec.post enc Tryz.prog Tryz.f3 false true false false):=by
 refine returnsInHanded_of_change_and (C:=Tryz.checked) (X:=fun w _=>laidMetH Tryz.prog Rows.fnExactJoinsAllRow.laid w) (fun _ _ _ hh h=>h.of_heap hh) ZF started (by kernel_rfl) Tryz.func3
  (ChangeSpec.witness_shaped (enc:=enc) (C:=Tryz.checked) (os:=os) (X:=fun w _=>laidMetH Tryz.prog Rows.fnExactJoinsAllRow.laid w) false (World.doorLaid Tryz.prog 400 os) #[.agg #[.slice none 0 0,.slice none 0 0],.int .i64 0] 8 rfl (World.shaped_of_RefB (by kernel_rfl) (by kernel_rfl)) (by kernel_rfl) (by kernel_rfl) (by kernel_rfl) (laidMetH_of_parts3 (fuel:=8) (laidMet_of_run' 8 (by kernel_rfl) (by kernel_rfl)) (by kernel_rfl) (by kernel_rfl))) ?_
 intro W base args ds gs before hval0 hW _ _ hL _;have hval:∀(j:Nat) t v,Tryz.f3.params[j]?=some t->args[j]?=some v->Value.okWide Tryz.prog W .any base t v:=hval0;have hW':=hW;obtain⟨p,q,hA0,hV0,rfl,hfz,hnd⟩:=hW;have hV:DataW.TrodVars enc Tryz.prog W (fun _=>true) ["loop.example/g00895/impl.errApart"] gs q:=hV0;have hA:DataW.TrodAll enc Tryz.prog W 0 (fun _=>true) true Tryz.f3.params.toList args.toList ds p:=hA0;rw[Tryz.params3]at hA hval;obtain⟨v0,v1,d0,d1,p0,p1,rfl,rfl,hpp,t0,t1⟩:=Ir hA;subst hpp;rw[MakeChecks.laidMetH_plain _ _ _ (by kernel_rfl)]at hL;obtain⟨ae,se,hv,_,_,_⟩:=laid_sentinel hL gE MP Tryz.underlying71 ZN Tryz.underlying242 Tryz.underlying268 rfl rfl Tryz.underlying9 TB TC;have hcell:W.cell? ⟨0,0,none⟩=some (.iface 242 (.pointer (some ae))):=by simpa using World.var?_cell gE hv 0
 have hgw:GW IG W:=⟨⟨ae,hcell⟩,fun h=>h⟩;have vr:∀{X:World},X.var? Tryz.prog "loop.example/g00895/impl.errApart" =some #[.iface 242 (.pointer (some ae))]->∀sp:Nat->Bool,
  DataW.TrodVars enc Tryz.prog X sp ["loop.example/g00895/impl.errApart"] [tok enc (.iface 242 (.pointer (some ae)))] [.cell 0 0]:=
  fun x0 sp=>vars_read1 enc gE MP Tryz.underlying71 x0 trivial sp
 obtain⟨rfl,rfl⟩:=hV.unique (vr hv _);have k0:=t0;have lt0:∀x∈p0,x.block<W.heap.size:=by obtain⟨m,hm⟩:=t0;exact DataW.trod_lt m _ _ _ hm
 have k1:=t1;have lt1:∀x∈p1,x.block<W.heap.size:=by obtain⟨m,hm⟩:=t1;exact DataW.trod_lt m _ _ _ hm
 obtain⟨x0,g0,h0⟩:=ZM.agg Tryz.underlying27 (fun _=>⟨_,rfl⟩) (hval 0 _ v0 rfl rfl) t0;obtain⟨n1,rfl⟩:=okWide_int Tryz.underlying2 (hval 1 _ v1 rfl rfl);obtain⟨x1,g1,h1⟩:=rd2.cell (fun _=>rfl) rfl t1;clear hA0 hval0 hV0;refine(KJ hgw g0 g1 h0 h1).mono fun e W' ⟨he,bel⟩=>?_
 subst he;have s0:=Below.trod RO (by kernel_rfl) (fO (by kernel_rfl)) k0 bel lt0;have s1:=Below.trod RO (by kernel_rfl) (fO (by kernel_rfl)) k1 bel lt1;exact⟨_,rfl,_,_,_,[],_,[.cell 0 0],hW',trodAll_mk1 (shut_bool Tryz.underlying4 _),trodAll_cons_mk s0 (trodAll_mk1 s1),vr (var?_below bel gE (lY.jZ hcell) hv) _,bel.frame _,fun h=>by cases h⟩
end Go.Proofs.YtjgbnaihpicpgaaGreatDoor
namespace Go.Proofs.YtjgbnaihpicpgaaGreatDoor
open Go Go.ChangeShapes Go.WideShapes Go.ChangeAt Go.RowKit
theorem Tr{a b:Bool}(ha:a=true)(hb:b=true):(a&&b)=true:=by rw[ha,hb];rfl
set_option maxRecDepth 100000 in
set_option maxHeartbeats 4000000 in
theorem PL:joinedFacts Tryz.prog 3 Tryz.f3 Rows.fnExactJoinsAllSpec Rows.fnExactJoinsAllRow=true:=by
 unfold joinedFacts
 with_reducible repeat' refine Tr ?_ ?_
 all_goals as_aux_lemma=>kernel_rfl
end Go.Proofs.YtjgbnaihpicpgaaGreatDoor
namespace Go.Proofs.YtjgbnaihpicpgaaGreatDoor
open Go lY Go.ChangeShapes Go.WideShapes Go.ChangeAt Go.RowKit
theorem xB:Rows.FnExactJoinsAllSaid:=
 OpenClaim.holds_of_wide 3 Tryz.f3 rfl rfl rfl rfl rfl rfl rfl ⟨rfl,rfl,rfl,rfl,rfl⟩ rfl rfl rfl rfl rfl (by kernel_rfl) Tryz.func3 PL
  (fO (by kernel_rfl)) (by unfold Func.isWrapper;first|(rw[ah (by decide +kernel)];kernel_rfl)|(rw[ak (by decide +kernel)];exact⟨rfl,rfl⟩))
  (fun os started H enc _=>wF os started H enc)
theorem fnExactJoinsAll_proved:Rows.FnExactJoinsAllCardSaid:=
 Claim7.holds_tied_plain_at .later [] Rows.fnExactJoinsAllCard.laidKinds true Rows.fnExactJoinsAllCard.stood.harness true
  xB (fun _ h=>by cases h) (by kernel_rfl) (fun _ h=>by cases h) fnExactJoinsAll_row_tie rfl ⟨rfl,rfl⟩ (by kernel_rfl) rfl
  (fun f fn hf hfn=>by
   obtain rfl:f=3:=cZ ((show Tryz.prog.funcNamed Tryz.f3.name=some 3 by kernel_rfl).symm.trans hf) |>.symm;obtain rfl:fn=Tryz.f3:=(cZ (Tryz.func3.symm.trans hfn)).symm;exact⟨by kernel_rfl,fun j t ht=>by
    rw[Tryz.params3]at ht;have hm:t∈[27,2]:=by simpa using Array.mem_of_getElem? ht
    have hall:([27,2].all fun u=>!Tryz.prog.wantsStandIn u)=true:=by kernel_rfl
    exact(show Tryz.prog.wantsStandIn t=false by simpa using cm.1 hall t hm)⟩)
  (by kernel_rfl)
end Go.Proofs.YtjgbnaihpicpgaaGreatDoor
