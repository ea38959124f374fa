/- A part of the proof about FnAcMatches (ThA, PA, XL, KG, PB, PC, AA, AB, AD, AE, AF, AG, AH, AI, AJ, BA, BB, BC, BD, BE, BF, BG, BH, BI, BJ, BK, BL, BM, BN, BO, BP). -/
import Derived.Test.YthdnkoejpdcnpaaGreatMaa
import Derived.Test.YthdnkoejpdcnpaaGreatMae
import Derived.Test.YthdnkoejpdcnpaaGreatMag
import Derived.Test.YthdnkoejpdcnpaaGreatMah
set_option linter.all false
namespace Tm
def mV(a:fN)(x:Int):Nat:=if x<0 then 0 else(a.getD x.toNat 0).toNat
def wD(a:fN)(x:Int):Prop:= -24<=x/\x<a.length
instance(a:fN)(x:Int):Decidable (wD a x):=by unfold wD;infer_instance
def skip(a:fN):fN->Nat->Option fN
 |t,0=>some t
 |[],_+1=>none
 |x::t,k+1=>if wD a x then skip a t (k+mV a x)else none
def Wf(a:fN)(k:Nat)(t:fN):Prop:=skip a t k=some []
instance(a:fN)(k:Nat)(t:fN):Decidable (Wf a k t):=by unfold Wf;infer_instance
theorem qY(a t:fN):skip a t 0=some t:=by cases t<;>simp[skip]
theorem sF(a t:fN)(x:Int)(k:Nat):skip a (x::t) (k+1)=if wD a x then skip a t (k+mV a x)else none:=by simp[skip]
theorem Ft(a:fN)(k:Nat):skip a [] (k+1)=none:=by simp[skip]
theorem Fs{a:fN}(s:fN):∀{t r:fN}{k:Nat},skip a t k=some r->skip a (t++s) k=some (r++s)
 |t,r,0,h=>by rw[qY]at h⊢;cases h;rfl
 |[],r,k+1,h=>by simp[skip]at h
 |x::t,r,k+1,h=>by
  rw[cg];rw[sF]at h⊢;split at h
  ·rename_i hx;rw[ah hx];exact Fs s h
  ·cases h
theorem B7{a:fN}(j:Nat):∀{t:fN}{k:Nat},skip a t (k+j)=(skip a t k).bind fun r=>skip a r j
 |t,0=>by simp[qY]
 |[],k+1=>by rw[show k+1+j=(k+j)+1 by omega];simp[skip]
 |x::t,k+1=>by
  rw[show k+1+j=(k+j)+1 by omega,sF,sF];split
  ·rw[show k+j+mV a x=(k+mV a x)+j by omega];exact B7 j
  ·rfl
theorem B8{a:fN}:∀{t r:fN}{k:Nat},skip a t k=some r->∃u,t=u++r/\Wf a k u
 |t,r,0,h=>by rw[qY]at h;cases h;exact⟨[],rfl,qY _ _⟩
 |[],r,k+1,h=>by simp[skip]at h
 |x::t,r,k+1,h=>by
  rw[sF]at h;split at h
  ·rename_i hx;obtain⟨u,rfl,h2⟩:=B8 h;exact⟨x::u,rfl,by unfold Wf;rw[sF,ah hx];exact h2⟩
  ·cases h
theorem Wf.skip{a u:fN}{k:Nat}(h:Wf a k u)(s:fN):skip a (u++s) k=some s:=Fs s h
theorem Wf.app{a u v:fN}{k j:Nat}(h:Wf a k u)(h':Wf a j v):Wf a (k+j) (u++v):=by unfold Wf;rw[B7,h.skip];exact h'
theorem Wf.nil{a:fN}:Wf a 0 []:=qY _ _
theorem Wf.zero{a t:fN}(h:Wf a 0 t):t=[]:=by unfold Wf at h;rw[qY]at h;exact Option.some.inj h
theorem Wf.kE{a t:fN}{x:Int}{k:Nat}:Wf a (k+1) (x::t)<->wD a x/\Wf a (k+mV a x) t:=by
 unfold Wf;rw[sF];split<;>simp_all
theorem Wf.pos{a t:fN}{k:Nat}(h:Wf a (k+1) t):∃x r,t=x::r/\wD a x/\Wf a (k+mV a x) r:=by
 cases t with
 |nil=>simp[Wf,Tm.skip]at h
 |cons x r=>exact⟨x,r,rfl,Wf.kE.1 h⟩
theorem Wf.split{a t:fN}{k j:Nat}(h:Wf a (k+j) t):∃u v,t=u++v/\Wf a k u/\Wf a j v:=by
 unfold Wf at h;rw[B7]at h;obtain⟨r,h1,h2⟩:=aB.1 h;obtain⟨u,rfl,h3⟩:=B8 h1;exact⟨u,r,rfl,h3,h2⟩
theorem Wf.all{a:fN}:∀{t:fN}{k:Nat},Wf a k t->∀x∈t,wD a x
 |[],_,_=>by simp
 |y::t,0,h=>by have:=h.zero;cases this
 |y::t,k+1,h=>by
  obtain⟨h1,h2⟩:=Wf.kE.1 h;intro x hx;rcases bw.1 hx with rfl|hx
  ·exact h1
  ·exact h2.all x hx
theorem Wf.len{a:fN}:∀{t:fN}{k:Nat},Wf a k t->k<=t.length
 |t,0,_=>by omega
 |[],k+1,h=>by simp[Wf,Tm.skip]at h
 |y::t,k+1,h=>by
  obtain⟨h1,h2⟩:=Wf.kE.1 h;have:=h2.len;simp;omega
theorem Wf.place{a:fN}:∀{t:fN}{k i:Nat},Wf a k t->i<t.length->∃p u s,t=p++(u++s)/\p.length=i/\Wf a 1 u
 |[],_,_,_,hi=>by simp at hi
 |y::t,0,_,h,_=>by have:=h.zero;cases this
 |y::t,k+1,0,h,_=>by
  rw[show k+1=1+k by omega]at h;obtain⟨u,v,e,h1,_⟩:=h.split;exact⟨[],u,v,e,rfl,h1⟩
 |y::t,k+1,i+1,h,hi=>by
  obtain⟨p,u,s,rfl,h2,h3⟩:=(Wf.kE.1 h).2.place (i:=i) (by simpa using hi);exact⟨y::p,u,s,rfl,by simp[h2],h3⟩
def sub(σ:Int->fN)(t:fN):fN:=t.flatMap fun x=>if x<0 then σ x else [x]
theorem Pa(σ:Int->fN):sub σ []=[]:=rfl
theorem tf(σ:Int->fN)(x:Int)(t:fN):sub σ (x::t)=(if x<0 then σ x else [x])++sub σ t:=by simp[sub]
theorem A5(σ:Int->fN)(s t:fN):sub σ (s++t)=sub σ s++sub σ t:=by simp[sub]
theorem sub_congr{σ τ:Int->fN}{t:fN}(h:∀x∈t,x<0->σ x=τ x):sub σ t=sub τ t:=by
 induction t with
 |nil=>rfl
 |cons x t ih=>
  rw[tf,tf,ih fun y hy=>h y (by simp[hy])];by_cases hx:x<0
  ·rw[ah hx,ah hx,h x (by simp) hx]
  ·rw[ay hx,ay hx]
theorem Wf.sub{a:fN}{σ:Int->fN}:∀{t:fN}{k:Nat},Wf a k t->(∀x∈t,x<0->Wf a 1 (σ x))->Wf a k (Tm.sub σ t)
 |[],k,h,_=>by simpa[Tm.sub]using h
 |y::t,0,h,_=>by have:=h.zero;cases this
 |y::t,k+1,h,hs=>by
  obtain⟨h1,h2⟩:=Wf.kE.1 h;rw[tf];have ih:=h2.sub fun x hx=>hs x (by simp[hx])
  by_cases hy:y<0
  ·rw[ah hy,show k+1=1+k by omega];refine(hs y (by simp) hy).app ?_;simpa[mV,hy]using ih
  ·rw[ay hy];exact Wf.kE.2 ⟨h1,ih⟩
abbrev Bd:=List fN
def gK(b:Bd)(n:Int):fN:=b.getD (-1-n).toNat []
def gC(b:Bd)(n:Int)(u:fN):Bd:=b.set (-1-n).toNat u
def Cn(a:fN):fN->fN->Bd->Option Bd
 |[],_,b=>some b
 |n::p,t,b=>
  if n<0 then match skip a t 1 with
   |none=>none
   |some r=>
    let u:=t.take (t.length-r.length)
    if gK b n=[]then Cn a p r (gC b n u)else if gK b n=u then Cn a p r b else none
  else match t with
   |[]=>none
   |y::t=>if y=n then Cn a p t b else none
theorem Ib(a t:fN)(b:Bd):Cn a [] t b=some b:=by simp[Cn]
theorem Wf.ne{a u:fN}(h:Wf a 1 u):u≠[]:=by have:=h.len;intro e;subst e;simp at this
theorem Ic{a p t:fN}{n y:Int}{b:Bd}(hn:¬n<0):Cn a (n::p) (y::t) b=if y=n then Cn a p t b else none:=by simp[Cn,hn]
theorem Ie{a p u r:fN}{n:Int}{b:Bd}(hn:n<0)(hu:Wf a 1 u):Cn a (n::p) (u++r) b=
 if gK b n=[]then Cn a p r (gC b n u)else if gK b n=u then Cn a p r b else none:=by
 simp[Cn,hn,hu.skip]
theorem oL{b:Bd}{n m:Int}{u:fN}(hn:n<0)(hl: -1-n<b.length)(hm:m<0):gK (gC b n u) m=if m=n then u else gK b m:=by
 unfold gK gC;rw[ak,ak,cH];by_cases h:m=n
 ·subst h;rw[ah rfl,ah rfl,ah gq];rfl
 ·rw[ay h,ay gq]
theorem xS{a:fN}:∀{p t:fN}{b b':Bd}{k:Nat},Wf a k p->Wf a k t->b.length=24->Cn a p t b=some b'->
 t=sub (gK b') p/\b'.length=24/\(∀n,n<0->gK b n≠[]->gK b' n=gK b n)/\(∀n∈p,n<0->Wf a 1 (gK b' n)\/gK b n=gK b' n/\gK b n≠[])/\
 (∀n,n<0->n∉p->gK b' n=gK b n)
 |[],t,b,b',k,hp,ht,hb,h=>by
  rw[Ib]at h;cases h;cases k with
  |zero=>have:=ht.zero;subst this;exact⟨rfl,hb,fun _ _ _=>rfl,by simp,fun _ _ _=>rfl⟩
  |succ k=>simp[Wf,Tm.skip]at hp
 |n::p,t,b,b',0,hp,ht,hb,h=>by have:=hp.zero;cases this
 |n::p,t,b,b',k+1,hp,ht,hb,h=>by
  obtain⟨hx,hp⟩:=Wf.kE.1 hp;by_cases hn:n<0
  ·rw[show k+1=1+k by omega]at ht;obtain⟨u,r,rfl,hu,hr⟩:=ht.split;rw[Ie hn hu]at h;have ha:mV a n=0:=by simp[mV,hn]
   rw[ha,cZ]at hp;have hl: -1-n<b.length:=by have:=hx.1;omega
   split at h
   ·rename_i h0;obtain⟨h1,h2,h3,h4,h5⟩:=xS hp hr (by simpa[gC]using hb) h;have hbn:gK b' n=u:=by rw[h3 n hn (by rw[oL hn hl hn,ah rfl];exact hu.ne),oL hn hl hn,ah rfl]
    refine⟨by rw[tf,ah hn,hbn,<-h1],h2,fun m hm hne=>?_,fun m hm hm0=>?_,fun m hm hmp=>?_⟩
    ·by_cases hmn:m=n
     ·subst hmn;exact absurd h0 hne
     ·have:=oL (u:=u) hn hl hm;rw[ay hmn]at this;rw[h3 m hm (by rw[this];exact hne),this]
    ·by_cases hmn:m=n
     ·subst hmn;rw[hbn];exact .inl hu
     ·have:=oL (u:=u) hn hl hm0;rw[ay hmn]at this;rcases bw.1 hm with e|hm
      ·exact absurd e hmn
      ·rw[<-this];exact h4 m hm hm0
    ·have hmn:m≠n:=fun e=>hmp (by simp[e])
     have:=oL (u:=u) hn hl hm;rw[ay hmn]at this;rw[h5 m hm fun hx=>hmp (by simp[hx]),this]
   ·rename_i h0;split at h
    ·rename_i h00;obtain⟨h1,h2,h3,h4,h5⟩:=xS hp hr hb h;have hbn:gK b' n=u:=by rw[h3 n hn h0,h00]
     refine⟨by rw[tf,ah hn,hbn,<-h1],h2,h3,fun m hm hm0=>?_,fun m hm hmp=>?_⟩
     ·by_cases hmn:m=n
      ·subst hmn;rw[hbn];exact .inl hu
      ·rcases bw.1 hm with e|hm
       ·exact absurd e hmn
       ·exact h4 m hm hm0
     ·exact h5 m hm fun hx=>hmp (by simp[hx])
    ·cases h
  ·obtain⟨y,t,rfl,hy,ht⟩:=ht.pos;rw[Ic hn]at h;split at h
   ·rename_i e;subst e;obtain⟨h1,h2,h3,h4,h5⟩:=xS hp ht hb h;refine⟨by rw[tf,ay hn,b_,<-h1],h2,h3,fun m hm hm0=>?_,fun m hm hmp=>?_⟩
    ·rcases bw.1 hm with e|hm
     ·omega
     ·exact h4 m hm hm0
    ·exact h5 m hm fun hx=>hmp (by simp[hx])
   ·cases h
abbrev Fm:=Int×fN
def S6(n:Int):fN->fN->Int
 |c::cs,v::vs=>S6 (n+c*v) cs vs
 |_,_=>n
def vals(a:fN)(ps:List Fm)(ρ:Int->Int):fN->fN
 |[]=>[]
 |x::t=>if x<0 then ρ x::vals a ps ρ t else
  let p:=ps.getD x.toNat default
  S6 p.1 p.2 ((vals a ps ρ t).take (mV a x))::(vals a ps ρ t).drop (mV a x)
def yN(ps:List Fm):Prop:=∀p∈ps,0<=p.1/\∀c∈p.2,1<=c
def vc:Bd:=List.replicate 24 []
theorem IS(n:Int):gK vc n=[]:=by
 unfold gK vc;rw[ak,dO];split<;>rfl
def nF(a t:fN)(i:Nat):fN:=match skip a (t.drop i) 1 with
 |some r=>(t.drop i).take ((t.drop i).length-r.length)
 |none=>[]
def sig(b:Bd)(n:Int):fN:=if gK b n=[]then [n]else gK b n
end Tm
namespace Go.Proofs.YthdnkoejpdcnpaaGreat
open Go kJ Tm
theorem jS{n:Int}(h1: -9223372036854775808<=n)(h2:n<9223372036854775808):IntKind.i64.wrap n=n:=by rw[wrap_i64 h1 h2]
theorem gH{α:Type}[Inhabited α]{xs:List α}{i:Nat}(h:i<xs.length):xs.getD i default=xs[i]:=by simp[ak,aA h]
theorem qi{α:Type}[Inhabited α]{xs:List α}{i:Nat}(h:i<xs.length):xs.getD i default∈xs:=by rw[gH h];exact aC h
theorem uw{α:Type}[Inhabited α]{xs:List α}{p:α->Bool}{f:Int->Option fS}
 (h:∀(i:Nat)(x:α),i<xs.length->(i:Int)<xs.length->x∈xs->xs.getD i default=x->f i=some (if p x=true then .inl ((i:Int)+1)else .inr false)) (he:f xs.length=some (.inr true)):gF f 0=some (xs.all p):=by
 have key:∀k i:Nat,i+k=xs.length->gF f (i:Int)=some ((xs.drop i).all p):=by
  intro k;induction k with
  |zero=>
   intro i hi;obtain rfl:i=xs.length:=by omega
   rw[oN he];simp
  |succ k ih=>
   intro i hi;have hlt:i<xs.length:=by omega
   have e:=h i _ hlt gq (aC hlt) (gH hlt);rw[aH hlt,List.all_cons];cases hp:p xs[i]with
   |true=>
    rw[hp,ah rfl]at e;rw[qR e];have:=ih (i+1) gq;rw[show((i:Int)+1)=((i+1:Nat):Int) by omega,this];simp
   |false=>
    rw[hp]at e;simp only[av,aI]at e;rw[oN e];simp
 simpa using key xs.length 0 gq
theorem BT{α β:Type}[Inhabited α]{xs:List α}{p:α->Bool}{f:Int->Option (Int⊕β)}{y n:β}
 (h:∀(i:Nat)(x:α),i<xs.length->(i:Int)<xs.length->x∈xs->xs.getD i default=x->f i=some (if p x=true then .inr y else .inl ((i:Int)+1))) (he:f xs.length=some (.inr n)):
 gF f 0=some (if xs.any p=true then y else n):=by
 have key:∀k i:Nat,i+k=xs.length->gF f (i:Int)=some (if(xs.drop i).any p=true then y else n):=by
  intro k;induction k with
  |zero=>
   intro i hi;obtain rfl:i=xs.length:=by omega
   rw[oN he];simp
  |succ k ih=>
   intro i hi;have hlt:i<xs.length:=by omega
   have e:=h i _ hlt gq (aC hlt) (gH hlt);rw[aH hlt,List.any_cons];cases hp:p xs[i]with
   |false=>
    rw[hp]at e;simp only[av,aI]at e;rw[qR e];have:=ih (i+1) gq;rw[show((i:Int)+1)=((i+1:Nat):Int) by omega,this];simp
   |true=>
    rw[hp,ah rfl]at e;rw[oN e];simp
 simpa using key xs.length 0 gq
abbrev Small{α:Type}(xs:List α):Prop:=xs.length<1099511627776
def Nw(n:Int):Bool:=decide (0<=n)&&decide (n<=3)
def iz(a:fN):Bool:=decide (1<=a.length)&&decide (a.length<=8)&&a.all Nw
theorem oO{a:fN}:iz a=true<->1<=a.length/\a.length<=8/\∀n∈a,0<=n/\n<=3:=by simp[iz,Nw,and_assoc]
theorem pz(x lo hi:Int):mz x lo hi=some (decide (lo<=x)&&decide (x<=hi)):=by
 unfold mz;by_cases h1:lo<=x<;>by_cases h2:x<=hi<;>simp[h1,h2]
theorem wj(a:fN):pO a=some (iz a):=by
 unfold pO;by_cases h1:(a.length:Int)<1
 ·have:¬1<=a.length:=by omega
  simp[h1,iz,this]
 ·by_cases h2:8<(a.length:Int)
  ·have:¬a.length<=8:=by omega
   simp[h1,h2,iz,this]
  ·have e1:1<=a.length:=by omega
   have e2:a.length<=8:=by omega
   simp only[h1,h2,bA,av,aI,iz,e1,e2,bl,cr];refine uw (fun i x hi hi' _ hx=>?_) (by simp[qt]);have hw:IntKind.i64.wrap ((i:Int)+1)=i+1:=jS gq gq;simp only[qt,hi',bl,aO,aq,hw,show(0:Int)<=i by omega,cF,Nw,hx];by_cases c1:x<0
   ·simp[c1,show ¬0<=x by omega]
   ·by_cases c2:3<x
    ·simp[c1,c2,show ¬x<=3 by omega]
    ·simp[c1,c2,show 0<=x by omega,show x<=3 by omega]
theorem qv(a:fN):nr a=some (iz a):=by
 unfold nr;simp only[pz,aa];by_cases h:1<=a.length/\a.length<=8
 ·have e1:(1:Int)<=a.length:=by omega
  have e2:(a.length:Int)<=8:=by omega
  simp only[e1,e2,bl,fh,aO,iz,h.1,h.2,cr];refine uw (fun i x hi hi' _ hx=>?_) (by simp[qw]);have hw:IntKind.i64.wrap ((i:Int)+1)=i+1:=jS gq gq;simp only[qw,hi',bl,aO,aq,hw,show(0:Int)<=i by omega,cF,Nw,hx,pz,aa];by_cases h3:0<=x<;>by_cases h4:x<=3<;>simp[h3,h4]
 ·have:(decide ((1:Int)<=a.length)&&decide ((a.length:Int)<=8))=false:=by simp;omega
  rw[this];have:iz a=false:=by
   cases hs:iz a with
   |false=>rfl
   |true=>have:=oO.1 hs;omega
  simp[this]
theorem AN{x:fN}(h0:0<x.length)(hs:Small x):gz True (jY x) fun m=>∀b,b<=m<->∀y∈x,b<=y:=by
 unfold jY;have h1:¬(x.length:Int)<1:=by omega
 have h2:(0:Int)<x.length:=by omega
 simp only[h1,h2,bA,av,aI,eV,cF,aO];refine gz.loop (fun s:Int×Int=>∃i:Nat,s.2=(i:Int)/\1<=i/\i<=x.length/\∀b,b<=s.1<->∀y∈x.take i,b<=y) (fun s:Int×Int=>x.length-s.2.toNat) ⟨1,rfl,au _,gq,fun b=>?_⟩ ?_
 ·cases x with
  |nil=>simp at h0
  |cons y x=>simp
 ·rintro⟨m,i'⟩ ⟨i,rfl,h3,h4,h5⟩;simp only[mh]at h5⊢;by_cases hi:i<x.length
  ·have hi':(i:Int)<x.length:=by omega
   have hw:IntKind.i64.wrap ((i:Int)+1)=i+1:=jS gq gq;simp only[hi',bl,aO,show(0:Int)<=i by omega,cF,aq,gH hi,hw];refine .some ⟨⟨i+1,by simp,gq,gq,fun b=>?_⟩,by simp;omega⟩;rw[eB,aA hi];have:=h5 b;simp only[aM,Option.toList_some,bq];split
   ·constructor
    ·rintro hb y (hy|rfl)
     ·exact(h5 b).1 gq y hy
     ·exact hb
    ·intro hb;exact hb _ (.inr rfl)
   ·constructor
    ·rintro hb y (hy|rfl)
     ·exact(h5 b).1 hb y hy
     ·omega
    ·intro hb;exact(h5 b).2 fun y hy=>hb y (.inl hy)
  ·have hi':¬(i:Int)<x.length:=by omega
   simp only[hi',bA,av,aI,aV];refine .some fun b=>?_
   rw[h5 b,bZ gq]
theorem vJ{a:fN}(ha:iz a=true)(x:Int):mV a x<=3:=by
 have:=(oO.1 ha).2.2;unfold mV;split
 ·omega
 ·rw[ak];cases h:a[x.toNat]? with
  |none=>simp
  |some y=>have:=this y (bR h);simp;omega
theorem uJ{a:fN}(ha:iz a=true){x:Int}(hx:x<a.length):nM a x=some (mV a x:Int):=by
 unfold nM mV;by_cases h:x<0
 ·simp[h]
 ·have h2:0<=x:=by omega
  simp only[h,bA,av,aI,h2,hx,cF,aO];have hl:x.toNat<a.length:=by omega
  have:=(oO.1 ha).2.2 _ (qi hl);rw[show a.getD x.toNat 0=a.getD x.toNat default from rfl];rw[show((a.getD x.toNat default).toNat:Int)=a.getD x.toNat default by omega]
theorem wz{a t:fN}(ha:iz a=true)(hs:Small t){i:Nat}(hi:i<=t.length):mI a t i=
 some (match t.drop i with|[]=>(-1,(i:Int))|x::_=>if x<a.length then((mV a x:Int),(i:Int)+1)else(-1,i)):=by
 unfold mI;by_cases h:i<t.length
 ·have h1:¬(t.length:Int)<=i:=by omega
  have h2:(i:Int)<t.length:=by omega
  have hw:IntKind.i64.wrap ((i:Int)+1)=i+1:=jS gq gq;have hw2:IntKind.i64.wrap ((i:Int)+1-1)=i:=by rw[jS gq gq];omega
  rw[aH h];simp only[h1,h2,bA,av,aI,show(0:Int)<=i by omega,cF,aO,aq,gH h,hw,hw2];by_cases h3:t[i]<a.length
  ·have h4:¬(a.length:Int)<=t[i]:=by omega
   simp[h3,h4,uJ ha h3]
  ·have h4:(a.length:Int)<=t[i]:=by omega
   simp[h3,h4]
 ·have h1:(t.length:Int)<=i:=by omega
  rw[bp gq];simp[h1]
theorem C7{a t:fN}{i k:Nat}(h:i<t.length):Tm.skip a (t.drop i) (k+1)=if wD a (t[i])then Tm.skip a (t.drop (i+1)) (k+mV a t[i])else none:=by rw[aH h,sF]
def Bt(a t:fN)(i:Nat):Int:=match Tm.skip a (t.drop i) 1 with|some r=>(t.length:Int)-r.length|none=> -1
theorem tr{a t:fN}(ha:iz a=true)(hs:Small t)(hm:∀x∈t, -24<=x){i:Nat}(hi:i<=t.length):om a t i=some (Bt a t i):=by
 have key:gz True (mJ a t i) fun r=>match Tm.skip a (t.drop i) 1 with|some q=>r=(true,(t.length:Int)-q.length)|none=>r.1=false:=by
  unfold mJ;refine gz.loop (fun s=>∃(k c:Nat),s=((k:Int),(c:Int))/\c<=t.length/\k<=1+3*c/\Tm.skip a (t.drop c) k=Tm.skip a (t.drop i) 1) (fun s=>t.length-s.2.toNat) ⟨1,i,rfl,hi,gq,rfl⟩ ?_;rintro _ ⟨k,c,rfl,h1,h2,h3⟩;simp only[oP];cases k with
  |zero=>
   simp only[show ¬(0:Int)<((0:Nat):Int) by omega,bA,av,aI,aV];refine .some ?_;simp only[tj];rw[<-h3,qY];simp;omega
  |succ k=>
   simp only[show(0:Int)<((k+1:Nat):Int) by omega,bl,aO,wz ha hs h1,aa];by_cases hc:c<t.length
   ·rw[aH hc];rw[C7 hc]at h3;simp only;have hx:=hm _ (aC hc);by_cases hlt:t[c]<a.length
    ·have ho:wD a t[c]:=⟨hx,hlt⟩;rw[ah ho]at h3;have hle:=vJ ha t[c];simp only[hlt,aO,show ¬((mV a t[c]:Nat):Int)<0 by omega,bA,av,aI];have hw1:IntKind.i64.wrap (((k+1:Nat):Int)+(mV a t[c]:Int))=(k+1:Nat)+mV a t[c]:=jS gq gq;rw[hw1,jS gq gq];refine .some ⟨⟨k+mV a t[c],c+1,by simp;omega,gq,gq,h3⟩,by simp;omega⟩
    ·have ho:¬wD a t[c]:=fun h=>hlt h.2
     rw[ay ho]at h3;simp only[hlt,aI,show(-1:Int)<0 by omega,bl,aO,aV];refine .some ?_;simp only[tj];rw[<-h3];trivial
   ·rw[bp gq,Ft]at h3;rw[bp gq];simp only[show(-1:Int)<0 by omega,bl,aO,aV];refine .some ?_;simp only[tj];rw[<-h3];trivial
 unfold om;obtain⟨r,h1,h2⟩:=key.get;rw[h1,aa];unfold Bt;cases h:Tm.skip a (t.drop i) 1 with
 |none=>rw[h]at h2;simp only at h2;simp[h2]
 |some q=>rw[h]at h2;simp only at h2;simp[h2]
def lS(a t:fN):Bool:=iz a&&(decide (1<=t.length)&&decide (t.length<=60))&&decide (Wf a 1 t)
theorem lT{a t:fN}:lS a t=true<->iz a=true/\1<=t.length/\t.length<=60/\Wf a 1 t:=by simp[lS,and_assoc]
theorem AY{a t:fN}:Bt a t 0=(t.length:Int)<->Wf a 1 t:=by
 unfold Bt Wf;rw[bO];cases h:Tm.skip a t 1 with
 |none=>
  simp only[reduceCtorEq,iff_false];try omega
 |some q=>
  simp only[aQ];constructor
  ·intro h;exact bU.1 gq
  ·rintro rfl;simp
theorem vm(a t:fN):oJ a t=some (lS a t):=by
 unfold oJ lS;rw[wj,aa];cases ha:iz a with
 |false=>simp
 |true=>
  simp only[aO,cr];by_cases h1:1<=t.length
  ·by_cases h2:t.length<=60
   ·have e1:(0:Int)<t.length:=by omega
    have e2:(t.length:Int)<=60:=by omega
    simp only[e1,e2,h1,h2,bl,aO,fh,cr];obtain⟨m,h3,h4⟩:=(AN (x:=t) gq (show t.length<_ by omega)).get;rw[h3,aa];by_cases h5: -24<=m
    ·simp only[h5,bl,aO];have:=tr ha (show t.length<_ by omega) ((h4 _).1 h5) (i:=0) gq;rw[show((0:Nat):Int)=0 by rfl]at this;rw[this,aa];by_cases hw:Wf a 1 t
     ·simp[hw,AY.2 hw]
     ·have:=mt AY.1 hw;simp[hw,this]
    ·have hw:¬Wf a 1 t:=fun hw=>h5 ((h4 _).2 fun y hy=>(hw.all y hy).1)
     simp[h5,hw]
   ·have e2:¬(t.length:Int)<=60:=by omega
    have e1:(0:Int)<t.length:=by omega
    simp[e1,e2,h2]
  ·have e1:¬(0:Int)<t.length:=by omega
   simp only[e1,h1,bA,av,aI,Bool.false_and]
theorem uK{a:fN}(ha:iz a=true)(x:Int):nR a x=some (if wD a x then(mV a x:Int)else -1):=by
 have hl:=(oO.1 ha).2.1;unfold nR;simp only[pz,aa,jS (n:=(a.length:Int)-1) gq gq];by_cases h1: -24<=x
 ·by_cases h2:x<= -1
  ·simp[h1,h2,wD,mV,show x<0 by omega,show x<(a.length:Int) by omega]
  ·by_cases h3:x<a.length
   ·have hx:x.toNat<a.length:=by omega
    have:=(oO.1 ha).2.2 _ (qi hx);simp only[h1,h2,h3,wD,show 0<=x by omega,show x<=(a.length:Int)-1 by omega,bl,bA,Bool.and_false,fh,av,aI,cF,aO,mV,show ¬x<0 by omega];rw[show a.getD x.toNat 0=a.getD x.toNat default from rfl];rw[show((a.getD x.toNat default).toNat:Int)=a.getD x.toNat default by omega]
   ·simp[h1,h2,h3,wD,show ¬x<=(a.length:Int)-1 by omega]
 ·simp[h1,wD,show ¬0<=x by omega]
theorem tA{a t:fN}(ha:iz a=true)(hs:Small t){i:Nat}(hi:i<=t.length):ny a t i=some (Bt a t i):=by
 have key:gz True (ny a t i) (·=Bt a t i):=by
  unfold ny;refine gz.loop (fun s:Int×Int=>∃(k c:Nat),s=(((k+1:Nat):Int),(c:Int))/\c<=t.length/\k<=3*c/\Tm.skip a (t.drop c) (k+1)=Tm.skip a (t.drop i) 1) (fun s:Int×Int=>t.length-s.2.toNat) ⟨0,i,rfl,hi,gq,rfl⟩ ?_;rintro _ ⟨k,c,rfl,h1,h2,h3⟩;simp only[tB];by_cases hc:c<t.length
  ·rw[C7 hc]at h3;have hc':(c:Int)<t.length:=by omega
   simp only[hc',bl,aO,show(0:Int)<=c by omega,cF,aq,gH hc,uK ha,aa];have hle:=vJ ha t[c];by_cases ho:wD a t[c]
   ·rw[ah ho]at h3;simp only[ho,aO,show ¬((mV a t[c]:Nat):Int)<0 by omega,bA,av,aI];rw[jS (n:=((k+1:Nat):Int)+(mV a t[c]:Int)) gq gq,jS (n:=((k+1:Nat):Int)+(mV a t[c]:Int)-1) gq gq,jS (n:=(c:Int)+1) gq gq];cases hk:k+mV a t[c]with
    |zero=>
     rw[hk,qY]at h3;have:(((k+1:Nat):Int)+(mV a t[c]:Int)-1==0)=true:=by simp;omega
     simp only[this,aO,aV];refine .some ?_;simp only[tj,Bt];rw[<-h3];simp;omega
    |succ q=>
     have:¬(((k+1:Nat):Int)+(mV a t[c]:Int)-1==0)=true:=by simp;omega
     simp only[this,aI];refine .some ⟨⟨q,c+1,by simp;omega,gq,gq,by rw[<-hk];exact h3⟩,by simp;omega⟩
   ·rw[ay ho]at h3;simp only[ho,aI,show(-1:Int)<0 by omega,bl,aO,aV];refine .some ?_;simp only[tj,Bt];rw[<-h3]
  ·have hc':¬(c:Int)<t.length:=by omega
   rw[bp gq,Ft]at h3;simp only[hc',bA,av,aI,aV];refine .some ?_;simp only[tj,Bt];rw[<-h3]
 exact key.eq
theorem nQ(a t:fN):lB a t=some (lS a t):=by
 unfold lB lS;rw[qv,aa];cases ha:iz a with
 |false=>simp
 |true=>
  simp only[aO,cr,pz,aa];have e:(decide ((1:Int)<=t.length)&&decide ((t.length:Int)<=60))=(decide (1<=t.length)&&decide (t.length<=60)):=by
   congr 1<;>exact dH.2 gq
  rw[e];by_cases h:1<=t.length/\t.length<=60
  ·simp only[h.1,h.2,bl,fh,aO,cr];have:=tA ha (show Small t by show t.length<_;omega) (i:=0) gq;rw[show((0:Nat):Int)=0 by rfl]at this;rw[this,aa];by_cases hw:Wf a 1 t
   ·simp[hw,AY.2 hw]
   ·have:=mt AY.1 hw;simp[hw,this]
  ·have:(decide (1<=t.length)&&decide (t.length<=60))=false:=by simp;omega
   simp[this]
theorem wH{s:fN}(hs:Small s)(v:Int):iZ s v=some (decide (v∈s)):=by
 have key:gz True (jy s v) fun r=>0<=r<->v∈s:=by
  unfold jy;refine gz.loop (fun i':Int=>∃i:Nat,i'=i/\i<=s.length/\v∉s.take i) (fun i':Int=>s.length-i'.toNat) ⟨0,rfl,gq,by simp⟩ ?_;rintro _ ⟨i,rfl,h1,h2⟩;simp only[lI];by_cases hi:i<s.length
  ·have hi':(i:Int)<s.length:=by omega
   simp only[hi',bl,aO,show(0:Int)<=i by omega,cF,aq,gH hi,jS (n:=(i:Int)+1) gq gq];by_cases hv:v=s[i]
   ·simp only[hv,cL,aO,aV];refine .some ?_;simp only[tj];exact⟨fun _=>aC hi,fun _=>by omega⟩
   ·have:¬(v==s[i])=true:=by simpa using hv
    simp only[this,aI];refine .some ⟨⟨i+1,by simp,gq,?_⟩,by simp;omega⟩;rw[eB,aA hi,aM];rintro(h|h)
    ·exact h2 h
    ·exact hv (by simpa using h)
  ·have hi':¬(i:Int)<s.length:=by omega
   simp only[hi',bA,av,aI,aV];refine .some ?_;rw[bZ gq]at h2;simp only[tj];exact⟨fun h=>by omega,fun h=>absurd h h2⟩
 unfold iZ;obtain⟨r,h1,h2⟩:=key.get;rw[h1,aa];congr 1;exact dH.2 h2
theorem qx{s:fN}(hs:Small s)(v:Int):kP s v=some (decide (v∈s)):=by
 unfold kP;rw[BT (xs:=s) (p:=fun x=>x==v) (y:=true) (n:=false) (fun i x hi hi' _ hx=>?_) (by simp[qy])]
 ·congr 1;by_cases h:v∈s
  ·have:s.any (fun x=>x==v)=true:=fH.2 ⟨v,h,by simp⟩;simp[this,h]
  ·have:s.any (fun x=>x==v)=false:=by
    rw[fE];intro x hx he;have:x=v:=by simpa using he
    subst this;exact h hx
   simp[this,h]
 ·simp only[qy,hi',bl,aO,aq,show(0:Int)<=i by omega,cF,hx,jS (n:=(i:Int)+1) (by have:=hs;omega) (by have:=hs;omega)];by_cases h:(x==v)=true
  ·simp[h]
  ·simp[h]
theorem Lm{s t:fN}(hl:s.length=t.length):(s==t)=decide (∀i<s.length,s.getD i default=t.getD i default):=by
 have:(s==t)=decide (s=t):=by by_cases h:s=t<;>simp[h]
 rw[this];refine dH.2 ⟨fun h=>by subst h;simp,fun h=>?_⟩;refine dn hl fun i h1 h2=>?_
 have:=h i h1;rwa [gH h1,gH h2]at this
theorem Ia{s t:fN}(hs:Small s)(hl:s.length=t.length){f:Int->Option fS}
 (h:∀i:Nat,i<s.length->f i=some (if s.getD i default=t.getD i default then .inl ((i:Int)+1)else .inr false)) (he:f s.length=some (.inr true)):gF f 0=some (s==t):=by
 have key:gz True (gF f 0) fun r=>r=decide (∀i<s.length,s.getD i default=t.getD i default):=by
  refine gz.loop (fun i':Int=>∃i:Nat,i'=i/\i<=s.length/\∀j<i,s.getD j default=t.getD j default) (fun i':Int=>s.length-i'.toNat) ⟨0,rfl,gq,gq⟩ ?_;rintro _ ⟨i,rfl,h1,h2⟩;by_cases hi:i<s.length
  ·rw[h i hi];by_cases e:s.getD i default=t.getD i default
   ·rw[ah e];refine .some ⟨⟨i+1,by simp,gq,fun j hj=>?_⟩,by simp;omega⟩;rcases cu j i with h3|h3
    ·exact h2 j h3
    ·obtain rfl:j=i:=by omega
     exact e
   ·rw[ay e];refine .some ?_;simp only[tj];exact(ee fun h=>e (h i hi)).symm
  ·obtain rfl:i=s.length:=by omega
   rw[he];refine .some ?_;simp only[tj];exact(decide_eq_true h2).symm
 rw[Lm hl];obtain⟨r,h1,h2⟩:=key.get;rw[h1,h2]
theorem nj{s t:fN}(hs:Small s):gX s t=some (s==t):=by
 unfold gX;by_cases hl:s.length=t.length
 ·have:¬((s.length:Int) != (t.length:Int))=true:=by simp;omega
  rw[ay this];refine Ia hs hl (fun i hi=>?_) (by simp[jP]);simp only[jP,show(i:Int)<s.length by omega,show(i:Int)<t.length by omega,bl,aO,show(0:Int)<=i by omega,cF,aq,
   jS (n:=(i:Int)+1) (by have:=hs;omega) (by have:=hs;omega)]
  by_cases e:s.getD i default=t.getD i default
  ·simp only[e,dQ,av,aI,aO]
  ·have:(s.getD i default != t.getD i default)=true:=by simpa using e
   simp only[this,e,aO,aI,aV]
 ·have:((s.length:Int) != (t.length:Int))=true:=by simp;omega
  rw[ah this];congr 1;symm;rw[ei];rintro rfl;exact hl rfl
theorem jA{s t:fN}(hs:Small s):iR s t=some (s==t):=by
 unfold iR;by_cases hl:s.length=t.length
 ·have:¬((s.length:Int) != (t.length:Int))=true:=by simp;omega
  rw[ay this];refine Ia hs hl (fun i hi=>?_) (by simp[ot]);simp only[ot,show(i:Int)<s.length by omega,show(i:Int)<t.length by omega,bl,aO,show(0:Int)<=i by omega,cF,aq,
   jS (n:=(i:Int)+1) (by have:=hs;omega) (by have:=hs;omega)]
  by_cases e:s.getD i default=t.getD i default
  ·simp only[e,dQ,av,aI,aO]
  ·have:(s.getD i default != t.getD i default)=true:=by simpa using e
   simp only[this,e,aO,aI,aV]
 ·have:((s.length:Int) != (t.length:Int))=true:=by simp;omega
  rw[ah this];congr 1;symm;rw[ei];rintro rfl;exact hl rfl
theorem se{l:fN}(hs:Small l):nG l=some l:=by unfold nG;rw[ah (by have:=hs;omega)]
theorem yI{l:fN}(hs:Small l):jw l=some l:=by
 unfold jw;refine(gz.Q_ (t:=True) (P:=(·=l)) ?_ fun h=>?_).eq
 ·rw[ah (by have:=hs;omega)];exact .some rfl
 ·subst h;simp
theorem yX{a t u r:fN}{i:Nat}(h:t.drop i=u++r)(hu:Wf a 1 u):Bt a t i=(t.length:Int)-r.length:=by unfold Bt;rw[h,hu.skip]
theorem FL{t u r:fN}{i:Nat}(h:t.drop i=u++r)(hi:i<=t.length):(t.take (t.length-r.length)).drop i=u:=by
 have hl:=aN List.length h;simp at hl;rw[List.drop_take,h,cN gq,bZ gq]
theorem qu{a t u r:fN}(ha:iz a=true)(hs:Small t)(hm:∀x∈t, -24<=x){i:Nat}(h:t.drop i=u++r)(hu:Wf a 1 u):ni a t i=some u:=by
 have hl:=aN List.length h;have hul:=hu.len;simp at hl;have hi:i<=t.length:=by omega
 unfold ni;rw[tr ha hs hm hi,aa,yX h hu,ah gq,show((t.length:Int)-r.length).toNat=t.length-r.length by omega,aq,FL h hi]
theorem kY{a t u r:fN}(ha:iz a=true)(hs:Small t){i:Nat}(h:t.drop i=u++r)(hu:Wf a 1 u):iQ a t i=some u:=by
 have hl:=aN List.length h;have hul:=hu.len;simp at hl;have hi:i<=t.length:=by omega
 unfold iQ;rw[tA ha hs hi,aa,yX h hu,ah gq,show((t.length:Int)-r.length).toNat=t.length-r.length by omega,aq,FL h hi,
  se (by show u.length<_;have:=hs;omega)]
 rfl
structure Q8(a p t:fN)(b0 b:Bd)(i c:Nat):Prop where
 hi:i<=p.length
 hc:c<=t.length
 hb:b.length=24
 H8:∀u∈b,u.length<=60
 k:∃k,Wf a k (p.drop i)/\Wf a k (t.drop c)
 m:Cn a (p.drop i) (t.drop c) b=Cn a p t b0
theorem Q8.var{a p t:fN}{b0 b:Bd}{i c:Nat}(h:Q8 a p t b0 b i c)(hi:i<p.length)(hn:p[i]<0):∃u r,t.drop c=u++r/\Wf a 1 u/\c+u.length<=t.length/\wD a p[i]/\
 Cn a p t b0=(if gK b p[i]=[]then Cn a (p.drop (i+1)) (t.drop (c+u.length)) (gC b p[i] u)else if gK b p[i]=u then Cn a (p.drop (i+1)) (t.drop (c+u.length)) b else none)/\
 ∃k,Wf a k (p.drop (i+1))/\Wf a k (t.drop (c+u.length)):=by
 obtain⟨k,h1,h2⟩:=h.k;rw[aH hi]at h1;cases k with
 |zero=>have:=h1.zero;cases this
 |succ k=>
  obtain⟨ho,h1⟩:=Wf.kE.1 h1;rw[show k+1=1+k by omega]at h2;obtain⟨u,r,e,hu,hr⟩:=h2.split;have hr':t.drop (c+u.length)=r:=by rw[<-eZ,e,eu]
  have hl:=aN List.length e;simp at hl;have:=hu.len;refine⟨u,r,e,hu,gq,ho,?_,k,?_,by rw[hr'];exact hr⟩
  ·rw[<-h.m,aH hi,e,Ie hn hu,hr']
  ·have ha:mV a p[i]=0:=by simp[mV,hn]
   rwa [ha,cZ]at h1
theorem Q8.sym{a p t:fN}{b0 b:Bd}{i c:Nat}(h:Q8 a p t b0 b i c)(hi:i<p.length)(hn:¬p[i]<0):∃hc:c<t.length,wD a p[i]/\Cn a p t b0=(if t[c]=p[i]then Cn a (p.drop (i+1)) (t.drop (c+1)) b else none)/\
 (t[c]=p[i]->∃k,Wf a k (p.drop (i+1))/\Wf a k (t.drop (c+1))):=by
 obtain⟨k,h1,h2⟩:=h.k;rw[aH hi]at h1;cases k with
 |zero=>have:=h1.zero;cases this
 |succ k=>
  obtain⟨ho,h1⟩:=Wf.kE.1 h1;have hc:c<t.length:=by
   rcases cu c t.length with h|h
   ·exact h
   ·rw[bp h]at h2;have:=h2.len;simp at this
  rw[aH hc]at h2;obtain⟨ho',h2⟩:=Wf.kE.1 h2;refine⟨hc,ho,?_,fun e=>⟨k+mV a p[i],h1,by rw[<-e];exact h2⟩⟩;rw[<-h.m,aH hi,aH hc,Ic hn]
theorem Q8.S7{a p t:fN}{b0 b:Bd}{i c:Nat}(h:Q8 a p t b0 b i c)(hi:i<p.length):c<t.length:=by
 obtain⟨k,h1,h2⟩:=h.k;rw[aH hi]at h1;cases k with
 |zero=>have:=h1.zero;cases this
 |succ k=>
  rcases cu c t.length with h|h
  ·exact h
  ·rw[bp h]at h2;have:=h2.len;simp at this
theorem F6{b:Bd}{n:Int}{u:fN}(hs:∀u∈b,u.length<=60)(hu:u.length<=60):∀v∈gC b n u,v.length<=60:=fun v hv=>by
 rcases ez hv with h|h
 ·exact hs v h
 ·subst h;exact hu
theorem Bg{b:Bd}{n:Int}(hs:∀u∈b,u.length<=60):(gK b n).length<=60:=by
 unfold gK;rw[ak];cases h:b[(-1-n).toNat]? with
 |none=>simp
 |some u=>exact hs u (bR h)
def je(s:Bd)(i:Nat):fN:=if s.getD i []=[]\/s.getD i []=[-1-(i:Int)]then []else s.getD i []
theorem JK{s o:Bd}(h:∀i,o.getD i []=je s i){n:Int}(hn:n<0):Tm.sig o n=Tm.sig s n:=by
 unfold Tm.sig gK;rw[h];unfold je;rw[show -1-((-1-n).toNat:Int)=n by omega];by_cases h1:s.getD (-1-n).toNat []=[]
 ·simp only[h1,true_or,aO]
 ·by_cases h2:s.getD (-1-n).toNat []=[n]
  ·simp only[h2,or_true,aO];simp
  ·simp only[h1,h2,or_self,aI]
theorem wV{s:Bd}{u:fN}{i:Nat}:(s++[u]).getD i []=if i<s.length then s.getD i []else if i=s.length then u else []:=by
 rw[ak];by_cases h:i<s.length
 ·rw[ah h,aT h,ak]
 ·rw[ay h,bI gq];by_cases h2:i=s.length
  ·subst h2;simp
  ·rw[ay h2,bz (by simp;omega)];rfl
theorem ur{s:Bd}{i:Nat}(h:s.length<=i):s.getD i []=[]:=by rw[ak,bz h];rfl
structure WZ(s:Bd)(o:Bd)(i:Nat):Prop where
 hi:i<=s.length
 hl:o.length<=i
 he:∀j<i,o.getD j []=je s j
theorem AM{s:Bd}(hl:s.length<=24)(hs:∀u∈s,u.length<=60):gz True (ru s) fun o=>o.length<=24/\∀i,o.getD i []=je s i:=by
 unfold ru;refine gz.loop (fun q:Int×Bd=>∃i:Nat,q.1=i/\WZ s q.2 i) (fun q:Int×Bd=>s.length-q.1.toNat) ⟨0,rfl,gq,by simp,gq⟩ ?_;rintro⟨_,o⟩ ⟨i,rfl,h⟩;simp only at h;simp only[tu];by_cases hi:i<s.length
 ·have hu:=hs _ (aC hi);have hg:s.getD i []=s[i]:=gH hi;simp only[show(i:Int)<s.length by omega,bl,aO,show(0:Int)<=i by omega,cF,aq,gH hi,jS (n:=(i:Int)+1) gq gq];have skip:je s i=[]->gz True (some (Sum.inl ((i:Int)+1,o)):Option ((Int×Bd)⊕Bd)) (tj (fun q:Int×Bd=>∃i:Nat,q.1=i/\WZ s q.2 i) (fun q:Int×Bd=>s.length-q.1.toNat) (fun o=>o.length<=24/\∀i,o.getD i []=je s i) (s.length-i)):=fun hp=>
   .some ⟨⟨i+1,by simp,gq,Nat.le_succ_of_le h.hl,fun j hj=>by
    rcases cu j i with h3|h3
    ·exact h.he j h3
    ·obtain rfl:j=i:=by omega
     rw[hp,ur h.hl]⟩,by simp;omega⟩
  by_cases h0:s[i]=[]
  ·simp only[h0,bG,fI,cL,aO];exact skip (by unfold je;rw[hg,ah (.inl h0)])
  ·have hne:¬(((s[i]).length:Int)==0)=true:=by
    have:=bQ.2 h0;simp only[dF];omega
   simp only[hne,aI,mY,aa,jS (n:= -1-(i:Int)) gq gq,nj (show Small s[i] by show List.length _<_;omega)];by_cases h1:s[i]=[-1-(i:Int)]
   ·simp only[h1,cL,aO];exact skip (by unfold je;rw[hg,ah (.inr h1)])
   ·have:¬(s[i]==[-1-(i:Int)])=true:=by simpa using h1
    simp only[this,aI];have hp:je s i=s[i]:=by unfold je;rw[hg,ay (by simp[h0,h1])]
    refine gz.loop (fun o':Bd=>o'.length<=i/\∀j<i,o'.getD j []=je s j) (fun o':Bd=>i-o'.length) ⟨h.hl,h.he⟩ ?_;rintro o' ⟨h3,h4⟩;simp only[tw];by_cases h5:o'.length<i
    ·simp only[show(o'.length:Int)<i by omega,bl,aO,show(o'.length+1)*24<=140737488355328 by omega];refine .some ⟨⟨by simp;omega,fun j hj=>?_⟩,by simp;omega⟩;rw[wV];split
     ·exact h4 j hj
     ·have:=h4 j hj;rw[ur gq]at this;simp[<-this]
    ·simp only[show ¬(o'.length:Int)<i by omega,bA,av,aI,show(o'.length+1)*24<=140737488355328 by omega,aO];rw[aq,gH hi,yI (show Small s[i] by show List.length _<_;omega),aa,aV];refine .some ?_;refine⟨⟨i+1,by simp[jS (n:=(i:Int)+1) gq gq],gq,by simp;omega,fun j hj=>?_⟩,by simp[jS (n:=(i:Int)+1) gq gq];omega⟩;rw[wV];split
     ·exact h4 j gq
     ·obtain rfl:j=i:=by omega
      rw[ah gq,hp]
 ·simp only[show ¬(i:Int)<s.length by omega,bA,av,aI,aV];refine .some ⟨by have:=h.hl;have:=h.hi;omega,fun j=>?_⟩;by_cases hj:j<i
  ·exact h.he j hj
  ·rw[ur (by have:=h.hl;omega)];unfold je;rw[ur (s:=s) gq];simp
def vG(o:Option Bd)(r:Bd×Bool):Prop:=match o with
 |some b=>r.2=true/\r.1.length<=24/\∀i,r.1.getD i []=je b i
 |none=>r.2=false
theorem oU{s:Bd}(hs:∀u∈s,u.length<=60)(hl:s.length<=24){i:Nat}(hi:i<=24):lK s i=some (if s.getD i []=[]then [-1-(i:Int)]else s.getD i []):=by
 unfold lK;rw[jS (n:= -1-(i:Int)) gq gq];by_cases h:i<s.length
 ·have hu:=hs _ (aC h);have hg:s.getD i []=s[i]:=gH h;simp only[show(i:Int)<s.length by omega,bl,aO,show(0:Int)<=i by omega,cF,aq,gH h,hg];by_cases h0:s[i]=[]
  ·simp[h0]
  ·have:=bQ.2 h0;simp only[h0,aI,show(0:Int)<s[i].length by omega,bl,aO,se (show Small s[i] by show List.length _<_;omega),aa]
 ·simp only[show ¬(i:Int)<s.length by omega,bA,av,aI,ur (s:=s) (i:=i) gq,aO]
theorem uL{s:Bd}(hl:s.length<=24)(hs:∀u∈s,u.length<=60):gz True (oa s) fun o=>o.length<=24/\∀i,o.getD i []=je s i:=by
 unfold oa;refine gz.loop (fun q:Int×Bd=>∃i:Nat,q.1=i/\i<=s.length/\q.2.length=i/\∀j<i,q.2.getD j []=je s j) (fun q:Int×Bd=>s.length-q.1.toNat) ⟨0,rfl,gq,rfl,gq⟩ ?_;rintro⟨_,o⟩ ⟨i,rfl,h1,h2,h3⟩;simp only at h2 h3;simp only[rH];by_cases hi:i<s.length
 ·have hw:IntKind.i64.wrap ((i:Int)+1)=i+1:=jS gq gq;have hw2:IntKind.i64.wrap (-1-(i:Int))= -1-i:=jS gq gq;have hm:(o.length+1)*24<=140737488355328:=by omega
  have hg:s.getD i []=s[i]:=gH hi;have step:∀u:fN,je s i=u->gz True (some (Sum.inl ((i:Int)+1,o++[u])):Option ((Int×Bd)⊕Bd)) (tj (fun q:Int×Bd=>∃i:Nat,q.1=i/\i<=s.length/\q.2.length=i/\∀j<i,q.2.getD j []=je s j) (fun q:Int×Bd=>s.length-q.1.toNat) (fun o=>o.length<=24/\∀i,o.getD i []=je s i) (s.length-i)):=fun u hu=>
   .some ⟨⟨i+1,by simp,gq,by simp[h2],fun j hj=>by
    rw[wV];split
    ·exact h3 j gq
    ·rw[ah gq,show j=i by omega,hu]⟩,by simp;omega⟩
  simp only[show(i:Int)<s.length by omega,bl,aO,oU hs hl (i:=i) gq,aa,hm,hw,hw2];by_cases h0:s[i]=[]
  ·simp only[hg,h0,aO,bJ,Int.natCast_one,cL,eV,show(0:Int)<1 by omega,cF,bB];exact step [] (by unfold je;rw[hg,ah (.inl h0)])
  ·simp only[hg,h0,aI];by_cases hlen:s[i].length=1
   ·obtain⟨x,hx⟩:=List.length_eq_one_iff.1 hlen;simp only[hx,bJ,Int.natCast_one,cL,aO,eV,show(0:Int)<1 by omega,cF,bB];by_cases e:x= -1-(i:Int)
    ·simp only[e,cL,aO];exact step [] (by unfold je;rw[hg,ah (.inr (by rw[hx,e]))])
    ·have:¬(x== -1-(i:Int))=true:=by simpa using e
     simp only[this,aI];exact step [x] (by unfold je;rw[hg,hx,ay (by simp[e])])
   ·have:¬((s[i].length:Int)==1)=true:=by simp only[dF];omega
    simp only[this,aI];refine step s[i] ?_;unfold je;rw[hg,ay];rintro(h|h)
    ·exact h0 h
    ·exact hlen (by rw[h];rfl)
 ·simp only[show ¬(i:Int)<s.length by omega,bA,av,aI];have hall:∀j,o.getD j []=je s j:=fun j=>by
   by_cases hj:j<i
   ·exact h3 j hj
   ·rw[ur gq];unfold je;rw[ur (s:=s) gq];simp
  refine gz.inr ?_;simp only[tj];refine gz.loop (fun o':Bd=>o'.length<=24/\∀j,o'.getD j []=je s j) (fun o':Bd=>o'.length) ⟨gq,hall⟩ ?_;rintro o' ⟨h4,h5⟩;simp only[rI];by_cases h6:0<o'.length
  ·have hw:IntKind.i64.wrap ((o'.length:Int)-1)=o'.length-1:=jS gq gq;have ht:((o'.length:Int)-1).toNat=o'.length-1:=by omega
   have hlt:o'.length-1<o'.length:=by omega
   simp only[show(0:Int)<o'.length by omega,bl,aO,hw,show 0<=(o'.length:Int)-1 by omega,show(o'.length:Int)-1<o'.length by omega,show(o'.length:Int)-1<=o'.length by omega,cF,ht,gH hlt];by_cases h7:o'[o'.length-1]=[]
   ·simp only[h7,bG,fI,cL,aO];refine .some ⟨⟨by simp;omega,fun j=>?_⟩,by simp;omega⟩;rw[<-h5 j,ak,ak,bS];split
    ·rfl
    ·by_cases hj:j=o'.length-1
     ·subst hj;rw[aA hlt,h7];rfl
     ·rw[bz gq]
   ·have:=bQ.2 h7;have:¬((o'[o'.length-1].length:Int)==0)=true:=by simp only[dF];omega
    simp only[this,aI,aV];exact .some ⟨h4,h5⟩
  ·simp only[show ¬(0:Int)<o'.length by omega,bA,av,aI,aV];exact .some ⟨h4,h5⟩
theorem MK{σ:Int->fN}{t:fN}{i:Nat}(hi:i<t.length):sub σ (t.take (i+1))=sub σ (t.take i)++(if t[i]<0 then σ t[i]else [t[i]]):=by
 rw[eB,aA hi,A5];simp[sub]
theorem FI{σ:Int->fN}{t:fN}{i:Nat}:(sub σ (t.take i)).length<=(sub σ t).length:=by
 have:sub σ t=sub σ (t.take i)++sub σ (t.drop i):=by rw[<-A5,bP]
 rw[this];simp
def AD(σ:Int->fN)(t:fN):Option fN:=if(sub σ t).length<=60 then some (sub σ t)else none
def Lc(o:Option fN):fN×Bool:=match o with|some x=>(x,true)|none=>([],false)
theorem Ji{σ:Int->fN}{t:fN}{i:Nat}(hi:i<t.length){out u:fN}(ho:out=sub σ (t.take i))(hu:u=if t[i]<0 then σ t[i]else [t[i]]):
 (60<(out++u).length->AD σ t=none)/\out++u=sub σ (t.take (i+1)):=by
 have e:out++u=sub σ (t.take (i+1)):=by rw[MK hi,ho,hu]
 refine⟨fun h=>?_,e⟩;rw[e]at h;unfold AD;rw[ay];have:=FI (σ:=σ) (t:=t) (i:=i+1);omega
theorem ug{s:Bd}{t:fN}(hl:s.length<=24)(hs:∀u∈s,u.length<=60)(ht:t.length<=1000)(hx:∀x∈t, -24<=x):lQ s t=some (Lc (AD (Tm.sig s) t)):=by
 have key:gz True (lQ s t) (·=Lc (AD (Tm.sig s) t)):=by
  unfold lQ;refine gz.loop (fun q:fN×Int=>∃i:Nat,q.2=i/\i<=t.length/\q.1=sub (Tm.sig s) (t.take i)/\q.1.length<=60) (fun q:fN×Int=>t.length-q.2.toNat) ⟨0,rfl,gq,by simp[sub],by simp⟩ ?_;rintro⟨out,_⟩ ⟨i,rfl,h1,h2,h3⟩;simp only at h2 h3;simp only[qG];by_cases hi:i<t.length
  ·have hxi:=hx _ (aC hi);simp only[show(i:Int)<t.length by omega,bl,aO,show(0:Int)<=i by omega,cF,aq,gH hi,jS (n:=(i:Int)+1) gq gq];have fin:∀u:fN,u.length<=60->u=(if t[i]<0 then Tm.sig s t[i]else [t[i]])->gz True (if decide (60<((out++u).length:Int))=true then Option.map Sum.inr (some (([]:fN),false))else some (Sum.inl (out++u,(i:Int)+1)))
    (tj (fun q:fN×Int=>∃i:Nat,q.2=i/\i<=t.length/\q.1=sub (Tm.sig s) (t.take i)/\q.1.length<=60) (fun q:fN×Int=>t.length-q.2.toNat) (·=Lc (AD (Tm.sig s) t)) (t.length-i)):=fun u hu e=>by
    obtain⟨h4,h5⟩:=Ji hi h2 e;by_cases h6:60<(out++u).length
    ·simp only[show(60:Int)<((out++u).length:Int) by omega,bl,aO,aV];refine .some ?_;simp only[tj,h4 h6,Lc]
    ·simp only[show ¬(60:Int)<((out++u).length:Int) by omega,bA,av,aI];exact .some ⟨⟨i+1,by simp,gq,h5,by simp only;omega⟩,by simp;omega⟩
   by_cases hn:t[i]<0
   ·have hi24:((-1-t[i]).toNat:Int)= -1-t[i]:=by omega
    simp only[hn,bl,aO,jS (n:= -1-t[i]) gq gq];rw[<-hi24,oU hs hl gq,aa,hi24];have hb:s.getD (-1-t[i]).toNat []=gK s t[i]:=rfl;rw[hb];have hbl:(gK s t[i]).length<=60:=Bg hs;by_cases h0:gK s t[i]=[]
    ·simp only[h0,aO,bJ,show(out.length+1)*8<=140737488355328 by omega,show -1-(-1-t[i])=t[i] by omega];exact fin [t[i]] (by simp) (by rw[ah hn];unfold Tm.sig;rw[ah h0])
    ·simp only[h0,aI,show(out.length+(gK s t[i]).length)*8<=140737488355328 by omega,aO];exact fin (gK s t[i]) hbl (by rw[ah hn];unfold Tm.sig;rw[ay h0])
   ·simp only[hn,bA,av,aI,show(out.length+1)*8<=140737488355328 by omega,aO];exact fin [t[i]] (by simp) (by rw[ay hn])
  ·simp only[show ¬(i:Int)<t.length by omega,bA,av,aI,aV];refine .some ?_;rw[bZ gq]at h2;simp only[tj,AD,<-h2,h3,aO,Lc]
 exact key.eq
abbrev Vw:=Int×Int×Bool×fN
abbrev Q7:=fN×List Vw
abbrev WW:=fN×fN
def W3(eqs:List WW)(t:fN)(m:Vw):Prop:=(0<=m.1/\m.1<eqs.length)/\(0<=m.2.1/\m.2.1<t.length)/\m.2.1<m.2.2.2.length
instance(eqs:List WW)(t:fN)(m:Vw):Decidable (W3 eqs t m):=by unfold W3;infer_instance
def vh(s:Int):List fN->fN
 |[]=>[]
 |u::us=>s::vh (s+u.length) us
theorem oH:∀(us:List fN)(s:Int),(vh s us).length=us.length
 |[],_=>rfl
 |u::us,s=>by simp[vh,oH us]
theorem Al:∀(us:List fN)(s:Int)(j:Nat)(_:j<us.length),vh s (us.take (j+1))=vh s (us.take j)++[s+((us.take j).flatten.length:Int)]
 |[],_,_,h=>by simp at h
 |u::us,s,0,_=>by simp[vh]
 |u::us,s,j+1,h=>by
  simp only[dL,vh];rw[Al us _ j (by simpa using h)];simp;omega
theorem oG:∀(us:List fN)(s:Int)(j:Nat)(_:j<us.length),(vh s us).getD j default=s+((us.take j).flatten.length:Int)
 |[],_,_,h=>by simp at h
 |u::us,s,0,_=>by simp[vh]
 |u::us,s,j+1,h=>by
  simp only[vh,ej,dL];rw[oG us _ j (by simpa using h)];simp;omega
theorem Bx{us:List fN}{j:Nat}(h:j<us.length):(us.take (j+1)).flatten=(us.take j).flatten++us[j]:=by rw[eB,aA h,bM];simp
theorem Tb{x:Int}{us:List fN}{j:Nat}(hj:j<us.length):(x::us.flatten).drop (1+(us.take j).flatten.length)=us[j]++(us.drop (j+1)).flatten:=by
 rw[Nat.add_comm 1,List.drop_succ_cons];have e:us.flatten=(us.take j).flatten++(us[j]++(us.drop (j+1)).flatten):=by
  conv=>lhs;rw[<-bP j us,aH hj]
  rw[bM,aR]
 rw[e,eu]
theorem kg{a:fN}:∀{k:Nat}{r:fN},Wf a k r->∃us:List fN,us.length=k/\r=us.flatten/\∀u∈us,Wf a 1 u
 |0,r,h=>⟨[],rfl,by rw[h.zero];rfl,by simp⟩
 |k+1,r,h=>by
  rw[show k+1=1+k by omega]at h;obtain⟨u,v,rfl,h1,h2⟩:=h.split;obtain⟨us,h3,rfl,h4⟩:=kg h2;exact⟨u::us,by simp[h3],rfl,by simpa using⟨h1,h4⟩⟩
theorem jG{us:List fN}{u:fN}(h:u∈us):u.length<=us.flatten.length:=by
 induction us with
 |nil=>cases h
 |cons v us ih=>
  rw[aR,aj];rcases bw.1 h with rfl|h
  ·omega
  ·have:=ih h;omega
def Bw{α:Type}(p:α->Bool)(xs:List α):Int:=match xs.findIdx? p with|some j=>(j:Int)|none=> -1
theorem GP{α:Type}[Inhabited α]{xs:List α}{p:α->Bool}{f:Int->Option (Int⊕Int)}
 (h:∀(i:Nat)(x:α),i<xs.length->x∈xs->xs.getD i default=x->f (i:Int)=some (if p x=true then .inr (i:Int)else .inl ((i:Int)+1)))
 (he:f xs.length=some (.inr (-1))):gF f 0=some (Bw p xs):=by
 have key:∀(k i:Nat),i+k=xs.length->gF f (i:Int)=some (match(xs.drop i).findIdx? p with|some j=>((i+j:Nat):Int)|none=> -1):=by
  intro k;induction k with
  |zero=>
   intro i hi;obtain rfl:i=xs.length:=by omega
   rw[oN he,eL];rfl
  |succ k ih=>
   intro i hi;have hlt:i<xs.length:=by omega
   have e:=h i _ hlt (aC hlt) (gH hlt);rw[aH hlt,List.findIdx?_cons];cases hp:p (xs[i])with
   |true=>rw[hp]at e;rw[oN e];simp
   |false=>
    rw[hp]at e;rw[qR e,show((i:Int)+1)=((i+1:Nat):Int) by omega,ih (i+1) gq];cases hf:(xs.drop (i+1)).findIdx? p with
    |none=>simp
    |some j=>
     simp only[av,aI,aV];show some (((i+1+j:Nat):Int))=some (((i+(j+1):Nat):Int));rw[show i+1+j=i+(j+1) by omega]
 have:=key xs.length 0 gq;simp only[bO,aX]at this;exact this
theorem EN{α:Type}{p:α->Bool}{xs:List α}(h:∀x∈xs,p x=false):Bw p xs= -1:=by
 unfold Bw;rw[List.findIdx?_eq_none_iff.2 h]
theorem Jj{α:Type}{p:α->Bool}{xs:List α}{x:α}(hx:x∈xs)(hp:p x=true):0<=Bw p xs:=by
 unfold Bw;cases h:xs.findIdx? p with
 |none=>have:=List.findIdx?_eq_none_iff.1 h x hx;rw[hp]at this;cases this
 |some j=>simp only;omega
end Go.Proofs.YthdnkoejpdcnpaaGreat
namespace Go.Proofs.YthdnkoejpdcnpaaGreat
open Go Tm
theorem SF{a:fN}{P:fN->Prop}(hv:∀x,x<0->wD a x->P [x])
 (hf:∀(x:Int)(us:List fN),0<=x->wD a x->us.length=mV a x->(∀u∈us,Wf a 1 u)->(∀u∈us,P u)->P (x::us.flatten)):∀(n:Nat)(t:fN),t.length<=n->Wf a 1 t->P t
 |0,t,hl,h=>by have:=h.len;omega
 |n+1,t,hl,h=>by
  obtain⟨x,r,rfl,ho,hr⟩:=Wf.pos h;rw[aX]at hr;by_cases hx:x<0
  ·have:mV a x=0:=by unfold mV;rw[ah hx]
   rw[this]at hr;have:=hr.zero;subst this;exact hv x hx ho
  ·obtain⟨us,h1,rfl,h2⟩:=kg hr;refine hf x us gq ho h1 h2 fun u hu=>SF hv hf n u ?_ (h2 u hu)
   have:=jG hu;simp only[ai]at hl;omega
def Gr(a r:fN):fN×fN:=match Tm.skip a r 1 with
 |some s=>(r.take (r.length-s.length),s)
 |none=>(r,[])
theorem yV{a u v:fN}(hu:Wf a 1 u):Gr a (u++v)=(u,v):=by
 unfold Gr;rw[hu.skip v];simp
def prt(a:fN):Nat->fN->List fN
 |0,_=>[]
 |k+1,r=>(Gr a r).1::prt a k (Gr a r).2
theorem vY{a:fN}:∀{us:List fN},(∀u∈us,Wf a 1 u)->prt a us.length us.flatten=us
 |[],_=>rfl
 |u::us,h=>by rw[ai,prt,aR,yV (h u (by simp)),vY fun v hv=>h v (by simp[hv])]
def pts(a:fN)(f:Int):Nat->fN->List fN
 |0,t=>[t]
 |_+1,[]=>[[]]
 |n+1,x::r=>if x=f then pts a f n (Gr a r).1++pts a f n (Gr a r).2 else [x::r]
theorem BV{a:fN}{f x:Int}{r:fN}(h:x≠f):∀n,pts a f n (x::r)=[x::r]
 |0=>rfl
 |n+1=>by rw[pts,ay h]
theorem BW{a:fN}{f:Int}{n:Nat}{u v:fN}(hu:Wf a 1 u):pts a f (n+1) (f::(u++v))=pts a f n u++pts a f n v:=by rw[pts,ah rfl,yV hu]
def tg(a ac:fN):Prop:=∀f∈ac,0<=f/\mV a f=2
theorem oI{us:List fN}(h:us.length=2):∃u v,us=[u,v]:=by
 match us,h with
 |[u,v],_=>exact⟨u,v,rfl⟩
theorem zx{a:fN}{f:Int}(h2:mV a f=2):∀(N:Nat){t:fN},t.length<=N->Wf a 1 t->∀n m,t.length<=n->t.length<=m->pts a f n t=pts a f m t
 |0,t,hl,h=>by have:=h.len;omega
 |N+1,t,hl,h=>by
  intro n m hn hm;obtain⟨x,r,rfl,ho,hr⟩:=Wf.pos h;by_cases hx:x=f
  ·subst hx;rw[aX,h2]at hr;obtain⟨us,h1,rfl,h3⟩:=kg hr;obtain⟨u,v,rfl⟩:=oI h1;simp only[aR,bY,bf,ai,aj]at hl hn hm⊢;obtain⟨n,rfl⟩:∃q,n=q+1:=⟨n-1,gq⟩;obtain⟨m,rfl⟩:∃q,m=q+1:=⟨m-1,gq⟩;have hu:=h3 u (by simp);have hv:=h3 v (by simp);rw[BW hu,BW hu,zx h2 N gq hu n m gq gq,zx h2 N gq hv n m gq gq]
  ·rw[BV hx,BV hx]
def parts(a:fN)(f:Int)(t:fN):List fN:=pts a f t.length t
theorem ku{a:fN}{f x:Int}{r:fN}(h:x≠f):parts a f (x::r)=[x::r]:=BV h _
theorem oA{a:fN}{f:Int}(h2:mV a f=2){u v:fN}(hu:Wf a 1 u)(hv:Wf a 1 v):parts a f (f::(u++v))=parts a f u++parts a f v:=by
 unfold parts;rw[ai,BW hu,zx h2 _ (au _) hu _ u.length (by simp) (au _),zx h2 _ (au _) hv _ v.length (by simp) (au _)]
theorem iX{a:fN}{f:Int}(h2:mV a f=2)(h0:0<=f):∀(N:Nat){t:fN},t.length<=N->Wf a 1 t->
 parts a f t≠[]/\(∀u∈parts a f t,Wf a 1 u/\u.headD 0≠f/\u.length<=t.length)/\(parts a f t).length+(parts a f t).flatten.length=t.length+1
 |0,t,hl,h=>by have:=h.len;omega
 |N+1,t,hl,h=>by
  obtain⟨x,r,rfl,ho,hr⟩:=Wf.pos h;by_cases hx:x=f
  ·subst hx;rw[aX,h2]at hr;obtain⟨us,h1,rfl,h3⟩:=kg hr;obtain⟨u,v,rfl⟩:=oI h1;simp only[aR,bY,bf,ai,aj]at hl⊢;have hu:=h3 u (by simp);have hv:=h3 v (by simp);obtain⟨a1,a2,a3⟩:=iX h2 h0 N (t:=u) gq hu;obtain⟨b1,b2,b3⟩:=iX h2 h0 N (t:=v) gq hv;rw[oA h2 hu hv];refine⟨by simp[a1],fun w hw=>?_,by simp only[aj,bM];omega⟩;rcases aM.1 hw with hw|hw
   ·exact⟨(a2 w hw).1,(a2 w hw).2.1,by have:=(a2 w hw).2.2;omega⟩
   ·exact⟨(b2 w hw).1,(b2 w hw).2.1,by have:=(b2 w hw).2.2;omega⟩
  ·rw[ku hx];refine⟨by simp,fun w hw=>?_,by simp;omega⟩;rw[bq]at hw;subst hw;exact⟨h,by simpa using hx,au _⟩
def vK(f:Int):List fN->fN
 |[]=>[]
 |[u]=>u
 |u::v::r=>f::(u++vK f (v::r))
theorem Di{a:fN}{f:Int}(h2:mV a f=2)(hf:wD a f):∀{us:List fN},us≠[]->(∀u∈us,Wf a 1 u)->Wf a 1 (vK f us)
 |[],h,_=>absurd rfl h
 |[u],_,h=>h u (by simp)
 |u::v::r,_,h=>by
  rw[vK,Wf.kE (k:=0),h2];exact⟨hf,Wf.app (k:=1) (j:=1) (h u (by simp)) (Di h2 hf (by simp) fun w hw=>h w (by simp[hw]))⟩
theorem AU{f:Int}:∀{us:List fN},us≠[]->(vK f us).length+1=us.length+us.flatten.length
 |[],h=>absurd rfl h
 |[u],_=>by simp[vK];omega
 |u::v::r,_=>by
  have:=AU (f:=f) (us:=v::r) (by simp);simp only[vK,ai,aj,aR]at this⊢;omega
theorem Aj{a:fN}{f:Int}(h2:mV a f=2)(hf:wD a f):∀{us:List fN},us≠[]->(∀u∈us,Wf a 1 u/\u.headD 0≠f)->parts a f (vK f us)=us
 |[],h,_=>absurd rfl h
 |[u],_,h=>by
  obtain⟨h1,h3⟩:=h u (by simp);obtain⟨x,r,rfl,_⟩:=Wf.pos h1;exact ku (by simpa using h3)
 |u::v::r,_,h=>by
  obtain⟨h1,h3⟩:=h u (by simp);have hw:Wf a 1 (vK f (v::r)):=Di h2 hf (by simp) fun w hw=>(h w (by simp[hw])).1
  rw[vK,oA h2 h1 hw,Aj h2 hf (by simp) fun w hw=>h w (by simp[hw])];obtain⟨x,q,rfl,_⟩:=Wf.pos h1;rw[ku (by simpa using h3)];rfl
theorem nE{a:fN}{f:Int}(h2:mV a f=2)(h0:0<=f){t:fN}(h:Wf a 1 t)(hh:t.headD 0=f):(∀w∈parts a f t,w.length<t.length)/\2<=(parts a f t).length:=by
 obtain⟨x,r,rfl,ho,hr⟩:=Wf.pos h;have hx:x=f:=by simpa using hh
 subst hx;rw[aX,h2]at hr;obtain⟨us,h1,rfl,h3⟩:=kg hr;obtain⟨u,v,rfl⟩:=oI h1;have hu:=h3 u (by simp);have hv:=h3 v (by simp);simp only[aR,bY,bf,ai,aj];obtain⟨a1,a2,_⟩:=iX h2 h0 _ (au _) hu;obtain⟨b1,b2,_⟩:=iX h2 h0 _ (au _) hv;rw[oA h2 hu hv];have l1:0<(parts a x u).length:=bQ.2 a1;have l2:0<(parts a x v).length:=bQ.2 b1;refine⟨fun w hw=>?_,by simp only[aj];omega⟩;rcases aM.1 hw with hw|hw
 ·have:=(a2 w hw).2.2;omega
 ·have:=(b2 w hw).2.2;omega
def Lf(a ac:fN):Nat->fN->fN
 |0,t=>t
 |_+1,[]=>[]
 |n+1,x::r=>if x∈ac then vK x (jt ((parts a x (x::r)).map (Lf a ac n)))else x::((prt a (mV a x) r).map (Lf a ac n)).flatten
theorem za{a ac:fN}(hac:tg a ac):∀(N:Nat){t:fN},t.length<=N->Wf a 1 t->∀n m,t.length<=n->t.length<=m->Lf a ac n t=Lf a ac m t
 |0,t,hl,h=>by have:=h.len;omega
 |N+1,t,hl,h=>by
  intro n m hn hm;obtain⟨x,r,rfl,ho,hr⟩:=Wf.pos h;rw[aX]at hr;obtain⟨n,rfl⟩:∃q,n=q+1:=⟨n-1,by simp only[ai]at hn;omega⟩;obtain⟨m,rfl⟩:∃q,m=q+1:=⟨m-1,by simp only[ai]at hm;omega⟩;by_cases hx:x∈ac
  ·obtain⟨h0,h2⟩:=hac x hx;rw[Lf,Lf,ah hx,ah hx];congr 2;refine bW fun w hw=>?_
   have h4:=(iX h2 h0 _ (au _) h).2.1 w hw;have h5:=(nE h2 h0 h rfl).1 w hw;exact za hac N gq h4.1 n m gq gq
  ·rw[Lf,Lf,ay hx,ay hx];obtain⟨us,h1,rfl,h3⟩:=kg hr;congr 2;rw[<-h1,vY h3];refine bW fun w hw=>?_
   have:=jG hw;simp only[ai]at hl hn hm;exact za hac N gq (h3 w hw) n m gq gq
def form(a ac t:fN):fN:=Lf a ac t.length t
section
variable{a ac:fN}(hac:tg a ac)
include hac
theorem rN{x:Int}{r:fN}(hx:x∈ac)(h:Wf a 1 (x::r)):form a ac (x::r)=vK x (jt ((parts a x (x::r)).map (form a ac))):=by
 obtain⟨h0,h2⟩:=hac x hx;rw[form,ai,Lf,ah hx];congr 2;refine bW fun w hw=>?_
 have h4:=(iX h2 h0 _ (au _) h).2.1 w hw;have h5:=(nE h2 h0 h rfl).1 w hw;simp only[ai]at h5;exact za hac _ (au _) h4.1 _ _ gq (au _)
theorem rO{x:Int}{us:List fN}(hx:x∉ac)(hl:us.length=mV a x)(h:∀u∈us,Wf a 1 u):form a ac (x::us.flatten)=x::(us.map (form a ac)).flatten:=by
 rw[form,ai,Lf,ay hx,<-hl,vY h];congr 2;refine bW fun w hw=>?_
 have:=jG hw;exact za hac _ (au _) (h w hw) _ _ gq (au _)
end
theorem pR{l:List fN}{g:fN->fN}(h:∀u∈l,(g u).length=u.length):(l.map g).flatten.length=l.flatten.length:=by
 induction l with
 |nil=>rfl
 |cons u l ih=>simp only[aZ,aR,aj,h u (by simp),ih fun v hv=>h v (by simp[hv])]
theorem zL{a:fN}:∀{us:List fN},(∀u∈us,Wf a 1 u)->Wf a us.length us.flatten
 |[],_=>Wf.nil
 |u::us,h=>by
  rw[ai,aR,Nat.add_comm];exact Wf.app (h u (by simp)) (zL fun v hv=>h v (by simp[hv]))
theorem vk{l:List fN}:(jt l).flatten.length=l.flatten.length:=by
 have:=(iK l).flatten.length_eq;exact this
theorem jR{a ac:fN}(hac:tg a ac):∀(N:Nat){t:fN},t.length<=N->Wf a 1 t->Wf a 1 (form a ac t)/\(form a ac t).length=t.length/\(form a ac t).headD 0=t.headD 0
 |0,t,hl,h=>by have:=h.len;omega
 |N+1,t,hl,h=>by
  obtain⟨x,r,rfl,ho,hr⟩:=Wf.pos h;rw[aX]at hr;by_cases hx:x∈ac
  ·obtain⟨h0,h2⟩:=hac x hx;obtain⟨p1,p2,p3⟩:=iX h2 h0 _ (au _) h;obtain⟨q1,q2⟩:=nE h2 h0 h rfl;have ih:∀w∈parts a x (x::r),Wf a 1 (form a ac w)/\(form a ac w).length=w.length/\(form a ac w).headD 0=w.headD 0:=fun w hw=>
    jR hac N (by have:=q1 w hw;omega) (p2 w hw).1
   rw[rN hac hx h];have hs:∀u∈jt ((parts a x (x::r)).map (form a ac)),Wf a 1 u:=fun u hu=>by
    obtain⟨w,hw,rfl⟩:=aY.1 ((iK _).mem_iff.1 hu);exact(ih w hw).1
   have hl2:(jt ((parts a x (x::r)).map (form a ac))).length=(parts a x (x::r)).length:=by rw[qZ,aK]
   have hne:jt ((parts a x (x::r)).map (form a ac))≠[]:=by intro e;rw[e]at hl2;simp at hl2;omega
   refine⟨Di h2 ho hne hs,?_,?_⟩
   ·have:=AU (f:=x) hne;rw[vk,hl2,pR fun u hu=>(ih u hu).2.1]at this;omega
   ·revert hl2;generalize jt ((parts a x (x::r)).map (form a ac))=l;intro hl2
    match l,hl2 with
    |[],e=>simp at e;omega
    |[_],e=>simp at e;omega
    |_::_::_,_=>rfl
  ·obtain⟨us,h1,rfl,h3⟩:=kg hr;rw[rO hac hx h1 h3];have ih:∀w∈us,Wf a 1 (form a ac w)/\(form a ac w).length=w.length/\(form a ac w).headD 0=w.headD 0:=fun w hw=>
    jR hac N (by have:=jG hw;simp only[ai]at hl;omega) (h3 w hw)
   refine⟨?_,?_,rfl⟩
   ·rw[Wf.kE (k:=0),aX];refine⟨ho,?_⟩;have:=zL (us:=us.map (form a ac)) fun u hu=>by
     obtain⟨w,hw,rfl⟩:=aY.1 hu;exact(ih w hw).1
    rwa [aK,h1]at this
   ·simp only[ai];rw[pR fun u hu=>(ih u hu).2.1]
theorem sB{a ac:fN}(hac:tg a ac){x:Int}{r:fN}(hx:x∈ac)(h:Wf a 1 (x::r)):parts a x (form a ac (x::r))=jt ((parts a x (x::r)).map (form a ac)):=by
 obtain⟨h0,h2⟩:=hac x hx;have ho:=(Wf.kE (k:=0).1 h).1;obtain⟨p1,p2,p3⟩:=iX h2 h0 _ (au _) h;rw[rN hac hx h];refine Aj h2 ho ?_ fun u hu=>?_
 ·intro e;have:=qZ (xs:=(parts a x (x::r)).map (form a ac));rw[e,aK]at this;exact p1 (bV this.symm)
 ·obtain⟨w,hw,rfl⟩:=aY.1 ((iK _).mem_iff.1 hu);have:=jR hac _ (au _) (p2 w hw).1;exact⟨this.1,by rw[this.2.2];exact(p2 w hw).2.1⟩
theorem yD{l:List fN}(h:l.Pairwise fun a b=>kX a b<=0):jt l=l:=mE (iK _) (jo _) h
theorem xN{a ac:fN}(hac:tg a ac):∀(N:Nat){t:fN},t.length<=N->Wf a 1 t->form a ac (form a ac t)=form a ac t
 |0,t,hl,h=>by have:=h.len;omega
 |N+1,t,hl,h=>by
  obtain⟨x,r,rfl,ho,hr⟩:=Wf.pos h;rw[aX]at hr;by_cases hx:x∈ac
  ·obtain⟨h0,h2⟩:=hac x hx;obtain⟨p1,p2,p3⟩:=iX h2 h0 _ (au _) h;obtain⟨q1,q2⟩:=nE h2 h0 h rfl;obtain⟨f1,f2,f3⟩:=jR hac _ (au _) h;obtain⟨y,q,e,_⟩:=Wf.pos f1;have hy:y=x:=by rw[e]at f3;simpa using f3
   subst hy;have hp:=sB hac hx h;rw[e]at f1 hp⊢;rw[rN hac hx f1,hp,<-e,rN hac hx h];congr 1;have:(jt ((parts a y (y::r)).map (form a ac))).map (form a ac)=jt ((parts a y (y::r)).map (form a ac)):=by
    refine(bW fun w hw=>?_).trans (List.map_id _);obtain⟨v,hv,rfl⟩:=aY.1 ((iK _).mem_iff.1 hw);exact xN hac N (by have:=q1 v hv;omega) (p2 v hv).1
   rw[this,yD (jo _)]
  ·obtain⟨us,h1,rfl,h3⟩:=kg hr;rw[rO hac hx h1 h3];have hw:∀u∈us.map (form a ac),Wf a 1 u:=fun u hu=>by
    obtain⟨w,hw,rfl⟩:=aY.1 hu;exact(jR hac _ (au _) (h3 w hw)).1
   rw[rO hac hx (by rw[aK,h1]) hw,c_];congr 2;refine bW fun w hw=>?_
   exact xN hac N (by have:=jG hw;simp only[ai]at hl;omega) (h3 w hw)
def Sf(a ac u:fN):Prop:=Wf a 1 u/\form a ac u=u
theorem Sf.ne{a ac u:fN}(h:Sf a ac u):u≠[]:=h.1.ne
theorem rT{a ac t:fN}(hac:tg a ac)(h:Wf a 1 t):Sf a ac (form a ac t):=⟨(jR hac _ (au _) h).1,xN hac _ (au _) h⟩
theorem sY{l:List fN}{g:fN->fN}(h:∀u∈l,g u=u):l.map g=l:=(bW h).trans (List.map_id _)
theorem pM{a ac:fN}(hac:tg a ac){f:Int}(hf:f∈ac){u:fN}(h:Sf a ac u):
 (∀w∈parts a f u,Sf a ac w/\w.headD 0≠f)/\(parts a f u).Pairwise (fun a b=>kX a b<=0)/\parts a f u≠[]/\vK f (parts a f u)=u:=by
 obtain⟨h0,h2⟩:=hac f hf;obtain⟨hw,he⟩:=h;obtain⟨x,r,rfl,ho,hr⟩:=Wf.pos hw;by_cases hx:x=f
 ·subst hx;have hp:=sB hac hf hw;rw[he]at hp;obtain⟨p1,p2,_⟩:=iX h2 h0 _ (au _) hw;refine⟨fun w hq=>⟨?_,(p2 w hq).2.1⟩,by rw[hp];exact jo _,p1,?_⟩
  ·rw[hp]at hq;obtain⟨v,hv,rfl⟩:=aY.1 ((iK _).mem_iff.1 hq);exact rT hac (p2 v hv).1
  ·rw[hp,<-rN hac hf hw,he]
 ·rw[ku hx];refine⟨fun w hq=>?_,by simp,by simp,rfl⟩;rw[bq]at hq;subst hq;exact⟨⟨hw,he⟩,by simpa using hx⟩
theorem Su{a ac:fN}(hac:tg a ac){f:Int}(hf:f∈ac)(ho:wD a f){S:List fN}(hne:S≠[])(hs:S.Pairwise fun a b=>kX a b<=0)(h:∀w∈S,Sf a ac w/\w.headD 0≠f):
 Sf a ac (vK f S)/\parts a f (vK f S)=S:=by
 obtain⟨h0,h2⟩:=hac f hf;have hp:=Aj h2 ho hne fun w hw=>⟨(h w hw).1.1,(h w hw).2⟩
 have hw:=Di h2 ho hne fun w hw=>(h w hw).1.1
 refine⟨⟨hw,?_⟩,hp⟩
 match S,hne,hp,hw,h with
 |[u],_,_,_,h=>exact(h u (by simp)).1.2
 |u::v::r,_,hp,hw,h=>
  rw[vK]at hp hw⊢;rw[rN hac hf hw,hp,sY fun w hq=>(h w hq).1.2,yD hs,vK]
theorem sub_one{σ:Int->fN}{x:Int}(hx:x<0):Tm.sub σ [x]=σ x:=by rw[tf,ah hx,Pa,bf]
theorem pT{σ:Int->fN}{x:Int}{r:fN}(hx:¬x<0):Tm.sub σ (x::r)=x::Tm.sub σ r:=by rw[tf,ay hx];rfl
theorem zG{σ:Int->fN}:∀us:List fN,Tm.sub σ us.flatten=(us.map (Tm.sub σ)).flatten
 |[]=>rfl
 |u::us=>by rw[aR,A5,zG us];rfl
theorem t_{a:fN}{f:Int}(h2:mV a f=2)(h0:0<=f){σ:Int->fN}:∀(N:Nat){p:fN},p.length<=N->Wf a 1 p->(∀x∈p,x<0->Wf a 1 (σ x))->
 parts a f (Tm.sub σ p)=(parts a f p).flatMap fun q=>parts a f (Tm.sub σ q)
 |0,p,hl,h,_=>by have:=h.len;omega
 |N+1,p,hl,h,hσ=>by
  obtain⟨x,r,rfl,ho,hr⟩:=Wf.pos h;by_cases hx:x=f
  ·subst hx;rw[aX,h2]at hr;obtain⟨us,h1,rfl,h3⟩:=kg hr;obtain⟨u,v,rfl⟩:=oI h1;have hu:=h3 u (by simp);have hv:=h3 v (by simp);simp only[aR,bY,bf,ai,aj]at hl hσ⊢;have su:∀y∈u,y<0->Wf a 1 (σ y):=fun y hy=>hσ y (by simp[hy])
   have sv:∀y∈v,y<0->Wf a 1 (σ y):=fun y hy=>hσ y (by simp[hy])
   rw[pT gq,A5,oA h2 (hu.sub su) (hv.sub sv),oA h2 hu hv,List.flatMap_append,t_ h2 h0 N gq hu su,t_ h2 h0 N gq hv sv]
  ·rw[ku hx,bH,eH,bf]
theorem F3{g g':Bd}(hl:g.length=g'.length)(h:∀x:Int,x<0->gK g x=gK g' x):g=g':=by
 refine dn hl fun i h1 h2=>?_
 have:=h (-1-(i:Int)) gq;unfold gK at this;rw[show(-1-(-1-(i:Int))).toNat=i by omega]at this;simpa[ak,h1,h2]using this
theorem yS{g:Bd}{x:Int}{u:fN}:(gC g x u).length=g.length:=by simp[gC]
def yK(a ac:fN)(g:Bd):Prop:=g.length=24/\∀x,x<0->gK g x≠[]->Sf a ac (gK g x)
structure Ext(a ac:fN)(g g':Bd)(vs:fN):Prop where
 len:g'.length=g.length
 keep:∀x,x<0->gK g x≠[]->gK g' x=gK g x
 out:∀x,x<0->x∉vs->gK g' x=gK g x
 sf:∀x∈vs,x<0->Sf a ac (gK g' x)
theorem Ext.ok{a ac:fN}{g g':Bd}{vs:fN}(h:Ext a ac g g' vs)(hg:yK a ac g):yK a ac g':=
 ⟨h.len.trans hg.1,fun x hx hn=>by
  by_cases hv:x∈vs
  ·exact h.sf x hv hx
  ·rw[h.out x hx hv]at hn⊢;exact hg.2 x hx hn⟩
theorem Ext.wf{a ac:fN}{g g':Bd}{vs:fN}(h:Ext a ac g g' vs):∀x∈vs,x<0->Wf a 1 (gK g' x):=fun x hv hx=>(h.sf x hv hx).1
theorem Ext.mem{a ac:fN}{g g':Bd}{vs ws:fN}(h:Ext a ac g g' vs)(hm:∀x,x<0->(x∈vs<->x∈ws)):Ext a ac g g' ws:=
 ⟨h.len,h.keep,fun x hx hv=>h.out x hx fun hw=>hv ((hm x hx).1 hw),fun x hv hx=>h.sf x ((hm x hx).2 hv) hx⟩
def JN(g g'':Bd)(vs:fN):Bd:=(List.range g.length).map fun i:Nat=>if(-1-(i:Int))∈vs then g''.getD i []else g.getD i []
theorem Mj{g g'':Bd}(hl:g''.length=g.length){vs:fN}{x:Int}(hx:x<0):gK (JN g g'' vs) x=if x∈vs then gK g'' x else gK g x:=by
 unfold gK JN;by_cases hi:(-1-x).toNat<g.length
 ·rw[ak,bk,dm hi];simp only[aV,Option.getD_some];rw[show(-1-(((-1-x).toNat:Nat):Int))=x by omega]
 ·have e:∀b:Bd,b.length=g.length->b.getD (-1-x).toNat []=[]:=fun b hb=>by rw[ak,bz gq];rfl
  rw[e _ (by simp),e _ hl,e _ rfl];split<;>rfl
theorem Ext.split{a ac:fN}{g g'':Bd}{vs ws:fN}(hg:yK a ac g):Ext a ac g g'' (vs++ws)<->∃g',Ext a ac g g' vs/\Ext a ac g' g'' ws:=by
 constructor
 ·intro h;have e:∀x,x<0->gK (JN g g'' vs) x=if x∈vs then gK g'' x else gK g x:=fun x hx=>Mj h.len hx
  have l:(JN g g'' vs).length=g.length:=by simp[JN]
  refine⟨JN g g'' vs,⟨l,fun x hx hn=>?_,fun x hx hv=>by rw[e x hx,ay hv],fun x hv hx=>?_⟩,⟨h.len.trans l.symm,fun x hx hn=>?_,fun x hx hv=>?_,fun x hv hx=>h.sf x (cV _ hv) hx⟩⟩
  ·rw[e x hx];split
   ·exact h.keep x hx hn
   ·rfl
  ·rw[e x hx,ah hv];exact h.sf x (bF _ hv) hx
  ·rw[e x hx]at hn⊢;by_cases hv:x∈vs
   ·rw[ah hv]
   ·rw[ay hv]at hn⊢;exact h.keep x hx hn
  ·rw[e x hx];by_cases hv2:x∈vs
   ·rw[ah hv2]
   ·rw[ay hv2];exact h.out x hx (by simp[hv,hv2])
 ·rintro⟨g',h1,h2⟩;refine⟨h2.len.trans h1.len,fun x hx hn=>?_,fun x hx hv=>?_,fun x hv hx=>?_⟩
  ·rw[h2.keep x hx (by rw[h1.keep x hx hn];exact hn),h1.keep x hx hn]
  ·rw[h2.out x hx fun h=>hv (cV _ h),h1.out x hx fun h=>hv (bF _ h)]
  ·by_cases hw:x∈ws
   ·exact h2.sf x hw hx
   ·have hv':x∈vs:=(aM.1 hv).resolve_right hw;rw[h2.out x hx hw];exact h1.sf x hv' hx
theorem Ext.nil{a ac:fN}{g g':Bd}:Ext a ac g g' []<->g'=g:=by
 constructor
 ·intro h;exact F3 h.len fun x hx=>h.out x hx (by simp)
 ·rintro rfl;exact⟨rfl,fun _ _ _=>rfl,fun _ _ _=>rfl,fun x hv=>by cases hv⟩
theorem Ext.same{a ac:fN}{g g' g'':Bd}{vs ws:fN}(h1:Ext a ac g g' vs)(h2:Ext a ac g' g'' ws){p:fN}(hp:∀x∈p,x<0->x∈vs):Tm.sub (gK g'') p=Tm.sub (gK g') p:=
 sub_congr fun x hx h0=>h2.keep x h0 (h1.sf x (hp x hx h0) h0).ne
def RM(a ac p t:fN)(g g':Bd):Prop:=Ext a ac g g' p/\form a ac (Tm.sub (gK g') p)=t
def RA(a ac:fN)(ps ts:List fN)(g g':Bd):Prop:=Ext a ac g g' ps.flatten/\ps.map (fun p=>form a ac (Tm.sub (gK g') p))=ts
def RS(a ac:fN)(f:Int)(ps ts:List fN)(g g':Bd):Prop:=Ext a ac g g' ps.flatten/\((ps.flatMap fun q=>parts a f (Tm.sub (gK g') q)).map (form a ac)).Perm ts
section
variable{a ac:fN}(hac:tg a ac)
include hac
theorem xM{g g':Bd}(hg:yK a ac g){x:Int}(hx:x<0)(h24: -24<=x):Ext a ac g g' [x]<->(gK g x=[]/\∃u,Sf a ac u/\g'=gC g x u)\/(gK g x≠[]/\g'=g):=by
 have hb:∀u m,m<0->gK (gC g x u) m=if m=x then u else gK g m:=fun u m hm=>oL hx (by rw[hg.1];omega) hm
 constructor
 ·intro h;by_cases he:gK g x=[]
  ·refine .inl ⟨he,gK g' x,h.sf x (by simp) hx,F3 (by rw[yS];exact h.len) fun m hm=>?_⟩;rw[hb _ m hm];split
   ·rename_i e;rw[e]
   ·rename_i e;exact h.out m hm (by simpa using e)
  ·refine .inr ⟨he,F3 h.len fun m hm=>?_⟩;by_cases e:m=x
   ·rw[e];exact h.keep x hx he
   ·exact h.out m hm (by simpa using e)
 ·rintro(⟨he,u,hu,rfl⟩|⟨he,rfl⟩)
  ·refine⟨yS,fun m hm hn=>?_,fun m hm hv=>?_,fun m hv hm=>?_⟩
   ·rw[hb _ m hm,ay (fun e=>hn (by rw[e];exact he))]
   ·rw[hb _ m hm,ay (by simpa using hv)]
   ·rw[hb _ m hm,ah (by simpa using hv)];exact hu
  ·exact⟨rfl,fun _ _ _=>rfl,fun _ _ _=>rfl,fun m hv hm=>by
    have:m=x:=by simpa using hv
    subst this;exact hg.2 m hm he⟩
theorem vB{g g':Bd}(hg:yK a ac g){x:Int}(hx:x<0)(h24: -24<=x){t:fN}(ht:Sf a ac t)(he:gK g x=[]):RM a ac [x] t g g'<->g'=gC g x t:=by
 have hb:∀u,gK (gC g x u) x=u:=fun u=>by rw[oL hx (by rw[hg.1];omega) hx,ah rfl]
 unfold RM;rw[xM hac hg hx h24,sub_one hx];constructor
 ·rintro⟨⟨_,u,hu,rfl⟩|⟨h,_⟩,h2⟩
  ·rw[hb,hu.2]at h2;rw[h2]
  ·exact absurd he h
 ·rintro rfl;exact⟨.inl ⟨he,t,ht,rfl⟩,by rw[hb,ht.2]⟩
theorem yB{g g':Bd}(hg:yK a ac g){x:Int}(hx:x<0)(h24: -24<=x){t:fN}(he:gK g x≠[]):RM a ac [x] t g g'<->gK g x=t/\g'=g:=by
 unfold RM;rw[xM hac hg hx h24,sub_one hx];constructor
 ·rintro⟨⟨h,_⟩|⟨_,rfl⟩,h2⟩
  ·exact absurd h he
  ·rw[(hg.2 x hx he).2]at h2;exact⟨h2,rfl⟩
 ·rintro⟨h2,rfl⟩;exact⟨.inr ⟨he,rfl⟩,by rw[(hg.2 x hx he).2];exact h2⟩
end
theorem By{a:fN}{us vs:List fN}(hl:us.length=vs.length)(hu:∀u∈us,Wf a 1 u)(hv:∀u∈vs,Wf a 1 u)(h:us.flatten=vs.flatten):us=vs:=by rw[<-vY hu,<-vY hv,h,hl]
theorem sC{a:fN}{f:Int}(h2:mV a f=2)(h0:0<=f):∀(N:Nat){p:fN},p.length<=N->Wf a 1 p->∀x:Int,x<0->(x∈p<->x∈(parts a f p).flatten)
 |0,p,hl,h=>by have:=h.len;omega
 |N+1,p,hl,h=>by
  intro z hz;obtain⟨x,r,rfl,ho,hr⟩:=Wf.pos h;by_cases hx:x=f
  ·subst hx;rw[aX,h2]at hr;obtain⟨us,h1,rfl,h3⟩:=kg hr;obtain⟨u,v,rfl⟩:=oI h1;have hu:=h3 u (by simp);have hv:=h3 v (by simp);simp only[aR,bY,bf,ai,aj]at hl⊢;rw[oA h2 hu hv,bM,aM,bw,aM,sC h2 h0 N gq hu z hz,sC h2 h0 N gq hv z hz];constructor
   ·rintro(h|h)
    ·omega
    ·exact h
   ·exact .inr
  ·rw[ku hx];simp
theorem Me{a:fN}{f:Int}(h2:mV a f=2)(h0:0<=f){p:fN}(h:Wf a 1 p):∀u∈parts a f p,Wf a 1 u/\u.headD 0≠f:=fun u hu=>
 ⟨((iX h2 h0 _ (au _) h).2.1 u hu).1,((iX h2 h0 _ (au _) h).2.1 u hu).2.1⟩
section
variable{a ac:fN}(hac:tg a ac)
include hac
theorem Im{y:Int}{r t:fN}{g g':Bd}(hp:Wf a 1 (y::r))(hy:0<=y)(h:RM a ac (y::r) t g g'):t.headD 0=y:=by
 have hw:Wf a 1 (Tm.sub (gK g') (y::r)):=hp.sub h.1.wf;rw[<-h.2,(jR hac _ (au _) hw).2.2,pT gq];rfl
theorem Mo{x:Int}{ps ts:List fN}{g g':Bd}(hx:x∉ac)(h0:0<=x)(hl:ps.length=mV a x)(hp:∀p∈ps,Wf a 1 p)(hl':ts.length=mV a x)(ht:∀t∈ts,Wf a 1 t):
 RM a ac (x::ps.flatten) (x::ts.flatten) g g'<->RA a ac ps ts g g':=by
 have hm:∀z:Int,z<0->(z∈x::ps.flatten<->z∈ps.flatten):=fun z hz=>by rw[bw];exact⟨fun h=>h.resolve_left gq,.inr⟩
 have key:Ext a ac g g' ps.flatten->form a ac (Tm.sub (gK g') (x::ps.flatten))=x::(ps.map fun p=>form a ac (Tm.sub (gK g') p)).flatten/\∀u∈ps.map (fun p=>form a ac (Tm.sub (gK g') p)),Wf a 1 u:=fun h=>by
  have hs:∀p∈ps,Wf a 1 (Tm.sub (gK g') p):=fun p hq=>(hp p hq).sub fun z hz h0=>h.wf z (bX.2 ⟨p,hq,hz⟩) h0
  refine⟨?_,fun u hu=>?_⟩
  ·rw[pT gq,zG,rO hac hx (by rw[aK,hl]) fun u hu=>?_,c_]
   ·rfl
   ·obtain⟨p,hq,rfl⟩:=aY.1 hu;exact hs p hq
  ·obtain⟨p,hq,rfl⟩:=aY.1 hu;exact(jR hac _ (au _) (hs p hq)).1
 constructor
 ·rintro⟨h1,h2⟩;have h1:=h1.mem hm;obtain⟨k1,k2⟩:=key h1;rw[k1]at h2;exact⟨h1,By (by rw[aK,hl,hl']) k2 ht (by simpa using h2)⟩
 ·rintro⟨h1,h2⟩;obtain⟨k1,k2⟩:=key h1;exact⟨h1.mem fun z hz=>(hm z hz).symm,by rw[k1,h2]⟩
theorem Mn{x:Int}{r t:fN}{g g':Bd}(hx:x∈ac)(hp:Wf a 1 (x::r))(ht:Sf a ac t)(hh:t.headD 0=x):RM a ac (x::r) t g g'<->RS a ac x (parts a x (x::r)) (parts a x t) g g':=by
 obtain⟨h0,h2⟩:=hac x hx;have hm:=sC h2 h0 _ (au _) hp;obtain⟨s1,s2,s3,s4⟩:=pM hac hx ht;have key:Ext a ac g g' (x::r)->(form a ac (Tm.sub (gK g') (x::r))=t<->(((parts a x (x::r)).flatMap fun q=>parts a x (Tm.sub (gK g') q)).map (form a ac)).Perm (parts a x t)):=fun h=>by
  have hw:Wf a 1 (Tm.sub (gK g') (x::r)):=hp.sub h.wf;have e:=t_ h2 h0 _ (au _) hp h.wf;rw[pT gq]at hw e⊢;have hf:=sB hac hx hw;rw[<-e];constructor
  ·intro h3;rw[h3]at hf;rw[hf];exact(iK _).symm
  ·intro h3;have h4:jt ((parts a x (x::Tm.sub (gK g') r)).map (form a ac))=parts a x t:=mE ((iK _).trans h3) (jo _) s2;rw[rN hac hx hw,h4,s4]
 constructor
 ·rintro⟨h1,h3⟩;exact⟨h1.mem hm,(key h1).1 h3⟩
 ·rintro⟨h1,h3⟩;have h1':=h1.mem fun z hz=>(hm z hz).symm
  exact⟨h1',(key h1').2 h3⟩
theorem G6{ts:List fN}{g g':Bd}:RA a ac [] ts g g'<->ts=[]/\g'=g:=by
 unfold RA;rw[bY,Ext.nil,dx];exact⟨fun h=>⟨h.2.symm,h.1⟩,fun h=>⟨h.2,h.1.symm⟩⟩
theorem Ik{p t:fN}{ps ts:List fN}{g g'':Bd}(hg:yK a ac g):RA a ac (p::ps) (t::ts) g g''<->∃g',RM a ac p t g g'/\RA a ac ps ts g' g'':=by
 unfold RA RM;rw[aR,Ext.split hg];constructor
 ·rintro⟨⟨g',h1,h2⟩,h3⟩;simp only[aZ,ef]at h3;rw[h1.same h2 fun x hx _=>hx]at h3;exact⟨g',⟨h1,h3.1⟩,h2,h3.2⟩
 ·rintro⟨g',⟨h1,h3⟩,h2,h4⟩;refine⟨⟨g',h1,h2⟩,?_⟩;simp only[aZ,ef];rw[h1.same h2 fun x hx _=>hx];exact⟨h3,h4⟩
theorem BZ{f:Int}{ts:List fN}{g g':Bd}:RS a ac f [] ts g g'<->ts=[]/\g'=g:=by
 unfold RS;rw[bY,Ext.nil,eH,dx,List.nil_perm];exact⟨fun h=>⟨h.2,h.1⟩,fun h=>⟨h.2,h.1⟩⟩
theorem qA{f:Int}{ps ps' ts ts':List fN}{g g':Bd}(hp:ps.Perm ps')(ht:ts.Perm ts')(h:RS a ac f ps ts g g'):RS a ac f ps' ts' g g':=
 ⟨h.1.mem fun x _=>hp.flatten.mem_iff,(((hp.flatMap_right _).map _).symm.trans h.2).trans ht⟩
theorem DU{f:Int}{p:fN}{ps ts:List fN}{g g'':Bd}(hg:yK a ac g):
 RS a ac f (p::ps) ts g g''<->∃g',Ext a ac g g' p/\∃rest,((parts a f (Tm.sub (gK g') p)).map (form a ac)++rest).Perm ts/\RS a ac f ps rest g' g'':=by
 unfold RS;rw[aR,Ext.split hg];constructor
 ·rintro⟨⟨g',h1,h2⟩,h3⟩;rw[bH,aS,h1.same h2 fun x hx _=>hx]at h3;exact⟨g',h1,_,h3,h2,.refl _⟩
 ·rintro⟨g',h1,rest,h3,h2,h4⟩;refine⟨⟨g',h1,h2⟩,?_⟩;rw[bH,aS,h1.same h2 fun x hx _=>hx];exact(h4.append_left _).trans h3
theorem Am{f y:Int}{r:fN}{ps ts:List fN}{g g'':Bd}(hg:yK a ac g)(hy:0<=y)(hf:y≠f):
 RS a ac f ((y::r)::ps) ts g g''<->∃t∈ts,∃g',RM a ac (y::r) t g g'/\RS a ac f ps (ts.erase t) g' g'':=by
 rw[DU hac hg];have e:∀g':Bd,parts a f (Tm.sub (gK g') (y::r))=[Tm.sub (gK g') (y::r)]:=fun g'=>by rw[pT gq];exact ku hf
 constructor
 ·rintro⟨g',h1,rest,h3,h4⟩;rw[e]at h3;refine⟨form a ac (Tm.sub (gK g') (y::r)),h3.mem_iff.1 (by simp),g',⟨h1,rfl⟩,qA hac (.refl _) ?_ h4⟩;have h5:=(de (h3.mem_iff.1 (show form a ac (Tm.sub (gK g') (y::r))∈_ by simp)));exact(eX _).1 (h3.trans h5)
 ·rintro⟨t,ht,g',⟨h1,rfl⟩,h4⟩;exact⟨g',h1,_,by rw[e];exact(de ht).symm,h4⟩
theorem B0{f x:Int}{ps ts:List fN}{g g'':Bd}(hf:f∈ac)(hg:yK a ac g)(hx:x<0)(h24: -24<=x)(he:gK g x=[]):
 RS a ac f ([x]::ps) ts g g''<->∃u,Sf a ac u/\∃rest,(parts a f u++rest).Perm ts/\RS a ac f ps rest (gC g x u) g'':=by
 have hb:∀u,gK (gC g x u) x=u:=fun u=>by rw[oL hx (by rw[hg.1];omega) hx,ah rfl]
 rw[DU hac hg];constructor
 ·rintro⟨g',h1,rest,h3,h4⟩;rcases(xM hac hg hx h24).1 h1 with⟨_,u,hu,rfl⟩|⟨h,_⟩
  ·rw[sub_one hx,hb,sY fun w hw=>((pM hac hf hu).1 w hw).1.2]at h3;exact⟨u,hu,rest,h3,h4⟩
  ·exact absurd he h
 ·rintro⟨u,hu,rest,h3,h4⟩;refine⟨_,(xM hac hg hx h24).2 (.inl ⟨he,u,hu,rfl⟩),rest,?_,h4⟩;rw[sub_one hx,hb,sY fun w hw=>((pM hac hf hu).1 w hw).1.2];exact h3
theorem DV{f x:Int}{ps ts:List fN}{g g'':Bd}(hf:f∈ac)(hg:yK a ac g)(hx:x<0)(h24: -24<=x)(he:gK g x≠[]):
 RS a ac f ([x]::ps) ts g g''<->∃rest,(parts a f (gK g x)++rest).Perm ts/\RS a ac f ps rest g g'':=by
 have hu:=hg.2 x hx he;rw[DU hac hg];constructor
 ·rintro⟨g',h1,rest,h3,h4⟩;rcases(xM hac hg hx h24).1 h1 with⟨h,_⟩|⟨_,rfl⟩
  ·exact absurd h he
  ·rw[sub_one hx,sY fun w hw=>((pM hac hf hu).1 w hw).1.2]at h3;exact⟨rest,h3,h4⟩
 ·rintro⟨rest,h3,h4⟩;refine⟨g,(xM hac hg hx h24).2 (.inr ⟨he,rfl⟩),rest,?_,h4⟩;rw[sub_one hx,sY fun w hw=>((pM hac hf hu).1 w hw).1.2];exact h3
theorem Mr{f:Int}(hf:f∈ac){g':Bd}:∀{ps ts:List fN}{g:Bd},(∀p∈ps,Wf a 1 p)->RS a ac f ps ts g g'->ps.length<=ts.length:=fun{ps ts g} hp h=>by
 rw[<-h.2.length_eq,aK];obtain⟨h0,h2⟩:=hac f hf;have:∀qs:List fN,(∀q∈qs,q∈ps)->qs.length<=(qs.flatMap fun q=>parts a f (Tm.sub (gK g') q)).length:=fun qs=>by
  induction qs with
  |nil=>intro _;simp
  |cons q qs ih=>
   intro hq;rw[bH,aj,ai];have h1:=ih fun r hr=>hq r (by simp[hr])
   have hw:Wf a 1 (Tm.sub (gK g') q):=(hp q (hq q (by simp))).sub fun z hz h0=>h.1.wf z (bX.2 ⟨q,hq q (by simp),hz⟩) h0
   have h3:=bQ.2 (iX h2 h0 _ (au _) hw).1;omega
 exact this ps fun q h=>h
end
end Go.Proofs.YthdnkoejpdcnpaaGreat
namespace Go.Proofs.YthdnkoejpdcnpaaGreat
open Go kJ Tm
theorem mG{t r:fN}{x:Int}{us:List fN}{i j:Nat}(ht:t.drop i=(x::us.flatten)++r)(hj:j<us.length):
 t.drop (i+1+(us.take j).flatten.length)=us[j]++((us.drop (j+1)).flatten++r):=by
 have hd:=Tb (x:=x) hj;have hle:1+(us.take j).flatten.length<=(x::us.flatten).length:=by
  have:us.flatten=(us.take j).flatten++(us.drop j).flatten:=by rw[<-bM,bP]
  rw[ai,this,aj];omega
 rw[cQ,<-eZ,ht,cq hle,hd,aL]
theorem Dt{t s:fN}{x:Int}{i:Nat}(ht:t.drop i=x::s):i<t.length/\t.getD i default=x:=by
 have h1:i<t.length:=by
  by_cases h:i<t.length
  ·exact h
  ·rw[bp gq]at ht;cases ht
 rw[aH h1]at ht;exact⟨h1,by simpa[ak,h1]using(List.cons.inj ht).1⟩
theorem uc{a t r:fN}{x:Int}{us:List fN}{i:Nat}(ha:iz a=true)(hs:t.length<=60)(ht:t.drop i=(x::us.flatten)++r)(ho:wD a x)(hl:us.length=mV a x)
 (hu:∀u∈us,Wf a 1 u):jg a t i=some (vh (i+1) us):=by
 have h3:=vJ ha x;obtain⟨hi,hx⟩:=Dt ht;have hlen:=aN List.length ht;simp only[bK,aj,ai]at hlen;have key:gz True (jg a t i) (·=vh (i+1) us):=by
  unfold jg;rw[ah gq];simp only[aq];rw[hx,uK ha,ah ho,aa,jS (n:=(i:Int)+1) gq gq];refine gz.loop (fun q:fN×Int×Int=>∃j:Nat,j<=us.length/\q.1=vh (i+1) (us.take j)/\q.2.1=i+1+((us.take j).flatten.length:Int)/\q.2.2=(us.length:Int)-j) (fun q:fN×Int×Int=>q.2.2.toNat)
   ⟨0,gq,by simp[vh],by simp,by simp[hl]⟩ ?_
  rintro⟨_,_,_⟩ ⟨j,h4,rfl,rfl,rfl⟩;simp only[sd];by_cases hj:j<us.length
  ·have hd:=mG ht hj;have hw:=hu _ (aC hj);have hpl:=oH (us.take j) ((i:Int)+1);rw[aW]at hpl;have hdl:=aN List.length hd;have hwl:=hw.len;simp only[bK,aj]at hdl;have he:=tA ha (show Small t by show List.length _<_;omega) (i:=i+1+(us.take j).flatten.length) gq;rw[yX hd hw]at he;rw[show((i+1+(us.take j).flatten.length:Nat):Int)=i+1+((us.take j).flatten.length:Int) by omega]at he;simp only[show(0:Int)<(us.length:Int)-j by omega,bl,aO,show((vh ((i:Int)+1) (us.take j)).length+1)*8<=140737488355328 by omega,he,aa,jS (n:=(us.length:Int)-j-1) gq gq];refine .some ⟨⟨j+1,gq,(Al us _ j hj).symm,?_,by simp only;omega⟩,by simp only;omega⟩;simp only[Bx hj,aj];omega
  ·obtain rfl:j=us.length:=by omega
   simp only[show ¬(0:Int)<(us.length:Int)-(us.length:Int) by omega,bA,av,aI,aV];refine .some ?_;simp only[tj,bh]
 exact key.eq
theorem Af{a t r:fN}{x:Int}{us:List fN}{i:Nat}(ha:iz a=true)(hs:t.length<=60)(hm:∀y∈t, -24<=y)(ht:t.drop i=(x::us.flatten)++r)(ho:wD a x)(hl:us.length=mV a x)
 (hu:∀u∈us,Wf a 1 u):mu a t i=some (vh (i+1) us):=by
 have h3:=vJ ha x;obtain⟨hi,hx⟩:=Dt ht;have hlen:=aN List.length ht;simp only[bK,aj,ai]at hlen;have key:gz True (mu a t i) (·=vh (i+1) us):=by
  unfold mu;rw[ah gq];simp only[aq];rw[hx,uJ ha ho.2,aa,jS (n:=(i:Int)+1) gq gq];refine gz.loop (fun q:fN×Int×Int=>∃j:Nat,j<=us.length/\q.1=vh (i+1) (us.take j)/\q.2.1=i+1+((us.take j).flatten.length:Int)/\q.2.2=(us.length:Int)-j) (fun q:fN×Int×Int=>q.2.2.toNat)
   ⟨0,gq,by simp[vh],by simp,by simp[hl]⟩ ?_
  rintro⟨_,_,_⟩ ⟨j,h4,rfl,rfl,rfl⟩;simp only[rZ];by_cases hj:j<us.length
  ·have hd:=mG ht hj;have hw:=hu _ (aC hj);have hpl:=oH (us.take j) ((i:Int)+1);rw[aW]at hpl;have hdl:=aN List.length hd;have hwl:=hw.len;simp only[bK,aj]at hdl;have he:=tr ha (show Small t by show List.length _<_;omega) hm (i:=i+1+(us.take j).flatten.length) gq;rw[yX hd hw]at he;rw[show((i+1+(us.take j).flatten.length:Nat):Int)=i+1+((us.take j).flatten.length:Int) by omega]at he;simp only[show(0:Int)<(us.length:Int)-j by omega,bl,aO,show((vh ((i:Int)+1) (us.take j)).length+1)*8<=140737488355328 by omega,he,aa,jS (n:=(us.length:Int)-j-1) gq gq];refine .some ⟨⟨j+1,gq,(Al us _ j hj).symm,?_,by simp only;omega⟩,by simp only;omega⟩;simp only[Bx hj,aj];omega
  ·obtain rfl:j=us.length:=by omega
   simp only[show ¬(0:Int)<(us.length:Int)-(us.length:Int) by omega,bA,av,aI,aV];refine .some ?_;simp only[tj,bh]
 exact key.eq
theorem Ex{f:Int}:∀(us:List fN)(u:fN),vK f (us++[u])=(us.map (f::·)).flatten++u
 |[],u=>rfl
 |[v],u=>by simp[vK]
 |v::w::r,u=>by
  have:=Ex (f:=f) (w::r) u;simp only[cg]at this⊢;rw[vK,this];simp
theorem Fh{f:Int}{us:List fN}{j:Nat}(h:j<us.length):((us.take (j+1)).map (f::·)).flatten=(((us.take j).map (f::·)).flatten++[f])++us[j]:=by
 rw[aJ h,aS,bM];simp only[aZ,dx,aR,bY,bf,aL,b_]
theorem DS{f:Int}:∀us:List fN,((us.map (f::·)).flatten).length=us.length+us.flatten.length
 |[]=>rfl
 |u::us=>by
  have:=DS (f:=f) us;simp only[aZ,aR,aj,ai]at this⊢;omega
theorem rM{us:List fN}{j:Nat}:(us.take j).flatten.length<=us.flatten.length:=by
 have:us.flatten=(us.take j).flatten++(us.drop j).flatten:=by rw[<-bM,bP]
 rw[this,aj];omega
theorem Ew{f:Int}{us:List fN}{j:Nat}(h:j+1=us.length):vK f us=((us.take j).map (f::·)).flatten++us[j]:=by
 conv=>lhs;rw[<-bh (l:=us),<-h,aJ gq]
 exact Ex _ _
theorem BI{f:Int}{us:List fN}(h:us.length+us.flatten.length<=1000):rm f us=some (vK f us):=by
 refine gz.eq (gz.loop (fun q:fN×Int=>∃j:Nat,j<=us.length/\q.2=j/\q.1=if j<us.length then((us.take j).map (f::·)).flatten else vK f us) (fun q:fN×Int=>us.length-q.2.toNat) ⟨0,gq,rfl,?_⟩ ?_)
 ·cases us with
  |nil=>simp[vK]
  |cons u us=>simp
 rintro⟨_,_⟩ ⟨j,h1,rfl,rfl⟩;simp only[tq];by_cases hj:j<us.length
 ·have hu:us[j].length<=us.flatten.length:=jG (aC hj);have hp:=DS (f:=f) (us.take j);have ht:=rM (us:=us) (j:=j);have hl:(us.take j).length=j:=by rw[aW];omega
  rw[ah (by simpa using hj),ah gq,jS (n:=(us.length:Int)-1) gq gq,jS (n:=(j:Int)+1) gq gq];simp only[aq,gH hj,ah hj];by_cases hk:j+1<us.length
  ·rw[ah (by simp only[az];omega),ah gq,ah (by simp only[aj,bJ];omega)];refine .some ⟨⟨j+1,gq,by simp,?_⟩,by simp only;omega⟩;rw[ah hk,Fh hj]
  ·rw[ay (by simp only[az];omega),ah gq];refine .some ⟨⟨j+1,gq,by simp,?_⟩,by simp only;omega⟩;rw[ay hk,Ew (us:=us) (j:=j) gq]
 ·obtain rfl:j=us.length:=by omega
  rw[ay (by simp)];simp only[Nat.lt_irrefl,aI,aV];exact .some rfl
theorem B_{f:Int}{us:List fN}(h:us.length+us.flatten.length<=1000):oE f us=some (vK f us):=by
 refine gz.eq (gz.loop (fun q:fN×Int=>∃j:Nat,j<=us.length/\q.2=j/\q.1=if j<us.length then((us.take j).map (f::·)).flatten else vK f us) (fun q:fN×Int=>us.length-q.2.toNat) ⟨0,gq,rfl,?_⟩ ?_)
 ·cases us with
  |nil=>simp[vK]
  |cons u us=>simp
 rintro⟨_,_⟩ ⟨j,h1,rfl,rfl⟩;simp only[qD];by_cases hj:j<us.length
 ·have hu:us[j].length<=us.flatten.length:=jG (aC hj);have hp:=DS (f:=f) (us.take j);have ht:=rM (us:=us) (j:=j);have hl:(us.take j).length=j:=by rw[aW];omega
  rw[ah (by simpa using hj),jS (n:=(j:Int)+1) gq gq];simp only[aq,gH hj,ah hj];by_cases hk:j+1<us.length
  ·rw[ah (by simp only[az];omega),ah gq,ah gq,ah (by simp only[aj,bJ];omega)];refine .some ⟨⟨j+1,gq,by simp,?_⟩,by simp only;omega⟩;rw[ah hk,Fh hj]
  ·rw[ay (by simp only[az];omega),ah gq,ah gq];refine .some ⟨⟨j+1,gq,by simp,?_⟩,by simp only;omega⟩;rw[ay hk,Ew (us:=us) (j:=j) gq]
 ·obtain rfl:j=us.length:=by omega
  rw[ay (by simp)];simp only[Nat.lt_irrefl,aI,aV];exact .some rfl
theorem AG{a:fN}{x:Int}{us:List fN}(ha:iz a=true)(hs:(x::us.flatten).length<=60)(hw:Wf a 1 (x::us.flatten))(hl:us.length=mV a x)(hu:∀u∈us,Wf a 1 u):
 oK a (x::us.flatten)=some us:=by
 have hm:∀y∈x::us.flatten, -24<=y:=fun y hy=>(hw.all y hy).1
 have ho:=(Wf.kE (k:=0).1 hw).1;have h3:=vJ ha x;have e:=Af (r:=[]) (i:=0) ha hs hm (by simp) ho hl hu;unfold oK;rw[show((0:Nat):Int)=0 from rfl]at e;rw[e,aa];refine gz.eq (gz.loop (fun q:List fN×Int=>∃j:Nat,j<=us.length/\q.2=j/\q.1=us.take j) (fun q:List fN×Int=>us.length-q.2.toNat) ⟨0,gq,rfl,by simp⟩ ?_);rintro⟨_,_⟩ ⟨j,h1,rfl,rfl⟩;simp only[r_];have hpl:=oH us (0+1);by_cases hj:j<us.length
 ·have hd:=mG (t:=x::us.flatten) (r:=[]) (x:=x) (i:=0) (by simp) hj;have hg:=oG us ((0:Int)+1) j hj;have hsub:=qu ha (show Small (x::us.flatten) by show List.length _<_;omega) hm hd (hu _ (aC hj));rw[ah (by simp only[az,hpl];omega),ah (by rw[hpl];omega)];simp only[aq];rw[hg,show(0:Int)+1+((us.take j).flatten.length:Int)=((0+1+(us.take j).flatten.length:Nat):Int) by omega,hsub,aa,ah (by rw[aW];omega),jS (n:=(j:Int)+1) gq gq];refine .some ⟨⟨j+1,gq,by simp,?_⟩,by simp only;omega⟩;rw[aJ hj]
 ·obtain rfl:j=us.length:=by omega
  rw[ay (by simp only[az,hpl];omega)];simp only[aV];refine .some ?_;simp only[tj,bh]
theorem mD{a:fN}{f:Int}(h2:mV a f=2)(h0:0<=f){t:fN}(h:Wf a 1 t):(parts a f t).length<=t.length/\(parts a f t).flatten.length<=t.length:=by
 obtain⟨h1,h3,h4⟩:=iX h2 h0 _ (au _) h;have h5:(parts a f t).length<=(parts a f t).flatten.length:=by
  have:∀l:List fN,(∀u∈l,1<=u.length)->l.length<=l.flatten.length:=fun l=>by
   induction l with
   |nil=>intro _;simp
   |cons u l ih=>intro hl;have:=ih fun v hv=>hl v (by simp[hv]);have:=hl u (by simp);simp only[ai,aR,aj];omega
  exact this _ fun u hu=>(h3 u hu).1.len
 have h6:=bQ.2 h1;omega
theorem BJ{a ac:fN}(ha:iz a=true){f:Int}(h2:mV a f=2)(h0:0<=f):∀(n:Nat){t:fN},Wf a 1 t->t.length<=60->t.headD 0=f->gz (t.length<=n) (ji n (a,ac) t) (·=parts a f t)
 |0,t,h,hl,hh=>⟨fun _ e=>by simp[ji]at e,fun e=>by have:=h.len;omega⟩
 |n+1,t,h,hl,hh=>by
  obtain⟨x,r,rfl,ho,hr⟩:=Wf.pos h;have hx:x=f:=by simpa using hh
  subst hx;rw[aX,h2]at hr;obtain⟨us,h1,rfl,hu⟩:=kg hr;have hm:∀y∈x::us.flatten, -24<=y:=fun y hy=>(h.all y hy).1
  have e:=Af (r:=[]) (i:=0) ha hl hm (by simp) ho (by rw[h1,h2]) hu;have hpl:=oH us ((0:Int)+1);have hres:parts a x (x::us.flatten)=us.flatMap (parts a x):=by
   obtain⟨u,v,rfl⟩:=oI h1;simp only[aR,bY,bf,bH,eH];exact oA h2 (hu u (by simp)) (hu v (by simp))
  unfold ji;rw[show((0:Nat):Int)=0 from rfl]at e;simp only[e,aa];refine gz.loop (fun q:List fN×Int=>∃j:Nat,j<=us.length/\q.2=j/\q.1=(us.take j).flatMap (parts a x)) (fun q:List fN×Int=>us.length-q.2.toNat) ⟨0,gq,rfl,by simp⟩ ?_;rintro⟨_,_⟩ ⟨j,h3,rfl,rfl⟩;simp only[oo];by_cases hj:j<us.length
  ·have hd:=mG (t:=x::us.flatten) (r:=[]) (x:=x) (i:=0) (by simp) hj;have hg:=oG us ((0:Int)+1) j hj;have hw:=hu _ (aC hj);have hsub:=qu ha (show Small (x::us.flatten) by show List.length _<_;omega) hm hd hw;have hle:us[j].length<=us.flatten.length:=jG (aC hj);simp only[ai]at hl;have hc:((us.take j).flatMap (parts a x)).length<=120:=by
    obtain⟨u,v,rfl⟩:=oI h1
    match j,hj with
    |0,_=>simp
    |1,_=>
     have:=(mD h2 h0 (hu u (by simp))).1;have:=hu u (by simp);have h9:u.length<=[u,v].flatten.length:=jG (by simp);simp only[dL,eW,bH,eH,bf];omega
   have hc2:=(mD h2 h0 hw).1;obtain⟨y,q,hy,_⟩:=Wf.pos hw;rw[ah (by simp only[az,hpl];omega),ah (by rw[hpl];omega)];simp only[aq];rw[hg,show(0:Int)+1+((us.take j).flatten.length:Int)=((0+1+(us.take j).flatten.length:Nat):Int) by omega,hsub,aa,ah ⟨gq,by rw[hy];simp only[ai];omega⟩,ah ⟨gq,by simp only[ai];omega⟩,jS (n:=(j:Int)+1) gq gq];have hnext:(us.take j).flatMap (parts a x)++parts a x us[j]=(us.take (j+1)).flatMap (parts a x):=by rw[aJ hj,List.flatMap_append];simp
   refine gz.ite (fun hc=>?_) fun hc=>?_
   ·have hxy:us[j].headD 0=x:=by
     rw[hy]at hc⊢;simpa using hc
    have ih:=BJ (ac:=ac) ha h2 h0 n hw gq hxy;refine gz.bind (ih.weak fun hn=>by simp only[ai]at hn;omega) ?_;rintro _ rfl;refine gz.need gq (.some ⟨⟨j+1,gq,by simp,hnext⟩,by simp only;omega⟩)
   ·have hxy:y≠x:=by
     rw[hy]at hc;simpa using hc
    have hp:parts a x us[j]=[us[j]]:=by rw[hy];exact ku hxy
    rw[hp]at hnext;refine gz.need gq (.some ⟨⟨j+1,gq,by simp,hnext⟩,by simp only;omega⟩)
  ·obtain rfl:j=us.length:=by omega
   rw[ay (by simp only[az,hpl];omega)];simp only[aV];refine .some ?_;simp only[tj,bh];exact hres.symm
theorem rP{a ac:fN}(ha:iz a=true){f:Int}(h2:mV a f=2)(h0:0<=f){t:fN}(h:Wf a 1 t)(hl:t.length<=60)(hh:t.headD 0=f):jr (a,ac) t=some (parts a f t):=
 gz.eq (gz.lim t.length fun n=>BJ ha h2 h0 n h hl hh)
theorem we{a:fN}(ha:iz a=true){f:Int}(h2:mV a f=2)(h0:0<=f){t:fN}(hl:t.length<=60):∀(n:Nat){i:Nat}{u r:fN},t.drop i=u++r->Wf a 1 u->gz (u.length<=n) (jD n a f t i) (·=parts a f u)
 |0,i,u,r,ht,h=>⟨fun _ e=>by simp[jD]at e,fun e=>by have:=h.len;omega⟩
 |n+1,i,u,r,ht,h=>by
  obtain⟨x,q,rfl,ho,hr⟩:=Wf.pos h;obtain⟨hi,hx⟩:=Dt (s:=q++r) ht;have hlen:=aN List.length ht;simp only[bK,aj,ai]at hlen;unfold jD;rw[ah gq];simp only[aq,hx];refine gz.ite (fun hc=>?_) fun hc=>?_
  ·have hxf:x≠f:=by simpa using hc
   rw[kY ha (show Small t by show List.length _<_;omega) ht h,aa,ku hxf];exact .some rfl
  ·have hxf:x=f:=by simpa using hc
   subst hxf;rw[aX,h2]at hr;obtain⟨us,h1,rfl,hu⟩:=kg hr;have e:=uc (r:=r) ha hl ht ho (by rw[h1,h2]) hu;have hpl:=oH us ((i:Int)+1);have d0:=mG ht (j:=0) gq;have d1:=mG ht (j:=1) gq;have g0:=oG us ((i:Int)+1) 0 gq;have g1:=oG us ((i:Int)+1) 1 gq;rw[e,aa,ah (by rw[hpl,h1];decide)];have w0:=hu us[0] (aC gq);have w1:=hu us[1] (aC gq);have l0:us[0].length<=us.flatten.length:=jG (aC gq);have l1:us[1].length<=us.flatten.length:=jG (aC gq);have ih0:=we ha h2 h0 hl n d0 w0;have ih1:=we ha h2 h0 hl n d1 w1;rw[g0,show(i:Int)+1+((us.take 0).flatten.length:Int)=((i+1+(us.take 0).flatten.length:Nat):Int) by omega];refine gz.bind (ih0.weak fun hn=>by simp only[ai]at hn;omega) ?_;rintro _ rfl;rw[ah (by rw[hpl,h1];decide),g1,show(i:Int)+1+((us.take 1).flatten.length:Int)=((i+1+(us.take 1).flatten.length:Nat):Int) by omega];refine gz.bind (ih1.weak fun hn=>by simp only[ai]at hn;omega) ?_;rintro _ rfl;have c0:=(mD h2 h0 w0).1;have c1:=(mD h2 h0 w1).1;refine gz.need gq (.some ?_);obtain⟨u,v,rfl⟩:=oI h1;simp only[aR,bY,bf];exact(oA h2 (hu u (by simp)) (hu v (by simp))).symm
theorem uC{a:fN}(ha:iz a=true){f:Int}(h2:mV a f=2)(h0:0<=f){t:fN}(hl:t.length<=60)(h:Wf a 1 t):jL a f t 0=some (parts a f t):=
 gz.eq (gz.lim t.length fun n=>we (i:=0) (r:=[]) ha h2 h0 hl n (by simp) h)
theorem Ah{a ac:fN}(hs:Small ac)(n:Int):kj (a,ac) n=some (decide (n∈ac)):=by
 unfold kj;rw[wH hs,aa]
theorem A7{xs:List fN}(h1:xs.length<=1000)(h2:∀x∈xs,x.length<=1000):xF xs=some ():=by
 unfold xF;rw[ah ⟨gq,fun x hx=>by have:=h2 x hx;omega⟩]
theorem Cz{a ac:fN}(hac:tg a ac)(ha:iz a=true){f:Int}(hf:f∈ac){t:fN}(h:Wf a 1 t)(hl:t.length<=60)(hh:t.headD 0=f){T:Prop}
 {rec:fQ->fN->Option fN} (hr:∀u∈parts a f t,gz T (rec (a,ac) u) (·=form a ac u)):
 gz T (mK rec (a,ac) t) (·=jt ((parts a f t).map (form a ac))):=by
 obtain⟨h0,h2⟩:=hac f hf;obtain⟨c1,c2⟩:=mD h2 h0 h;have hpo:=(iX h2 h0 _ (au _) h).2.1;unfold mK mg;rw[rP ha h2 h0 h hl hh,aa];refine gz.bind (P:=(·=jt ((parts a f t).map (form a ac)))) ?_ fun _ e=>.some e
 generalize hus:parts a f t=us at *;refine gz.loop (fun q:Int×List fN=>∃j:Nat,j<=us.length/\q.1=j/\q.2=(us.take j).map (form a ac)) (fun q:Int×List fN=>us.length-q.1.toNat) ⟨0,gq,rfl,by simp⟩ ?_;rintro⟨_,_⟩ ⟨j,h3,rfl,rfl⟩;simp only[mX];by_cases hj:j<us.length
 ·rw[ah (by simpa using hj),ah gq];simp only[aq,gH hj];refine gz.bind (hr _ (aC hj)) ?_;rintro _ rfl;refine gz.need (by rw[aK,aW];omega) (.some ⟨⟨j+1,gq,jS gq gq,?_⟩,?_⟩)
  ·simp only[];rw[aJ hj,aS];rfl
  ·simp only[];rw[jS (n:=(j:Int)+1) gq gq];omega
 ·obtain rfl:j=us.length:=by omega
  rw[ay (by simp),bh,A7 (by rw[aK];omega) (fun x hx=>by
   obtain⟨w,hw,rfl⟩:=aY.1 hx;have:=hpo w hw;rw[(jR hac _ (au _) this.1).2.1];omega)]
  exact .some rfl
theorem wX{a ac:fN}(hac:tg a ac)(hs:Small ac)(ha:iz a=true):∀(n:Nat){t:fN},Wf a 1 t->t.length<=60->gz (t.length<=n) (ir n (a,ac) t) (·=form a ac t)
 |0,t,h,hl=>⟨fun _ e=>by simp[ir]at e,fun e=>by have:=h.len;omega⟩
 |n+1,t,h,hl=>by
  obtain⟨x,r,rfl,ho,hr⟩:=Wf.pos h;rw[aX]at hr;unfold ir;rw[ah (by simp only[ai];omega)];simp only[bB,Ah hs,aa];refine gz.ite (fun hc=>?_) fun hc=>?_
  ·have hx:x∈ac:=by simpa using hc
   obtain⟨h0,h2⟩:=hac x hx;rw[ah (by simp only[ai];omega)];have hpo:=(iX h2 h0 _ (au _) h).2.1;have hlt:=(nE h2 h0 h rfl).1;obtain⟨c1,c2⟩:=mD h2 h0 h;refine gz.bind (Cz hac ha hx h hl rfl (T:=(x::r).length<=n+1) (rec:=ir n) fun u hu=>?_) ?_
   ·exact(wX hac hs ha n (hpo u hu).1 (by have:=(hpo u hu).2.2;omega)).weak fun hn=>by have:=hlt u hu;omega
   ·rintro _ rfl;rw[BI (by rw[qZ,vk,aK,pR fun u hu=>(jR hac _ (au _) (hpo u hu).1).2.1];omega),aa];exact .some (rN hac hx h).symm
  ·have hx:x∉ac:=by simpa using hc
   obtain⟨us,h1,rfl,hu⟩:=kg hr;have h33:=vJ ha x;have hm:∀y∈x::us.flatten, -24<=y:=fun y hy=>(h.all y hy).1
   have e:=Af (r:=[]) (i:=0) ha hl hm (by simp) ho h1 hu;have hpl:=oH us ((0:Int)+1);rw[show((0:Nat):Int)=0 from rfl]at e;rw[ah (by simp only[ai];omega)];simp only[e,aa];refine gz.loop (fun q:fN×Int=>∃j:Nat,j<=us.length/\q.2=j/\q.1=x::((us.take j).map (form a ac)).flatten) (fun q:fN×Int=>us.length-q.2.toNat) ⟨0,gq,rfl,by simp⟩ ?_;rintro⟨_,_⟩ ⟨j,h3,rfl,rfl⟩;simp only[nO];by_cases hj:j<us.length
   ·have hd:=mG (t:=x::us.flatten) (r:=[]) (x:=x) (i:=0) (by simp) hj;have hg:=oG us ((0:Int)+1) j hj;have hw:=hu _ (aC hj);have hsub:=qu ha (show Small (x::us.flatten) by show List.length _<_;omega) hm hd hw;have hle:us[j].length<=us.flatten.length:=jG (aC hj);have hfl:((us.take j).map (form a ac)).flatten.length<=us.flatten.length:=by
     rw[pR fun u hu2=>(jR hac _ (au _) (hu u (bE hu2))).2.1];exact rM
    simp only[ai]at hl;rw[ah (by simp only[az,hpl];omega),ah (by rw[hpl];omega)];simp only[aq];rw[hg,show(0:Int)+1+((us.take j).flatten.length:Int)=((0+1+(us.take j).flatten.length:Nat):Int) by omega,hsub,aa];refine gz.bind ((wX hac hs ha n hw gq).weak fun hn=>by simp only[ai]at hn;omega) ?_;rintro _ rfl;have hf2:=(jR hac _ (au _) hw).2.1;refine gz.need (by simp only[ai];omega) (.some ⟨⟨j+1,gq,jS gq gq,?_⟩,?_⟩)
    ·simp only[];rw[aJ hj,aS,bM];simp
    ·simp only[];rw[jS (n:=(j:Int)+1) gq gq];omega
   ·obtain rfl:j=us.length:=by omega
    rw[ay (by simp only[az,hpl];omega)];simp only[aV];refine .some ?_;simp only[tj,bh];exact(rO hac hx h1 hu).symm
theorem wq{a ac:fN}(hac:tg a ac)(hs:Small ac)(ha:iz a=true){t:fN}(h:Wf a 1 t)(hl:t.length<=60):lz (a,ac) t=some (form a ac t):=
 gz.eq (gz.lim t.length fun n=>wX hac hs ha n h hl)
theorem C_{s t:fN}(hs:Small s)(ht:Small t):mZ s t=some (decide (kX s t<0)):=by
 unfold mZ kX;by_cases hl:s.length=t.length
 ·rw[ay (by simp[hl]),ah hl];refine gz.eq (gz.loop (fun q:Int=>∃j:Nat,j<=s.length/\q=j/\oS s t=oS (s.drop j) (t.drop j)) (fun q:Int=>s.length-q.toNat) ⟨0,gq,rfl,by simp⟩ ?_);rintro _ ⟨j,h1,rfl,h2⟩;simp only[qB];by_cases hj:j<s.length
  ·have hj':j<t.length:=by omega
   rw[ah (by simpa using hj),ah gq,ah gq];simp only[aq,gH hj,gH hj'];rw[aH hj,aH hj',oS]at h2;refine gz.ite (fun hc=>?_) fun hc=>?_
   ·have hne:s[j]≠t[j]:=by simpa using hc
    rw[ah gq,ah gq];refine .some ?_;simp only[tj];by_cases hlt:s[j]<t[j]
    ·rw[ah hlt]at h2;rw[h2];simp[hlt]
    ·rw[ay hlt,ah gq]at h2;rw[h2];simp[hlt]
   ·have he:s[j]=t[j]:=by simpa using hc
    rw[ay gq,ay gq]at h2;refine .some ⟨⟨j+1,gq,jS gq gq,h2⟩,?_⟩;rw[jS (n:=(j:Int)+1) gq gq];simp only[];omega
  ·obtain rfl:j=s.length:=by omega
   rw[ay (by simp)];refine .some ?_;simp only[tj];rw[h2,eL,bp gq];simp[oS]
 ·rw[ah (by simp only[bne_iff_ne,ne_eq];omega),ay hl];congr 1;exact dH.2 gq
theorem FD{l:List fN}{t:fN}(hl:l.length<=1000000)(hs:∀u∈l,Small u)(ht:Small t)(ho:l.Pairwise fun a b=>kX a b<=0):nZ l t=some (jt (t::l)):=by
 unfold nZ;refine gz.eq (gz.loop (fun q:Int=>∃j:Nat,j<=l.length/\q=j/\∀u∈l.drop j,kX t u<=0) (fun q:Int=>q.toNat) ⟨l.length,gq,rfl,by simp⟩ ?_);have fin:∀j:Nat,j<=l.length->(∀u∈l.drop j,kX t u<=0)->(∀u∈l.take j,kX u t<=0)->(l.take j++[t])++l.drop j=jt (t::l):=fun j h1 h2 h3=>by
  refine mE ?_ ?_ (jo _)
  ·refine List.Perm.trans ?_ (iK _).symm;rw[aL];refine(dU (l₁:=l.take j)).trans ?_;rw[aL];refine(dU (l₁:=l.drop j)).append_left [t] |>.trans ?_;rw[bP];exact .refl _
  ·rw[aL,fc];refine⟨ho.sublist (List.take_sublist _ _),?_,fun u hu v hv=>?_⟩
   ·rw[b_,fq];exact⟨fun u hu=>h2 u hu,ho.sublist (eE _ _)⟩
   ·rcases aM.1 hv with hv|hv
    ·rw[bq]at hv;subst hv;exact h3 u hu
    ·rw[<-bP j l,fc]at ho;exact ho.2.2 u hu v hv
 rintro _ ⟨j,h1,rfl,h2⟩;simp only[pX];have hres:∀(h3:∀u∈l.take j,kX u t<=0),gz True (Option.map Sum.inr (if 0<=(j:Int)/\(j:Int)<=(l.length:Int)then
  if(0+(l.take (j:Int).toNat).length)*24<=140737488355328 then
   if((l.take (j:Int).toNat).length+1)*24<=140737488355328 then
    if 0<=(j:Int)/\(j:Int)<=(l.length:Int)then
     if(((l.take (j:Int).toNat)++[t]).length+(l.drop (j:Int).toNat).length)*24<=140737488355328 then
      some (((l.take (j:Int).toNat)++[t])++(l.drop (j:Int).toNat))
     else none
    else none
   else none
  else none
  else none)) (tj (fun q:Int=>∃j:Nat,j<=l.length/\q=j/\∀u∈l.drop j,kX t u<=0) (fun q:Int=>q.toNat) (·=jt (t::l)) (j:Int).toNat):=fun h3=>by
  have e1:(l.take j).length=j:=by rw[aW];omega
  simp only[aq];rw[ah gq,ah gq,ah gq,ah gq,ah (by simp only[aj,bK,e1,bJ];omega)];exact .some (fin j h1 h2 h3)
 by_cases hj:0<j
 ·rw[ah (by simpa using hj),jS (n:=(j:Int)-1) gq gq,ah gq];have hk:j-1<l.length:=by omega
  rw[show((j:Int)-1).toNat=j-1 by omega,gH hk,C_ ht (hs _ (aC hk)),aa];refine gz.ite (fun hc=>?_) fun hc=>?_
  ·have hc:kX t l[j-1]<0:=by simpa using hc
   refine .some ⟨⟨j-1,gq,gq,fun u hu=>?_⟩,by simp only[];omega⟩;rw[aH hk,show j-1+1=j by omega]at hu;rcases bw.1 hu with rfl|hu
   ·omega
   ·exact h2 u hu
  ·have hc:¬kX t l[j-1]<0:=by simpa using hc
   refine hres fun u hu=>?_
   have hn:=sS t l[j-1];have h9:kX l[j-1] t<=0:=by omega
   obtain⟨i,hi,rfl⟩:=ck hu;rw[eC];have hil:i<j:=by rw[aW]at hi;omega
   by_cases he:i=j-1
   ·subst he;exact h9
   ·exact(um (dK.1 ho i (j-1) gq hk gq) h9).1
 ·obtain rfl:j=0:=by omega
  rw[ay (by simp)];exact hres fun u hu=>by simp at hu
theorem Hf{l:List fN}{t:fN}:jt (t::jt l)=jt (t::l):=
 mE ((iK _).trans (((iK l).cons t).trans (iK _).symm)) (jo _) (jo _)
theorem Hg{l:List fN}{t:fN}:jt (l++[t])=jt (t::l):=
 mE ((iK _).trans ((dU (l₁:=l)).trans (iK (t::l)).symm)) (jo _) (jo _)
theorem FF{a ac:fN}{us:List fN}(hl:us.length<=1000)(hs:∀u∈us,(form a ac u).length<=1000){T:Prop}
 {rec:fN->fN->fN->Option fN} (hr:∀u∈us,gz T (rec a ac u) (·=form a ac u)):
 gz T (n_ rec a ac us) (·=jt (us.map (form a ac))):=by
 unfold n_;refine gz.loop (fun q:List fN×Int=>∃j:Nat,j<=us.length/\q.2=j/\q.1=jt ((us.take j).map (form a ac))) (fun q:List fN×Int=>us.length-q.2.toNat) ⟨0,gq,rfl,by simp[jt]⟩ ?_;rintro⟨_,_⟩ ⟨j,h3,rfl,rfl⟩;simp only[pZ];by_cases hj:j<us.length
 ·rw[ah (by simpa using hj),ah gq];simp only[aq,gH hj];refine gz.bind (hr _ (aC hj)) ?_;rintro _ rfl;rw[FD (by rw[qZ,aK,aW];omega) (fun u hu=>by
   obtain⟨w,hw,rfl⟩:=aY.1 ((iK _).mem_iff.1 hu);have:=hs w (bE hw);show List.length _<_;omega) (by have:=hs _ (aC hj);show List.length _<_;omega) (jo _),aa]
  refine .some ⟨⟨j+1,gq,jS gq gq,?_⟩,?_⟩
  ·simp only[];rw[aJ hj,aS,aZ,dx,Hg,Hf]
  ·simp only[];rw[jS (n:=(j:Int)+1) gq gq];omega
 ·obtain rfl:j=us.length:=by omega
  rw[ay (by simp),bh];exact .some rfl
theorem Ar{a ac:fN}(hac:tg a ac)(hs:Small ac)(ha:iz a=true):∀(n:Nat){t:fN},Wf a 1 t->t.length<=60->gz (t.length<=n) (j_ n a ac t) (·=form a ac t)
 |0,t,h,hl=>⟨fun _ e=>by simp[j_]at e,fun e=>by have:=h.len;omega⟩
 |n+1,t,h,hl=>by
  obtain⟨x,r,rfl,ho,hr⟩:=Wf.pos h;rw[aX]at hr;unfold j_;rw[ah (by simp only[ai];omega)];simp only[bB,qx hs,aa];refine gz.ite (fun hc=>?_) fun hc=>?_
  ·have hx:x∈ac:=by simpa using hc
   obtain⟨h0,h2⟩:=hac x hx;rw[ah (by simp only[ai];omega),ah (by simp only[ai];omega),uC ha h2 h0 hl h,aa];have hpo:=(iX h2 h0 _ (au _) h).2.1;have hlt:=(nE h2 h0 h rfl).1;obtain⟨c1,c2⟩:=mD h2 h0 h;refine gz.bind (FF (a:=a) (ac:=ac) (T:=(x::r).length<=n+1) (rec:=j_ n) gq (fun u hu=>?_) fun u hu=>?_) ?_
   ·have:=(jR hac _ (au _) (hpo u hu).1).2.1;have:=(hpo u hu).2.2;omega
   ·exact(Ar hac hs ha n (hpo u hu).1 (by have:=(hpo u hu).2.2;omega)).weak fun hn=>by have:=hlt u hu;omega
   ·rintro _ rfl;rw[B_ (by rw[qZ,vk,aK,pR fun u hu=>(jR hac _ (au _) (hpo u hu).1).2.1];omega),aa];exact .some (rN hac hx h).symm
  ·have hx:x∉ac:=by simpa using hc
   obtain⟨us,h1,rfl,hu⟩:=kg hr;have h33:=vJ ha x;have e:=uc (r:=[]) (i:=0) ha hl (by simp) ho h1 hu;have hpl:=oH us ((0:Int)+1);rw[show((0:Nat):Int)=0 from rfl]at e;rw[ah (by simp only[ai];omega)];simp only[e,aa];refine gz.loop (fun q:fN×Int=>∃j:Nat,j<=us.length/\q.2=j/\q.1=x::((us.take j).map (form a ac)).flatten) (fun q:fN×Int=>us.length-q.2.toNat) ⟨0,gq,rfl,by simp⟩ ?_;rintro⟨_,_⟩ ⟨j,h3,rfl,rfl⟩;simp only[rE];by_cases hj:j<us.length
   ·have hd:=mG (t:=x::us.flatten) (r:=[]) (x:=x) (i:=0) (by simp) hj;have hg:=oG us ((0:Int)+1) j hj;have hw:=hu _ (aC hj);have hsub:=kY ha (show Small (x::us.flatten) by show List.length _<_;omega) hd hw;have hle:us[j].length<=us.flatten.length:=jG (aC hj);have hfl:((us.take j).map (form a ac)).flatten.length<=us.flatten.length:=by
     rw[pR fun u hu2=>(jR hac _ (au _) (hu u (bE hu2))).2.1];exact rM
    simp only[ai]at hl;rw[ah (by simp only[az,hpl];omega),ah (by rw[hpl];omega)];simp only[aq];rw[hg,show(0:Int)+1+((us.take j).flatten.length:Int)=((0+1+(us.take j).flatten.length:Nat):Int) by omega,hsub,aa];refine gz.bind ((Ar hac hs ha n hw gq).weak fun hn=>by simp only[ai]at hn;omega) ?_;rintro _ rfl;have hf2:=(jR hac _ (au _) hw).2.1;refine gz.need (by simp only[ai];omega) (.some ⟨⟨j+1,gq,jS gq gq,?_⟩,?_⟩)
    ·simp only[];rw[aJ hj,aS,bM];simp
    ·simp only[];rw[jS (n:=(j:Int)+1) gq gq];omega
   ·obtain rfl:j=us.length:=by omega
    rw[ay (by simp only[az,hpl];omega)];simp only[aV];refine .some ?_;simp only[tj,bh];exact(rO hac hx h1 hu).symm
theorem vl{a ac:fN}(hac:tg a ac)(hs:Small ac)(ha:iz a=true){t:fN}(h:Wf a 1 t)(hl:t.length<=60):mP a ac t=some (form a ac t):=
 gz.eq (gz.lim t.length fun n=>Ar hac hs ha n h hl)
theorem F4{m j:Nat}(hm:m<4611686018427387904)(hj:j<=60):xX .i64 (zD .i64 m j) 1=((m.testBit j).toNat:Int):=by
 have h1:zD .i64 (m:Int) (j:Int)=((m/2^j:Nat):Int):=by
  unfold zD;rw[aq,show min j (IntKind.i64.bits)=j from fK (by show j<=64;omega)];rw[Int.fdiv_eq_ediv_of_nonneg _ (by exact eo (Int.pow_pos (by decide)))];simp
 have h2:m/2^j<4611686018427387904:=Nat.lt_of_le_of_lt (Nat.div_le_self _ _) hm;rw[h1];unfold xX;have h3:(BitVec.ofInt IntKind.i64.bits ((m/2^j:Nat):Int) &&& BitVec.ofInt IntKind.i64.bits 1).toNat=m/2^j%2:=by
  show(BitVec.ofInt 64 ((m/2^j:Nat):Int) &&& BitVec.ofInt 64 1).toNat=_;rw[BitVec.toNat_and,BitVec.ofInt_natCast,BitVec.toNat_ofNat,Nat.mod_eq_of_lt gq];rw[show(BitVec.ofInt 64 1).toNat=1 by decide,Nat.and_one_is_mod]
 rw[h3,Nat.testBit_eq_decide_div_mod_eq];have h4:m/2^j%2<2:=Nat.mod_lt _ (by decide);have h5:m/2^j%2=0\/m/2^j%2=1:=by omega
 rcases h5 with h5|h5<;>rw[h5]<;>decide
def js(b:Bool)(m:Nat)(ts:List fN)(n:Nat):List fN:=((List.range n).filter fun j=>m.testBit j==b).map fun j=>ts.getD j default
theorem sj{b:Bool}{m n:Nat}{ts:List fN}:js b m ts (n+1)=js b m ts n++if(m.testBit n==b)=true then [ts.getD n default]else []:=by
 unfold js;rw[List.range_succ,List.filter_append,aS,dX,List.filter_nil];split<;>rfl
theorem xG{b:Bool}{m n:Nat}{ts:List fN}:(js b m ts n).length<=n:=by
 unfold js;rw[aK];exact bN (eP _ _) (by simp)
def okB(m:Nat)(ts:List fN)(n:Nat):Prop:=∀j,0<j->j<n->m.testBit j=true->m.testBit (j-1)=false->ts.getD (j-1) default≠ts.getD j default
theorem DE{ts:List fN}{m:Nat}(hm:m<4611686018427387904)(hl:ts.length<=60)(hs:∀t∈ts,Small t):
 gz True (pg ts m) fun r=>(okB m ts ts.length/\r=(js true m ts ts.length,js false m ts ts.length,true))\/(¬okB m ts ts.length/\r=([],[],false)):=by
 unfold pg;refine gz.loop (fun q:List fN×List fN×Int=>∃j:Nat,j<=ts.length/\q=(js true m ts j,js false m ts j,(j:Int))/\okB m ts j) (fun q:List fN×List fN×Int=>ts.length-q.2.2.toNat)
  ⟨0,gq,rfl,fun j _ h=>by omega⟩ ?_
 rintro⟨_,_,_⟩ ⟨j,h1,he,h2⟩;cases he;simp only[rq];have l1:=xG (b:=true) (m:=m) (n:=j) (ts:=ts);have l2:=xG (b:=false) (m:=m) (n:=j) (ts:=ts);by_cases hj:j<ts.length
 ·rw[ah (by simpa using hj),ah gq,ah gq,F4 hm gq,jS (n:=(j:Int)+1) gq gq];simp only[aq];have stepT:m.testBit j=true->okB m ts (j+1)->gz True (if((js true m ts j).length+1)*24<=140737488355328 then some (Sum.inl (js true m ts j++[ts.getD j default],js false m ts j,(j:Int)+1))else none:Option ((List fN×List fN×Int)⊕(List fN×List fN×Bool)))
   (tj (fun q:List fN×List fN×Int=>∃j:Nat,j<=ts.length/\q=(js true m ts j,js false m ts j,(j:Int))/\okB m ts j) (fun q:List fN×List fN×Int=>ts.length-q.2.2.toNat) (fun r=>(okB m ts ts.length/\r=(js true m ts ts.length,js false m ts ts.length,true))\/(¬okB m ts ts.length/\r=([],[],false))) (ts.length-j)):=fun hb ho=>by
   refine gz.need gq (.some ⟨⟨j+1,gq,?_,ho⟩,by simp only[];omega⟩);rw[sj,sj,hb];simp
  have okS:(m.testBit j=true->0<j->m.testBit (j-1)=false->ts.getD (j-1) default≠ts.getD j default)->okB m ts (j+1):=fun h i hi hl2 hb hb2=>by
   by_cases e:i=j
   ·subst e;exact h hb hi hb2
   ·exact h2 i hi gq hb hb2
  refine gz.ite (fun hc=>?_) fun hc=>?_
  ·have hb:m.testBit j=false:=by
    cases hq:m.testBit j with
    |false=>rfl
    |true=>rw[hq]at hc;simp at hc
   refine gz.need gq (.some ⟨⟨j+1,gq,?_,okS fun h=>by rw[hb]at h;cases h⟩,by simp only[];omega⟩);rw[sj,sj,hb];simp
  ·have hb:m.testBit j=true:=by
    cases hq:m.testBit j with
    |true=>rfl
    |false=>rw[hq]at hc;simp at hc
   by_cases h0:0<j
   ·rw[ah (by simpa using h0),jS (n:=(j:Int)-1) gq gq,ah gq,show((j:Int)-1)=((j-1:Nat):Int) by omega,F4 hm gq];simp only[aq];refine gz.ite (fun hc2=>?_) fun hc2=>?_
    ·have hb2:m.testBit (j-1)=false:=by
      cases hq:m.testBit (j-1)with
      |false=>rfl
      |true=>rw[hq]at hc2;simp at hc2
     rw[ah gq,nj (hs _ (qi gq)),aa];refine gz.ite (fun hc3=>?_) fun hc3=>?_
     ·have hq:ts.getD (j-1) default=ts.getD j default:=by simpa using hc3
      refine .some (.inr ⟨fun hk=>hk j h0 hj hb hb2 hq,rfl⟩)
     ·have hq:ts.getD (j-1) default≠ts.getD j default:=by simpa using hc3
      exact stepT hb (okS fun _ _ _=>hq)
    ·have hb2:m.testBit (j-1)=true:=by
      cases hq:m.testBit (j-1)with
      |true=>rfl
      |false=>rw[hq]at hc2;simp at hc2
     exact stepT hb (okS fun _ _ h=>by rw[hb2]at h;cases h)
   ·rw[ay (by simpa using h0)];exact stepT hb (okS fun _ h=>absurd h h0)
 ·obtain rfl:j=ts.length:=by omega
  rw[ay (by simp)];exact .some (.inl ⟨h2,rfl⟩)
theorem wZ{ts:List fN}:(List.range ts.length).map (fun j=>ts.getD j default)=ts:=by
 refine dn (by simp) fun i h1 h2=>?_
 simp only[List.getElem_map,List.getElem_range];exact gH h2
theorem uk{m:Nat}{ts:List fN}:(js true m ts ts.length++js false m ts ts.length).Perm ts:=by
 unfold js;rw[<-aS];conv=>rhs;rw[<-wZ (ts:=ts)]
 refine List.Perm.map _ ?_;have:=List.filter_append_perm (fun j=>m.testBit j==true) (List.range ts.length);have e:(fun j=>m.testBit j==false)=fun j=>!(m.testBit j==true):=by funext j;cases m.testBit j<;>rfl
 rw[e];exact this
theorem oM{b:Bool}{m:Nat}{ts:List fN}:(js b m ts ts.length).Sublist ts:=by
 unfold js;conv=>rhs;rw[<-wZ (ts:=ts)]
 exact List.Sublist.map _ List.filter_sublist
theorem Bi{b:Bool}{m:Nat}{t:fN}{ts:List fN}{n:Nat}:js b m (t::ts) (n+1)=(if(m.testBit 0==b)=true then [t]else [])++js b (m/2) ts n:=by
 unfold js;rw[List.range_succ_eq_map,dX,List.filter_map];have e:((fun j=>m.testBit j==b)∘Nat.succ)=fun j=>(m/2).testBit j==b:=by funext j;simp only[Function.comp,Nat.succ_eq_add_one,Nat.testBit_succ]
 rw[e];split
 ·rw[aZ,c_];rfl
 ·rw[c_];rfl
def p_:List fN->List fN->Nat
 |[],_=>0
 |t::ts,S=>if t∈S then 2*p_ ts (S.erase t)+1 else 2*p_ ts S
theorem AX:∀(ts S:List fN),p_ ts S<2^ts.length
 |[],_=>by simp[p_]
 |t::ts,S=>by
  have h1:=AX ts (S.erase t);have h2:=AX ts S;rw[p_,ai,Nat.pow_succ];split<;>omega
theorem vr:∀{ts S R:List fN},(S++R).Perm ts->(js true (p_ ts S) ts ts.length).Perm S
 |[],S,R,h=>by
  have:S=[]:=(List.append_eq_nil_iff.1 (List.perm_nil.1 h)).1;subst this;exact .refl _
 |t::ts,S,R,h=>by
  rw[ai,Bi,p_];by_cases ht:t∈S
  ·rw[ah ht,show(2*p_ ts (S.erase t)+1)/2=p_ ts (S.erase t) by omega];have h0:(2*p_ ts (S.erase t)+1).testBit 0=true:=by rw[dW];simp
   rw[h0];have h1:=de ht;have h2:(S.erase t++R).Perm ts:=by
    have:=(h1.append_right R).symm.trans h;rw[cg]at this;exact(eX t).1 this
   simp only[cL,aO,b_];exact((vr h2).cons t).trans h1.symm
  ·rw[ay ht,show(2*p_ ts S)/2=p_ ts S by omega];have h0:(2*p_ ts S).testBit 0=false:=by rw[dW];simp
   rw[h0];have hr:t∈R:=by
    have:t∈S++R:=h.symm.mem_iff.1 (by simp);exact(aM.1 this).resolve_left ht
   have h1:=de hr;have h2:(S++R.erase t).Perm ts:=by
    have h3:(t::(S++R.erase t)).Perm (t::ts):=(List.perm_middle.symm.trans ((h1.append_left S).symm)).trans h;exact(eX t).1 h3
   simp only[show(false==true)=false from rfl,av,aI,bt];exact vr h2
theorem HR:∀(ts S:List fN),okB (p_ ts S) ts ts.length
 |[],S=>fun j h1 h2=>by simp at h2
 |[t],S=>fun j h1 h2=>by simp only[ai,bG]at h2;omega
 |t::u::ts,S=>fun j h1 h2 hb hb2=>by
  obtain⟨i,rfl⟩:∃i,j=i+1:=⟨j-1,gq⟩;rw[Nat.add_sub_cancel]at hb2⊢;have key:∀S',(p_ (t::u::ts) S)/2=p_ (u::ts) S'->(0<i->(t::u::ts).getD i default≠(t::u::ts).getD (i+1) default):=fun S' he hi=>by
   have ih:=HR (u::ts) S' i hi (by simp only[ai]at h2⊢;omega) (by rw[<-he,<-Nat.testBit_succ];exact hb) (by
    rw[<-he,<-Nat.testBit_succ,show(i-1).succ=i by omega];exact hb2)
   obtain⟨k,rfl⟩:∃k,i=k+1:=⟨i-1,gq⟩;simpa using ih
  by_cases ht:t∈S
  ·have he:(p_ (t::u::ts) S)/2=p_ (u::ts) (S.erase t):=by rw[p_,ah ht];omega
   by_cases hi:0<i
   ·exact key _ he hi
   ·obtain rfl:i=0:=by omega
    rw[p_,ah ht,dW]at hb2;simp at hb2
  ·have he:(p_ (t::u::ts) S)/2=p_ (u::ts) S:=by rw[p_,ay ht];omega
   by_cases hi:0<i
   ·exact key _ he hi
   ·obtain rfl:i=0:=by omega
    have hb':(p_ (u::ts) S).testBit 0=true:=by rw[<-he,<-Nat.testBit_succ];exact hb
    have hu:u∈S:=by
     by_cases hu:u∈S
     ·exact hu
     ·rw[p_,ay hu,dW]at hb';simp at hb'
    intro e;have:t=u:=by simpa using e
    subst this;exact ht hu
theorem DF{ps:List fN}(hl:ps.length<=1000)(hn:∀p∈ps,0<p.length):gz True (jV ps) (fun qs=>qs.Perm ps):=by
 unfold jV;refine gz.loop (fun q:List fN×List fN×Int=>∃j:Nat,j<=ps.length/\q.2.2=j/\(q.1++q.2.1).Perm (ps.take j)) (fun q:List fN×List fN×Int=>ps.length-q.2.2.toNat) ⟨0,gq,rfl,by simp⟩ ?_;rintro⟨xs,ys,_⟩ ⟨j,h1,rfl,h2⟩;have hlen:=h2.length_eq;simp only[aj,aW]at hlen;simp only[me];by_cases hj:j<ps.length
 ·have hp:0<(ps.getD j default).length:=hn _ (qi hj);rw[ah (by simpa using hj),ah gq];simp only[aq];rw[ah gq,jS (n:=(j:Int)+1) gq gq];have e:ps.take (j+1)=ps.take j++[ps.getD j default]:=by rw[aJ hj,gH hj]
  refine gz.ite (fun _=>?_) fun _=>?_
  ·refine gz.need gq (.some ⟨⟨j+1,gq,by simp,?_⟩,by simp only[];omega⟩);simp only[];rw[e,<-aL];exact h2.append_right _
  ·refine gz.need gq (.some ⟨⟨j+1,gq,by simp,?_⟩,by simp only[];omega⟩);simp only[];rw[e,aL];refine(dU (l₁:=[ps.getD j default]) (l₂:=ys)).append_left xs |>.trans ?_;rw[<-aL];exact h2.append_right _
 ·obtain rfl:j=ps.length:=by omega
  rw[ay (by simp)];refine gz.inr (gz.need gq (.some ?_));simp only[tj];rw[bh]at h2;exact h2
theorem E0{x y:List fN}(hx:x.length<=1000)(hy:y.length<=1000):iW [x,y]=some (x++y):=by
 unfold iW;have w0:IntKind.i64.wrap ((0:Int)+(x.length:Int))=(x.length:Int):=by rw[jS gq gq];omega
 have w1:IntKind.i64.wrap ((x.length:Int)+(y.length:Int))=(x.length:Int)+(y.length:Int):=jS gq gq;have v1:IntKind.i64.wrap ((0:Int)+1)=1:=by decide
 have v2:IntKind.i64.wrap ((1:Int)+1)=2:=by decide
 rw[qR (s':=((x.length:Int),(1:Int))) (by
  rw[iE,ah (by simp),ah ⟨by decide,by simp⟩];simp only[Int.toNat_zero,bB];rw[w0,v1,ay (by simp only[az];omega)])]
 rw[qR (s':=((x.length:Int)+(y.length:Int),(2:Int))) (by
  rw[iE,ah (by simp),ah ⟨by decide,by simp⟩];simp only[show(1:Int).toNat=1 from rfl,ej,bB];rw[w1,v2,ay (by simp only[az];omega)])]
 refine oN ?_;rw[iE,ay (by simp)];unfold rz;rw[ah ⟨gq,gq⟩,aa];rw[qR (s':=(x,(1:Int))) (by
  rw[iG,ah (by simp),ah ⟨by decide,by simp⟩];simp only[Int.toNat_zero,bB];rw[ah (by simp only[bG];omega),v1];rfl)]
 rw[qR (s':=(x++y,(2:Int))) (by
  rw[iG,ah (by simp),ah ⟨by decide,by simp⟩];simp only[show(1:Int).toNat=1 from rfl,ej,bB];rw[ah gq,v2])]
 rw[oN (b:=x++y) (by rw[iG,ay (by simp)];rfl)];rfl
theorem FH{S R L:List fN}(hs:S.Pairwise fun a b=>kX a b<=0)(hL:L.Pairwise fun a b=>kX a b<=0)(h:(S++R).Perm L):S.Sublist L:=by
 have h1:=vr h;have h2:=oM (b:=true) (m:=p_ L S) (ts:=L);have h3:js true (p_ L S) L L.length=S:=mE h1 (hL.sublist h2) hs;rw[h3]at h2;exact h2
inductive Vl(a ac:fN):fN->fN->Prop
 |refl (t:fN):Vl a ac t t
 |arg {x:Int} {us:List fN} {u w:fN} (hx:x∉ac) (hl:us.length=mV a x) (hw:∀v∈us,Wf a 1 v) (hu:u∈us) (h:Vl a ac u w):Vl a ac (x::us.flatten) w
 |sub {f:Int} {t:fN} {S:List fN} (hf:f∈ac) (hh:t.headD 0=f) (hne:S≠[]) (hs:S.Sublist (parts a f t)):Vl a ac t (vK f S)
 |part {f:Int} {t u w:fN} (hf:f∈ac) (hh:t.headD 0=f) (hu:u∈parts a f t) (h:Vl a ac u w):Vl a ac t w
theorem Hx{a ac:fN}(hac:tg a ac){σ:Int->fN}:∀(N:Nat){p:fN},p.length<=N->Wf a 1 p->(∀x∈p,x<0->Sf a ac (σ x))->∀x∈p,x<0->Vl a ac (form a ac (Tm.sub σ p)) (σ x)
 |0,p,hl,h,_=>by have:=h.len;omega
 |N+1,p,hl,h,hσ=>by
  intro z hz h0;obtain⟨y,r,rfl,ho,hr⟩:=Wf.pos h;rw[aX]at hr;by_cases hy:y<0
  ·have:mV a y=0:=by unfold mV;rw[ah hy]
   rw[this]at hr;have:=hr.zero;subst this;have:z=y:=by simpa using hz
   subst this;rw[sub_one hy,(hσ z (by simp) hy).2];exact .refl _
  ·have hwσ:∀x∈y::r,x<0->Wf a 1 (σ x):=fun x hx hx0=>(hσ x hx hx0).1
   have hzr:z∈r:=(bw.1 hz).resolve_left gq;by_cases hac':y∈ac
   ·obtain⟨k0,k2⟩:=hac y hac';have hw:Wf a 1 (Tm.sub σ (y::r)):=h.sub hwσ;have e:=t_ k2 k0 _ (au _) h hwσ;rw[pT hy]at hw e⊢;have hpf:=sB hac hac' hw;have hhd:=(jR hac _ (au _) hw).2.2;have hL:(parts a y (form a ac (y::Tm.sub σ r))).Pairwise fun a b=>kX a b<=0:=by rw[hpf];exact jo _
    rw[e]at hpf;have hperm:(((parts a y (y::r)).flatMap fun q=>parts a y (Tm.sub σ q)).map (form a ac)).Perm (parts a y (form a ac (y::Tm.sub σ r))):=by rw[hpf];exact(iK _).symm
    obtain⟨q,hq,hzq⟩:=bX.1 ((sC k2 k0 _ (au _) h z h0).1 hz);have hpo:=(iX k2 k0 _ (au _) h).2.1 q hq;have hlt:=(nE k2 k0 h rfl).1 q hq;have hσq:∀x∈q,x<0->Sf a ac (σ x):=fun x hx hx0=>hσ x ((sC k2 k0 _ (au _) h x hx0).2 (bX.2 ⟨q,hq,hx⟩)) hx0
    obtain⟨A,B,hAB⟩:=List.append_of_mem hq;have hsplit:((parts a y (Tm.sub σ q)).map (form a ac)++((A++B).flatMap fun q=>parts a y (Tm.sub σ q)).map (form a ac)).Perm (parts a y (form a ac (y::Tm.sub σ r))):=by
     refine List.Perm.trans ?_ hperm;have e9:parts a y (Tm.sub σ q)++(A++B).flatMap (fun q=>parts a y (Tm.sub σ q))=(q::(A++B)).flatMap (fun q=>parts a y (Tm.sub σ q)):=by rw[bH]
     rw[hAB,<-aS,e9];exact((List.perm_middle).symm.flatMap_right _).map _
    by_cases hqv:q.headD 0<0
    ·obtain⟨v,s,rfl,_,hs⟩:=Wf.pos hpo.1;have hv:v<0:=by simpa using hqv
     have:mV a v=0:=by unfold mV;rw[ah hv]
     rw[aX,this]at hs;have:=hs.zero;subst this;have:z=v:=by simpa using hzq
     subst this;have hsf:=hσq z (by simp) h0;obtain⟨s1,s2,s3,s4⟩:=pM hac hac' hsf;rw[sub_one hv,sY fun w hw=>(s1 w hw).1.2]at hsplit;rw[<-s4];exact .sub hac' (by rw[hhd];rfl) s3 (FH s2 hL hsplit)
    ·obtain⟨v,s,rfl,_,hs⟩:=Wf.pos hpo.1;have hv:¬v<0:=by simpa using hqv
     have hvf:v≠y:=by simpa using hpo.2.1
     have ep:parts a y (Tm.sub σ (v::s))=[Tm.sub σ (v::s)]:=by rw[pT hv];exact ku hvf
     rw[ep]at hsplit;exact .part hac' (by rw[hhd];rfl) (hsplit.mem_iff.1 (by simp)) (Hx hac N (by simp only[ai]at hl hlt⊢;omega) hpo.1 hσq z hzq h0)
   ·obtain⟨us,h1,rfl,hu⟩:=kg hr;obtain⟨u,huu,hzu⟩:=bX.1 hzr;have hlu:=jG huu;have hσu:∀v∈us,∀x∈v,x<0->Sf a ac (σ x):=fun v hv x hx hx0=>hσ x (by simp only[bw,bX];exact .inr ⟨v,hv,hx⟩) hx0
    have e:form a ac (Tm.sub σ (y::us.flatten))=y::(us.map fun v=>form a ac (Tm.sub σ v)).flatten:=by
     rw[pT hy,zG,rO hac hac' (by rw[aK,h1]) fun v hv=>?_,c_]
     ·rfl
     ·obtain⟨w,hw,rfl⟩:=aY.1 hv;exact(hu w hw).sub fun x hx hx0=>(hσu w hw x hx hx0).1
    rw[e];exact .arg hac' (by rw[aK,h1]) (fun v hv=>by
     obtain⟨w,hw,rfl⟩:=aY.1 hv;exact(jR hac _ (au _) ((hu w hw).sub fun x hx hx0=>(hσu w hw x hx hx0).1)).1) (aY.2 ⟨u,huu,rfl⟩) (Hx hac N (by simp only[ai]at hl;omega) (hu u huu) (hσu u huu) z hzu h0)
def FJ{α:Type}:List α->List (List α)
 |[]=>[[]]
 |x::l=>FJ l++(FJ l).map (x::·)
theorem FK{α:Type}:∀l:List α,(FJ l).length=2^l.length
 |[]=>rfl
 |x::l=>by rw[FJ,aj,aK,FK l,ai,Nat.pow_succ];omega
theorem Cg{α:Type}:∀{l s:List α},s.Sublist l->s∈FJ l
 |[],s,h=>by rw[List.sublist_nil.1 h];simp[FJ]
 |x::l,s,h=>by
  rw[FJ,aM];cases h with
  |cons _ h=>exact .inl (Cg h)
  |cons_cons _ h=>exact .inr (aY.2 ⟨_,Cg h,rfl⟩)
def Np(a ac:fN):Nat->fN->List fN
 |0,t=>[t]
 |n+1,[]=>[[]]
 |n+1,x::r=>(x::r)::if x∈ac then(FJ (parts a x (x::r))).map (vK x)++(parts a x (x::r)).flatMap (Np a ac n)else(prt a (mV a x) r).flatMap (Np a ac n)
theorem D2{a ac:fN}(hac:tg a ac):∀(n:Nat){t u:fN},Wf a 1 t->t.length<=n->Vl a ac t u->u∈Np a ac n t
 |0,t,u,h,hl,_=>by have:=h.len;omega
 |n+1,t,u,h,hl,hv=>by
  obtain⟨x,r,rfl,ho,hr⟩:=Wf.pos h;rw[aX]at hr;rw[Np,bw];cases hv with
  |refl=>exact .inl rfl
  |arg hx hk hw hu hv=>
   rename_i us v;refine .inr ?_;rw[ay hx,<-hk,vY hw];have hle:=jG hu;simp only[ai]at hl;exact dI.2 ⟨v,hu,D2 hac n (hw v hu) gq hv⟩
  |sub hf hh hne hs=>
   rename_i f S;have hx:x=f:=by simpa using hh
   subst hx;refine .inr ?_;rw[ah hf,aM];exact .inl (aY.2 ⟨_,Cg hs,rfl⟩)
  |part hf hh hu hv=>
   rename_i f v;have hx:x=f:=by simpa using hh
   subst hx;obtain⟨h0,h2⟩:=hac x hf;refine .inr ?_;rw[ah hf,aM];have h3:=(iX h2 h0 _ (au _) h).2.1 v hu;have h4:=(nE h2 h0 h rfl).1 v hu;exact .inr (dI.2 ⟨v,hu,D2 hac n h3.1 gq hv⟩)
inductive Fw(a ac:fN):fN->Prop
 |ac {x:Int} {r:fN} (hx:x∈ac) (h6:(parts a x (x::r)).length<=6) (h:∀u∈parts a x (x::r),Fw a ac u):Fw a ac (x::r)
 |na {x:Int} {r:fN} (hx:x∉ac) (h:∀u∈prt a (mV a x) r,Fw a ac u):Fw a ac (x::r)
theorem ER{α:Type}{l:List fN}{g:fN->List α}{c:Nat}(h:∀u∈l,(g u).length<=c*u.length):(l.flatMap g).length<=c*l.flatten.length:=by
 induction l with
 |nil=>simp
 |cons u l ih=>
  rw[bH,aj,aR,aj,Nat.mul_add];have:=h u (by simp);have:=ih fun v hv=>h v (by simp[hv])
  omega
theorem OU{k:Nat}(h2:2<=k)(h6:k<=6):1+2^k+13<=13*k:=by
 match k,h2,h6 with
 |2,_,_=>decide
 |3,_,_=>decide
 |4,_,_=>decide
 |5,_,_=>decide
 |6,_,_=>decide
theorem D1{a ac:fN}(hac:tg a ac):∀(n:Nat){t:fN},Wf a 1 t->t.length<=n->Fw a ac t->(Np a ac n t).length<=13*t.length
 |0,t,h,hl,_=>by have:=h.len;omega
 |n+1,t,h,hl,hf=>by
  obtain⟨x,r,rfl,ho,hr⟩:=Wf.pos h;rw[aX]at hr;rw[Np,ai];cases hf with
  |ac hx h6 hp=>
   obtain⟨h0,h2⟩:=hac x hx;obtain⟨q1,q2⟩:=nE h2 h0 h rfl;obtain⟨p1,p2,p3⟩:=iX h2 h0 _ (au _) h;rw[ah hx,aj,aK,FK];have h7:=ER (l:=parts a x (x::r)) (g:=Np a ac n) (c:=13) fun u hu=>D1 hac n (p2 u hu).1 (by have:=q1 u hu;omega) (hp u hu)
   have h8:=OU q2 h6;simp only[ai]at p3⊢;omega
  |na hx hp=>
   obtain⟨us,h1,rfl,hu⟩:=kg hr;rw[<-h1,vY hu]at hp;rw[ay hx,<-h1,vY hu];have h7:=ER (l:=us) (g:=Np a ac n) (c:=13) fun u hq=>D1 hac n (hu u hq) (by have:=jG hq;simp only[ai]at hl;omega) (hp u hq)
   simp only[ai];omega
theorem xd{α:Type}[DecidableEq α]:∀{l U:List α},l.Nodup->(∀x∈l,x∈U)->l.length<=U.length
 |[],_,_,_=>d_ _
 |x::l,U,h,hs=>by
  rw[cI]at h;have hx:=hs x (by simp);have h1:=xd (U:=U.erase x) h.2 fun y hy=>(List.mem_erase_of_ne (fun e=>h.1 (by rw[<-e];exact hy))).2 (hs y (by simp[hy]))
  have h2:=List.length_erase_of_mem hx;have h3:=List.length_pos_of_mem hx;rw[ai];omega
theorem wQ{α β:Type}{l:List α}{g:α->List β}{c:Nat}(h:∀x∈l,(g x).length=c):(l.flatMap g).length=l.length*c:=by
 induction l with
 |nil=>simp
 |cons x l ih=>
  rw[bH,aj,h x (by simp),ih fun y hy=>h y (by simp[hy]),ai,bC];omega
def SA(vals:List fN):List Bd:=
 ([]::vals).flatMap fun v0=>([]::vals).flatMap fun v1=>([]::vals).flatMap fun v2=>([]::vals).map fun v3=>v0::v1::v2::v3::List.replicate 20 []
theorem Pe(vals:List fN):(SA vals).length=(vals.length+1)*((vals.length+1)*((vals.length+1)*(vals.length+1))):=by
 unfold SA;rw[wQ (c:=(vals.length+1)*((vals.length+1)*(vals.length+1))) fun v0 _=>?_,ai];rw[wQ (c:=(vals.length+1)*(vals.length+1)) fun v1 _=>?_,ai];rw[wQ (c:=(vals.length+1)) fun v2 _=>?_,ai];rw[aK,ai]
theorem Pf{vals:List fN}{g:Bd}(hl:g.length=24)(h4:∀x:Int,x< -4->gK g x=[])(hv:∀x:Int,x<0->gK g x≠[]->gK g x∈vals):g∈SA vals:=by
 have hg:∀i:Nat,gK g (-1-(i:Int))=g.getD i []:=fun i=>by unfold gK;rw[show(-1-(-1-(i:Int))).toNat=i by omega]
 have ho:∀i:Nat,g.getD i []∈[]::vals:=fun i=>by
  by_cases e:g.getD i []=[]
  ·rw[e];simp
  ·rw[<-hg];exact dg _ (hv _ gq (by rw[hg];exact e))
 have hz:∀i:Nat,4<=i->g.getD i []=[]:=fun i hi=>by rw[<-hg];exact h4 _ gq
 unfold SA;refine dI.2 ⟨_,ho 0,dI.2 ⟨_,ho 1,dI.2 ⟨_,ho 2,aY.2 ⟨_,ho 3,?_⟩⟩⟩⟩;have e:∀(l:Bd)(i:Nat)(h:i<l.length),l[i]=l.getD i []:=fun l i h=>by simp[ak,h]
 refine dn (by simp[hl]) fun i h1 h2=>?_
 rw[e _ _ h1,e _ _ h2];clear h1 h2;rcases cu i 4 with h|h
 ·rcases(by omega:i=0\/i=1\/i=2\/i=3)with rfl|rfl|rfl|rfl<;>rfl
 ·obtain⟨k,rfl⟩:∃k,i=k+4:=⟨i-4,gq⟩;rw[hz (k+4) h];simp only[ej];rw[ak,dO];split<;>rfl
theorem Db{vals:List fN}(h:vals.length<=780):(SA vals).length<=400000000000:=by
 rw[Pe];have h1:vals.length+1<=781:=by omega
 have h2:=er h1 h1;have h3:=er h1 h2;have h4:=er h1 h3;omega
def vg(g:Bd):Bd:=(List.range 24).map fun i=>if g.getD i []=[]then [-1-(i:Int)]else g.getD i []
def Out(a ac:fN):Kt->Bd->Bd->Prop
 |.rc,g,o=>o=vg g
 |.al ps ts k,g,o=>∃g',RA a ac (ps.drop 1) (ts.drop 1) g g'/\Out a ac k g' o
 |.s1 f ps ts j k,g,o=>∃g',RS a ac f (ps.drop 1) (ts.eraseIdx j.toNat) g g'/\Out a ac k g' o
 |.s2 f ps ts k,g,o=>∃g',RS a ac f (ps.drop 1) ts g g'/\Out a ac k g' o
structure vn(Q:Bd->Prop)(fd fd':List Bd):Prop where
 pre:∃ext,fd'=fd++ext/\∀o∈ext,Q o
 nodup:fd.Nodup->fd'.Nodup
 all:fd'.length<=20->∀o,Q o->o∈fd'
theorem vn.C6{Q:Bd->Prop}{fd:List Bd}(h:20<fd.length):vn Q fd fd:=⟨⟨[],by simp,fun o ho=>by cases ho⟩,id,fun hl=>by omega⟩
theorem vn.ua{Q:Bd->Prop}{fd:List Bd}(h:∀o,¬Q o):vn Q fd fd:=⟨⟨[],by simp,fun o ho=>by cases ho⟩,id,fun _ o ho=>absurd ho (h o)⟩
theorem vn.le{Q:Bd->Prop}{fd fd':List Bd}(h:vn Q fd fd'):fd.length<=fd'.length:=by
 obtain⟨ext,rfl,_⟩:=h.pre;simp
theorem vn.trans{Q1 Q2:Bd->Prop}{fd fd1 fd2:List Bd}(h1:vn Q1 fd fd1)(h2:vn Q2 fd1 fd2):vn (fun o=>Q1 o\/Q2 o) fd fd2:=by
 have hl:=h2.le;obtain⟨e1,rfl,q1⟩:=h1.pre;obtain⟨e2,rfl,q2⟩:=h2.pre;refine⟨⟨e1++e2,by rw[aL],fun o ho=>(aM.1 ho).imp (q1 o) (q2 o)⟩,fun h=>h2.nodup (h1.nodup h),fun hs o ho=>?_⟩;rcases ho with ho|ho
 ·exact bF _ (h1.all gq o ho)
 ·exact h2.all hs o ho
theorem vn.iff{Q Q':Bd->Prop}{fd fd':List Bd}(h:vn Q fd fd')(he:∀o,Q o<->Q' o):vn Q' fd fd':=by
 have:Q=Q':=funext fun o=>propext (he o)
 rw[<-this];exact h
def yE(ps:List fN):Nat:=ps.flatten.length
def wK:Kt->Nat
 |.rc=>1
 |.al ps _ k=>1+3*yE (ps.drop 1)+wK k
 |.s1 _ ps _ _ k=>1+3*yE (ps.drop 1)+wK k
 |.s2 _ ps _ k=>1+3*yE (ps.drop 1)+wK k
def yN(a:fN)(ps:List fN):Prop:=(∀p∈ps,Wf a 1 p)/\yE ps<=60
def AO(a ac:fN)(f:Int)(ts:List fN):Prop:=(∀t∈ts,Sf a ac t/\t.headD 0≠f)/\ts.Pairwise (fun a b=>kX a b<=0)/\yE ts<=60
def Kp(a ac:fN):Kt->Prop
 |.rc=>True
 |.al ps ts k=>yN a ps/\(∀t∈ts,Sf a ac t)/\yE ts<=60/\ps.length=ts.length/\0<ps.length/\Kp a ac k
 |.s1 f ps ts j k=>f∈ac/\wD a f/\yN a ps/\(∀p∈ps,p.headD 0≠f)/\AO a ac f ts/\0<ps.length/\0<=j/\j<ts.length/\Kp a ac k
 |.s2 f ps ts k=>f∈ac/\wD a f/\yN a ps/\(∀p∈ps,p.headD 0≠f)/\AO a ac f ts/\0<ps.length/\Kp a ac k
theorem Jp{s t:List fN}(hs:s.length<=1000)(hu:∀u∈s,Small u):nN s t=some (s==t):=by
 unfold nN iq;by_cases hl:s.length=t.length
 ·rw[ay (by simp[hl])];have key:gF (ic s t) 0=some (s==t):=by
   refine gz.eq (gz.loop (fun q:Int=>∃j:Nat,j<=s.length/\q=j/\s.take j=t.take j) (fun q:Int=>s.length-q.toNat) ⟨0,gq,rfl,by simp⟩ ?_);rintro _ ⟨j,h1,rfl,h2⟩;simp only[ic];by_cases hj:j<s.length
   ·have hj':j<t.length:=by omega
    rw[ah (by simpa using hj),ah gq,ah gq,jS (n:=(j:Int)+1) gq gq];simp only[aq,gH hj,gH hj'];rw[nj (hu _ (aC hj)),aa];refine gz.ite (fun hc=>?_) fun hc=>?_
    ·have he:s[j]=t[j]:=by simpa using hc
     refine .some ⟨⟨j+1,gq,by simp,?_⟩,by simp only[];omega⟩;rw[aJ hj,aJ hj',h2,he]
    ·have he:s[j]≠t[j]:=by simpa using hc
     refine .some ?_;simp only[tj];have:s≠t:=fun e=>he (by subst e;rfl)
     simpa using this.symm∘Eq.symm
   ·obtain rfl:j=s.length:=by omega
    rw[ay (by simp)];refine .some ?_;simp only[tj];rw[bh,hl,bh]at h2;simp[h2]
  rw[key,aa]
 ·rw[ah (by simp only[bne_iff_ne,ne_eq];omega),aa];have:s≠t:=fun e=>hl (by rw[e])
  simp[this]
theorem CA{fd:List Bd}{o:Bd}(hl:fd.length<=400000000000)(hs:∀g∈fd,g.length<=24/\∀u∈g,Small u):iH fd o=some (decide (o∈fd)):=by
 unfold iH jF;have key:=GP (xs:=fd) (p:=fun g=>g==o) (f:=iI fd o) (fun i x hi hx he=>by
  rw[iI,ah (by simpa using hi),ah gq];simp only[aq,he];unfold kZ;have h9:=hs x hx;rw[Jp gq h9.2,aa,aa,jS (n:=(i:Int)+1) gq gq];split<;>rfl) (by rw[iI,ay (by simp)];rfl)
 rw[key,aa];congr 1;refine dH.2 ⟨fun h=>?_,fun h=>Jj h (by simp)⟩;by_cases h2:o∈fd
 ·exact h2
 ·have:=EN (p:=fun g=>g==o) (xs:=fd) fun x hx=>by
   simp only[ei,ne_eq];exact fun e=>h2 (by rw[<-e];exact hx)
  omega
theorem zu{g:Bd}{i:Nat}(h:i<24):(vg g).getD i default=if g.getD i []=[]then [-1-(i:Int)]else g.getD i []:=by
 unfold vg;rw[ak,bk,dm h];rfl
theorem zw{g:Bd}:(vg g).length=24:=by simp[vg]
theorem E1{m0 m1:fN}{fd:List Bd}{g:Bd}(hg:g.length=24)(hl:fd.length<=400000000000)(hs:∀g∈fd,g.length<=24/\∀u∈g,Small u):
 iV m0 m1 fd g=some (if vg g∈fd then fd else fd++[vg g]):=by
 unfold iV;refine gz.eq (gz.loop (fun q:Int×List fN=>∃j:Nat,j<=24/\q.1=j/\q.2.length=24/\∀i,i<j->q.2.getD i default=(vg g).getD i default) (fun q:Int×List fN=>24-q.1.toNat) ⟨0,gq,rfl,by simp,fun i h=>by omega⟩ ?_);rintro⟨_,l5⟩ ⟨j,h1,rfl,h2,h3⟩;simp only at h2 h3;simp only[mH];by_cases hj:j<24
 ·have hgd:g.getD j default=g.getD j []:=rfl;have step:∀u,u=(vg g).getD j default->gz True (if 0<=(j:Int)/\(j:Int)<(24:Int)/\(j:Int)<(l5.length:Int)then some (.inl ((IntKind.i64.wrap ((j:Int)+1)),(l5.set (j:Int).toNat u)))else none:Option ((Int×List fN)⊕List Bd))
   (tj (fun q:Int×List fN=>∃j:Nat,j<=24/\q.1=j/\q.2.length=24/\∀i,i<j->q.2.getD i default=(vg g).getD i default) (fun q:Int×List fN=>24-q.1.toNat) (·=if vg g∈fd then fd else fd++[vg g]) (24-(j:Int).toNat)):=fun u hu=>by
   rw[jS (n:=(j:Int)+1) gq gq];refine gz.need ⟨gq,gq,gq⟩ (.some ⟨⟨j+1,gq,by simp,by simp[h2],fun i hi=>?_⟩,by simp only[];omega⟩);simp only[aq];rw[ak,cH];by_cases e:j=i
   ·subst e;rw[ah rfl,ah gq];exact hu
   ·rw[ay e,<-ak];exact h3 i gq
  rw[ah (by simp only[az];omega),ah ⟨gq,gq,gq⟩];simp only[aq]at step⊢;refine gz.ite (fun hc=>?_) fun hc=>?_
  ·unfold mY;rw[aa,jS (n:=(-1:Int)-(j:Int)) gq gq];refine step _ ?_;rw[zu hj,ah (show g.getD j []=[]from List.isEmpty_iff.1 hc)]
  ·refine step _ ?_;rw[zu hj,ay (fun e=>by rw[hgd,e]at hc;cases hc)];rfl
 ·obtain rfl:j=24:=by omega
  have he:l5=vg g:=by
   refine dn (by rw[h2,zw]) fun i k1 k2=>?_
   have:=h3 i gq;rwa [gH k1,gH k2]at this
  subst he;rw[ay (by decide)];refine gz.inr (gz.need h2 ?_);rw[CA hl hs,aa];refine gz.ite (fun hc=>?_) fun hc=>?_
  ·refine .some ?_;simp only[tj];rw[ah (by simpa using hc)]
  ·refine gz.need gq (.some ?_);simp only[tj];rw[ay (by simpa using hc)]
structure W0(U:List Bd):Prop where
 len:U.length<=400000000000
 small:∀g∈U,g.length<=24/\∀u∈g,Small u
def wJ(a ac:fN)(U:List Bd)(T:Prop)(recR:RT)(k:Kt):Prop:=∀g fd,yK a ac g->(∀u∈g,Small u)->fd.Nodup->(∀o∈fd,o∈U)->(∀o,Out a ac k g o->o∈U)->
 gz T (recR k a ac fd g) fun r=>r.2=g/\vn (Out a ac k g) fd r.1
theorem vn.mem{Q:Bd->Prop}{U fd fd':List Bd}(h:vn Q fd fd')(h1:∀o∈fd,o∈U)(h2:∀o,Q o->o∈U):∀o∈fd',o∈U:=by
 obtain⟨ext,rfl,q⟩:=h.pre;intro o ho;rcases aM.1 ho with ho|ho
 ·exact h1 o ho
 ·exact h2 o (q o ho)
theorem ET{a ac:fN}{g:Bd}(hg:yK a ac g){x:Int}(hx:x<0)(h24: -24<=x){t:fN}(ht:Sf a ac t):yK a ac (gC g x t):=
 ⟨by rw[yS];exact hg.1,fun m hm hn=>by
  rw[oL hx (by rw[hg.1];omega) hm]at hn⊢;split
  ·exact ht
  ·rename_i e;rw[ay e]at hn;exact hg.2 m hm hn⟩
theorem IU{g:Bd}{x:Int}{t:fN}(h:gK g x=[])(hl:(-1-x).toNat<g.length):(gC g x t).set (-1-x).toNat []=g:=by
 unfold gK at h;unfold Tm.gC;rw[List.set_set];refine dn (by simp) fun i h1 h2=>?_
 rw[List.getElem_set];split
 ·rename_i e;subst e;rw[ak,aA h2]at h;exact h.symm
 ·rfl
theorem G_{g:Bd}{x:Int}{t:fN}(hg:∀u∈g,Small u)(ht:Small t):∀u∈gC g x t,Small u:=fun u hu=>by
 unfold Tm.gC at hu;rcases ez hu with h|rfl
 ·exact hg u h
 ·exact ht
theorem CY{a ac:fN}(hac:tg a ac){U:List Bd}{T:Prop}{recR:RT}{recM:MT}{k:Kt}(hk:wJ a ac U T recR k){x:Int}(hx:x<0)(h24: -24<=x){t:fN}(ht:Sf a ac t)(hl:t.length<=120)
 {g:Bd} {fd:List Bd} (hg:yK a ac g) (hgs:∀u∈g,Small u) (hn:fd.Nodup) (hU:∀o∈fd,o∈U) (hQ:∀o,(∃g',RM a ac [x] t g g'/\Out a ac k g' o)->o∈U):
 gz T (jT recR recM (-1-x) t k a ac fd g) fun r=>r.2=g/\vn (fun o=>∃g',RM a ac [x] t g g'/\Out a ac k g' o) fd r.1:=by
 have hi:(-1-x).toNat<g.length:=by rw[hg.1];omega
 have hlen:=hg.1;have htn:0<t.length:=by have:=ht.1.len;omega
 unfold jT;rw[ah gq];have hgd:g.getD (-1-x).toNat default=gK g x:=rfl;rw[hgd];refine gz.ite (fun hc=>?_) fun hc=>?_
 ·have he:gK g x=[]:=List.isEmpty_iff.1 hc;have hQ':∀o,Out a ac k (gC g x t) o<->∃g',RM a ac [x] t g g'/\Out a ac k g' o:=fun o=>
   ⟨fun h=>⟨_,(vB hac hg hx h24 ht he).2 rfl,h⟩,fun⟨g',h1,h2⟩=>by rw[<-(vB hac hg hx h24 ht he).1 h1];exact h2⟩
  refine gz.need htn ?_;refine gz.bind (hk (gC g x t) fd (ET hg hx h24 ht) (G_ hgs (show t.length<1099511627776 by omega)) hn hU fun o ho=>hQ o ((hQ' o).1 ho)) ?_;rintro⟨r1,r2⟩ ⟨e,hr⟩;simp only at e;subst e;refine gz.need ⟨gq,gq,by rw[yS];omega⟩ (.some ⟨IU he hi,hr.iff hQ'⟩)
 ·have he:gK g x≠[]:=fun e=>by rw[e]at hc;cases hc
  rw[nj (hgs _ (by unfold gK;exact qi hi)),aa];refine gz.ite (fun hc2=>?_) fun hc2=>?_
  ·have e:gK g x=t:=by simpa using hc2
   have hQ':∀o,Out a ac k g o<->∃g',RM a ac [x] t g g'/\Out a ac k g' o:=fun o=>
    ⟨fun h=>⟨_,(yB hac hg hx h24 he).2 ⟨e,rfl⟩,h⟩,fun⟨g',h1,h2⟩=>by rw[<-((yB hac hg hx h24 he).1 h1).2];exact h2⟩
   refine gz.bind (hk g fd hg hgs hn hU fun o ho=>hQ o ((hQ' o).1 ho)) ?_;rintro⟨r1,r2⟩ ⟨e2,hr⟩;exact .some ⟨e2,hr.iff hQ'⟩
  ·have e:gK g x≠t:=by simpa using hc2
   exact .some ⟨rfl,vn.ua fun o ⟨g',h1,_⟩=>e ((yB hac hg hx h24 he).1 h1).1⟩
def yO(a ac:fN)(U:List Bd)(T:Prop)(recM:MT)(p t:fN)(k:Kt):Prop:=∀g fd,yK a ac g->(∀u∈g,Small u)->fd.Nodup->(∀o∈fd,o∈U)->(∀o,(∃g',RM a ac p t g g'/\Out a ac k g' o)->o∈U)->
 gz T (recM p t k a ac fd g) fun r=>r.2=g/\vn (fun o=>∃g',RM a ac p t g g'/\Out a ac k g' o) fd r.1
theorem Lt{a ac:fN}(hac:tg a ac){U:List Bd}{T:Prop}{recR:RT}{recM:MT}{k:Kt}{ps ts:List fN}(hl:ps.length=ts.length)
 (hk:ps=[]->wJ a ac U T recR k) (hm:0<ps.length->yO a ac U T recM (ps.getD 0 default) (ts.getD 0 default) (.al ps ts k))
 {g:Bd} {fd:List Bd} (hg:yK a ac g) (hgs:∀u∈g,Small u) (hn:fd.Nodup) (hU:∀o∈fd,o∈U) (hQ:∀o,(∃g',RA a ac ps ts g g'/\Out a ac k g' o)->o∈U):
 gz T (jv recR recM ps ts k a ac fd g) fun r=>r.2=g/\vn (fun o=>∃g',RA a ac ps ts g g'/\Out a ac k g' o) fd r.1:=by
 unfold jv
 match ps,ts,hl with
 |[],[],_=>
  have hQ':∀o,Out a ac k g o<->∃g',RA a ac [] [] g g'/\Out a ac k g' o:=fun o=>
   ⟨fun h=>⟨g,(G6 hac).2 ⟨rfl,rfl⟩,h⟩,fun⟨g',h1,h2⟩=>by rw[<-((G6 hac).1 h1).2];exact h2⟩
  rw[ah (by decide)];refine gz.bind (hk rfl g fd hg hgs hn hU fun o ho=>hQ o ((hQ' o).1 ho)) ?_;rintro⟨r1,r2⟩ ⟨e,hr⟩;exact .some ⟨e,hr.iff hQ'⟩
 |p::ps,t::ts,hl=>
  have hQ':∀o,(∃g',RM a ac p t g g'/\Out a ac (.al (p::ps) (t::ts) k) g' o)<->∃g',RA a ac (p::ps) (t::ts) g g'/\Out a ac k g' o:=fun o=>by
   constructor
   ·rintro⟨g',h1,g'',h2,h3⟩;exact⟨g'',(Ik hac hg).2 ⟨g',h1,h2⟩,h3⟩
   ·rintro⟨g'',h1,h3⟩;obtain⟨g',h4,h5⟩:=(Ik hac hg).1 h1;exact⟨g',h4,g'',h5,h3⟩
  rw[ay (by simp;omega),ah (by simp only[ai];omega),ah (by simp only[ai];omega)];refine gz.bind (hm (by simp) g fd hg hgs hn hU fun o ho=>hQ o ((hQ' o).1 ho)) ?_;rintro⟨r1,r2⟩ ⟨e,hr⟩;exact .some ⟨e,hr.iff hQ'⟩
theorem kT{ts:List fN}{i:Nat}(h:i<ts.length):(ts.eraseIdx i).Perm (ts.erase ts[i]):=by
 refine(eX ts[i]).1 (List.Perm.trans ?_ (de (aC h)));rw[dS];refine(List.perm_middle).symm.trans ?_;rw[<-aH h,bP]
theorem DW{a ac:fN}(hac:tg a ac){f y:Int}{r:fN}{ps ts:List fN}{k:Kt}{g:Bd}(hg:yK a ac g)(hy:0<=y)(hf:y≠f)(o:Bd):
 (∃i,∃h:i<ts.length,∃g',RM a ac (y::r) ts[i] g g'/\Out a ac (.s1 f ((y::r)::ps) ts (i:Nat) k) g' o)<->∃g'',RS a ac f ((y::r)::ps) ts g g''/\Out a ac k g'' o:=by
 constructor
 ·rintro⟨i,h,g',h1,g'',h2,h3⟩;refine⟨g'',(Am hac hg hy hf).2 ⟨ts[i],aC h,g',h1,?_⟩,h3⟩;rw[aq]at h2;exact qA hac (.refl _) (kT h) h2
 ·rintro⟨g'',h1,h3⟩;obtain⟨t,ht,g',h4,h5⟩:=(Am hac hg hy hf).1 h1;obtain⟨i,h,rfl⟩:=ck ht;refine⟨i,h,g',h4,g'',?_,h3⟩;rw[aq];exact qA hac (.refl _) (kT h).symm h5
def Sh(a ac:fN)(f:Int)(p:fN)(ps ts:List fN)(k:Kt)(g:Bd)(i:Nat)(o:Bd):Prop:=∃h:i<ts.length,∃g',RM a ac p ts[i] g g'/\Out a ac (.s1 f (p::ps) ts (i:Nat) k) g' o
theorem Vh{a ac:fN}(hac:tg a ac){f:Int}{p:fN}{ps ts:List fN}{k:Kt}{g:Bd}{i j:Nat}{o:Bd}(hi:i<ts.length)(hj:j<ts.length)(he:ts[i]=ts[j])(h:Sh a ac f p ps ts k g j o):Sh a ac f p ps ts k g i o:=by
 obtain⟨_,g',h1,g'',h2,h3⟩:=h;refine⟨hi,g',by rw[he];exact h1,g'',?_,h3⟩;rw[aq]at h2⊢;have e1:=kT hi;have e2:=kT hj;rw[he]at e1;exact qA hac (.refl _) (e2.trans e1.symm) h2
theorem JW{a ac:fN}(hac:tg a ac){U:List Bd}{T:Prop}{recR:RT}{recM:MT}{k:Kt}{f:Int}{p:fN}{ps ts:List fN}(hl:ts.length<=1000)(hs:∀t∈ts,Small t)
 (hm:∀(j:Nat)(h:j<ts.length),yO a ac U T recM p ts[j] (.s1 f (p::ps) ts (j:Nat) k))
 {g:Bd} {fd:List Bd} (hg:yK a ac g) (hgs:∀u∈g,Small u) (hn:fd.Nodup) (hU:∀o∈fd,o∈U) (hQ:∀i o,Sh a ac f p ps ts k g i o->o∈U):
 gz T (gF (kN recR recM f (p::ps) ts k a ac) (0,g,fd)) fun r=>r.2=g/\vn (fun o=>∃i,Sh a ac f p ps ts k g i o) fd r.1:=by
 refine gz.loop (fun q:Int×Bd×List Bd=>∃j:Nat,j<=ts.length/\q.1=j/\q.2.1=g/\vn (fun o=>∃i,i<j/\Sh a ac f p ps ts k g i o) fd q.2.2) (fun q:Int×Bd×List Bd=>ts.length-q.1.toNat)
  ⟨0,gq,rfl,rfl,vn.ua fun o ⟨i,h,_⟩=>by omega⟩ ?_
 rintro⟨_,g2,fj⟩ ⟨j,h1,rfl,e0,h2⟩;simp only at e0 h2;have e1:=e0.symm;clear e0;subst e1;simp only[kN];by_cases hj:j<ts.length
 ·have run:gz T ((recM ((p::ps).getD 0 default) (ts.getD (j:Int).toNat default) (Kt.s1 f (p::ps) ts j k) a ac fj g).bind fun r_6=>some (Sum.inl (IntKind.i64.wrap ((j:Int)+1),r_6.2,r_6.1)):Option ((Int×Bd×List Bd)⊕(List Bd×Bd)))
   (tj (fun q:Int×Bd×List Bd=>∃j:Nat,j<=ts.length/\q.1=j/\q.2.1=g/\vn (fun o=>∃i,i<j/\Sh a ac f p ps ts k g i o) fd q.2.2) (fun q:Int×Bd×List Bd=>ts.length-q.1.toNat) (fun r=>r.2=g/\vn (fun o=>∃i,Sh a ac f p ps ts k g i o) fd r.1) (ts.length-(j:Int).toNat)):=by
   rw[aq,gH hj,bB,jS (n:=(j:Int)+1) gq gq];refine gz.bind (hm j hj g fj hg hgs (h2.nodup hn) (h2.mem hU fun o ⟨i,_,h⟩=>hQ i o h) fun o ho=>hQ j o ⟨hj,ho⟩) ?_;rintro⟨r1,r2⟩ ⟨e,hr⟩;refine .some ⟨⟨j+1,gq,by simp,e,(h2.trans hr).iff fun o=>?_⟩,by simp only[];omega⟩;constructor
   ·rintro(⟨i,hi,h⟩|h)
    ·exact⟨i,gq,h⟩
    ·exact⟨j,gq,hj,h⟩
   ·rintro⟨i,hi,h⟩;by_cases e:i=j
    ·subst e;obtain⟨_,h⟩:=h;exact .inr h
    ·exact .inl ⟨i,gq,h⟩
  rw[ah (by simpa using hj),ah gq];refine gz.ite (fun hc=>?_) fun hc=>?_
  ·have h0:0<j:=by simpa using hc
   rw[jS (n:=(j:Int)-1) gq gq,ah gq,show((j:Int)-1).toNat=j-1 by omega,aq,nj (hs _ (qi gq)),aa];refine gz.ite (fun hc2=>?_) fun hc2=>?_
   ·have he:ts[j-1]=ts[j]:=by
     have:ts.getD (j-1) default=ts.getD j default:=by simpa using hc2
     rwa [gH hj,gH (show j-1<ts.length by omega)]at this
    rw[jS (n:=(j:Int)+1) gq gq];refine .some ⟨⟨j+1,gq,by simp,rfl,h2.iff fun o=>?_⟩,by simp only[];omega⟩;constructor
    ·rintro⟨i,hi,h⟩;exact⟨i,gq,h⟩
    ·rintro⟨i,hi,h⟩;by_cases e:i=j
     ·subst e;exact⟨i-1,gq,Vh hac gq hj he h⟩
     ·exact⟨i,gq,h⟩
   ·simpa only[aq]using run
  ·exact run
 ·obtain rfl:j=ts.length:=by omega
  rw[ay (by simp)];refine .some ⟨rfl,h2.iff fun o=>?_⟩;exact⟨fun⟨i,_,h⟩=>⟨i,h⟩,fun⟨i,h⟩=>⟨i,h.1,h⟩⟩
end Go.Proofs.YthdnkoejpdcnpaaGreat
