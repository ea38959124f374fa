/- A part of the proof about FnUnravelled (ThA, PA, PB, PC, XL, PD, PG, QA, QB, QC, QD, RA, RB, RC, RD, RE, RF, RG, RH, RI, RJ, RK, RL, RM, RN, RO, RP, RQ, RR, RS, RT, RU, RV). -/
import Derived.Test.YtelhemjlfkbkeaaGreatUa
import Derived.Test.YtelhemjlfkbkeaaGreatUg
import Derived.Test.YtelhemjlfkbkeaaGreatUh
import Derived.Test.YtelhemjlfkbkeaaGreatUi
set_option linter.all false
namespace Tm
def vH(a:fI)(x:Int):Nat:=if x<0 then 0 else(a.getD x.toNat 0).toNat
def Fx(a:fI)(x:Int):Prop:= -24<=x/\x<a.length
instance(a:fI)(x:Int):Decidable (Fx a x):=by unfold Fx;infer_instance
def skip(a:fI):fI->Nat->Option fI
 |t,0=>some t
 |[],_+1=>none
 |x::t,k+1=>if Fx a x then skip a t (k+vH a x)else none
def Wf(a:fI)(k:Nat)(t:fI):Prop:=skip a t k=some []
instance(a:fI)(k:Nat)(t:fI):Decidable (Wf a k t):=by unfold Wf;infer_instance
theorem si(a t:fI):skip a t 0=some t:=by cases t<;>simp[skip]
theorem tW(a t:fI)(x:Int)(k:Nat):skip a (x::t) (k+1)=if Fx a x then skip a t (k+vH a x)else none:=by simp[skip]
theorem D8(a:fI)(k:Nat):skip a [] (k+1)=none:=by simp[skip]
theorem Iy{a:fI}(s:fI):∀{t r:fI}{k:Nat},skip a t k=some r->skip a (t++s) k=some (r++s)
 |t,r,0,h=>by rw[si]at h⊢;cases h;rfl
 |[],r,k+1,h=>by simp[skip]at h
 |x::t,r,k+1,h=>by
  rw[bH];rw[tW]at h⊢;split at h
  ·rename_i hx;rw[aE hx];exact Iy s h
  ·cases h
theorem D7{a:fI}(j:Nat):∀{t:fI}{k:Nat},skip a t (k+j)=(skip a t k).bind fun r=>skip a r j
 |t,0=>by simp[si]
 |[],k+1=>by rw[show k+1+j=(k+j)+1 by omega];simp[skip]
 |x::t,k+1=>by
  rw[show k+1+j=(k+j)+1 by omega,tW,tW];split
  ·rw[show k+j+vH a x=(k+vH a x)+j by omega];exact D7 j
  ·rfl
theorem AG{a:fI}:∀{t r:fI}{k:Nat},skip a t k=some r->∃u,t=u++r/\Wf a k u
 |t,r,0,h=>by rw[si]at h;cases h;exact⟨[],rfl,si _ _⟩
 |[],r,k+1,h=>by simp[skip]at h
 |x::t,r,k+1,h=>by
  rw[tW]at h;split at h
  ·rename_i hx;obtain⟨u,rfl,h2⟩:=AG h;exact⟨x::u,rfl,by unfold Wf;rw[tW,aE hx];exact h2⟩
  ·cases h
theorem Wf.skip{a u:fI}{k:Nat}(h:Wf a k u)(s:fI):skip a (u++s) k=some s:=Iy s h
theorem Wf.app{a u v:fI}{k j:Nat}(h:Wf a k u)(h':Wf a j v):Wf a (k+j) (u++v):=by unfold Wf;rw[D7,h.skip];exact h'
theorem Wf.nil{a:fI}:Wf a 0 []:=si _ _
theorem Wf.zero{a t:fI}(h:Wf a 0 t):t=[]:=by unfold Wf at h;rw[si]at h;exact er h
theorem Wf.mE{a t:fI}{x:Int}{k:Nat}:Wf a (k+1) (x::t)<->Fx a x/\Wf a (k+vH a x) t:=by
 unfold Wf;rw[tW];split<;>simp_all
theorem Wf.pos{a t:fI}{k:Nat}(h:Wf a (k+1) t):∃x r,t=x::r/\Fx a x/\Wf a (k+vH a x) r:=by
 cases t with
 |nil=>simp[Wf,Tm.skip]at h
 |cons x r=>exact⟨x,r,rfl,Wf.mE.1 h⟩
theorem Wf.split{a t:fI}{k j:Nat}(h:Wf a (k+j) t):∃u v,t=u++v/\Wf a k u/\Wf a j v:=by
 unfold Wf at h;rw[D7]at h;obtain⟨r,h1,h2⟩:=ai.1 h;obtain⟨u,rfl,h3⟩:=AG h1;exact⟨u,r,rfl,h3,h2⟩
theorem Wf.uniq{a u u' v v':fI}{k:Nat}(h:Wf a k u)(h':Wf a k u')(e:u++v=u'++v'):u=u'/\v=v':=by
 have h1:=h.skip v;have h2:=h'.skip v';rw[e,h2]at h1;cases er h1;exact⟨List.append_cancel_right e,rfl⟩
theorem Wf.all{a:fI}:∀{t:fI}{k:Nat},Wf a k t->∀x∈t,Fx a x
 |[],_,_=>by simp
 |y::t,0,h=>by have:=h.zero;cases this
 |y::t,k+1,h=>by
  obtain⟨h1,h2⟩:=Wf.mE.1 h;intro x hx;rcases bt.1 hx with rfl|hx
  ·exact h1
  ·exact h2.all x hx
theorem Wf.len{a:fI}:∀{t:fI}{k:Nat},Wf a k t->k<=t.length
 |t,0,_=>by omega
 |[],k+1,h=>by simp[Wf,Tm.skip]at h
 |y::t,k+1,h=>by
  obtain⟨h1,h2⟩:=Wf.mE.1 h;have:=h2.len;simp;omega
theorem Wf.place{a:fI}:∀{t:fI}{k i:Nat},Wf a k t->i<t.length->∃p u s,t=p++(u++s)/\p.length=i/\Wf a 1 u
 |[],_,_,_,hi=>by simp at hi
 |y::t,0,_,h,_=>by have:=h.zero;cases this
 |y::t,k+1,0,h,_=>by
  rw[show k+1=1+k by omega]at h;obtain⟨u,v,e,h1,_⟩:=h.split;exact⟨[],u,v,e,rfl,h1⟩
 |y::t,k+1,i+1,h,hi=>by
  obtain⟨p,u,s,rfl,h2,h3⟩:=(Wf.mE.1 h).2.place (i:=i) (by simpa using hi);exact⟨y::p,u,s,rfl,by simp[h2],h3⟩
theorem Wf.put{a u v s:fI}(hu:Wf a 1 u)(hv:Wf a 1 v):∀{p:fI}{k:Nat},Wf a k (p++(u++s))->Wf a k (p++(v++s))
 |[],0,h=>by
  have:=h.zero;have:=hu.len
  simp_all
 |[],k+1,h=>by
  rw[bl]at h⊢;rw[show k+1=1+k by omega]at h⊢;obtain⟨u',v',e,h1,h2⟩:=h.split;obtain⟨rfl,rfl⟩:=hu.uniq h1 e;exact hv.app h2
 |y::p,0,h=>by have:=h.zero;cases this
 |y::p,k+1,h=>by
  rw[bH]at h⊢;obtain⟨h1,h2⟩:=Wf.mE.1 h;exact Wf.mE.2 ⟨h1,Wf.put hu hv h2⟩
def sub(σ:Int->fI)(t:fI):fI:=t.flatMap fun x=>if x<0 then σ x else [x]
theorem uI(σ:Int->fI)(x:Int)(t:fI):sub σ (x::t)=(if x<0 then σ x else [x])++sub σ t:=by simp[sub]
theorem GN(σ:Int->fI)(s t:fI):sub σ (s++t)=sub σ s++sub σ t:=by simp[sub]
theorem sub_congr{σ τ:Int->fI}{t:fI}(h:∀x∈t,x<0->σ x=τ x):sub σ t=sub τ t:=by
 induction t with
 |nil=>rfl
 |cons x t ih=>
  rw[uI,uI,ih fun y hy=>h y (by simp[hy])];by_cases hx:x<0
  ·rw[aE hx,aE hx,h x (by simp) hx]
  ·rw[aJ hx,aJ hx]
theorem Wf.sub{a:fI}{σ:Int->fI}:∀{t:fI}{k:Nat},Wf a k t->(∀x∈t,x<0->Wf a 1 (σ x))->Wf a k (Tm.sub σ t)
 |[],k,h,_=>by simpa[Tm.sub]using h
 |y::t,0,h,_=>by have:=h.zero;cases this
 |y::t,k+1,h,hs=>by
  obtain⟨h1,h2⟩:=Wf.mE.1 h;rw[uI];have ih:=h2.sub fun x hx=>hs x (by simp[hx])
  by_cases hy:y<0
  ·rw[aE hy,show k+1=1+k by omega];refine(hs y (by simp) hy).app ?_;simpa[vH,hy]using ih
  ·rw[aJ hy];exact Wf.mE.2 ⟨h1,ih⟩
abbrev Bd:=List fI
def kG(b:Bd)(n:Int):fI:=b.getD (-1-n).toNat []
def gG(b:Bd)(n:Int)(u:fI):Bd:=b.set (-1-n).toNat u
def uL(a:fI):fI->fI->Bd->Option Bd
 |[],_,b=>some b
 |n::p,t,b=>
  if n<0 then match skip a t 1 with
   |none=>none
   |some r=>
    let u:=t.take (t.length-r.length)
    if kG b n=[]then uL a p r (gG b n u)else if kG b n=u then uL a p r b else none
  else match t with
   |[]=>none
   |y::t=>if y=n then uL a p t b else none
theorem xq(a t:fI)(b:Bd):uL a [] t b=some b:=by simp[uL]
theorem Wf.ne{a u:fI}(h:Wf a 1 u):u≠[]:=by have:=h.len;intro e;subst e;simp at this
theorem yE{a p t:fI}{n y:Int}{b:Bd}(hn:¬n<0):uL a (n::p) (y::t) b=if y=n then uL a p t b else none:=by simp[uL,hn]
theorem zR{a p u r:fI}{n:Int}{b:Bd}(hn:n<0)(hu:Wf a 1 u):uL a (n::p) (u++r) b=
 if kG b n=[]then uL a p r (gG b n u)else if kG b n=u then uL a p r b else none:=by
 simp[uL,hn,hu.skip]
theorem wq{b:Bd}{n m:Int}{u:fI}(hn:n<0)(hl: -1-n<b.length)(hm:m<0):kG (gG b n u) m=if m=n then u else kG b m:=by
 unfold kG gG;rw[aB,aB,dX];by_cases h:m=n
 ·subst h;rw[aE rfl,aE rfl,aE gu];rfl
 ·rw[aJ h,aJ gu]
theorem zQ{a:fI}:∀{p t:fI}{b b':Bd}{k:Nat},Wf a k p->Wf a k t->b.length=24->uL a p t b=some b'->
 t=sub (kG b') p/\b'.length=24/\(∀n,n<0->kG b n≠[]->kG b' n=kG b n)/\(∀n∈p,n<0->Wf a 1 (kG b' n)\/kG b n=kG b' n/\kG b n≠[])/\
 (∀n,n<0->n∉p->kG b' n=kG b n)
 |[],t,b,b',k,hp,ht,hb,h=>by
  rw[xq]at h;cases h;cases k with
  |zero=>have:=ht.zero;subst this;exact⟨rfl,hb,fun _ _ _=>rfl,by simp,fun _ _ _=>rfl⟩
  |succ k=>simp[Wf,Tm.skip]at hp
 |n::p,t,b,b',0,hp,ht,hb,h=>by have:=hp.zero;cases this
 |n::p,t,b,b',k+1,hp,ht,hb,h=>by
  obtain⟨hx,hp⟩:=Wf.mE.1 hp;by_cases hn:n<0
  ·rw[show k+1=1+k by omega]at ht;obtain⟨u,r,rfl,hu,hr⟩:=ht.split;rw[zR hn hu]at h;have ha:vH a n=0:=by simp[vH,hn]
   rw[ha,cP]at hp;have hl: -1-n<b.length:=by have:=hx.1;omega
   split at h
   ·rename_i h0;obtain⟨h1,h2,h3,h4,h5⟩:=zQ hp hr (by simpa[gG]using hb) h;have hbn:kG b' n=u:=by rw[h3 n hn (by rw[wq hn hl hn,aE rfl];exact hu.ne),wq hn hl hn,aE rfl]
    refine⟨by rw[uI,aE hn,hbn,<-h1],h2,fun m hm hne=>?_,fun m hm hm0=>?_,fun m hm hmp=>?_⟩
    ·by_cases hmn:m=n
     ·subst hmn;exact absurd h0 hne
     ·have:=wq (u:=u) hn hl hm;rw[aJ hmn]at this;rw[h3 m hm (by rw[this];exact hne),this]
    ·by_cases hmn:m=n
     ·subst hmn;rw[hbn];exact .inl hu
     ·have:=wq (u:=u) hn hl hm0;rw[aJ hmn]at this;rcases bt.1 hm with e|hm
      ·exact absurd e hmn
      ·rw[<-this];exact h4 m hm hm0
    ·have hmn:m≠n:=fun e=>hmp (by simp[e])
     have:=wq (u:=u) hn hl hm;rw[aJ hmn]at this;rw[h5 m hm fun hx=>hmp (by simp[hx]),this]
   ·rename_i h0;split at h
    ·rename_i h00;obtain⟨h1,h2,h3,h4,h5⟩:=zQ hp hr hb h;have hbn:kG b' n=u:=by rw[h3 n hn h0,h00]
     refine⟨by rw[uI,aE hn,hbn,<-h1],h2,h3,fun m hm hm0=>?_,fun m hm hmp=>?_⟩
     ·by_cases hmn:m=n
      ·subst hmn;rw[hbn];exact .inl hu
      ·rcases bt.1 hm with e|hm
       ·exact absurd e hmn
       ·exact h4 m hm hm0
     ·exact h5 m hm fun hx=>hmp (by simp[hx])
    ·cases h
  ·obtain⟨y,t,rfl,hy,ht⟩:=ht.pos;rw[yE hn]at h;split at h
   ·rename_i e;subst e;obtain⟨h1,h2,h3,h4,h5⟩:=zQ hp ht hb h;refine⟨by rw[uI,aJ hn,dD,<-h1],h2,h3,fun m hm hm0=>?_,fun m hm hmp=>?_⟩
    ·rcases bt.1 hm with e|hm
     ·omega
     ·exact h4 m hm hm0
    ·exact h5 m hm fun hx=>hmp (by simp[hx])
   ·cases h
theorem wm{a:fI}{σ:Int->fI}:∀{p:fI}{b:Bd}{k:Nat},Wf a k p->b.length=24->(∀n∈p,n<0->Wf a 1 (σ n))->(∀n∈p,n<0->kG b n=[]\/kG b n=σ n)->
 ∃b',uL a p (sub σ p) b=some b'/\b'.length=24/\(∀n∈p,n<0->kG b' n=σ n)/\(∀n,n<0->n∉p->kG b' n=kG b n)
 |[],b,k,hp,hb,hs,hc=>⟨b,xq _ _ _,hb,by simp,fun _ _ _=>rfl⟩
 |n::p,b,0,hp,hb,hs,hc=>by have:=hp.zero;cases this
 |n::p,b,k+1,hp,hb,hs,hc=>by
  obtain⟨hx,hp⟩:=Wf.mE.1 hp;by_cases hn:n<0
  ·have hu:=hs n (by simp) hn;have ha:vH a n=0:=by simp[vH,hn]
   rw[ha,cP]at hp;have hl: -1-n<b.length:=by have:=hx.1;omega
   rw[uI,aE hn,zR hn hu];by_cases h0:kG b n=[]
   ·rw[aE h0];have hg:∀m,m<0->kG (gG b n (σ n)) m=if m=n then σ n else kG b m:=fun m hm=>wq hn hl hm
    obtain⟨b',h1,h2,h3,h4⟩:=wm (σ:=σ) (b:=gG b n (σ n)) hp (by simpa[gG]using hb) (fun m hm hm0=>hs m (by simp[hm]) hm0) fun m hm hm0=>by
     rw[hg m hm0];by_cases hmn:m=n
     ·subst hmn;rw[aE rfl];exact .inr rfl
     ·rw[aJ hmn];exact hc m (by simp[hm]) hm0
    refine⟨b',h1,h2,fun m hm hm0=>?_,fun m hm hmp=>?_⟩
    ·by_cases hmp:m∈p
     ·exact h3 m hmp hm0
     ·rcases bt.1 hm with rfl|hm
      ·rw[h4 m hm0 hmp,hg m hm0,aE rfl]
      ·exact absurd hm hmp
    ·have hmn:m≠n:=fun e=>hmp (by simp[e])
     rw[h4 m hm fun hx=>hmp (by simp[hx]),hg m hm,aJ hmn]
   ·have hbn:kG b n=σ n:=(hc n (by simp) hn).resolve_left h0;rw[aJ h0,aE hbn];obtain⟨b',h1,h2,h3,h4⟩:=wm hp hb (fun m hm hm0=>hs m (by simp[hm]) hm0) fun m hm hm0=>hc m (by simp[hm]) hm0
    refine⟨b',h1,h2,fun m hm hm0=>?_,fun m hm hmp=>h4 m hm fun hx=>hmp (by simp[hx])⟩;by_cases hmp:m∈p
    ·exact h3 m hmp hm0
    ·rcases bt.1 hm with rfl|hm
     ·rw[h4 m hm0 hmp,hbn]
     ·exact absurd hm hmp
  ·rw[uI,aJ hn,dD,yE hn,aE rfl];obtain⟨b',h1,h2,h3,h4⟩:=wm hp hb (fun m hm hm0=>hs m (by simp[hm]) hm0) fun m hm hm0=>hc m (by simp[hm]) hm0
   refine⟨b',h1,h2,fun m hm hm0=>?_,fun m hm hmp=>h4 m hm fun hx=>hmp (by simp[hx])⟩;rcases bt.1 hm with rfl|hm
   ·exact absurd hm0 hn
   ·exact h3 m hm hm0
def k_:Bd:=List.replicate 24 []
theorem EN(n:Int):kG k_ n=[]:=by
 unfold kG k_;rw[aB,List.getElem?_replicate];split<;>rfl
def Mv(a f o t t':fI)(i:Nat):Prop:=∃p s σ,p.length=i/\t=p++(sub σ f++s)/\t'=p++(sub σ o++s)/\∀x,x<0->Wf a 1 (σ x)
theorem Mv.wf{a f o t t':fI}{i:Nat}(h:Mv a f o t t' i)(hf:Wf a 1 f)(ho:Wf a 1 o)(ht:Wf a 1 t):Wf a 1 t':=by
 obtain⟨p,s,σ,h1,rfl,rfl,h4⟩:=h;exact Wf.put (hf.sub fun x _ hx=>h4 x hx) (ho.sub fun x _ hx=>h4 x hx) ht
theorem Wf.var{a:fI}:Wf a 1 [-1]:=Wf.mE.2 ⟨⟨gu,gu⟩,by simp[vH];exact Wf.nil⟩
def iz(a t:fI)(i:Nat):fI:=match skip a (t.drop i) 1 with
 |some r=>(t.drop i).take ((t.drop i).length-r.length)
 |none=>[]
theorem A0{a p u s:fI}(hu:Wf a 1 u):iz a (p++(u++s)) p.length=u:=by
 unfold iz;rw[bI,hu.skip];simp
def EF(a t:fI)(i:Nat)(v:fI):fI:=t.take i++(v++t.drop (i+(iz a t i).length))
theorem Bu{a p u s v:fI}(hu:Wf a 1 u):EF a (p++(u++s)) p.length v=p++(v++s):=by
 unfold EF;rw[A0 hu,eC,<-List.drop_drop,bI,bI]
def mvB(a f o t t':fI)(i:Nat):Bool:=EF a t i (iz a t' i)==t'&&((uL a f (iz a t i) k_).bind fun b=>uL a o (iz a t' i) b).isSome
def sig(b:Bd)(n:Int):fI:=if kG b n=[]then [n]else kG b n
def FL(a l r t:fI)(i:Nat):Option fI:=(uL a l (iz a t i) k_).bind fun b=>
 if(sub (sig b) r).length<=60/\(EF a t i (sub (sig b) r)).length<=60 then some (EF a t i (sub (sig b) r))else none
end Tm
namespace Go.Proofs.YtelhemjlfkbkeaaGreat
open Go oe Tm
theorem kI{n:Int}(h1: -9223372036854775808<=n)(h2:n<9223372036854775808):IntKind.i64.wrap n=n:=by rw[wrap_i64 h1 h2]
theorem iM{α:Type}[Inhabited α]{xs:List α}{i:Nat}(h:i<xs.length):xs.getD i default=xs[i]:=by simp[aB,aA h]
theorem iQ{α:Type}[Inhabited α]{xs:List α}{i:Nat}(h:i<xs.length):xs.getD i default∈xs:=by rw[iM h];exact bu h
theorem uA{α:Type}[Inhabited α]{xs:List α}{p:α->Bool}{f:Int->Option fZ}
 (h:∀(i:Nat)(x:α),i<xs.length->(i:Int)<xs.length->x∈xs->xs.getD i default=x->f i=some (if p x=true then .inl ((i:Int)+1)else .inr false)) (he:f xs.length=some (.inr true)):gI f 0=some (xs.all p):=by
 have key:∀k i:Nat,i+k=xs.length->gI f (i:Int)=some ((xs.drop i).all p):=by
  intro k;induction k with
  |zero=>
   intro i hi;obtain rfl:i=xs.length:=by omega
   rw[hU he];simp
  |succ k ih=>
   intro i hi;have hlt:i<xs.length:=by omega
   have e:=h i _ hlt gu (bu hlt) (iM hlt);rw[aV hlt,List.all_cons];cases hp:p xs[i]with
   |true=>
    rw[hp,aE rfl]at e;rw[jN e];have:=ih (i+1) gu;rw[show((i:Int)+1)=((i+1:Nat):Int) by omega,this];simp
   |false=>
    rw[hp]at e;simp only[ah,ay]at e;rw[hU e];simp
 simpa using key xs.length 0 gu
theorem Pd{α β:Type}[Inhabited α]{xs:List α}{p:α->Bool}{f:Int->Option (Int⊕β)}{y n:β}
 (h:∀(i:Nat)(x:α),i<xs.length->(i:Int)<xs.length->x∈xs->xs.getD i default=x->f i=some (if p x=true then .inr y else .inl ((i:Int)+1))) (he:f xs.length=some (.inr n)):
 gI f 0=some (if xs.any p=true then y else n):=by
 have key:∀k i:Nat,i+k=xs.length->gI f (i:Int)=some (if(xs.drop i).any p=true then y else n):=by
  intro k;induction k with
  |zero=>
   intro i hi;obtain rfl:i=xs.length:=by omega
   rw[hU he];simp
  |succ k ih=>
   intro i hi;have hlt:i<xs.length:=by omega
   have e:=h i _ hlt gu (bu hlt) (iM hlt);rw[aV hlt,List.any_cons];cases hp:p xs[i]with
   |false=>
    rw[hp]at e;simp only[ah,ay]at e;rw[jN e];have:=ih (i+1) gu;rw[show((i:Int)+1)=((i+1:Nat):Int) by omega,this];simp
   |true=>
    rw[hp,aE rfl]at e;rw[hU e];simp
 simpa using key xs.length 0 gu
abbrev Small{α:Type}(xs:List α):Prop:=xs.length<1099511627776
def Q8(n:Int):Bool:=decide (0<=n)&&decide (n<=3)
def kN(a:fI):Bool:=decide (1<=a.length)&&decide (a.length<=8)&&a.all Q8
theorem oC{a:fI}:kN a=true<->1<=a.length/\a.length<=8/\∀n∈a,0<=n/\n<=3:=by simp[kN,Q8,and_assoc]
theorem mQ(x lo hi:Int):kX x lo hi=some (decide (lo<=x)&&decide (x<=hi)):=by
 unfold kX;by_cases h1:lo<=x<;>by_cases h2:x<=hi<;>simp[h1,h2]
theorem vI(a:fI):qx a=some (kN a):=by
 unfold qx;by_cases h1:(a.length:Int)<1
 ·have:¬1<=a.length:=by omega
  simp[h1,kN,this]
 ·by_cases h2:8<(a.length:Int)
  ·have:¬a.length<=8:=by omega
   simp[h1,h2,kN,this]
  ·have e1:1<=a.length:=by omega
   have e2:a.length<=8:=by omega
   simp only[h1,h2,aL,ah,ay,kN,e1,e2,aC,bz];refine uA (fun i x hi hi' _ hx=>?_) (by simp[sM]);have hw:IntKind.i64.wrap ((i:Int)+1)=i+1:=kI gu gu;simp only[sM,hi',aC,aj,az,hw,show(0:Int)<=i by omega,aW,Q8,hx];by_cases c1:x<0
   ·simp[c1,show ¬0<=x by omega]
   ·by_cases c2:3<x
    ·simp[c1,c2,show ¬x<=3 by omega]
    ·simp[c1,c2,show 0<=x by omega,show x<=3 by omega]
theorem sR(a:fI):pF a=some (kN a):=by
 unfold pF;simp only[mQ,aa];by_cases h:1<=a.length/\a.length<=8
 ·have e1:(1:Int)<=a.length:=by omega
  have e2:(a.length:Int)<=8:=by omega
  simp only[e1,e2,aC,ek,aj,kN,h.1,h.2,bz];refine uA (fun i x hi hi' _ hx=>?_) (by simp[sS]);have hw:IntKind.i64.wrap ((i:Int)+1)=i+1:=kI gu gu;simp only[sS,hi',aC,aj,az,hw,show(0:Int)<=i by omega,aW,Q8,hx,mQ,aa];by_cases h3:0<=x<;>by_cases h4:x<=3<;>simp[h3,h4]
 ·have:(decide ((1:Int)<=a.length)&&decide ((a.length:Int)<=8))=false:=by simp;omega
  rw[this];have:kN a=false:=by
   cases hs:kN a with
   |false=>rfl
   |true=>have:=oC.1 hs;omega
  simp[this]
theorem CL{x:fI}(h0:0<x.length)(hs:Small x):iu True (mh x) fun m=>∀b,b<=m<->∀y∈x,b<=y:=by
 unfold mh;have h1:¬(x.length:Int)<1:=by omega
 have h2:(0:Int)<x.length:=by omega
 simp only[h1,h2,aL,ah,ay,dg,aW,aj];refine iu.loop (fun s:Int×Int=>∃i:Nat,s.2=(i:Int)/\1<=i/\i<=x.length/\∀b,b<=s.1<->∀y∈x.take i,b<=y) (fun s:Int×Int=>x.length-s.2.toNat) ⟨1,rfl,aO _,gu,fun b=>?_⟩ ?_
 ·cases x with
  |nil=>simp at h0
  |cons y x=>simp
 ·rintro⟨m,i'⟩ ⟨i,rfl,h3,h4,h5⟩;simp only[ov]at h5⊢;by_cases hi:i<x.length
  ·have hi':(i:Int)<x.length:=by omega
   have hw:IntKind.i64.wrap ((i:Int)+1)=i+1:=kI gu gu;simp only[hi',aC,aj,show(0:Int)<=i by omega,aW,az,iM hi,hw];refine .some ⟨⟨i+1,by simp,gu,gu,fun b=>?_⟩,by simp;omega⟩;rw[cY,aA hi];have:=h5 b;simp only[aG,fc,bS];split
   ·constructor
    ·rintro hb y (hy|rfl)
     ·exact(h5 b).1 gu y hy
     ·exact hb
    ·intro hb;exact hb _ (.inr rfl)
   ·constructor
    ·rintro hb y (hy|rfl)
     ·exact(h5 b).1 hb y hy
     ·omega
    ·intro hb;exact(h5 b).2 fun y hy=>hb y (.inl hy)
  ·have hi':¬(i:Int)<x.length:=by omega
   simp only[hi',aL,ah,ay,aX];refine .some fun b=>?_
   rw[h5 b,bM gu]
theorem F4{a:fI}(ha:kN a=true)(x:Int):vH a x<=3:=by
 have:=(oC.1 ha).2.2;unfold vH;split
 ·omega
 ·rw[aB];cases h:a[x.toNat]? with
  |none=>simp
  |some y=>have:=this y (bV h);simp;omega
theorem AO{a:fI}(ha:kN a=true){x:Int}(hx:x<a.length):rm a x=some (vH a x:Int):=by
 unfold rm vH;by_cases h:x<0
 ·simp[h]
 ·have h2:0<=x:=by omega
  simp only[h,aL,ah,ay,h2,hx,aW,aj];have hl:x.toNat<a.length:=by omega
  have:=(oC.1 ha).2.2 _ (iQ hl);rw[show a.getD x.toNat 0=a.getD x.toNat default from rfl];rw[show((a.getD x.toNat default).toNat:Int)=a.getD x.toNat default by omega]
theorem yW{a t:fI}(ha:kN a=true)(hs:Small t){i:Nat}(hi:i<=t.length):oF a t i=
 some (match t.drop i with|[]=>(-1,(i:Int))|x::_=>if x<a.length then((vH a x:Int),(i:Int)+1)else(-1,i)):=by
 unfold oF;by_cases h:i<t.length
 ·have h1:¬(t.length:Int)<=i:=by omega
  have h2:(i:Int)<t.length:=by omega
  have hw:IntKind.i64.wrap ((i:Int)+1)=i+1:=kI gu gu;have hw2:IntKind.i64.wrap ((i:Int)+1-1)=i:=by rw[kI gu gu];omega
  rw[aV h];simp only[h1,h2,aL,ah,ay,show(0:Int)<=i by omega,aW,aj,az,iM h,hw,hw2];by_cases h3:t[i]<a.length
  ·have h4:¬(a.length:Int)<=t[i]:=by omega
   simp[h3,h4,AO ha h3]
  ·have h4:(a.length:Int)<=t[i]:=by omega
   simp[h3,h4]
 ·have h1:(t.length:Int)<=i:=by omega
  rw[bU gu];simp[h1]
theorem FE{a t:fI}{i k:Nat}(h:i<t.length):Tm.skip a (t.drop i) (k+1)=if Fx a (t[i])then Tm.skip a (t.drop (i+1)) (k+vH a t[i])else none:=by rw[aV h,tW]
def uR(a t:fI)(i:Nat):Int:=match Tm.skip a (t.drop i) 1 with|some r=>(t.length:Int)-r.length|none=> -1
theorem Qa{a:fI}:∀{t r:fI}{k:Nat},Tm.skip a t k=some r->r.length+k<=t.length:=by
 intro t r k h;obtain⟨u,rfl,hu⟩:=AG h;have:=hu.len;simp;omega
theorem sN{a t:fI}(ha:kN a=true)(hs:Small t)(hm:∀x∈t, -24<=x){i:Nat}(hi:i<=t.length):nH a t i=some (uR a t i):=by
 have key:iu True (oG a t i) fun r=>match Tm.skip a (t.drop i) 1 with|some q=>r=(true,(t.length:Int)-q.length)|none=>r.1=false:=by
  unfold oG;refine iu.loop (fun s=>∃(k c:Nat),s=((k:Int),(c:Int))/\c<=t.length/\k<=1+3*c/\Tm.skip a (t.drop c) k=Tm.skip a (t.drop i) 1) (fun s=>t.length-s.2.toNat) ⟨1,i,rfl,hi,gu,rfl⟩ ?_;rintro _ ⟨k,c,rfl,h1,h2,h3⟩;simp only[qV];cases k with
  |zero=>
   simp only[show ¬(0:Int)<((0:Nat):Int) by omega,aL,ah,ay,aX];refine .some ?_;simp only[wj];rw[<-h3,si];simp;omega
  |succ k=>
   simp only[show(0:Int)<((k+1:Nat):Int) by omega,aC,aj,yW ha hs h1,aa];by_cases hc:c<t.length
   ·rw[aV hc];rw[FE hc]at h3;simp only;have hx:=hm _ (bu hc);by_cases hlt:t[c]<a.length
    ·have ho:Fx a t[c]:=⟨hx,hlt⟩;rw[aE ho]at h3;have hle:=F4 ha t[c];simp only[hlt,aj,show ¬((vH a t[c]:Nat):Int)<0 by omega,aL,ah,ay];have hw1:IntKind.i64.wrap (((k+1:Nat):Int)+(vH a t[c]:Int))=(k+1:Nat)+vH a t[c]:=kI gu gu;rw[hw1,kI gu gu];refine .some ⟨⟨k+vH a t[c],c+1,by simp;omega,gu,gu,h3⟩,by simp;omega⟩
    ·have ho:¬Fx a t[c]:=fun h=>hlt h.2
     rw[aJ ho]at h3;simp only[hlt,ay,show(-1:Int)<0 by omega,aC,aj,aX];refine .some ?_;simp only[wj];rw[<-h3];trivial
   ·rw[bU gu,D8]at h3;rw[bU gu];simp only[show(-1:Int)<0 by omega,aC,aj,aX];refine .some ?_;simp only[wj];rw[<-h3];trivial
 unfold nH;obtain⟨r,h1,h2⟩:=key.get;rw[h1,aa];unfold uR;cases h:Tm.skip a (t.drop i) 1 with
 |none=>rw[h]at h2;simp only at h2;simp[h2]
 |some q=>rw[h]at h2;simp only at h2;simp[h2]
def gE(a t:fI):Bool:=kN a&&(decide (1<=t.length)&&decide (t.length<=60))&&decide (Wf a 1 t)
theorem gH{a t:fI}:gE a t=true<->kN a=true/\1<=t.length/\t.length<=60/\Wf a 1 t:=by simp[gE,and_assoc]
theorem CW{a t:fI}:uR a t 0=(t.length:Int)<->Wf a 1 t:=by
 unfold uR Wf;rw[bZ];cases h:Tm.skip a t 1 with
 |none=>
  simp only[reduceCtorEq,iff_false];try omega
 |some q=>
  simp only[aM];constructor
  ·intro h;exact bp.1 gu
  ·rintro rfl;simp
theorem nr(a t:fI):mg a t=some (gE a t):=by
 unfold mg gE;rw[vI,aa];cases ha:kN a with
 |false=>simp
 |true=>
  simp only[aj,bz];by_cases h1:1<=t.length
  ·by_cases h2:t.length<=60
   ·have e1:(0:Int)<t.length:=by omega
    have e2:(t.length:Int)<=60:=by omega
    simp only[e1,e2,h1,h2,aC,aj,ek,bz];obtain⟨m,h3,h4⟩:=(CL (x:=t) gu (show t.length<_ by omega)).get;rw[h3,aa];by_cases h5: -24<=m
    ·simp only[h5,aC,aj];have:=sN ha (show t.length<_ by omega) ((h4 _).1 h5) (i:=0) gu;rw[show((0:Nat):Int)=0 by rfl]at this;rw[this,aa];by_cases hw:Wf a 1 t
     ·simp[hw,CW.2 hw]
     ·have:=mt CW.1 hw;simp[hw,this]
    ·have hw:¬Wf a 1 t:=fun hw=>h5 ((h4 _).2 fun y hy=>(hw.all y hy).1)
     simp[h5,hw]
   ·have e2:¬(t.length:Int)<=60:=by omega
    have e1:(0:Int)<t.length:=by omega
    simp[e1,e2,h2]
  ·have e1:¬(0:Int)<t.length:=by omega
   simp only[e1,h1,aL,ah,ay,Bool.false_and]
theorem wY{a:fI}(ha:kN a=true)(x:Int):qg a x=some (if Fx a x then(vH a x:Int)else -1):=by
 have hl:=(oC.1 ha).2.1;unfold qg;simp only[mQ,aa,kI (n:=(a.length:Int)-1) gu gu];by_cases h1: -24<=x
 ·by_cases h2:x<= -1
  ·simp[h1,h2,Fx,vH,show x<0 by omega,show x<(a.length:Int) by omega]
  ·by_cases h3:x<a.length
   ·have hx:x.toNat<a.length:=by omega
    have:=(oC.1 ha).2.2 _ (iQ hx);simp only[h1,h2,h3,Fx,show 0<=x by omega,show x<=(a.length:Int)-1 by omega,aC,aL,Bool.and_false,ek,ah,ay,aW,aj,vH,show ¬x<0 by omega];rw[show a.getD x.toNat 0=a.getD x.toNat default from rfl];rw[show((a.getD x.toNat default).toNat:Int)=a.getD x.toNat default by omega]
   ·simp[h1,h2,h3,Fx,show ¬x<=(a.length:Int)-1 by omega]
 ·simp[h1,Fx,show ¬0<=x by omega]
theorem qJ{a t:fI}(ha:kN a=true)(hs:Small t){i:Nat}(hi:i<=t.length):lU a t i=some (uR a t i):=by
 have key:iu True (lU a t i) (·=uR a t i):=by
  unfold lU;refine iu.loop (fun s:Int×Int=>∃(k c:Nat),s=(((k+1:Nat):Int),(c:Int))/\c<=t.length/\k<=3*c/\Tm.skip a (t.drop c) (k+1)=Tm.skip a (t.drop i) 1) (fun s:Int×Int=>t.length-s.2.toNat) ⟨0,i,rfl,hi,gu,rfl⟩ ?_;rintro _ ⟨k,c,rfl,h1,h2,h3⟩;simp only[vL];by_cases hc:c<t.length
  ·rw[FE hc]at h3;have hc':(c:Int)<t.length:=by omega
   simp only[hc',aC,aj,show(0:Int)<=c by omega,aW,az,iM hc,wY ha,aa];have hle:=F4 ha t[c];by_cases ho:Fx a t[c]
   ·rw[aE ho]at h3;simp only[ho,aj,show ¬((vH a t[c]:Nat):Int)<0 by omega,aL,ah,ay];rw[kI (n:=((k+1:Nat):Int)+(vH a t[c]:Int)) gu gu,kI (n:=((k+1:Nat):Int)+(vH a t[c]:Int)-1) gu gu,kI (n:=(c:Int)+1) gu gu];cases hk:k+vH a t[c]with
    |zero=>
     rw[hk,si]at h3;have:(((k+1:Nat):Int)+(vH a t[c]:Int)-1==0)=true:=by simp;omega
     simp only[this,aj,aX];refine .some ?_;simp only[wj,uR];rw[<-h3];simp;omega
    |succ q=>
     have:¬(((k+1:Nat):Int)+(vH a t[c]:Int)-1==0)=true:=by simp;omega
     simp only[this,ay];refine .some ⟨⟨q,c+1,by simp;omega,gu,gu,by rw[<-hk];exact h3⟩,by simp;omega⟩
   ·rw[aJ ho]at h3;simp only[ho,ay,show(-1:Int)<0 by omega,aC,aj,aX];refine .some ?_;simp only[wj,uR];rw[<-h3]
  ·have hc':¬(c:Int)<t.length:=by omega
   rw[bU gu,D8]at h3;simp only[hc',aL,ah,ay,aX];refine .some ?_;simp only[wj,uR];rw[<-h3]
 exact key.eq
theorem kE(a t:fI):jE a t=some (gE a t):=by
 unfold jE gE;rw[sR,aa];cases ha:kN a with
 |false=>simp
 |true=>
  simp only[aj,bz,mQ,aa];have e:(decide ((1:Int)<=t.length)&&decide ((t.length:Int)<=60))=(decide (1<=t.length)&&decide (t.length<=60)):=by
   congr 1<;>exact eM.2 gu
  rw[e];by_cases h:1<=t.length/\t.length<=60
  ·simp only[h.1,h.2,aC,ek,aj,bz];have:=qJ ha (show Small t by show t.length<_;omega) (i:=0) gu;rw[show((0:Nat):Int)=0 by rfl]at this;rw[this,aa];by_cases hw:Wf a 1 t
   ·simp[hw,CW.2 hw]
   ·have:=mt CW.1 hw;simp[hw,this]
  ·have:(decide (1<=t.length)&&decide (t.length<=60))=false:=by simp;omega
   simp[this]
theorem pE{s:fI}(hs:Small s)(v:Int):jb s v=some (decide (v∈s)):=by
 have key:iu True (lH s v) fun r=>0<=r<->v∈s:=by
  unfold lH;refine iu.loop (fun i':Int=>∃i:Nat,i'=i/\i<=s.length/\v∉s.take i) (fun i':Int=>s.length-i'.toNat) ⟨0,rfl,gu,by simp⟩ ?_;rintro _ ⟨i,rfl,h1,h2⟩;simp only[nJ];by_cases hi:i<s.length
  ·have hi':(i:Int)<s.length:=by omega
   simp only[hi',aC,aj,show(0:Int)<=i by omega,aW,az,iM hi,kI (n:=(i:Int)+1) gu gu];by_cases hv:v=s[i]
   ·simp only[hv,cq,aj,aX];refine .some ?_;simp only[wj];exact⟨fun _=>bu hi,fun _=>by omega⟩
   ·have:¬(v==s[i])=true:=by simpa using hv
    simp only[this,ay];refine .some ⟨⟨i+1,by simp,gu,?_⟩,by simp;omega⟩;rw[cY,aA hi,aG];rintro(h|h)
    ·exact h2 h
    ·exact hv (by simpa using h)
  ·have hi':¬(i:Int)<s.length:=by omega
   simp only[hi',aL,ah,ay,aX];refine .some ?_;rw[bM gu]at h2;simp only[wj];exact⟨fun h=>by omega,fun h=>absurd h h2⟩
 unfold jb;obtain⟨r,h1,h2⟩:=key.get;rw[h1,aa];congr 1;exact eM.2 h2
theorem qK{s:fI}(hs:Small s)(v:Int):lV s v=some (decide (v∈s)):=by
 unfold lV;rw[Pd (xs:=s) (p:=fun x=>x==v) (y:=true) (n:=false) (fun i x hi hi' _ hx=>?_) (by simp[sU])]
 ·congr 1;by_cases h:v∈s
  ·have:s.any (fun x=>x==v)=true:=dP.2 ⟨v,h,by simp⟩;simp[this,h]
  ·have:s.any (fun x=>x==v)=false:=by
    rw[dY];intro x hx he;have:x=v:=by simpa using he
    subst this;exact h hx
   simp[this,h]
 ·simp only[sU,hi',aC,aj,az,show(0:Int)<=i by omega,aW,hx,kI (n:=(i:Int)+1) (by have:=hs;omega) (by have:=hs;omega)];by_cases h:(x==v)=true
  ·simp[h]
  ·simp[h]
def LJ(l:fI)(x:Int):Bool:=decide (x<0->x∈l)
def xI(a:fI)(r:fI×fI):Bool:=gE a r.1&&(gE a r.2&&(decide (0<=r.1.headD 0)&&r.2.all (LJ r.1)))
def lD(s:fI×List fJ):Bool:=kN s.1&&(decide (s.2.length<=12)&&s.2.all (xI s.1))
theorem yD{l:fI}(h:0<l.length):l.getD 0 default=l.headD 0:=by cases l with|nil=>simp at h|cons x l=>rfl
theorem BC(a:fI)(r:fI×fI):sE a r=some (xI a r):=by
 unfold sE xI;rw[nr,nr,aa];cases h1:gE a r.1 with
 |false=>simp
 |true=>
  rw[aa];cases h2:gE a r.2 with
  |false=>simp
  |true=>
   have e1:=gH.1 h1;have e2:=gH.1 h2;have e3:(0:Int)<r.1.length:=by omega
   simp only[aj,dg,e3,aW,bz,eX];rw[yD gu];by_cases h3:r.1.headD 0<0
   ·simp[-List.headD_eq_head?_getD,h3,show ¬0<=r.1.headD 0 by omega]
   ·simp only[h3,aL,ah,ay,show 0<=r.1.headD 0 by omega,aC,bz];refine uA (fun i x hi hi' _ hx=>?_) (by simp[rP]);simp only[rP,hi',aC,aj,az,show(0:Int)<=i by omega,aW,hx,kI (n:=(i:Int)+1) gu gu,LJ,
     pE (show Small r.1 by show r.1.length<_;omega),aa]
    by_cases h4:x<0<;>by_cases h5:x∈r.1<;>simp[h4,h5]
theorem BE(a:fI)(r:fI×fI):sF a r=some (xI a r):=by
 unfold sF xI;rw[kE,kE,aa];cases h1:gE a r.1 with
 |false=>simp
 |true=>
  rw[aa];cases h2:gE a r.2 with
  |false=>simp
  |true=>
   have e1:=gH.1 h1;have e2:=gH.1 h2;have e3:(0:Int)<r.1.length:=by omega
   simp only[aj,dg,e3,aW,bz,eX];rw[yD gu];by_cases h3:r.1.headD 0<0
   ·simp[-List.headD_eq_head?_getD,h3,show ¬0<=r.1.headD 0 by omega]
   ·simp only[h3,aL,ah,ay,show 0<=r.1.headD 0 by omega,aC,bz];refine uA (fun i x hi hi' _ hx=>?_) (by simp[rR]);simp only[rR,hi',aC,aj,az,show(0:Int)<=i by omega,aW,hx,kI (n:=(i:Int)+1) gu gu,LJ,
     qK (show Small r.1 by show r.1.length<_;omega),aa]
    by_cases h4:x<0<;>by_cases h5:x∈r.1<;>simp[h4,h5]
theorem Ai(s:fI×List fJ):oX s=some (lD s):=by
 unfold oX lD;rw[vI,aa];cases h1:kN s.1 with
 |false=>simp
 |true=>
  by_cases h2:12<(s.2.length:Int)
  ·simp[h2,show ¬s.2.length<=12 by omega]
  ·simp only[aj,h2,aL,ah,ay,bz,show s.2.length<=12 by omega,aC];refine uA (fun i x hi hi' _ hx=>?_) (by simp[qy]);simp only[qy,hi',aC,aj,az,show(0:Int)<=i by omega,aW,hx,kI (n:=(i:Int)+1) gu gu,BC,aa];cases xI s.1 x<;>simp
theorem sZ(s:fI×List fJ):nc s=some (lD s):=by
 unfold nc lD;rw[sR,aa];cases h1:kN s.1 with
 |false=>simp
 |true=>
  by_cases h2:12<(s.2.length:Int)
  ·simp[h2,show ¬s.2.length<=12 by omega]
  ·simp only[aj,h2,aL,ah,ay,bz,show s.2.length<=12 by omega,aC];refine uA (fun i x hi hi' _ hx=>?_) (by simp[qB]);simp only[qB,hi',aC,aj,az,show(0:Int)<=i by omega,aW,hx,kI (n:=(i:Int)+1) gu gu,BE,aa];cases xI s.1 x<;>simp
theorem OP{s t:fI}(hl:s.length=t.length):(s==t)=decide (∀i<s.length,s.getD i default=t.getD i default):=by
 have:(s==t)=decide (s=t):=by by_cases h:s=t<;>simp[h]
 rw[this];refine eM.2 ⟨fun h=>by subst h;simp,fun h=>?_⟩;refine List.ext_getElem hl fun i h1 h2=>?_
 have:=h i h1;rwa [iM h1,iM h2]at this
theorem Lb{s t:fI}(hs:Small s)(hl:s.length=t.length){f:Int->Option fZ}
 (h:∀i:Nat,i<s.length->f i=some (if s.getD i default=t.getD i default then .inl ((i:Int)+1)else .inr false)) (he:f s.length=some (.inr true)):gI f 0=some (s==t):=by
 have key:iu True (gI f 0) fun r=>r=decide (∀i<s.length,s.getD i default=t.getD i default):=by
  refine iu.loop (fun i':Int=>∃i:Nat,i'=i/\i<=s.length/\∀j<i,s.getD j default=t.getD j default) (fun i':Int=>s.length-i'.toNat) ⟨0,rfl,gu,gu⟩ ?_;rintro _ ⟨i,rfl,h1,h2⟩;by_cases hi:i<s.length
  ·rw[h i hi];by_cases e:s.getD i default=t.getD i default
   ·rw[aE e];refine .some ⟨⟨i+1,by simp,gu,fun j hj=>?_⟩,by simp;omega⟩;rcases cG j i with h3|h3
    ·exact h2 j h3
    ·obtain rfl:j=i:=by omega
     exact e
   ·rw[aJ e];refine .some ?_;simp only[wj];exact(cJ fun h=>e (h i hi)).symm
  ·obtain rfl:i=s.length:=by omega
   rw[he];refine .some ?_;simp only[wj];exact(cB h2).symm
 rw[OP hl];obtain⟨r,h1,h2⟩:=key.get;rw[h1,h2]
theorem wW{s t:fI}(hs:Small s):kC s t=some (s==t):=by
 unfold kC;by_cases hl:s.length=t.length
 ·have:¬((s.length:Int) != (t.length:Int))=true:=by simp;omega
  rw[aJ this];refine Lb hs hl (fun i hi=>?_) (by simp[lY]);simp only[lY,show(i:Int)<s.length by omega,show(i:Int)<t.length by omega,aC,aj,show(0:Int)<=i by omega,aW,az,
   kI (n:=(i:Int)+1) (by have:=hs;omega) (by have:=hs;omega)]
  by_cases e:s.getD i default=t.getD i default
  ·simp only[e,dI,ah,ay,aj]
  ·have:(s.getD i default != t.getD i default)=true:=by simpa using e
   simp only[this,e,aj,ay,aX]
 ·have:((s.length:Int) != (t.length:Int))=true:=by simp;omega
  rw[aE this];congr 1;symm;rw[cw];rintro rfl;exact hl rfl
theorem nu{s t:fI}(hs:Small s):lM s t=some (s==t):=by
 unfold lM;by_cases hl:s.length=t.length
 ·have:¬((s.length:Int) != (t.length:Int))=true:=by simp;omega
  rw[aJ this];refine Lb hs hl (fun i hi=>?_) (by simp[qA]);simp only[qA,show(i:Int)<s.length by omega,show(i:Int)<t.length by omega,aC,aj,show(0:Int)<=i by omega,aW,az,
   kI (n:=(i:Int)+1) (by have:=hs;omega) (by have:=hs;omega)]
  by_cases e:s.getD i default=t.getD i default
  ·simp only[e,dI,ah,ay,aj]
  ·have:(s.getD i default != t.getD i default)=true:=by simpa using e
   simp only[this,e,aj,ay,aX]
 ·have:((s.length:Int) != (t.length:Int))=true:=by simp;omega
  rw[aE this];congr 1;symm;rw[cw];rintro rfl;exact hl rfl
theorem jG{l:fI}(hs:Small l):iX l=some l:=by unfold iX;rw[aE (by have:=hs;omega)]
theorem nR{l:fI}(hs:Small l):iW l=some l:=by
 unfold iW;refine(iu.S8 (t:=True) (P:=(·=l)) ?_ fun h=>?_).eq
 ·rw[aE (by have:=hs;omega)];exact .some rfl
 ·subst h;simp
theorem vA{a t u r:fI}{i:Nat}(h:t.drop i=u++r)(hu:Wf a 1 u):uR a t i=(t.length:Int)-r.length:=by unfold uR;rw[h,hu.skip]
theorem IF{t u r:fI}{i:Nat}(h:t.drop i=u++r)(hi:i<=t.length):(t.take (t.length-r.length)).drop i=u:=by
 have hl:=bW List.length h;simp at hl;rw[List.drop_take,h,cU gu,bM gu]
theorem qI{a t u r:fI}(ha:kN a=true)(hs:Small t)(hm:∀x∈t, -24<=x){i:Nat}(h:t.drop i=u++r)(hu:Wf a 1 u):mP a t i=some u:=by
 have hl:=bW List.length h;have hul:=hu.len;simp at hl;have hi:i<=t.length:=by omega
 unfold mP;rw[sN ha hs hm hi,aa,vA h hu,aE gu,show((t.length:Int)-r.length).toNat=t.length-r.length by omega,az,IF h hi]
theorem oZ{a t u r:fI}(ha:kN a=true)(hs:Small t){i:Nat}(h:t.drop i=u++r)(hu:Wf a 1 u):kR a t i=some u:=by
 have hl:=bW List.length h;have hul:=hu.len;simp at hl;have hi:i<=t.length:=by omega
 unfold kR;rw[qJ ha hs hi,aa,vA h hu,aE gu,show((t.length:Int)-r.length).toNat=t.length-r.length by omega,az,IF h hi,
  jG (by show u.length<_;have:=hs;omega)]
 rfl
def z_(o:Option Bd)(r:Bd×Bool):Prop:=match o with|some b=>r=(b,true)|none=>r.2=false
structure S2(a p t:fI)(b0 b:Bd)(i c:Nat):Prop where
 hi:i<=p.length
 hc:c<=t.length
 hb:b.length=24
 Mn:∀u∈b,u.length<=60
 k:∃k,Wf a k (p.drop i)/\Wf a k (t.drop c)
 m:uL a (p.drop i) (t.drop c) b=uL a p t b0
theorem S2.var{a p t:fI}{b0 b:Bd}{i c:Nat}(h:S2 a p t b0 b i c)(hi:i<p.length)(hn:p[i]<0):∃u r,t.drop c=u++r/\Wf a 1 u/\c+u.length<=t.length/\Fx a p[i]/\
 uL a p t b0=(if kG b p[i]=[]then uL a (p.drop (i+1)) (t.drop (c+u.length)) (gG b p[i] u)else if kG b p[i]=u then uL a (p.drop (i+1)) (t.drop (c+u.length)) b else none)/\
 ∃k,Wf a k (p.drop (i+1))/\Wf a k (t.drop (c+u.length)):=by
 obtain⟨k,h1,h2⟩:=h.k;rw[aV hi]at h1;cases k with
 |zero=>have:=h1.zero;cases this
 |succ k=>
  obtain⟨ho,h1⟩:=Wf.mE.1 h1;rw[show k+1=1+k by omega]at h2;obtain⟨u,r,e,hu,hr⟩:=h2.split;have hr':t.drop (c+u.length)=r:=by rw[<-List.drop_drop,e,bI]
  have hl:=bW List.length e;simp at hl;have:=hu.len;refine⟨u,r,e,hu,gu,ho,?_,k,?_,by rw[hr'];exact hr⟩
  ·rw[<-h.m,aV hi,e,zR hn hu,hr']
  ·have ha:vH a p[i]=0:=by simp[vH,hn]
   rwa [ha,cP]at h1
theorem S2.sym{a p t:fI}{b0 b:Bd}{i c:Nat}(h:S2 a p t b0 b i c)(hi:i<p.length)(hn:¬p[i]<0):∃hc:c<t.length,Fx a p[i]/\uL a p t b0=(if t[c]=p[i]then uL a (p.drop (i+1)) (t.drop (c+1)) b else none)/\
 (t[c]=p[i]->∃k,Wf a k (p.drop (i+1))/\Wf a k (t.drop (c+1))):=by
 obtain⟨k,h1,h2⟩:=h.k;rw[aV hi]at h1;cases k with
 |zero=>have:=h1.zero;cases this
 |succ k=>
  obtain⟨ho,h1⟩:=Wf.mE.1 h1;have hc:c<t.length:=by
   rcases cG c t.length with h|h
   ·exact h
   ·rw[bU h]at h2;have:=h2.len;simp at this
  rw[aV hc]at h2;obtain⟨ho',h2⟩:=Wf.mE.1 h2;refine⟨hc,ho,?_,fun e=>⟨k+vH a p[i],h1,by rw[<-e];exact h2⟩⟩;rw[<-h.m,aV hi,aV hc,yE hn]
theorem S2.S_{a p t:fI}{b0 b:Bd}{i c:Nat}(h:S2 a p t b0 b i c)(hi:i<p.length):c<t.length:=by
 obtain⟨k,h1,h2⟩:=h.k;rw[aV hi]at h1;cases k with
 |zero=>have:=h1.zero;cases this
 |succ k=>
  rcases cG c t.length with h|h
  ·exact h
  ·rw[bU h]at h2;have:=h2.len;simp at this
theorem Aq{b:Bd}{n:Int}{u:fI}(hs:∀u∈b,u.length<=60)(hu:u.length<=60):∀v∈gG b n u,v.length<=60:=fun v hv=>by
 rcases List.mem_or_eq_of_mem_set hv with h|h
 ·exact hs v h
 ·subst h;exact hu
theorem yq{b:Bd}{n:Int}(hs:∀u∈b,u.length<=60):(kG b n).length<=60:=by
 unfold kG;rw[aB];cases h:b[(-1-n).toNat]? with
 |none=>simp
 |some u=>exact hs u (bV h)
theorem vW{a p t:fI}{b0:Bd}(ha:kN a=true)(hp:Wf a 1 p)(ht:Wf a 1 t)(hpl:p.length<=60)(htl:t.length<=60)(hb:b0.length=24)(hbs:∀u∈b0,u.length<=60):
 iu True (kB a p t b0) (fun r=>z_ (uL a p t b0) r/\r.1.length=24):=by
 unfold kB;refine iu.loop (fun s:Int×Int×Bd=>∃i c:Nat,s.1=(c:Int)/\s.2.1=(i:Int)/\S2 a p t b0 s.2.2 i c) (fun s:Int×Int×Bd=>p.length-s.2.1.toNat)
  ⟨0,0,rfl,rfl,gu,gu,hb,hbs,⟨1,by simpa using hp,by simpa using ht⟩,by simp⟩ ?_
 rintro⟨_,_,b⟩ ⟨i,c,rfl,rfl,h⟩;simp only at h;have hb:=h.hb;simp only[sy];by_cases hi:i<p.length
 ·have hc:=h.S_ hi;simp only[show(i:Int)<p.length by omega,show ¬(t.length:Int)<=c by omega,aC,aL,aj,show(0:Int)<=i by omega,show(0:Int)<=c by omega,show(c:Int)<t.length by omega,aW,
   ah,ay,az,iM hi,iM hc,kI (n:=(i:Int)+1) gu gu,kI (n:=(c:Int)+1) gu gu]
  by_cases hn:p[i]<0
  ·obtain⟨u,r,e,hu,hl,ho,hm,hk⟩:=h.var hi hn;have hul:=hu.len;have hx: -24<=p[i]:=ho.1;have hlt:(-1-p[i]).toNat<b.length:=by omega
   simp only[show ¬0<=p[i] by omega,aL,ah,ay,qI ha (show Small t by show t.length<_;omega) (fun x hx=>(ht.all x hx).1) e hu,aa,
    kI (n:= -1-p[i]) gu gu,show 0<= -1-p[i] by omega,show -1-p[i]<24 by omega,show -1-p[i]<(b.length:Int) by omega,aW,aj,hb,show((-1:Int)-p[i]<((24:Nat):Int)) by omega,
    kI (n:=(c:Int)+u.length) gu gu]
   have eg:b.getD (-1-p[i]).toNat default=kG b p[i]:=rfl;rw[eg];by_cases h0:kG b p[i]=[]
   ·rw[aE h0]at hm;simp only[h0,fA,aj,show 0<u.length by omega];exact .some ⟨⟨i+1,c+u.length,by simp,by simp,gu,gu,by simpa using hb,Aq h.Mn gu,hk,by rw[hm];rfl⟩,by simp;omega⟩
   ·rw[aJ h0]at hm;have:¬(kG b p[i]).isEmpty=true:=by simpa using h0
    simp only[this,ay,wW (show Small (kG b p[i]) by show List.length _<_;have:=yq (n:=p[i]) h.Mn;omega),aa];by_cases h1:kG b p[i]=u
    ·rw[aE h1]at hm;simp only[h1,cq,aj];exact .some ⟨⟨i+1,c+u.length,by simp,by simp,gu,gu,hb,h.Mn,hk,hm.symm⟩,by simp;omega⟩
    ·rw[aJ h1]at hm;have:¬(kG b p[i]==u)=true:=by simpa using h1
     simp only[this,ay,aX];refine .some ?_;simp only[wj,z_,hm];exact⟨trivial,hb⟩
  ·obtain⟨hc',ho,hm,hk⟩:=h.sym hi hn;simp only[show 0<=p[i] by omega,aC,aj];by_cases e:t[c]=p[i]
   ·rw[aE e]at hm;simp only[e,dI,ah,ay];exact .some ⟨⟨i+1,c+1,by simp,by simp,gu,gu,hb,h.Mn,hk e,hm.symm⟩,by simp;omega⟩
   ·rw[aJ e]at hm;have:(t[c] != p[i])=true:=by simpa using e
    simp only[this,aj,hb,aX];refine .some ?_;simp only[wj,z_,hm];exact⟨trivial,hb⟩
 ·have hm:=h.m;rw[bU gu,xq]at hm;simp only[show ¬(i:Int)<p.length by omega,aL,ah,ay,hb,aj,aX];refine .some ?_;simp only[wj,z_,<-hm];exact⟨trivial,hb⟩
def lF(s:Bd)(i:Nat):fI:=if s.getD i []=[]\/s.getD i []=[-1-(i:Int)]then []else s.getD i []
theorem MR{s o:Bd}(h:∀i,o.getD i []=lF s i){n:Int}(hn:n<0):Tm.sig o n=Tm.sig s n:=by
 unfold Tm.sig kG;rw[h];unfold lF;rw[show -1-((-1-n).toNat:Int)=n by omega];by_cases h1:s.getD (-1-n).toNat []=[]
 ·simp only[h1,true_or,aj]
 ·by_cases h2:s.getD (-1-n).toNat []=[n]
  ·simp only[h2,or_true,aj];simp
  ·simp only[h1,h2,or_self,ay]
theorem zu{s:Bd}{u:fI}{i:Nat}:(s++[u]).getD i []=if i<s.length then s.getD i []else if i=s.length then u else []:=by
 rw[aB];by_cases h:i<s.length
 ·rw[aE h,aZ h,aB]
 ·rw[aJ h,bN gu];by_cases h2:i=s.length
  ·subst h2;simp
  ·rw[aJ h2,bK (by simp;omega)];rfl
theorem uz{s:Bd}{i:Nat}(h:s.length<=i):s.getD i []=[]:=by rw[aB,bK h];rfl
structure PSt(s:Bd)(o:Bd)(i:Nat):Prop where
 hi:i<=s.length
 hl:o.length<=i
 he:∀j<i,o.getD j []=lF s j
theorem CK{s:Bd}(hl:s.length<=24)(hs:∀u∈s,u.length<=60):iu True (uc s) fun o=>o.length<=24/\∀i,o.getD i []=lF s i:=by
 unfold uc;refine iu.loop (fun q:Int×Bd=>∃i:Nat,q.1=i/\PSt s q.2 i) (fun q:Int×Bd=>s.length-q.1.toNat) ⟨0,rfl,gu,by simp,gu⟩ ?_;rintro⟨_,o⟩ ⟨i,rfl,h⟩;simp only at h;simp only[vJ];by_cases hi:i<s.length
 ·have hu:=hs _ (bu hi);have hg:s.getD i []=s[i]:=iM hi;simp only[show(i:Int)<s.length by omega,aC,aj,show(0:Int)<=i by omega,aW,az,iM hi,kI (n:=(i:Int)+1) gu gu];have skip:lF s i=[]->iu True (some (Sum.inl ((i:Int)+1,o)):Option ((Int×Bd)⊕Bd)) (wj (fun q:Int×Bd=>∃i:Nat,q.1=i/\PSt s q.2 i) (fun q:Int×Bd=>s.length-q.1.toNat) (fun o=>o.length<=24/\∀i,o.getD i []=lF s i) (s.length-i)):=fun hp=>
   .some ⟨⟨i+1,by simp,gu,Nat.le_succ_of_le h.hl,fun j hj=>by
    rcases cG j i with h3|h3
    ·exact h.he j h3
    ·obtain rfl:j=i:=by omega
     rw[hp,uz h.hl]⟩,by simp;omega⟩
  by_cases h0:s[i]=[]
  ·simp only[h0,bB,fD,cq,aj];exact skip (by unfold lF;rw[hg,aE (.inl h0)])
  ·have hne:¬(((s[i]).length:Int)==0)=true:=by
    have:=bT.2 h0;simp only[eR];omega
   simp only[hne,ay,sQ,aa,kI (n:= -1-(i:Int)) gu gu,wW (show Small s[i] by show List.length _<_;omega)];by_cases h1:s[i]=[-1-(i:Int)]
   ·simp only[h1,cq,aj];exact skip (by unfold lF;rw[hg,aE (.inr h1)])
   ·have:¬(s[i]==[-1-(i:Int)])=true:=by simpa using h1
    simp only[this,ay];have hp:lF s i=s[i]:=by unfold lF;rw[hg,aJ (by simp[h0,h1])]
    refine iu.loop (fun o':Bd=>o'.length<=i/\∀j<i,o'.getD j []=lF s j) (fun o':Bd=>i-o'.length) ⟨h.hl,h.he⟩ ?_;rintro o' ⟨h3,h4⟩;simp only[vK];by_cases h5:o'.length<i
    ·simp only[show(o'.length:Int)<i by omega,aC,aj,show(o'.length+1)*24<=140737488355328 by omega];refine .some ⟨⟨by simp;omega,fun j hj=>?_⟩,by simp;omega⟩;rw[zu];split
     ·exact h4 j hj
     ·have:=h4 j hj;rw[uz gu]at this;simp[<-this]
    ·simp only[show ¬(o'.length:Int)<i by omega,aL,ah,ay,show(o'.length+1)*24<=140737488355328 by omega,aj];rw[az,iM hi,nR (show Small s[i] by show List.length _<_;omega),aa,aX];refine .some ?_;refine⟨⟨i+1,by simp[kI (n:=(i:Int)+1) gu gu],gu,by simp;omega,fun j hj=>?_⟩,by simp[kI (n:=(i:Int)+1) gu gu];omega⟩;rw[zu];split
     ·exact h4 j gu
     ·obtain rfl:j=i:=by omega
      rw[aE gu,hp]
 ·simp only[show ¬(i:Int)<s.length by omega,aL,ah,ay,aX];refine .some ⟨by have:=h.hl;have:=h.hi;omega,fun j=>?_⟩;by_cases hj:j<i
  ·exact h.he j hj
  ·rw[uz (by have:=h.hl;omega)];unfold lF;rw[uz (s:=s) gu];simp
def wE(o:Option Bd)(r:Bd×Bool):Prop:=match o with
 |some b=>r.2=true/\r.1.length<=24/\∀i,r.1.getD i []=lF b i
 |none=>r.2=false
theorem tP{a:fI}:∀{p t:fI}{b b':Bd},uL a p t b=some b'->(∀u∈b,u.length<=60)->t.length<=60->b.length=24->b'.length=24/\∀u∈b',u.length<=60
 |[],t,b,b',h,hs,_,hb=>by rw[xq]at h;cases h;exact⟨hb,hs⟩
 |n::p,t,b,b',h,hs,ht,hb=>by
  unfold uL at h;split at h
  ·split at h
   ·cases h
   ·rename_i r hr;have:=Qa hr;simp only at h;split at h
    ·exact tP (b:=Tm.gG b n _) h (Aq hs (by simp;omega)) gu (by simpa[Tm.gG]using hb)
    ·split at h
     ·exact tP h hs gu hb
     ·cases h
  ·split at h
   ·cases h
   ·split at h
    ·exact tP h hs (by simp at ht;omega) hb
    ·cases h
theorem CJ{a p t:fI}(ha:kN a=true)(hp:Wf a 1 p)(ht:Wf a 1 t)(hpl:p.length<=60)(htl:t.length<=60):iu True (ua a p t) (wE (uL a p t k_)):=by
 unfold ua;have hn:∀u∈k_,u.length<=60:=by intro u hu;simp[k_]at hu;subst hu;simp
 obtain⟨r,h1,h2,h3⟩:=(vW ha hp ht hpl htl (b0:=k_) (by simp[k_]) hn).get;rw[show(List.replicate 24 []:Bd)=k_ from rfl,h1,aa,aE h3];cases hm:uL a p t k_ with
 |none=>
  rw[hm]at h2;simp only[z_]at h2;simp only[h2,ah,ay];exact .some rfl
 |some b=>
  rw[hm]at h2;simp only[z_]at h2;subst h2;obtain⟨h4,h5⟩:=tP hm hn htl (by simp[k_]);simp only[aj,h4,jw,aa];refine iu.bind (CK gu h5) fun o ho=>.some ⟨rfl,ho.1,ho.2⟩
theorem wZ{s:Bd}(hs:∀u∈s,u.length<=60)(hl:s.length<=24){i:Nat}(hi:i<=24):ql s i=some (if s.getD i []=[]then [-1-(i:Int)]else s.getD i []):=by
 unfold ql;rw[kI (n:= -1-(i:Int)) gu gu];by_cases h:i<s.length
 ·have hu:=hs _ (bu h);have hg:s.getD i []=s[i]:=iM h;simp only[show(i:Int)<s.length by omega,aC,aj,show(0:Int)<=i by omega,aW,az,iM h,hg];by_cases h0:s[i]=[]
  ·simp[h0]
  ·have:=bT.2 h0;simp only[h0,ay,show(0:Int)<s[i].length by omega,aC,aj,jG (show Small s[i] by show List.length _<_;omega),aa]
 ·simp only[show ¬(i:Int)<s.length by omega,aL,ah,ay,uz (s:=s) (i:=i) gu,aj]
theorem AU{s:Bd}(hl:s.length<=24)(hs:∀u∈s,u.length<=60):iu True (rA s) fun o=>o.length<=24/\∀i,o.getD i []=lF s i:=by
 unfold rA;refine iu.loop (fun q:Int×Bd=>∃i:Nat,q.1=i/\i<=s.length/\q.2.length=i/\∀j<i,q.2.getD j []=lF s j) (fun q:Int×Bd=>s.length-q.1.toNat) ⟨0,rfl,gu,rfl,gu⟩ ?_;rintro⟨_,o⟩ ⟨i,rfl,h1,h2,h3⟩;simp only at h2 h3;simp only[uo];by_cases hi:i<s.length
 ·have hw:IntKind.i64.wrap ((i:Int)+1)=i+1:=kI gu gu;have hw2:IntKind.i64.wrap (-1-(i:Int))= -1-i:=kI gu gu;have hm:(o.length+1)*24<=140737488355328:=by omega
  have hg:s.getD i []=s[i]:=iM hi;have step:∀u:fI,lF s i=u->iu True (some (Sum.inl ((i:Int)+1,o++[u])):Option ((Int×Bd)⊕Bd)) (wj (fun q:Int×Bd=>∃i:Nat,q.1=i/\i<=s.length/\q.2.length=i/\∀j<i,q.2.getD j []=lF s j) (fun q:Int×Bd=>s.length-q.1.toNat) (fun o=>o.length<=24/\∀i,o.getD i []=lF s i) (s.length-i)):=fun u hu=>
   .some ⟨⟨i+1,by simp,gu,by simp[h2],fun j hj=>by
    rw[zu];split
    ·exact h3 j gu
    ·rw[aE gu,show j=i by omega,hu]⟩,by simp;omega⟩
  simp only[show(i:Int)<s.length by omega,aC,aj,wZ hs hl (i:=i) gu,aa,hm,hw,hw2];by_cases h0:s[i]=[]
  ·simp only[hg,h0,aj,dF,Int.natCast_one,cq,dg,show(0:Int)<1 by omega,aW,dU];exact step [] (by unfold lF;rw[hg,aE (.inl h0)])
  ·simp only[hg,h0,ay];by_cases hlen:s[i].length=1
   ·obtain⟨x,hx⟩:=List.length_eq_one_iff.1 hlen;simp only[hx,dF,Int.natCast_one,cq,aj,dg,show(0:Int)<1 by omega,aW,dU];by_cases e:x= -1-(i:Int)
    ·simp only[e,cq,aj];exact step [] (by unfold lF;rw[hg,aE (.inr (by rw[hx,e]))])
    ·have:¬(x== -1-(i:Int))=true:=by simpa using e
     simp only[this,ay];exact step [x] (by unfold lF;rw[hg,hx,aJ (by simp[e])])
   ·have:¬((s[i].length:Int)==1)=true:=by simp only[eR];omega
    simp only[this,ay];refine step s[i] ?_;unfold lF;rw[hg,aJ];rintro(h|h)
    ·exact h0 h
    ·exact hlen (by rw[h];rfl)
 ·simp only[show ¬(i:Int)<s.length by omega,aL,ah,ay];have hall:∀j,o.getD j []=lF s j:=fun j=>by
   by_cases hj:j<i
   ·exact h3 j hj
   ·rw[uz gu];unfold lF;rw[uz (s:=s) gu];simp
  refine iu.inr ?_;simp only[wj];refine iu.loop (fun o':Bd=>o'.length<=24/\∀j,o'.getD j []=lF s j) (fun o':Bd=>o'.length) ⟨gu,hall⟩ ?_;rintro o' ⟨h4,h5⟩;simp only[uq];by_cases h6:0<o'.length
  ·have hw:IntKind.i64.wrap ((o'.length:Int)-1)=o'.length-1:=kI gu gu;have ht:((o'.length:Int)-1).toNat=o'.length-1:=by omega
   have hlt:o'.length-1<o'.length:=by omega
   simp only[show(0:Int)<o'.length by omega,aC,aj,hw,show 0<=(o'.length:Int)-1 by omega,show(o'.length:Int)-1<o'.length by omega,show(o'.length:Int)-1<=o'.length by omega,aW,ht,iM hlt];by_cases h7:o'[o'.length-1]=[]
   ·simp only[h7,bB,fD,cq,aj];refine .some ⟨⟨by simp;omega,fun j=>?_⟩,by simp;omega⟩;rw[<-h5 j,aB,aB,bL];split
    ·rfl
    ·by_cases hj:j=o'.length-1
     ·subst hj;rw[aA hlt,h7];rfl
     ·rw[bK gu]
   ·have:=bT.2 h7;have:¬((o'[o'.length-1].length:Int)==0)=true:=by simp only[eR];omega
    simp only[this,ay,aX];exact .some ⟨h4,h5⟩
  ·simp only[show ¬(0:Int)<o'.length by omega,aL,ah,ay,aX];exact .some ⟨h4,h5⟩
theorem AW{a p t:fI}(ha:kN a=true)(hp:Wf a 1 p)(ht:Wf a 1 t)(hpl:p.length<=60)(htl:t.length<=60):iu True (rB a p t) (wE (uL a p t k_)):=by
 have hn:∀u∈k_,u.length<=60:=by intro u hu;simp[k_]at hu;subst hu;simp
 unfold rB;rw[show(List.replicate 24 []:Bd)=k_ from rfl];refine iu.loop (fun s:Int×Int×Bd=>∃i c:Nat,s.1=(c:Int)/\s.2.1=(i:Int)/\S2 a p t k_ s.2.2 i c) (fun s:Int×Int×Bd=>p.length-s.2.1.toNat)
  ⟨0,0,rfl,rfl,gu,gu,by simp[k_],hn,⟨1,by simpa using hp,by simpa using ht⟩,by simp⟩ ?_
 rintro⟨_,_,b⟩ ⟨i,c,rfl,rfl,h⟩;simp only at h;have hb:=h.hb;simp only[ur];by_cases hi:i<p.length
 ·have hc:=h.S_ hi;simp only[show(i:Int)<p.length by omega,show ¬(t.length:Int)<=c by omega,aC,aL,aj,show(0:Int)<=i by omega,show(0:Int)<=c by omega,show(c:Int)<t.length by omega,aW,
   ah,ay,az,iM hi,iM hc,kI (n:=(i:Int)+1) gu gu,kI (n:=(c:Int)+1) gu gu]
  by_cases hn:p[i]<0
  ·obtain⟨u,r,e,hu,hl,ho,hm,hk⟩:=h.var hi hn;have hul:=hu.len;have hx: -24<=p[i]:=ho.1;have hlt:(-1-p[i]).toNat<b.length:=by omega
   simp only[show ¬0<=p[i] by omega,aL,ah,ay,oZ ha (show Small t by show t.length<_;omega) e hu,aa,
    kI (n:= -1-p[i]) gu gu,show 0<= -1-p[i] by omega,show -1-p[i]<24 by omega,aW,aj,hb,show((-1:Int)-p[i]<((24:Nat):Int)) by omega,
    kI (n:=(c:Int)+u.length) gu gu]
   have eg:b.getD (-1-p[i]).toNat default=kG b p[i]:=rfl;rw[eg];by_cases h0:kG b p[i]=[]
   ·rw[aE h0]at hm;simp only[h0,bB,fD,ct,aL,ah,ay];exact .some ⟨⟨i+1,c+u.length,by simp,by simp,gu,gu,by simpa using hb,Aq h.Mn gu,hk,by rw[hm];rfl⟩,by simp;omega⟩
   ·rw[aJ h0]at hm;have hp0:=bT.2 h0;simp only[show(0:Int)<((kG b p[i]).length:Int) by omega,aC,aj,nu (show Small (kG b p[i]) by show List.length _<_;have:=yq (n:=p[i]) h.Mn;omega),aa];by_cases h1:kG b p[i]=u
    ·rw[aE h1]at hm;simp only[h1,cq,aj];have hset:b.set (-1-p[i]).toNat u=b:=by
      have:b[(-1-p[i]).toNat]=u:=by rw[<-h1];exact(iM hlt).symm
      rw[<-this];exact List.set_getElem_self hlt
     rw[hset];exact .some ⟨⟨i+1,c+u.length,by simp,by simp,gu,gu,hb,h.Mn,hk,hm.symm⟩,by simp;omega⟩
    ·rw[aJ h1]at hm;have:¬(kG b p[i]==u)=true:=by simpa using h1
     simp only[this,ay,aX];refine .some ?_;simp only[wj,wE,hm]
  ·obtain⟨hc',ho,hm,hk⟩:=h.sym hi hn;simp only[show 0<=p[i] by omega,aC,aj];by_cases e:t[c]=p[i]
   ·rw[aE e]at hm;simp only[e,dI,ah,ay];exact .some ⟨⟨i+1,c+1,by simp,by simp,gu,gu,hb,h.Mn,hk e,hm.symm⟩,by simp;omega⟩
   ·rw[aJ e]at hm;have:(p[i] != t[c])=true:=by simpa using fun h=>e h.symm
    simp only[this,aj,aX];refine .some ?_;simp only[wj,wE,hm]
 ·have hm:=h.m;rw[bU gu,xq]at hm;simp only[show ¬(i:Int)<p.length by omega,aL,ah,ay,hb,aj];refine iu.inr ?_;refine iu.bind (AU gu h.Mn) fun o ho=>.some ?_
  simp only[wj,wE,<-hm];exact⟨trivial,ho.1,ho.2⟩
theorem Qf{σ:Int->fI}{t:fI}{i:Nat}(hi:i<t.length):sub σ (t.take (i+1))=sub σ (t.take i)++(if t[i]<0 then σ t[i]else [t[i]]):=by
 rw[cY,aA hi,GN];simp[sub]
theorem IE{σ:Int->fI}{t:fI}{i:Nat}:(sub σ (t.take i)).length<=(sub σ t).length:=by
 have:sub σ t=sub σ (t.take i)++sub σ (t.drop i):=by rw[<-GN,bQ]
 rw[this];simp
def oo(σ:Int->fI)(t:fI):Option fI:=if(sub σ t).length<=60 then some (sub σ t)else none
def jt(o:Option fI):fI×Bool:=match o with|some x=>(x,true)|none=>([],false)
theorem CI{s:Bd}(hl:s.length<=24){i:Nat}(hi:i<=24):oE s i=some (s.getD i []):=by
 unfold oE;by_cases h:i<s.length
 ·have hg:s.getD i []=s[i]:=iM h;simp only[show ¬(s.length:Int)<=i by omega,aL,ah,ay,show(0:Int)<=i by omega,show(i:Int)<s.length by omega,aW,aj,az,iM h,hg];by_cases h0:s[i]=[]
  ·simp[h0]
  ·have:=bT.2 h0;have h2:¬((s[i].length:Int)==0)=true:=by simp only[eR];omega
   simp only[h2,ah,ay,this,aj]
 ·simp only[show(s.length:Int)<=i by omega,aC,aj,uz (s:=s) (i:=i) gu]
theorem E7{σ:Int->fI}{t:fI}{i:Nat}(hi:i<t.length){out u:fI}(ho:out=sub σ (t.take i))(hu:u=if t[i]<0 then σ t[i]else [t[i]]):
 (60<(out++u).length->oo σ t=none)/\out++u=sub σ (t.take (i+1)):=by
 have e:out++u=sub σ (t.take (i+1)):=by rw[Qf hi,ho,hu]
 refine⟨fun h=>?_,e⟩;rw[e]at h;unfold oo;rw[aJ];have:=IE (σ:=σ) (t:=t) (i:=i+1);omega
theorem ze{s:Bd}{t:fI}(hl:s.length<=24)(hs:∀i,(s.getD i []).length<=60)(ht:t.length<=60)(hx:∀x∈t, -24<=x):m_ s t=some (jt (oo (Tm.sig s) t)):=by
 have key:iu True (m_ s t) (·=jt (oo (Tm.sig s) t)):=by
  unfold m_;simp only[pX,aa,show 0<=(t.length:Int)/\8*(t.length:Int)<=281474976710656 by omega,aW,aj];refine iu.loop (fun q:fI×Int=>∃i:Nat,q.2=i/\i<=t.length/\q.1=sub (Tm.sig s) (t.take i)/\q.1.length<=60) (fun q:fI×Int=>t.length-q.2.toNat) ⟨0,rfl,gu,by simp[sub],by simp⟩ ?_;rintro⟨out,_⟩ ⟨i,rfl,h1,h2,h3⟩;simp only at h2 h3;simp only[wC];by_cases hi:i<t.length
  ·have hxi:=hx _ (bu hi);simp only[show(i:Int)<t.length by omega,aC,aj,show(0:Int)<=i by omega,aW,az,iM hi,kI (n:=(i:Int)+1) gu gu];have fin:∀u:fI,u.length<=60->u=(if t[i]<0 then Tm.sig s t[i]else [t[i]])->iu True (if decide (60<((out++u).length:Int))=true then Option.map Sum.inr (some (([]:fI),false))else some (Sum.inl (out++u,(i:Int)+1)))
    (wj (fun q:fI×Int=>∃i:Nat,q.2=i/\i<=t.length/\q.1=sub (Tm.sig s) (t.take i)/\q.1.length<=60) (fun q:fI×Int=>t.length-q.2.toNat) (·=jt (oo (Tm.sig s) t)) (t.length-i)):=fun u hu e=>by
    obtain⟨h4,h5⟩:=E7 hi h2 e;by_cases h6:60<(out++u).length
    ·simp only[show(60:Int)<((out++u).length:Int) by omega,aC,aj,aX];refine .some ?_;simp only[wj,h4 h6,jt]
    ·simp only[show ¬(60:Int)<((out++u).length:Int) by omega,aL,ah,ay];exact .some ⟨⟨i+1,by simp,gu,h5,by simp only;omega⟩,by simp;omega⟩
   unfold oR;by_cases hn:t[i]<0
   ·have hi24:((-1-t[i]).toNat:Int)= -1-t[i]:=by omega
    simp only[show ¬0<=t[i] by omega,aL,ah,ay,kI (n:= -1-t[i]) gu gu];rw[<-hi24,CI hl gu,aa,aa];have hb:s.getD (-1-t[i]).toNat []=kG s t[i]:=rfl;rw[hb];have hbl:(kG s t[i]).length<=60:=hs _;by_cases h0:kG s t[i]=[]
    ·simp only[h0,fA,aj,show(out.length+1)*8<=140737488355328 by omega];exact fin [t[i]] (by simp) (by rw[aE hn];unfold Tm.sig;rw[aE h0])
    ·have:¬(kG s t[i]).isEmpty=true:=by simpa using h0
     simp only[this,ay,show(out.length+(kG s t[i]).length)*8<=140737488355328 by omega,aj];exact fin (kG s t[i]) hbl (by rw[aE hn];unfold Tm.sig;rw[aJ h0])
   ·simp only[show 0<=t[i] by omega,aC,aj,aa,fA,show(out.length+1)*8<=140737488355328 by omega];exact fin [t[i]] (by simp) (by rw[aJ hn])
  ·simp only[show ¬(i:Int)<t.length by omega,aL,ah,ay,aX];refine .some ?_;rw[bM gu]at h2;simp only[wj,oo,<-h2,h3,aj,jt]
 exact key.eq
theorem ta{s:Bd}{t:fI}(hl:s.length<=24)(hs:∀u∈s,u.length<=60)(ht:t.length<=60)(hx:∀x∈t, -24<=x):ku s t=some (jt (oo (Tm.sig s) t)):=by
 have key:iu True (ku s t) (·=jt (oo (Tm.sig s) t)):=by
  unfold ku;refine iu.loop (fun q:fI×Int=>∃i:Nat,q.2=i/\i<=t.length/\q.1=sub (Tm.sig s) (t.take i)/\q.1.length<=60) (fun q:fI×Int=>t.length-q.2.toNat) ⟨0,rfl,gu,by simp[sub],by simp⟩ ?_;rintro⟨out,_⟩ ⟨i,rfl,h1,h2,h3⟩;simp only at h2 h3;simp only[tc];by_cases hi:i<t.length
  ·have hxi:=hx _ (bu hi);simp only[show(i:Int)<t.length by omega,aC,aj,show(0:Int)<=i by omega,aW,az,iM hi,kI (n:=(i:Int)+1) gu gu];have fin:∀u:fI,u.length<=60->u=(if t[i]<0 then Tm.sig s t[i]else [t[i]])->iu True (if decide (60<((out++u).length:Int))=true then Option.map Sum.inr (some (([]:fI),false))else some (Sum.inl (out++u,(i:Int)+1)))
    (wj (fun q:fI×Int=>∃i:Nat,q.2=i/\i<=t.length/\q.1=sub (Tm.sig s) (t.take i)/\q.1.length<=60) (fun q:fI×Int=>t.length-q.2.toNat) (·=jt (oo (Tm.sig s) t)) (t.length-i)):=fun u hu e=>by
    obtain⟨h4,h5⟩:=E7 hi h2 e;by_cases h6:60<(out++u).length
    ·simp only[show(60:Int)<((out++u).length:Int) by omega,aC,aj,aX];refine .some ?_;simp only[wj,h4 h6,jt]
    ·simp only[show ¬(60:Int)<((out++u).length:Int) by omega,aL,ah,ay];exact .some ⟨⟨i+1,by simp,gu,h5,by simp only;omega⟩,by simp;omega⟩
   by_cases hn:t[i]<0
   ·have hi24:((-1-t[i]).toNat:Int)= -1-t[i]:=by omega
    simp only[hn,aC,aj,kI (n:= -1-t[i]) gu gu];rw[<-hi24,wZ hs hl gu,aa,hi24];have hb:s.getD (-1-t[i]).toNat []=kG s t[i]:=rfl;rw[hb];have hbl:(kG s t[i]).length<=60:=yq hs;by_cases h0:kG s t[i]=[]
    ·simp only[h0,aj,dF,show(out.length+1)*8<=140737488355328 by omega,show -1-(-1-t[i])=t[i] by omega];exact fin [t[i]] (by simp) (by rw[aE hn];unfold Tm.sig;rw[aE h0])
    ·simp only[h0,ay,show(out.length+(kG s t[i]).length)*8<=140737488355328 by omega,aj];exact fin (kG s t[i]) hbl (by rw[aE hn];unfold Tm.sig;rw[aJ h0])
   ·simp only[hn,aL,ah,ay,show(out.length+1)*8<=140737488355328 by omega,aj];exact fin [t[i]] (by simp) (by rw[aJ hn])
  ·simp only[show ¬(i:Int)<t.length by omega,aL,ah,ay,aX];refine .some ?_;rw[bM gu]at h2;simp only[wj,oo,<-h2,h3,aj,jt]
 exact key.eq
theorem Aj{xs:List fI}(hl:xs.length<=3)(hs:∀u∈xs,u.length<=60):iy xs=some xs.flatten:=by
 have hfl:∀i,i<=xs.length->(xs.take i).flatten.length<=60*i:=fun i=>by
  induction i with
  |zero=>simp
  |succ i ih=>
   intro hi;have h1:i<xs.length:=by omega
   rw[cY,aA h1,dc,au];have:=ih gu;have:=hs _ (bu h1);simp only[fc,cm,fB,bh];omega
 have tk:∀i (h1:i<xs.length),(xs.take (i+1)).flatten=(xs.take i).flatten++xs[i]:=fun i h1=>by rw[cY,aA h1,dc];simp
 have key:iu True (iy xs) (·=xs.flatten):=by
  unfold iy;refine iu.loop (fun q:Int×Int=>∃i:Nat,q.2=i/\i<=xs.length/\q.1=((xs.take i).flatten.length:Int)) (fun q:Int×Int=>xs.length-q.2.toNat) ⟨0,rfl,gu,by simp⟩ ?_;rintro⟨_,_⟩ ⟨i,rfl,h1,rfl⟩;simp only[lR];have hb:=hfl i h1;by_cases hi:i<xs.length
  ·have hu:=hs _ (bu hi);simp only[show(i:Int)<xs.length by omega,aC,aj,show(0:Int)<=i by omega,aW,az,iM hi,kI (n:=(i:Int)+1) gu gu,
    kI (n:=((xs.take i).flatten.length:Int)+(xs[i].length:Int)) gu gu,show ¬((xs.take i).flatten.length:Int)+(xs[i].length:Int)<0 by omega,aL,ah,ay]
   exact .some ⟨⟨i+1,by simp,gu,by rw[tk i hi];simp⟩,by simp;omega⟩
  ·simp only[show ¬(i:Int)<xs.length by omega,aL,ah,ay,nj,show 0<=((xs.take i).flatten.length:Int)/\((xs.take i).flatten.length:Int)*8<=140737488355328 by omega,aW,aj,aa];refine iu.inr ?_;simp only[wj];refine iu.loop (fun q:fI×Int=>∃i:Nat,q.2=i/\i<=xs.length/\q.1=(xs.take i).flatten) (fun q:fI×Int=>xs.length-q.2.toNat) ⟨0,rfl,gu,by simp⟩ ?_;rintro⟨_,_⟩ ⟨j,rfl,h2,rfl⟩;simp only[lS];have hb:=hfl j h2;by_cases hj:j<xs.length
   ·have hu:=hs _ (bu hj);simp only[show(j:Int)<xs.length by omega,aC,aj,show(0:Int)<=j by omega,aW,az,iM hj,kI (n:=(j:Int)+1) gu gu,
     show((xs.take j).flatten.length+xs[j].length)*8<=140737488355328 by omega]
    exact .some ⟨⟨j+1,by simp,gu,by rw[tk j hj]⟩,by simp;omega⟩
   ·simp only[show ¬(j:Int)<xs.length by omega,aL,ah,ay,aX];refine .some ?_;simp only[wj];rw[bM gu]
 exact key.eq
def zD(a t:fI)(i:Nat)(v:fI):Option fI:=if(EF a t i v).length<=60 then some (EF a t i v)else none
theorem uY{a p u s v:fI}(ha:kN a=true)(hu:Wf a 1 u)(hm:∀x∈p++(u++s), -24<=x)(hl:(p++(u++s)).length<=60)(hv:v.length<=60):
 nX a (p++(u++s)) (p.length:Int) v=some (jt (zD a (p++(u++s)) p.length v)):=by
 have hd:(p++(u++s)).drop p.length=u++s:=bI;have hl':=hl;simp only[au]at hl';unfold nX;rw[aE (by simp only[au];omega),sN ha (by show List.length _<_;omega) hm (by simp),aa,vA hd hu];have e1:((p++(u++s)).length:Int)-s.length=((p.length+u.length:Nat):Int):=by simp;omega
 rw[e1,aE (by simp;omega),az,az,eC,<-List.drop_drop,hd,bI];rw[Aj (by simp) (by intro w hw;simp at hw;rcases hw with rfl|rfl|rfl<;>omega),aa];unfold zD;rw[Bu hu];have e2:[p,v,s].flatten=p++(v++s):=by simp
 rw[e2];by_cases h:(p++(v++s)).length<=60
 ·simp only[show ¬(60:Int)<((p++(v++s)).length:Int) by omega,aL,ah,ay,h,aj,jt]
 ·simp only[show(60:Int)<((p++(v++s)).length:Int) by omega,aC,aj,h,ay,jt]
theorem yP{a p u s v:fI}(ha:kN a=true)(hu:Wf a 1 u)(hl:(p++(u++s)).length<=60)(hv:v.length<=60):
 qD a (p++(u++s)) (p.length:Int) v=some (jt (zD a (p++(u++s)) p.length v)):=by
 have hd:(p++(u++s)).drop p.length=u++s:=bI;have hl':=hl;simp only[au]at hl';unfold qD;rw[aE (by simp only[au];omega),az,eC,jG (by show List.length _<_;omega),aa,aE gu,qJ ha (by show List.length _<_;omega) (by simp),aa,vA hd hu];have e1:((p++(u++s)).length:Int)-s.length=((p.length+u.length:Nat):Int):=by simp;omega
 rw[e1,aE (by simp;omega),az,<-List.drop_drop,hd,bI,aE (by simp;omega),aI];unfold zD;rw[Bu hu];by_cases h:(p++(v++s)).length<=60
 ·simp only[show ¬(60:Int)<((p++(v++s)).length:Int) by omega,aL,ah,ay,h,aj,jt]
 ·simp only[show(60:Int)<((p++(v++s)).length:Int) by omega,aC,aj,h,ay,jt]
abbrev Sys:=fI×List fJ
theorem qU{s:Sys}:lD s=true<->kN s.1=true/\s.2.length<=12/\∀r∈s.2,xI s.1 r=true:=by simp[lD]
theorem AF{a:fI}{r:fI×fI}:xI a r=true<->gE a r.1=true/\gE a r.2=true/\0<=r.1.headD 0/\∀x∈r.2,x<0->x∈r.1:=by simp only[xI,LJ,bq,aQ,cc]
def CE(s:Sys)(t:fI)(i rule:Nat):Option fI:=FL s.1 (s.2.getD rule default).1 (s.2.getD rule default).2 t i
theorem CA{b o:Bd}(hb:∀u∈b,u.length<=60)(h:∀i,o.getD i []=lF b i):(∀i,(o.getD i []).length<=60)/\∀u∈o,u.length<=60:=by
 have h1:∀i,(o.getD i []).length<=60:=fun i=>by
  rw[h];unfold lF;split
  ·simp
  ·rw[aB];cases hx:b[i]? with
   |none=>simp
   |some u=>exact hb u (bV hx)
 refine⟨h1,fun u hu=>?_⟩;obtain⟨i,hi,rfl⟩:=List.getElem_of_mem hu;have:=h1 i;rwa [show o.getD i []=o[i]from iM hi]at this
theorem Dv{b o:Bd}(h:∀i,o.getD i []=lF b i)(t:fI):oo (Tm.sig o) t=oo (Tm.sig b) t:=by
 unfold oo;rw[sub_congr fun x _ hx=>MR h hx]
theorem IA{a l r p u s:fI}(hu:Wf a 1 u):FL a l r (p++(u++s)) p.length=(uL a l u k_).bind fun b=>(oo (Tm.sig b) r).bind fun v=>zD a (p++(u++s)) p.length v:=by
 unfold FL;rw[A0 hu];congr 1;funext b;unfold oo zD;by_cases h1:(sub (Tm.sig b) r).length<=60
 ·rw[aE h1,aa];by_cases h2:(EF a (p++(u++s)) p.length (sub (Tm.sig b) r)).length<=60
  ·rw[aE ⟨h1,h2⟩,aE h2]
  ·rw[aJ (fun h=>h2 h.2),aJ h2]
 ·rw[aJ (fun h=>h1 h.1),aJ h1];rfl
theorem C8{s:Sys}{t:fI}{i rule:Nat}(hs:lD s=true)(ht:gE s.1 t=true)(hi:i<t.length)(hr:rule<s.2.length):tu s t i rule=some (jt (CE s t i rule)):=by
 obtain⟨ha,_,hrs⟩:=qU.1 hs;obtain⟨_,h1,h2,hw⟩:=gH.1 ht;obtain⟨p,u,q,rfl,rfl,hu⟩:=hw.place hi;have hrule:=AF.1 (hrs _ (iQ hr));obtain⟨hL,hR,_,hv⟩:=hrule;obtain⟨_,hL1,hL2,hL3⟩:=gH.1 hL;obtain⟨_,hR1,hR2,hR3⟩:=gH.1 hR;have hm:∀x∈p++(u++q), -24<=x:=fun x hx=>(hw.all x hx).1
 have hul:u.length<=60:=by simp at h2;omega
 unfold tu CE;rw[aE gu,qI ha (by show List.length _<_;omega) hm bI hu,aa,az];obtain⟨o,e1,e2⟩:=(CJ ha hL3 hu hL2 hul).get;rw[e1,aa,IA hu];cases hmat:uL s.1 (s.2.getD rule default).1 u k_ with
 |none=>
  rw[hmat]at e2;simp only[wE]at e2;simp only[e2,ah,ay,fq,jt]
 |some b=>
  rw[hmat]at e2;obtain⟨e3,e4,e5⟩:=e2;obtain⟨hb1,hb2⟩:=tP hmat (by intro u hu;simp[k_]at hu;subst hu;simp) hul (by simp[k_]);obtain⟨hp1,hp2⟩:=CA hb2 e5;rw[aE e3,aE gu,ze e4 hp1 hR2 (fun x hx=>(hR3.all x hx).1),aa,aa,Dv e5];cases hf:oo (Tm.sig b) (s.2.getD rule default).2 with
  |none=>simp[jt]
  |some v=>
   have hv60:v.length<=60:=by
    unfold oo at hf;split at hf
    ·rename_i h;cases hf;exact h
    ·cases hf
   simp only[jt,aj,aa];rw[uY ha hu hm h2 hv60];rfl
theorem xO{s:Sys}{t:fI}{i rule:Nat}(hs:lD s=true)(ht:gE s.1 t=true)(hi:i<t.length)(hr:rule<s.2.length):qT s t i rule=some (jt (CE s t i rule)):=by
 obtain⟨ha,_,hrs⟩:=qU.1 hs;obtain⟨_,h1,h2,hw⟩:=gH.1 ht;obtain⟨p,u,q,rfl,rfl,hu⟩:=hw.place hi;have hrule:=AF.1 (hrs _ (iQ hr));obtain⟨hL,hR,_,hv⟩:=hrule;obtain⟨_,hL1,hL2,hL3⟩:=gH.1 hL;obtain⟨_,hR1,hR2,hR3⟩:=gH.1 hR;have hul:u.length<=60:=by simp at h2;omega
 unfold qT CE;rw[aE gu,oZ ha (by show List.length _<_;omega) bI hu,aa,az];obtain⟨o,e1,e2⟩:=(AW ha hL3 hu hL2 hul).get;rw[e1,aa,IA hu];cases hmat:uL s.1 (s.2.getD rule default).1 u k_ with
 |none=>
  rw[hmat]at e2;simp only[wE]at e2;simp only[e2,ah,ay,fq,jt]
 |some b=>
  rw[hmat]at e2;obtain⟨e3,e4,e5⟩:=e2;obtain⟨hb1,hb2⟩:=tP hmat (by intro u hu;simp[k_]at hu;subst hu;simp) hul (by simp[k_]);obtain⟨hp1,hp2⟩:=CA hb2 e5;rw[aE e3,ta e4 hp2 hR2 (fun x hx=>(hR3.all x hx).1),aa,aa,Dv e5];cases hf:oo (Tm.sig b) (s.2.getD rule default).2 with
  |none=>simp[jt]
  |some v=>
   have hv60:v.length<=60:=by
    unfold oo at hf;split at hf
    ·rename_i h;cases hf;exact h
    ·cases hf
   simp only[jt,aj,aa];rw[yP ha hu h2 hv60];rfl
def ve(s:Sys)(t:fI)(i rule:Int):Option fI:=
 if(lD s=true/\gE s.1 t=true)/\(0<=i/\i<t.length)/\(0<=rule/\rule<s.2.length)then CE s t i.toNat rule.toNat else none
theorem xb(s:Sys)(t:fI):qn s t=some (lD s&&gE s.1 t):=by
 unfold qn;rw[sZ,aa];cases h1:lD s with
 |false=>simp
 |true=>simp[kE]
theorem BF(s:Sys)(t:fI)(i rule:Int):sG s t i rule=some (jt (ve s t i rule)):=by
 unfold sG mR ve;rw[xb,aa];cases h1:lD s with
 |false=>simp[jt]
 |true=>
  cases h2:gE s.1 t with
  |false=>simp[jt]
  |true=>
   obtain⟨_,h7,h8,_⟩:=gH.1 h2;obtain⟨_,h9,_⟩:=qU.1 h1;simp only[ek,aj,mQ,aa,aW,cx,kI (n:=(t.length:Int)-1) gu gu,kI (n:=(s.2.length:Int)-1) gu gu];by_cases h3:0<=i
   ·by_cases h4:i<t.length
    ·by_cases h5:0<=rule
     ·by_cases h6:rule<s.2.length
      ·have:=xO h1 h2 (i:=i.toNat) (rule:=rule.toNat) gu gu;rw[show((i.toNat:Nat):Int)=i by omega,show((rule.toNat:Nat):Int)=rule by omega]at this;simp[h3,h4,h5,h6,this,show i<=(t.length:Int)-1 by omega,show rule<=(s.2.length:Int)-1 by omega]
      ·simp[h3,h4,h5,h6,jt,show i<=(t.length:Int)-1 by omega,show ¬rule<=(s.2.length:Int)-1 by omega]
     ·simp[h3,h4,h5,jt,show i<=(t.length:Int)-1 by omega]
    ·simp[h3,h4,jt,show ¬i<=(t.length:Int)-1 by omega]
   ·simp[h3,jt]
theorem Ag{s:Sys}{t u:fI}{i rule:Int}(h:ve s t i rule=some u):u.length<=60:=by
 unfold ve at h;split at h
 ·unfold CE FL at h;obtain⟨b,_,h⟩:=ai.1 h;split at h
  ·rename_i hc;cases h;exact hc.2
  ·cases h
 ·cases h
abbrev n_:=Int×Int×fI
def rO(s:Sys):fI->List n_->Bool
 |_,[]=>true
 |t,x::r=>match ve s t x.1 x.2.1 with
  |some u=>u==x.2.2&&rO s u r
  |none=>false
def Eh(s:Sys)(w:fI×List n_):Bool:=lD s&&(gE s.1 w.1&&(decide (w.2.length<=60)&&rO s w.1 w.2))
theorem Nf{s:Sys}{w:fI×List n_}{f:fI×Int->Option (fO⊕Bool)}
 (h:∀(t:fI)(i:Nat)(x:n_),i<w.2.length->w.2.getD i default=x->f (t,i)=some (match ve s t x.1 x.2.1 with|some u=>if u==x.2.2 then .inl (u,(i:Int)+1)else .inr false|none=>.inr false))
 (he:∀t,f (t,w.2.length)=some (.inr true)):gI f (w.1,0)=some (rO s w.1 w.2):=by
 have key:∀(k i:Nat)(t:fI),i+k=w.2.length->gI f (t,(i:Int))=some (rO s t (w.2.drop i)):=by
  intro k;induction k with
  |zero=>
   intro i t hi;obtain rfl:i=w.2.length:=by omega
   rw[hU (he t)];simp[rO]
  |succ k ih=>
   intro i t hi;have hlt:i<w.2.length:=by omega
   have e:=h t i _ hlt (iM hlt);rw[aV hlt,rO];cases hs:ve s t (w.2[i]).1 (w.2[i]).2.1 with
   |none=>
    rw[hs]at e;rw[hU e]
   |some u=>
    rw[hs]at e;simp only at e;by_cases hu:(u==(w.2[i]).2.2)=true
    ·rw[aE hu]at e;rw[jN e,show((i:Int)+1)=((i+1:Nat):Int) by omega,ih (i+1) u gu];simp only[hu,bz]
    ·rw[aJ hu]at e;rw[hU e];simp only[Bool.not_eq_true]at hu;simp[hu]
 simpa using key w.2.length 0 w.1 gu
theorem xN(s:Sys)(w:fI×List n_):qR s w=some (Eh s w):=by
 unfold qR Eh;rw[xb,aa];cases h1:lD s with
 |false=>simp
 |true=>
  cases h2:gE s.1 w.1 with
  |false=>simp
  |true=>
   by_cases h3:60<(w.2.length:Int)
   ·simp[h3,show ¬w.2.length<=60 by omega]
   ·simp only[ek,aj,h3,aL,ah,ay,show w.2.length<=60 by omega,aC,bz];rw[Nf (s:=s) (w:=w) (fun t i x hi hx=>?_) (fun t=>by simp[rT])];simp only[rT,show(i:Int)<w.2.length by omega,aC,aj,show(0:Int)<=i by omega,aW,az,hx,BF,aa,kI (n:=(i:Int)+1) gu gu];cases hs:ve s t x.1 x.2.1 with
    |none=>simp[jt]
    |some u=>
     have:=Ag hs;simp only[jt,aj,nu (show Small u by show u.length<_;omega),aa];cases(u==x.2.2)<;>simp
theorem DP{α β γ σ:Type}[Inhabited α](mk:Int->List β->σ){xs:List α}{g:α->β}{out0:List β}{c:γ}{f:σ->Option (σ⊕γ)}
 (h:∀(i:Nat)(out:List β)(x:α),i<xs.length->x∈xs->xs.getD i default=x->out.length=out0.length+i->f (mk i out)=some (.inl (mk ((i:Int)+1) (out++[g x]))))
 (he:f (mk xs.length (out0++xs.map g))=some (.inr c)):gI f (mk 0 out0)=some c:=by
 have key:∀(k i:Nat)(out:List β),i+k=xs.length->out.length=out0.length+i->out++(xs.drop i).map g=out0++xs.map g->gI f (mk i out)=some c:=by
  intro k;induction k with
  |zero=>
   intro i out hi _ ho;obtain rfl:i=xs.length:=by omega
   rw[eN]at ho;simp at ho;subst ho;exact hU he
  |succ k ih=>
   intro i out hi hl ho;have hlt:i<xs.length:=by omega
   rw[jN (h i out _ hlt (bu hlt) (iM hlt) hl),show((i:Int)+1)=((i+1:Nat):Int) by omega];refine ih (i+1) _ gu (by simp;omega) ?_;rw[aV hlt,aT]at ho;rw[aI,dD];exact ho
 exact key xs.length 0 out0 gu gu (by simp)
abbrev Q2:=Int×Int×Bool×fI
abbrev LK:=fI×List Q2
def OA(w:fI×List n_):LK:=(w.1,w.2.map fun s=>(s.2.1,s.1,false,s.2.2))
def yS(c:LK):fI:=if c.2.length=0 then c.1 else(c.2.getD (c.2.length-1) default).2.2.2
structure VO(c:LK):Prop where
 from':c.1.length<=60
 len:c.2.length<=60
 to:∀m∈c.2,m.2.2.2.length<=60
structure Ao(w:fI×List n_):Prop where
 from':w.1.length<=60
 len:w.2.length<=60
 to:∀m∈w.2,m.2.2.length<=60
theorem Ao.ch{w:fI×List n_}(h:Ao w):VO (OA w):=
 ⟨h.from',by simpa[OA]using h.len,fun m hm=>by obtain⟨s,hs,rfl⟩:=bF.1 hm;exact h.to s hs⟩
theorem VO.at{c:LK}(h:VO c){i:Nat}(hi:i<c.2.length):(c.2.getD i default).2.2.2.length<=60:=h.to _ (iQ hi)
theorem VO.end'{c:LK}(h:VO c):(yS c).length<=60:=by
 unfold yS;split
 ·exact h.from'
 ·exact h.at gu
abbrev VB:=fI×fI
def Yi(eqs:List VB)(m:Q2):fI:=if m.2.2.1=true then(eqs.getD m.1.toNat default).2 else(eqs.getD m.1.toNat default).1
def Yj(eqs:List VB)(m:Q2):fI:=if m.2.2.1=true then(eqs.getD m.1.toNat default).1 else(eqs.getD m.1.toNat default).2
def Z4(eqs:List VB)(t:fI)(m:Q2):Prop:=(0<=m.1/\m.1<eqs.length)/\(0<=m.2.1/\m.2.1<t.length)/\m.2.1<m.2.2.2.length
instance(eqs:List VB)(t:fI)(m:Q2):Decidable (Z4 eqs t m):=by unfold Z4;infer_instance
def XY(a:fI)(eqs:List VB)(t:fI)(m:Q2):Bool:=decide (Z4 eqs t m)&&(gE a m.2.2.2&&mvB a (Yi eqs m) (Yj eqs m) t m.2.2.2 m.2.1.toNat)
def Ur(a:fI)(eqs:List VB):fI->List Q2->Bool
 |_,[]=>true
 |t,m::ms=>XY a eqs t m&&Ur a eqs m.2.2.2 ms
theorem C1{a p' t':fI}:∀{p t:fI}{b:Bd}{k:Nat},Wf a k p->Wf a k t->uL a (p++p') (t++t') b=(uL a p t b).bind fun b'=>uL a p' t' b'
 |[],t,b,0,_,ht=>by rw[ht.zero];simp[xq]
 |[],t,b,k+1,hp,_=>by simp[Wf,Tm.skip]at hp
 |n::p,t,b,0,hp,_=>by have:=hp.zero;cases this
 |n::p,t,b,k+1,hp,ht=>by
  obtain⟨hx,hp⟩:=Wf.mE.1 hp;by_cases hn:n<0
  ·rw[show k+1=1+k by omega]at ht;obtain⟨u,r,rfl,hu,hr⟩:=ht.split;have ha:vH a n=0:=by simp[vH,hn]
   rw[ha,cP]at hp;rw[bH,aI,zR hn hu,zR hn hu];split
   ·exact C1 hp hr
   ·split
    ·exact C1 hp hr
    ·rfl
  ·obtain⟨y,r,rfl,hy,hr⟩:=ht.pos;rw[bH,bH,yE hn,yE hn];split
   ·rename_i e;subst e;exact C1 hp hr
   ·rfl
def H8(a:fI):List fI->List fI->Bd->Option Bd
 |p::ps,t::ts,b=>(uL a p t b).bind fun b'=>H8 a ps ts b'
 |_,_,b=>some b
theorem H9{a:fI}:∀{ps ts:List fI}{b:Bd},ps.length=ts.length->(∀u∈ps,Wf a 1 u)->(∀u∈ts,Wf a 1 u)->uL a ps.flatten ts.flatten b=H8 a ps ts b
 |[],[],b,_,_,_=>by simp[xq,H8]
 |p::ps,t::ts,b,hl,hp,ht=>by
  rw[cm,cm,C1 (hp p (by simp)) (ht t (by simp)),H8];cases uL a p t b with
  |none=>rfl
  |some b'=>exact H9 (by simpa using hl) (fun u hu=>hp u (by simp[hu])) fun u hu=>ht u (by simp[hu])
 |[],_::_,_,hl,_,_=>by simp at hl
 |_::_,[],_,hl,_,_=>by simp at hl
def Ae(s:Int):List fI->fI
 |[]=>[]
 |u::us=>s::Ae (s+u.length) us
theorem DZ:∀(us:List fI)(s:Int),(Ae s us).length=us.length
 |[],_=>rfl
 |u::us,s=>by simp[Ae,DZ us]
theorem Fz:∀(us:List fI)(s:Int)(j:Nat)(_:j<us.length),Ae s (us.take (j+1))=Ae s (us.take j)++[s+((us.take j).flatten.length:Int)]
 |[],_,_,h=>by simp at h
 |u::us,s,0,_=>by simp[Ae]
 |u::us,s,j+1,h=>by
  simp only[ew,Ae];rw[Fz us _ j (by simpa using h)];simp;omega
theorem DY:∀(us:List fI)(s:Int)(j:Nat)(_:j<us.length),(Ae s us).getD j default=s+((us.take j).flatten.length:Int)
 |[],_,_,h=>by simp at h
 |u::us,s,0,_=>by simp[Ae]
 |u::us,s,j+1,h=>by
  simp only[Ae,ez,ew];rw[DY us _ j (by simpa using h)];simp;omega
theorem JC{us:List fI}{j:Nat}(h:j<us.length):(us.take (j+1)).flatten=(us.take j).flatten++us[j]:=by rw[cY,aA h,dc];simp
theorem OG{x:Int}{us:List fI}{j:Nat}(hj:j<us.length):(x::us.flatten).drop (1+(us.take j).flatten.length)=us[j]++(us.drop (j+1)).flatten:=by
 rw[eA 1,List.drop_succ_cons];have e:us.flatten=(us.take j).flatten++(us[j]++(us.drop (j+1)).flatten):=by
  conv=>lhs;rw[<-bQ j us,aV hj]
  rw[dc,cm]
 rw[e,bI]
theorem GU{a:fI}:∀{k:Nat}{r:fI},Wf a k r->∃us:List fI,us.length=k/\r=us.flatten/\∀u∈us,Wf a 1 u
 |0,r,h=>⟨[],rfl,by rw[h.zero];rfl,by simp⟩
 |k+1,r,h=>by
  rw[show k+1=1+k by omega]at h;obtain⟨u,v,rfl,h1,h2⟩:=h.split;obtain⟨us,h3,rfl,h4⟩:=GU h2;exact⟨u::us,by simp[h3],rfl,by simpa using⟨h1,h4⟩⟩
theorem uh{t:fI}(hs:t.length<=60){i:Int}:mR t i=some (decide (0<=i/\i<t.length)):=by
 unfold mR;rw[mQ,aa,kI gu gu];congr 1;rw[Bool.decide_and];congr 1;exact eM.2 gu
theorem K1{us:List fI}{u:fI}(h:u∈us):u.length<=us.flatten.length:=by
 induction us with
 |nil=>cases h
 |cons v us ih=>
  rw[cm,au];rcases bt.1 h with rfl|h
  ·omega
  ·have:=ih h;omega
theorem Ed{a:fI}{x:Int}{us:List fI}(ht:gE a (x::us.flatten)=true)(hu:∀u∈us,Wf a 1 u){u:fI}(h:u∈us):gE a u=true:=by
 obtain⟨ha,h1,h2,h3⟩:=gH.1 ht;have:=K1 h;simp only[aK]at h2;exact gH.2 ⟨ha,(hu u h).len,gu,hu u h⟩
def OH:fI->List Q2->fI
 |t,[]=>t
 |_,m::ms=>OH m.2.2.2 ms
theorem HC:∀{ms:List Q2}{t:fI},(if ms.length=0 then t else(ms.getD (ms.length-1) default).2.2.2)=OH t ms
 |[],_=>rfl
 |[m],t=>rfl
 |m::m'::ms,t=>by
  have:=HC (ms:=m'::ms) (t:=m.2.2.2);simpa[OH]using this
theorem Oz(c:LK):yS c=OH c.1 c.2:=HC
theorem Ek{s:Sys}:∀{ms:List n_}{t:fI},rO s t ms=true->∀m∈ms,m.2.2.length<=60
 |[],_,_,m,hm=>by cases hm
 |x::ms,t,h,m,hm=>by
  rw[rO]at h;cases hs:ve s t x.1 x.2.1 with
  |none=>rw[hs]at h;cases h
  |some u=>
   rw[hs]at h;simp only[bq]at h;have hu:u=x.2.2:=by simpa using h.1
   rcases bt.1 hm with rfl|hm
   ·rw[<-hu];exact Ag hs
   ·exact Ek h.2 m hm
theorem Cf{s:Sys}{w:fI×List n_}:Eh s w=true<->lD s=true/\gE s.1 w.1=true/\w.2.length<=60/\rO s w.1 w.2=true:=by simp[Eh]
theorem QD{s:Sys}{w:fI×List n_}(h:Eh s w=true):Ao w:=by
 obtain⟨_,h2,h3,h4⟩:=Cf.1 h;exact⟨(gH.1 h2).2.2.1,h3,Ek h4⟩
theorem vN{w:fI×List n_}(h:Ao w):qE w=some (yS (OA w)):=by
 unfold qE yS OA;have hl:=h.len;simp only[aS];by_cases h0:w.2.length=0
 ·simp only[h0,Int.ofNat_zero,cq,aj];rw[jG (show w.1.length<_ by have:=h.from';omega),aa]
 ·have:((w.2.length:Int)==0)=false:=cw.2 gu;simp only[this,ah,ay,h0,kI (n:=(w.2.length:Int)-1) gu gu];rw[aE gu,show((w.2.length:Int)-1).toNat=w.2.length-1 by omega];have hlt:w.2.length-1<w.2.length:=by omega
  have e:((w.2.map fun s=>(s.2.1,s.1,false,s.2.2)).getD (w.2.length-1) default)=((w.2.getD (w.2.length-1) default).2.1,(w.2.getD (w.2.length-1) default).1,false,(w.2.getD (w.2.length-1) default).2.2):=by rw[iM (by simpa using hlt),iM hlt,dO]
  rw[e,jG (show List.length _<_ by have:=h.to _ (iQ hlt);omega),aa]
theorem AS{s:Sys}{w:fI×List n_}(h:Eh s w=true):ry s w=some (yS (OA w)):=by
 unfold ry;rw[xN,aa,aE h,vN (QD h),aa]
def BS{α:Type}(p:α->Bool)(xs:List α):Int:=match xs.findIdx? p with|some j=>(j:Int)|none=> -1
theorem DO{α:Type}[Inhabited α]{xs:List α}{p:α->Bool}{f:Int->Option (Int⊕Int)}
 (h:∀(i:Nat)(x:α),i<xs.length->x∈xs->xs.getD i default=x->f (i:Int)=some (if p x=true then .inr (i:Int)else .inl ((i:Int)+1)))
 (he:f xs.length=some (.inr (-1))):gI f 0=some (BS p xs):=by
 have key:∀(k i:Nat),i+k=xs.length->gI f (i:Int)=some (match(xs.drop i).findIdx? p with|some j=>((i+j:Nat):Int)|none=> -1):=by
  intro k;induction k with
  |zero=>
   intro i hi;obtain rfl:i=xs.length:=by omega
   rw[hU he,eN];rfl
  |succ k ih=>
   intro i hi;have hlt:i<xs.length:=by omega
   have e:=h i _ hlt (bu hlt) (iM hlt);rw[aV hlt,List.findIdx?_cons];cases hp:p (xs[i])with
   |true=>rw[hp]at e;rw[hU e];simp
   |false=>
    rw[hp]at e;rw[jN e,show((i:Int)+1)=((i+1:Nat):Int) by omega,ih (i+1) gu];cases hf:(xs.drop (i+1)).findIdx? p with
    |none=>simp
    |some j=>
     simp only[ah,ay,aX];show some (((i+1+j:Nat):Int))=some (((i+(j+1):Nat):Int));rw[show i+1+j=i+(j+1) by omega]
 have:=key xs.length 0 gu;simp only[bZ,cy]at this;exact this
theorem HH{α:Type}{p:α->Bool}{xs:List α}(h:∀x∈xs,p x=false):BS p xs= -1:=by
 unfold BS;rw[List.findIdx?_eq_none_iff.2 h]
theorem Mk{α:Type}{p:α->Bool}{xs:List α}{x:α}(hx:x∈xs)(hp:p x=true):0<=BS p xs:=by
 unfold BS;cases h:xs.findIdx? p with
 |none=>have:=List.findIdx?_eq_none_iff.1 h x hx;rw[hp]at this;cases this
 |some j=>simp only;omega
theorem sY{w:fI×List n_}(h:Ao w):mZ w=some (yS (OA w)):=by
 unfold mZ yS OA;have hl:=h.len;simp only[aS];by_cases h0:w.2.length=0
 ·simp[h0]
 ·simp only[show(0:Int)<w.2.length by omega,aC,aj,h0,ay,kI (n:=(w.2.length:Int)-1) gu gu];rw[aE gu,show((w.2.length:Int)-1).toNat=w.2.length-1 by omega];have hlt:w.2.length-1<w.2.length:=by omega
  rw[iM (xs:=w.2.map _) (by simpa using hlt),iM hlt,dO]
theorem pJ{σ γ:Type}{n:Nat}(st:Nat->σ){c:γ}{f:σ->Option (σ⊕γ)}(h:∀i,i<n->f (st i)=some (.inl (st (i+1))))(he:f (st n)=some (.inr c)):gI f (st 0)=some c:=by
 have key:∀k i,i+k=n->gI f (st i)=some c:=by
  intro k;induction k with
  |zero=>
   intro i hi;obtain rfl:i=n:=by omega
   exact hU he
  |succ k ih=>intro i hi;rw[jN (h i gu)];exact ih (i+1) gu
 exact key n 0 gu
theorem drop_cons{α:Type}[Inhabited α]{a:List α}{i:Nat}{x:α}{r:List α}(h:a.drop i=x::r):i<a.length/\a.getD i default=x/\a.drop (i+1)=r:=by
 have hlt:i<a.length:=Nat.lt_of_not_le fun hn=>by rw[bU hn]at h;cases h
 rw[aV hlt]at h;simp only[eU]at h;exact⟨hlt,by rw[iM hlt,h.1],h.2⟩
theorem mX{α:Type}[Inhabited α]{xs:List α}{i:Nat}(h:i<xs.length):xs.take (i+1)=xs.take i++[xs.getD i default]:=by rw[List.take_succ_eq_append_getElem h,iM h]
theorem BG{a:fI}{x:Int}{us:List fI}(ha:kN a=true)(hs:(x::us.flatten).length<=60)(ho:Fx a x)(hl:us.length=vH a x)
 (hu:∀u∈us,Wf a 1 u):qS a (x::us.flatten) 0=some (Ae 1 us):=by
 have h3:=F4 ha x;have key:iu True (qS a (x::us.flatten) 0) (·=Ae 1 us):=by
  unfold qS;rw[aE (by simp only[aK];omega)];simp only[Int.toNat_zero,dU];rw[wY ha,aE ho,aa,kI (n:=(0:Int)+1) gu gu];refine iu.loop (fun q:fI×Int×Int=>∃j:Nat,j<=us.length/\q.1=Ae 1 (us.take j)/\q.2.1=1+((us.take j).flatten.length:Int)/\q.2.2=(us.length:Int)-j) (fun q:fI×Int×Int=>q.2.2.toNat)
   ⟨0,gu,by simp[Ae],by simp,by simp[hl]⟩ ?_
  rintro⟨_,_,_⟩ ⟨j,h4,rfl,rfl,rfl⟩;simp only[uO];by_cases hj:j<us.length
  ·have hd:=OG (x:=x) hj;have hw:=hu _ (bu hj);have hpl:=DZ (us.take j) 1;rw[aU]at hpl;have hdl:=bW List.length hd;have hwl:=hw.len;simp only[bX,au]at hdl;have he:=qJ ha (show Small (x::us.flatten) by show List.length _<_;omega) (i:=1+(us.take j).flatten.length) gu;rw[vA hd hw]at he;rw[show((1+(us.take j).flatten.length:Nat):Int)=1+((us.take j).flatten.length:Int) by omega]at he;simp only[show(0:Int)<(us.length:Int)-j by omega,aC,aj,show((Ae 1 (us.take j)).length+1)*8<=140737488355328 by omega,he,aa,kI (n:=(us.length:Int)-j-1) gu gu];refine .some ⟨⟨j+1,gu,(Fz us _ j hj).symm,?_,by simp only;omega⟩,by simp only;omega⟩;simp only[JC hj,au];omega
  ·obtain rfl:j=us.length:=by omega
   simp only[show ¬(0:Int)<(us.length:Int)-(us.length:Int) by omega,aL,ah,ay,aX];refine .some ?_;simp only[wj,cK]
 exact key.eq
theorem xM{a:fI}{x:Int}{us:List fI}(ht:gE a (x::us.flatten)=true)(hl:us.length=vH a x)(hu:∀u∈us,Wf a 1 u):qQ a (x::us.flatten) 0=some (Ae 1 us):=by
 obtain⟨ha,h1,h2,h3⟩:=gH.1 ht;unfold qQ;rw[kE,aa,aE ht,uh h2,aa,aE (by simp only[aQ];omega),BG ha h2 (Wf.mE.1 h3).1 hl hu,aa]
theorem yO{a t u r:fI}(ht:gE a t=true){i:Nat}(h:t.drop i=u++r)(hu:Wf a 1 u):rS a t i=some u:=by
 obtain⟨ha,h1,h2,h3⟩:=gH.1 ht;have hul:=hu.len;have hd:=bW List.length h;simp only[bX,au]at hd;unfold rS;rw[kE,aa,aE ht,uh h2,aa,aE (by simp only[aQ];omega),oZ ha (show List.length _<_ by omega) h hu,aa]
theorem wD{a:fI}:∀(fu:Nat){p t:fI}{b0:Bd},gE a p=true->gE a t=true->b0.length=24->(∀u∈b0,u.length<=60)->
 iu (p.length+1<=fu) (ng fu a b0 p t) fun r=>z_ (uL a p t b0) r
 |0,p,t,b0,_,_,_,_=>⟨fun _ h=>by simp[ng]at h,fun h=>by omega⟩
 |fu+1,p,t,b0,hp,ht,hb,hbs=>by
  obtain⟨ha,p1,p2,p3⟩:=gH.1 hp;obtain⟨_,t1,t2,t3⟩:=gH.1 ht;obtain⟨x,r,rfl,hx,hr⟩:=p3.pos;obtain⟨y,s,rfl,hy,hsw⟩:=t3.pos;have ep:((((x::r).length:Nat):Int)==0)=false:=cw.2 (by simp only[aK];omega);have et:((((y::s).length:Nat):Int)==0)=false:=cw.2 (by simp only[aK];omega);have lp:(0:Int)<(((x::r).length:Nat):Int):=by simp only[aK];omega
  have lt:(0:Int)<(((y::s).length:Nat):Int):=by simp only[aK];omega
  simp only[ng,ep,et,ah,ay,lp,lt,dg,aW,aj,dU];by_cases hn:x<0
  ·have ha0:vH a x=0:=by simp[vH,hn]
   rw[ha0]at hr;have hr0:=hr.zero;subst hr0;have hx1:=hx.1;have e:=zR (a:=a) (p:=[]) (r:=[]) (b:=b0) hn t3;rw[bh]at e;rw[e];simp only[xq];have hg:b0.getD (-1-x).toNat default=kG b0 x:=rfl;have hbl:=yq (n:=x) hbs;simp only[hn,aC,aj,kI (n:= -1-x) gu gu,show 0<= -1-x by omega,show -1-x<(b0.length:Int) by omega,aW,hg,show(0+b0.length)*24<=140737488355328 by omega];by_cases h0:kG b0 x=[]
   ·simp only[h0,aj,bB,show ¬(0:Int)<((0:Nat):Int) by omega,aL,ah,ay];exact .some rfl
   ·have h0':0<(kG b0 x).length:=bT.2 h0;simp only[h0,ay,show(0:Int)<((kG b0 x).length:Int) by omega,aC,aj];rw[nu (show List.length _<_ by omega),aa];by_cases he:kG b0 x=y::s
    ·simp only[he,cq,aj];exact .some rfl
    ·have:(kG b0 x==y::s)=false:=by simpa using he
     simp only[he,this,ay];exact .some rfl
  ·simp only[hn,aL,ah,ay,yE hn];by_cases hxy:y=x
   ·subst hxy;simp only[dI,ah,ay,aj];obtain⟨us,ul,rfl,hus⟩:=GU (show Wf a (vH a y) r by simpa using hr);obtain⟨vs,vl,rfl,hvs⟩:=GU (show Wf a (vH a y) s by simpa using hsw);rw[xM hp ul hus,aa,xM ht vl hvs,aa,H9 gu hus hvs];have h3:=F4 ha y;refine iu.loop (fun q:Bd×Int=>∃j:Nat,q.2=j/\j<=us.length/\q.1.length=24/\(∀u∈q.1,u.length<=60)/\H8 a us vs b0=H8 a (us.drop j) (vs.drop j) q.1) (fun q:Bd×Int=>us.length-q.2.toNat)
     ⟨0,rfl,gu,hb,hbs,by simp⟩ ?_
    rintro⟨b,_⟩ ⟨j,rfl,h4,h5,h6,h7⟩;simp only at h5 h6 h7;simp only[s_,DZ];by_cases hj:j<us.length
    ·have hjv:j<vs.length:=by omega
     have hpu:=yO (i:=1+(us.take j).flatten.length) hp (OG hj) (hus _ (bu hj));have hpv:=yO (i:=1+(vs.take j).flatten.length) ht (OG hjv) (hvs _ (bu hjv));rw[show((1+(us.take j).flatten.length:Nat):Int)=1+((us.take j).flatten.length:Int) by omega]at hpu;rw[show((1+(vs.take j).flatten.length:Nat):Int)=1+((vs.take j).flatten.length:Int) by omega]at hpv;simp only[show(j:Int)<(us.length:Int) by omega,show(j:Int)<(vs.length:Int) by omega,aC,aj,show(0:Int)<=j by omega,aW,az,DY us 1 j hj,DY vs 1 j hjv,hpu,hpv,aa];have htu:=Ed hp hus (bu hj);have htv:=Ed ht hvs (bu hjv);have hul:=K1 (bu hj);simp only[aK]at p2;rw[aV hj,aV hjv,H8]at h7;refine iu.bind ((wD fu htu htv h5 h6).weak (fun h=>by simp only[aK]at h;omega)) ?_;rintro⟨b',ok⟩ h8;cases hm:uL a us[j] vs[j] b with
     |none=>
      rw[hm]at h7 h8;simp only[z_]at h8;subst h8;simp only[ah,ay,aX];refine .some ?_;simp only[wj,h7,fq,z_]
     |some b1=>
      rw[hm]at h7 h8;simp only[z_,cI]at h8;obtain⟨rfl,rfl⟩:=h8;obtain⟨h9,h10⟩:=tP hm h6 (gH.1 htv).2.2.1 h5;simp only[aj,kI (n:=(j:Int)+1) gu gu];refine .some ⟨⟨j+1,by simp,hj,h9,h10,?_⟩,by simp only;omega⟩;rw[h7,aa]
    ·obtain rfl:j=us.length:=by omega
     simp only[ct,aL,ah,ay,aX];refine .some ?_;simp only[wj];rw[h7,eN];simp only[H8,z_]
   ·have:(x != y)=true:=by simpa using fun e=>hxy e.symm
    simp only[this,aj,hxy,ay];exact .some rfl
theorem ym{a p t:fI}{b0:Bd}(hp:gE a p=true)(ht:gE a t=true)(hb:b0.length=24)(hbs:∀u∈b0,u.length<=60):
 iu True (je a b0 p t) fun r=>z_ (uL a p t b0) r:=iu.Yx (p.length+1) fun n=>wD n hp ht hb hbs
abbrev S7(a:fI)(τ:Int->fI):Prop:=∀x, -24<=x->x<0->Wf a 1 (τ x)
theorem Vx{a t:fI}{τ:Int->fI}{k:Nat}(hτ:S7 a τ)(h:Wf a k t):Wf a k (sub τ t):=
 h.sub fun x hx h0=>hτ x (h.all x hx).1 h0
theorem Gu{a l r t t' P Q:fI}{i:Nat}(h:Mv a l r t t' i):Mv a l r (P++(t++Q)) (P++(t'++Q)) (P.length+i):=by
 obtain⟨p,s,σ,rfl,rfl,rfl,h4⟩:=h;exact⟨P++p,s++Q,σ,by simp,by simp,by simp,h4⟩
theorem qu{s:Sys}(hs:lD s=true){j:Nat}(hj:j<s.2.length):Wf s.1 1 (s.2.getD j default).1/\Wf s.1 1 (s.2.getD j default).2/\∀n∈(s.2.getD j default).2,n<0->n∈(s.2.getD j default).1:=by
 obtain⟨_,_,hr⟩:=qU.1 hs;obtain⟨h1,h2,_,h4⟩:=AF.1 (hr _ (iQ hj));exact⟨(gH.1 h1).2.2.2,(gH.1 h2).2.2.2,h4⟩
theorem pe{a t:fI}(ha:kN a=true)(hw:Wf a 1 t)(hl:t.length<=60):gE a t=true:=gH.2 ⟨ha,hw.len,hl,hw⟩
abbrev xe:=fI×List n_
def rX(P Q:fI)(x:n_):n_:=((P.length:Int)+x.1,x.2.1,P++(x.2.2++Q))
structure Q4(a:fI)(s:Bd):Prop where
 len:s.length<=24
 to:∀u∈s,u.length<=60
 wf:S7 a (Tm.sig s)
theorem Q4.get{a:fI}{s:Bd}(h:Q4 a s)(i:Nat):(s.getD i []).length<=60:=by
 by_cases hi:i<s.length
 ·rw[aB,aA hi];exact h.to _ (bu hi)
 ·rw[uz gu];decide
theorem zl{a:fI}{s:Bd}{t:fI}(h:Q4 a s)(ht:gE a t=true):m_ s t=some (jt (oo (Tm.sig s) t))/\ku s t=some (jt (oo (Tm.sig s) t)):=by
 obtain⟨_,_,hl,hw⟩:=gH.1 ht;exact⟨ze h.len h.get hl fun x hx=>(hw.all x hx).1,ta h.len h.to hl fun x hx=>(hw.all x hx).1⟩
theorem PM{a t:fI}(ht:gE a t=true){i:Int}(h0:0<=i)(h1:i<t.length):∃p u q,t=p++(u++q)/\(p.length:Int)=i/\Wf a 1 u/\iz a t i.toNat=u/\mP a t i=some u/\kR a t i=some u:=by
 obtain⟨ha,_,hl,hw⟩:=gH.1 ht;obtain⟨p,u,q,e,hp,hu⟩:=hw.place (i:=i.toNat) gu;have hi:i=((i.toNat:Nat):Int):=by omega
 have hd:t.drop i.toNat=u++q:=by rw[e,<-hp,bI]
 refine⟨p,u,q,e,gu,hu,?_,?_,?_⟩
 ·rw[<-hp,e];exact A0 hu
 ·rw[hi];exact qI ha (show t.length<_ by omega) (fun x hx=>(hw.all x hx).1) hd hu
 ·rw[hi];exact oZ ha (show t.length<_ by omega) hd hu
def wF(o:Option xe):xe×Bool:=match o with|some w=>(w,true)|none=>(([],[]),false)
theorem RM{c d:Prop}[Decidable c][Decidable d]{w:xe}(hc:c):wF (if c/\d then some w else none)=wF (if d then some w else none):=by
 by_cases hd:d<;>simp[hc,hd]
def Gm(P Q:fI)(w:xe):Option xe:=if(P++(w.1++Q)).length<=60/\∀x∈w.2,(P++(x.2.2++Q)).length<=60 then some (P++(w.1++Q),w.2.map (rX P Q))else none
theorem HS{w:xe}{P Q z:fI}{f:Int×List n_->Option ((Int×List n_)⊕(xe×Bool))}
 (h:∀(i:Nat)(out:List n_)(x:n_),i<w.2.length->x∈w.2->w.2.getD i default=x->out.length=i->
  f ((i:Int),out)=some (if(P++(x.2.2++Q)).length<=60 then .inl ((i:Int)+1,out++[rX P Q x])else .inr (([],[]),false)))
 (he:∀out,f ((w.2.length:Int),out)=some (.inr ((z,out),true))):
 gI f (0,[])=some (wF (if ∀x∈w.2,(P++(x.2.2++Q)).length<=60 then some (z,w.2.map (rX P Q))else none)):=by
 have key:∀(ms:List n_)(i:Nat)(out:List n_),w.2.drop i=ms->i+ms.length=w.2.length->out.length=i->
  gI f ((i:Int),out)=some (wF (if ∀x∈ms,(P++(x.2.2++Q)).length<=60 then some (z,out++ms.map (rX P Q))else none)):=by
  intro ms;induction ms with
  |nil=>
   intro i out hd hl ho;obtain rfl:i=w.2.length:=by simpa using hl
   exact hU (by rw[he];simp[wF])
  |cons x ms ih=>
   intro i out hd hl ho;simp only[aK]at hl;obtain⟨g1,g2,g3⟩:=drop_cons hd;have hs:=h i out x g1 (by rw[<-g2];exact iQ g1) g2 ho;by_cases hx:(P++(x.2.2++Q)).length<=60
   ·rw[aE hx]at hs;rw[jN hs,show((i:Int)+1)=((i+1:Nat):Int) by omega,ih (i+1) _ g3 gu (by simp[ho])];simp only[bt,forall_eq_or_imp,hx,cx,aT,aI,dD]
   ·rw[aJ hx]at hs;exact hU (by rw[hs];simp only[bt,forall_eq_or_imp,hx,false_and,ay];rfl)
 have:=key w.2 0 [] (by simp) (by simp) rfl;simpa using this
theorem Lm{a p u q v:fI}(hu:Wf a 1 u):zD a (p++(u++q)) p.length v=if(p++(v++q)).length<=60 then some (p++(v++q))else none:=by unfold zD;rw[Bu hu]
def ins(n:Int):fI->fI
 |[]=>[n]
 |x::r=>if x<n then x::ins n r else if x=n then x::r else n::x::r
theorem Gn{n m:Int}:∀{l:fI},m∈ins n l<->m=n\/m∈l
 |[]=>by simp[ins]
 |x::r=>by
  unfold ins;split
  ·simp only[bt,Gn (l:=r)];constructor
   ·rintro(h|h|h)<;>simp[h]
   ·rintro(h|h|h)<;>simp[h]
  ·split
   ·rename_i h;subst h;simp
   ·simp
theorem K6{n:Int}:∀{l:fI},(ins n l).length<=l.length+1
 |[]=>by simp[ins]
 |x::r=>by
  unfold ins;have:=K6 (n:=n) (l:=r);split
  ·simp;omega
  ·split
   ·simp
   ·simp
theorem BH{l:fI}{n:Int}(hl:l.length<=100000):sH l n=some (ins n l):=by
 have key:∀(r:fI)(i:Nat),l.drop i=r->i+r.length=l.length->gI (ny l n) (i:Int)=some (l.take i++ins n r):=by
  intro r;induction r with
  |nil=>
   intro i hd hi;obtain rfl:i=l.length:=by simpa using hi
   refine hU ?_;have e1:iX (List.take l.length l)=some l:=by rw[cK];exact jG (show l.length<_ by omega)
   simp only[ny,ct,aL,ah,ay,az,e1,aa,eN,show(0:Int)<=l.length by omega,dg,aW,aj,au,dF,bB];rw[aE gu,aE gu];simp[ins]
  |cons x r ih=>
   intro i hd hi;obtain⟨g1,g2,g3⟩:=drop_cons hd;simp only[aK]at hi;by_cases h1:x<n
   ·have hf:ny l n (i:Int)=some (.inl ((i:Int)+1)):=by simp only[ny,show(i:Int)<l.length by omega,show(0:Int)<=i by omega,aW,aC,aj,az,g2,h1,kI (n:=(i:Int)+1) gu gu]
    rw[jN hf,show((i:Int)+1)=((i+1:Nat):Int) by omega,ih (i+1) g3 gu,mX g1,g2];simp[ins,h1]
   ·refine hU ?_;have e1:iX (List.take i l)=some (List.take i l):=jG (show(List.take i l).length<_ by rw[aU];omega);simp only[ny,show(i:Int)<l.length by omega,show(0:Int)<=i by omega,aW,aC,aj,az,g2,h1,aL,ah,ay,e1,aa,show(i:Int)<=l.length by omega];by_cases h2:x=n
    ·have e2:(x==n)=true:=by simpa using h2
     have hin:ins n (x::r)=x::r:=by unfold ins;rw[aJ h1,aE h2]
     rw[aE e2,hin,<-hd,bQ];rfl
    ·have e2:(x==n)=false:=by simpa using h2
     have hin:ins n (x::r)=n::x::r:=by unfold ins;rw[aJ h1,aJ h2]
     have hlt:(List.take i l).length<=i:=by rw[aU];omega
     rw[aJ (by rw[e2];decide),hin,hd,aE gu,aE (by simp only[au,aK,bB];omega)];simp
 have:=key l 0 (by simp) (by simp);unfold sH;simpa using this
def jH(v:fI)(t:fI):fI:=t.foldl (fun v x=>if x<0 then ins (-1-x) v else v) v
theorem sk{m:Int}:∀{t v:fI},m∈jH v t<->m∈v\/∃x∈t,x<0/\m= -1-x
 |[],v=>by simp[jH]
 |x::t,v=>by
  have:=sk (m:=m) (t:=t) (v:=if x<0 then ins (-1-x) v else v);unfold jH at this⊢;rw[cE,this];by_cases hx:x<0
  ·simp only[hx,aj,Gn,bt,exists_eq_or_imp,cx];constructor
   ·rintro((h|h)|h)<;>simp[h]
   ·rintro(h|h|h)<;>simp[h]
  ·simp[hx]
theorem pg:∀{t v:fI},(jH v t).length<=v.length+t.length
 |[],v=>by simp[jH]
 |x::t,v=>by
  have:=pg (t:=t) (v:=if x<0 then ins (-1-x) v else v);unfold jH at this⊢;rw[cE,aK];have h2:=K6 (n:= -1-x) (l:=v);split at this<;>split<;>omega
theorem l_{v t:fI}(hv:v.length<=10000)(ht:t.length<=60)(hx:∀x∈t, -24<=x):kF v t=some (jH v t):=by
 unfold kF;have:=pJ (n:=t.length) (fun i=>(jH v (t.take i),(i:Int))) (c:=jH v t) (f:=pI t) (fun i hi=>by
  have hl:=pg (t:=t.take i) (v:=v);have h2:(t.take i).length<=60:=by rw[aU];omega
  have hm:=hx _ (iQ hi);simp only[pI,show(i:Int)<t.length by omega,show(0:Int)<=i by omega,aW,aC,aj,az,kI (n:=(i:Int)+1) gu gu];have e:jH v (t.take (i+1))=if t.getD i default<0 then ins (-1-t.getD i default) (jH v (t.take i))else jH v (t.take i):=by rw[mX hi];unfold jH;rw[dK];rfl
  rw[e];by_cases h0:t.getD i default<0
  ·simp only[h0,aC,aj,kI (n:= -1-t.getD i default) gu gu,BH (l:=jH v (t.take i)) (n:= -1-t.getD i default) gu,aa];simp
  ·simp only[h0,aL,ah,ay];simp) (by simp[pI])
 simpa[jH]using this
theorem vY{v t:fI}(hv:Small v)(ht:t.length<=60)(hx:∀x∈t, -24<=x):nA t v=some (t.all fun x=>decide (x<0-> -1-x∈v)):=by
 unfold nA;refine uA (xs:=t) (fun i x hi hi' hm hg=>?_) (by simp[qa]);have:=hx x hm;simp only[qa,hi',aC,aj,show(0:Int)<=i by omega,aW,az,hg,kI (n:=(i:Int)+1) gu gu];by_cases h0:x<0
 ·simp only[h0,aC,aj,kI (n:= -1-x) gu gu,qK hv,aa,true_implies];by_cases h: -1-x∈v<;>simp[h]
 ·simp[h0]
abbrev ye:=fI×fI×List fJ
abbrev mY:=fI×List ye
def xK(b t:fI):Bool:=t.all fun x=>decide (x<0->x∈b)
def xS(a:fI)(c:fI×fI):Bool:=gE a c.1&&gE a c.2
def rF(a:fI):fI->List fJ->fI->Bool
 |b,[],r=>xK b r
 |b,c::cs,r=>xS a c&&(xK b c.1&&rF a (b++c.2) cs r)
def qZ(a:fI)(r:ye):Bool:=gE a r.1&&(gE a r.2.1&&(decide (0<=r.1.headD 0)&&(decide (r.2.2.length<=2)&&rF a r.1 r.2.2 r.2.1)))
def mV(cs:mY):Bool:=kN cs.1&&(decide (cs.2.length<=12)&&cs.2.all (qZ cs.1))
theorem FW{v b t:fI}(h:∀x:Int,x<0->(-1-x∈v<->x∈b)):(t.all fun x=>decide (x<0-> -1-x∈v))=xK b t:=by
 unfold xK;congr 1;funext x;by_cases hx:x<0
 ·simp[hx,h x hx]
 ·simp[hx]
theorem IS{v b t:fI}(h:∀x:Int,x<0->(-1-x∈v<->x∈b)):∀x:Int,x<0->(-1-x∈jH v t<->x∈b++t):=fun x hx=>by
 rw[sk,h x hx,aG];constructor
 ·rintro(h|⟨y,h1,h2,h3⟩)
  ·exact .inl h
  ·obtain rfl:x=y:=by omega
   exact .inr h1
 ·rintro(h|h)
  ·exact .inl h
  ·exact .inr ⟨x,h,hx,rfl⟩
theorem CM(a:fI)(c:fI×fI):tw a c=some (xS a c):=by
 unfold tw xS;rw[kE,aa];cases gE a c.1 with
 |false=>simp
 |true=>simp[kE]
theorem AQ(a:fI)(r:ye):rq a r=some (qZ a r):=by
 unfold rq qZ;rw[kE,aa];cases h1:gE a r.1 with
 |false=>simp
 |true=>
  simp only[aj,kE,aa,bz];cases h2:gE a r.2.1 with
  |false=>simp
  |true=>
   obtain⟨_,l1,l2,l3⟩:=gH.1 h1;obtain⟨_,r1,r2,r3⟩:=gH.1 h2;have e3:(0:Int)<r.1.length:=by omega
   simp only[aj,dg,aO,e3,aW,bz,eX,cx];rw[yD gu];by_cases h0:r.1.headD 0<0
   ·simp[-List.headD_eq_head?_getD,h0,show ¬0<=r.1.headD 0 by omega]
   ·simp only[h0,aL,ah,ay,show 0<=r.1.headD 0 by omega,aC,bz];by_cases hc:r.2.2.length<=2
    ·rw[aJ (by simp only[aQ];omega)];simp only[hc,aC,bz];rw[l_ (by simp) l2 fun x hx=>(l3.all x hx).1,aa];have key:∀(ms:List fJ)(i:Nat)(v b:fI),r.2.2.drop i=ms->i+ms.length=r.2.2.length->v.length<=60+60*i->(∀x:Int,x<0->(-1-x∈v<->x∈b))->
      gI (nS a r) (v,(i:Int))=some (rF a b ms r.2.1):=by
      intro ms;induction ms with
      |nil=>
       intro i v b hd hi hv hb;obtain rfl:i=r.2.2.length:=by simpa using hi
       refine hU ?_;simp only[nS,ct,aL,ah,ay,vY (show v.length<_ by omega) r2 fun x hx=>(r3.all x hx).1,aa,FW hb,rF];rfl
      |cons c ms ih=>
       intro i v b hd hi hv hb;obtain⟨g1,g2,g3⟩:=drop_cons hd;simp only[aK]at hi;have hf:nS a r (v,(i:Int))=(tw a c).bind fun r_4=>if r_4=true then(nA c.1 v).bind fun r_5=>if r_5=true then(kF v c.2).bind fun r_6=>some (.inl (r_6,(i:Int)+1))else some (.inr false)else some (.inr false):=by
        simp only[nS,show(i:Int)<r.2.2.length by omega,show(0:Int)<=i by omega,aW,aC,aj,az,g2,kI (n:=(i:Int)+1) gu gu];rfl
       rw[CM,aa]at hf;rw[rF];cases he:xS a c with
       |false=>
        rw[he]at hf;exact hU (by rw[hf];rfl)
       |true=>
        rw[he,aE rfl]at hf;simp only[xS,bq]at he;obtain⟨_,_,c2,c3⟩:=gH.1 he.1;obtain⟨_,_,d2,d3⟩:=gH.1 he.2;rw[vY (show v.length<_ by omega) c2 (fun x hx=>(c3.all x hx).1),aa,FW hb]at hf;cases hw:xK b c.1 with
        |false=>
         rw[hw]at hf;exact hU (by rw[hf];rfl)
        |true=>
         rw[hw,aE rfl,l_ gu d2 (fun x hx=>(d3.all x hx).1),aa]at hf;rw[jN hf,show((i:Int)+1)=((i+1:Nat):Int) by omega];have hl:=pg (t:=c.2) (v:=v);rw[ih (i+1) (jH v c.2) (b++c.2) g3 gu gu (IS hb)];simp
     have hl:=pg (t:=r.1) (v:=[]);have:=key r.2.2 0 (jH [] r.1) r.1 (by simp) (by simp) (by simp at hl;omega) (by
      have:=IS (v:=[]) (b:=[]) (t:=r.1) (by simp);simpa using this)
     simpa using this
    ·rw[aE (by simp only[aQ];omega)];simp[hc]
theorem pZ(cs:mY):kW cs=some (mV cs):=by
 unfold kW mV;rw[sR,aa];cases kN cs.1 with
 |false=>simp
 |true=>
  by_cases hl:cs.2.length<=12
  ·rw[aE rfl,aJ (by simp;omega)];simp only[bz,hl,aC];refine uA (xs:=cs.2) (fun i x hi hi' hm hg=>?_) (by simp[p_]);simp only[p_,hi',aC,aj,show(0:Int)<=i by omega,aW,az,hg,kI (n:=(i:Int)+1) gu gu];rw[AQ,aa];cases qZ cs.1 x<;>simp
  ·rw[aE rfl,aE (by simp;omega)];simp[hl]
def Le{α:Type}(x y:Option α):Prop:=∀a,x=some a->y=some a
theorem Le.refl{α:Type}(x:Option α):Le x x:=fun _ h=>h
theorem Le.none{α:Type}(y:Option α):Le (none:Option α) y:=fun _ h=>by cases h
theorem Le.bind{α β:Type}{x y:Option α}{f g:α->Option β}(h:Le x y)(hf:∀a,Le (f a) (g a)):Le (x.bind f) (y.bind g):=fun b hb=>by
 obtain⟨a,h1,h2⟩:=ai.1 hb;rw[h a h1];exact hf a b h2
theorem Le.ite{α:Type}{c:Prop}[Decidable c]{x y x' y':Option α}(h:c->Le x y)(h':¬c->Le x' y'):Le (if c then x else x') (if c then y else y'):=by
 by_cases hc:c
 ·rw[aE hc,aE hc];exact h hc
 ·rw[aJ hc,aJ hc];exact h' hc
theorem Le.loop{σ β:Type}{f g:σ->Option (σ⊕β)}(h:∀s,Le (f s) (g s))(s:σ):Le (gI f s) (gI g s):=fun b hb=>by
 obtain⟨n,hn⟩:=tf hb;have key:∀n s,xd f n s b->gI g s=some b:=by
  intro n;induction n with
  |zero=>intro s hr;cases hr
  |succ n ih=>
   intro s hr;rcases hr with hr|⟨s',h1,h2⟩
   ·exact hU (h s _ hr)
   ·rw[jN (h s _ h1)];exact ih s' h2
 exact key n s hn
theorem Le.fuel{α:Type}{f:Nat->Option α}(h:∀n,Le (f n) (f (n+1))):∀{m n:Nat},m<=n->Le (f m) (f n):=fun{m n} hmn=>by
 induction hmn with
 |refl=>exact Le.refl _
 |step _ ih=>exact fun a ha=>h _ a (ih a ha)
theorem CZ{α:Type}{f:Nat->Option α}(h:∀n,Le (f n) (f (n+1))){n:Nat}{a:α}(hn:f n=some a):AA f=some a:=
 R9 n hn fun m b hb=>by
  rcases Nat.le_total m n with hmn|hmn
  ·have:=Le.fuel h hmn b hb;rw[hn]at this;cases this;rfl
  ·have:=Le.fuel h hmn a hn;rw[hb]at this;cases this;rfl
abbrev I3:=mY->fI->Int->Int->Int->Option fN
abbrev LeS(f g:I3):Prop:=∀cs t i r d,Le (f cs t i r d) (g cs t i r d)
section
variable{f g:I3}(h:LeS f g)
include h
theorem GD(cs:mY)(t:fI)(d:Int):Le (kK f cs t d) (kK g cs t d):=by
 unfold kK;refine Le.loop (fun s=>?_) _;obtain⟨out,i⟩:=s;unfold mD;refine Le.ite (fun _=>Le.loop (fun s=>?_) _) fun _=>Le.refl _
 obtain⟨k,r⟩:=s;unfold jZ;exact Le.ite (fun _=>Le.ite (fun _=>Le.bind (h _ _ _ _ _) fun _=>Le.refl _) fun _=>Le.refl _) fun _=>Le.refl _
theorem MP(cs:mY)(t:fI)(d:Int):Le (mm f cs t d) (mm g cs t d):=by
 unfold mm;exact Le.bind (GD h cs t d) fun _=>Le.refl _
theorem Ib(cs:mY)(t:fI)(d:Int):Le (jU f cs t d) (jU g cs t d):=by
 unfold jU;refine Le.bind (Le.refl _) fun _=>Le.loop (fun s=>?_) _
 obtain⟨now,k⟩:=s;unfold kY;exact Le.bind (MP h cs now d) fun _=>Le.ite (fun _=>Le.ite (fun _=>Le.refl _) fun _=>Le.bind (h _ _ _ _ _) fun _=>Le.refl _) fun _=>Le.refl _
theorem JH(cs:mY)(u:fI)(r:ye)(d:Int):Le (mq f cs u r d) (mq g cs u r d):=by
 unfold mq;refine Le.bind (Le.refl _) fun _=>Le.loop (fun s=>?_) _
 obtain⟨b,ok,i⟩:=s;unfold jI;exact Le.ite (fun _=>Le.ite (fun _=>Le.ite (fun _=>Le.refl _) fun _=>Le.ite (fun _=>Le.bind (Le.refl _) fun _=>Le.ite (fun _=>Le.bind (Ib h _ _ _) fun _=>Le.refl _) fun _=>Le.refl _) fun _=>Le.refl _) fun _=>Le.refl _) fun _=>Le.refl _
end
theorem FK:∀(n:Nat),LeS (jz n) (jz (n+1))
 |0=>fun cs t i r d=>by rw[jz];exact Le.none _
 |n+1=>fun cs t i r d=>by
  rw[jz,jz];exact Le.bind (Le.refl _) fun _=>Le.ite (fun _=>Le.bind (JH (FK n) _ _ _ _) fun _=>Le.refl _) fun _=>Le.refl _
def pP(a:fI)(nf:fI->Option fI):List fJ->Bd->Option Bd
 |[],b=>some b
 |c::cs,b=>(oo (Tm.sig b) c.1).bind fun x=>(nf x).bind fun y=>(uL a c.2 y b).bind (pP a nf cs)
def yC(a:fI)(nf:Option (fI->Option fI))(r:ye)(u:fI):Option Bd:=
 (uL a r.1 u k_).bind fun b=>if r.2.2=[]then some b else match nf with|none=>none|some f=>pP a f r.2.2 b
def G3(cs:mY)(nf:Option (fI->Option fI))(t:fI)(i k:Nat):Option fI:=
 (yC cs.1 nf (cs.2.getD k default) (iz cs.1 t i)).bind fun b=>(oo (Tm.sig b) (cs.2.getD k default).2.1).bind fun v=>zD cs.1 t i v
abbrev oS:=fI->Nat->Nat->Option fI
def oP(st:oS)(n:Nat)(t:fI)(i:Nat):Option Nat:=(List.range n).find? fun k=>(st t i k).isSome
def vP(cs:mY)(st:oS)(t:fI)(i:Nat):Bool:=
 (oP st cs.2.length t i).isSome&&(List.range t.length).all fun p=>decide (i<p/\(p:Int)<uR cs.1 t i->oP st cs.2.length t p=none)
def nG(cs:mY)(st:oS)(t:fI):Option fR:=((List.range t.length).find? (vP cs st t)).bind fun i=>(oP st cs.2.length t i).map fun k=>(i,k)
def rH(cs:mY)(st:oS):Nat->fI->Option fI
 |0,t=>match nG cs st t with|none=>some t|some _=>none
 |n+1,t=>match nG cs st t with|none=>some t|some p=>(st t p.1 p.2).bind (rH cs st n)
def CR(cs:mY):Nat->oS
 |0=>G3 cs none
 |d+1=>G3 cs (some (rH cs (CR cs d) 8))
def Bh(st:oS)(n:Nat)(t:fI)(i:Nat):Int:=match oP st n t i with|some k=>(k:Int)|none=> -1
theorem Gp{st:oS}{n:Nat}{t:fI}{i:Nat}:Bh st n t i<0<->oP st n t i=none:=by
 unfold Bh;cases oP st n t i with
 |none=>simp
 |some k=>simp
theorem AD{st:oS}{n:Nat}{t:fI}{i:Nat}:oP st n t i=none<->∀k<n,st t i k=none:=by
 unfold oP;rw[eH];simp[bY]
theorem AE{st:oS}{n:Nat}{t:fI}{i k:Nat}:oP st n t i=some k<->(k<n/\(st t i k).isSome=true)/\∀j<k,st t i j=none:=by
 unfold oP;rw[cT];simp only[bY,eJ,Option.isSome_eq_false_iff,Option.isNone_iff_eq_none];constructor
 ·rintro⟨h1,h2,h3⟩;exact⟨⟨h2,h1⟩,h3⟩
 ·rintro⟨⟨h2,h1⟩,h3⟩;exact⟨h1,h2,h3⟩
section
variable{cs:mY}{t:fI}{d:Int}{st:oS}{rec:I3}
theorem Kh(hn:cs.2.length<=12){i:Nat}(hi:i<60)(h:∀k:Nat,k<cs.2.length->rec cs t i k d=some (jt (st t i k))){out:fI}(ho:out.length<=60):
 gI (jZ rec cs t d out i) (-1,0)=some (.inl (out++[Bh st cs.2.length t i],(i:Int)+1)):=by
 have hlen:(out.length+1)*8<=140737488355328:=by omega
 have key:∀m j:Nat,j+m=cs.2.length->(∀k<j,st t i k=none)->gI (jZ rec cs t d out i) (-1,(j:Int))=some (.inl (out++[Bh st cs.2.length t i],(i:Int)+1)):=by
  intro m;induction m with
  |zero=>
   intro j hj hno;obtain rfl:j=cs.2.length:=by omega
   have e:Bh st cs.2.length t i= -1:=by unfold Bh;rw[AD.2 hno]
   refine hU ?_;simp only[jZ,ct,aL,ah,ay,hlen,aj,e,kI (n:=(i:Int)+1) gu gu];rfl
  |succ m ih=>
   intro j hj hno;have hf:jZ rec cs t d out i (-1,(j:Int))=some (.inl (if(st t i j).isSome=true then((j:Int),(j:Int)+1)else(-1,(j:Int)+1))):=by
    simp only[jZ,show(j:Int)<cs.2.length by omega,show((-1:Int)<0) by decide,aC,aj,h j gu,aa,kI (n:=(j:Int)+1) gu gu];cases st t i j<;>simp[jt]
   cases hs:st t i j with
   |none=>
    rw[hs]at hf;rw[jN hf];simp only[bR,ah,ay];rw[show((j:Int)+1)=((j+1:Nat):Int) by omega];refine ih (j+1) gu fun k hk=>?_
    by_cases hkj:k=j
    ·rw[hkj];exact hs
    ·exact hno k gu
   |some u=>
    rw[hs]at hf;rw[jN hf];simp only[fe,aj];have e:Bh st cs.2.length t i=j:=by unfold Bh;rw[AE.2 ⟨⟨gu,by rw[hs];rfl⟩,hno⟩]
    refine hU ?_;simp only[jZ,show ¬(j:Int)<0 by omega,aL,ah,ay,hlen,aj,e,kI (n:=(i:Int)+1) gu gu,ite_self];rfl
 exact key cs.2.length 0 gu fun k hk=>by omega
theorem Ki(hn:cs.2.length<=12)(ht:t.length<=60)(h:∀i k:Nat,i<t.length->k<cs.2.length->rec cs t i k d=some (jt (st t i k))):
 kK rec cs t d=some ((List.range t.length).map (Bh st cs.2.length t)):=by
 unfold kK;have:=pJ (n:=t.length) (fun i=>((List.range i).map (Bh st cs.2.length t),(i:Int))) (c:=(List.range t.length).map (Bh st cs.2.length t)) (f:=mD rec cs t d) (fun i hi=>by
  simp only[mD,show(i:Int)<t.length by omega,aC,aj];rw[Kh hn gu (fun k hk=>h i k hi hk) (by simp;omega),eu,aP];simp) (by simp[mD])
 simpa using this
end
def CP(o:Option fR):Int×Int×Bool:=match o with|some p=>((p.1:Int),(p.2:Int),true)|none=>(0,0,false)
theorem wG{a t:fI}(ht:gE a t=true){i:Nat}(hi:i<t.length):(i:Int)<uR a t i/\uR a t i<=t.length:=by
 obtain⟨_,_,_,hw⟩:=gH.1 ht;obtain⟨p,u,s,e,hp,hu⟩:=hw.place hi;have hd:t.drop i=u++s:=by rw[e,<-hp,bI]
 have hul:=hu.len;have hl:=bW List.length e;simp only[au]at hl;rw[vA hd hu];omega
section
variable{cs:mY}{t:fI}{d:Int}{st:oS}{rec:I3}
theorem Gq{n:Nat}{i:Nat}(hi:i<t.length):((List.range t.length).map (Bh st n t)).getD i default=Bh st n t i:=by rw[iM (by simpa using hi)];simp
theorem Kf(ht:gE cs.1 t=true){i:Nat}(hi:i<t.length):
 gI (nW cs t ((List.range t.length).map (Bh st cs.2.length t)) i) (true,(i:Int)+1)=
  some (if((List.range t.length).all fun p=>decide (i<p/\(p:Int)<uR cs.1 t i->oP st cs.2.length t p=none))=true then .inr ((i:Int),Bh st cs.2.length t i,true)else .inl ((i:Int)+1)):=by
 obtain⟨ha,_,hl,hw⟩:=gH.1 ht;obtain⟨e1,e2⟩:=wG ht hi;obtain⟨e,he⟩:∃e:Nat,uR cs.1 t i=e:=⟨(uR cs.1 t i).toNat,gu⟩;rw[he]at e1 e2;have hend:lU cs.1 t i=some (e:Int):=by rw[qJ ha (show t.length<_ by omega) gu,he]
 have:=pJ (n:=e-(i+1)) (fun j=>(decide (∀q<i+1+j,i<q->oP st cs.2.length t q=none),(((i+1+j:Nat)):Int))) (c:=if((List.range t.length).all fun p=>decide (i<p/\(p:Int)<uR cs.1 t i->oP st cs.2.length t p=none))=true then Sum.inr ((i:Int),Bh st cs.2.length t i,true)else Sum.inl ((i:Int)+1))
  (f:=nW cs t ((List.range t.length).map (Bh st cs.2.length t)) i) (fun j hj=>by
   have hp:i+1+j<t.length:=gu;simp only[nW,hend,aa,show((i+1+j:Nat):Int)<(e:Int) by omega,aC,aj,show(0:Int)<=((i+1+j:Nat):Int) by omega,aS,dJ,show((i+1+j:Nat):Int)<t.length by omega,aW,az,Gq hp,
    kI (n:=((i+1+j:Nat):Int)+1) gu gu]
   by_cases hc:∀q<i+1+j,i<q->oP st cs.2.length t q=none
   ·simp only[Gp];rw[cB hc,aE rfl];refine bW (fun x=>some (Sum.inl x)) ?_;refine fk ?_ ?_
    ·show decide _=decide _;congr 1;refine propext ⟨fun h q hq hiq=>?_,fun h=>h _ gu gu⟩;by_cases hqe:q=i+1+j
     ·rw[hqe];exact h
     ·exact hc q gu hiq
    ·show((i+1+j:Nat):Int)+1=((i+1+(j+1):Nat):Int);omega
   ·have hc':¬∀q<i+1+(j+1),i<q->oP st cs.2.length t q=none:=fun h=>hc fun q hq=>h q gu
    rw[cJ hc,aJ (by decide),cJ hc'];refine bW (fun x=>some (Sum.inl x)) ?_;refine fk rfl ?_;show((i+1+j:Nat):Int)+1=((i+1+(j+1):Nat):Int);omega) (by
   have hs:i+1+(e-(i+1))=e:=by omega
   simp only[nW,hend,aa,hs,ct,aL,ah,ay,aS,dJ,show(0:Int)<=i by omega,show(i:Int)<t.length by omega,aW,aj,az,Gq hi,kI (n:=(i:Int)+1) gu gu,he];have hiff:(∀q<e,i<q->oP st cs.2.length t q=none)<->((List.range t.length).all fun p=>decide (i<p/\(p:Int)<(e:Int)->oP st cs.2.length t p=none))=true:=by
    simp only[cc,bY,aQ];constructor
    ·rintro h q _ ⟨h1,h2⟩;exact h q gu h1
    ·intro h q hq h1;exact h q gu ⟨h1,gu⟩
   by_cases hc:∀q<e,i<q->oP st cs.2.length t q=none
   ·rw[cB hc,aE rfl,aE (hiff.1 hc)];rfl
   ·rw[cJ hc,aJ (by decide),aJ fun h=>hc (hiff.2 h)];rfl)
 have h0:decide (∀q<i+1+0,i<q->oP st cs.2.length t q=none)=true:=cB fun q hq h=>by omega
 rw[h0]at this;simpa using this
theorem C3(hn:cs.2.length<=12)(ht:gE cs.1 t=true)(h:∀i k:Nat,i<t.length->k<cs.2.length->rec cs t i k d=some (jt (st t i k))):
 mm rec cs t d=some (CP (nG cs st t)):=by
 obtain⟨ha,_,hl,hw⟩:=gH.1 ht;unfold mm;rw[Ki hn hl h,aa];have key:∀m i:Nat,i+m=t.length->(∀j<i,vP cs st t j=false)->gI (lq cs t ((List.range t.length).map (Bh st cs.2.length t))) (i:Int)=some (CP (nG cs st t)):=by
  intro m;induction m with
  |zero=>
   intro i hi hno;obtain rfl:i=t.length:=by omega
   have e:nG cs st t=none:=by
    unfold nG;rw[eH.2 (fun j hj=>by rw[hno j (bY.1 hj)];decide)];rfl
   exact hU (by simp[lq,e,CP])
  |succ m ih=>
   intro i hi hno;have hil:i<t.length:=by omega
   have hnext:vP cs st t i=false->gI (lq cs t ((List.range t.length).map (Bh st cs.2.length t))) ((i:Int)+1)=some (CP (nG cs st t)):=fun hf=>by
    rw[show((i:Int)+1)=((i+1:Nat):Int) by omega];refine ih (i+1) gu fun j hj=>?_
    by_cases hji:j=i
    ·rw[hji];exact hf
    ·exact hno j gu
   cases hr:oP st cs.2.length t i with
   |none=>
    have hk:Bh st cs.2.length t i<0:=Gp.2 hr;have hf:lq cs t ((List.range t.length).map (Bh st cs.2.length t)) (i:Int)=some (.inl ((i:Int)+1)):=by simp only[lq,show(i:Int)<t.length by omega,aC,aj,show(0:Int)<=i by omega,aS,dJ,aW,az,Gq hil,hk,kI (n:=(i:Int)+1) gu gu]
    rw[jN hf];exact hnext (by unfold vP;rw[hr];rfl)
   |some k=>
    have hk:¬Bh st cs.2.length t i<0:=fun h=>by rw[Gp.1 h]at hr;cases hr
    have hkk:Bh st cs.2.length t i=k:=by unfold Bh;rw[hr]
    have hf:lq cs t ((List.range t.length).map (Bh st cs.2.length t)) (i:Int)=some (if vP cs st t i=true then .inr ((i:Int),(k:Int),true)else .inl ((i:Int)+1)):=by
     simp only[lq,show(i:Int)<t.length by omega,aC,aj,show(0:Int)<=i by omega,aS,dJ,aW,az,Gq hil,hk,aL,ah,ay,kI (n:=(i:Int)+1) gu gu,Kf ht hil];unfold vP;rw[hr,hkk];simp
    cases hq:vP cs st t i with
    |false=>rw[hq]at hf;rw[jN hf];exact hnext hq
    |true=>
     rw[hq]at hf;have e:nG cs st t=some (i,k):=by
      unfold nG;have:(List.range t.length).find? (vP cs st t)=some i:=cT.2 ⟨hq,bY.2 hil,fun j hj=>by rw[hno j hj];rfl⟩;rw[this,aa,hr];rfl
     exact hU (by rw[hf,e];rfl)
 have:=key t.length 0 gu fun j hj=>by omega
 simpa using this
end
theorem qF{cs:mY}{st:oS}{t:fI}{p:Nat×Nat}(h:nG cs st t=some p):p.1<t.length/\p.2<cs.2.length/\(st t p.1 p.2).isSome=true:=by
 unfold nG at h;obtain⟨i,h1,h2⟩:=ai.1 h;obtain⟨k,h3,h4⟩:=aH.1 h2;subst h4;obtain⟨_,hm,_⟩:=cT.1 h1;obtain⟨⟨g1,g2⟩,_⟩:=AE.1 h3;exact⟨bY.1 hm,g1,g2⟩
abbrev xP(cs:mY)(st:oS):Prop:=∀t i k u,gE cs.1 t=true->i<t.length->k<cs.2.length->st t i k=some u->gE cs.1 u=true
abbrev Nz(cs:mY)(d:Int)(st:oS)(rec:I3):Prop:=∀(t:fI)(i k:Nat),gE cs.1 t=true->i<t.length->k<cs.2.length->rec cs t i k d=some (jt (st t i k))
theorem xy{cs:mY}{st:oS}(hk:xP cs st):∀{n:Nat}{t u:fI},gE cs.1 t=true->rH cs st n t=some u->gE cs.1 u=true
 |0,t,u,ht,h=>by
  rw[rH]at h;cases hp:nG cs st t with
  |none=>rw[hp]at h;cases h;exact ht
  |some p=>rw[hp]at h;cases h
 |n+1,t,u,ht,h=>by
  rw[rH]at h;cases hp:nG cs st t with
  |none=>rw[hp]at h;cases h;exact ht
  |some p=>
   rw[hp]at h;obtain⟨v,h1,h2⟩:=ai.1 h;obtain⟨p1,p2,_⟩:=qF hp;exact xy hk (hk _ _ _ _ ht p1 p2 h1) h2
theorem MJ{cs:mY}{d:Int}{st:oS}{rec:I3}(hn:cs.2.length<=12)(hk:xP cs st)(hr:Nz cs d st rec){t:fI}(ht:gE cs.1 t=true):
 jU rec cs t d=some (jt (rH cs st 8 t)):=by
 have key:∀(n:Nat)(now:fI),n<=8->gE cs.1 now=true->gI (kY rec cs d) (now,((8-n:Nat):Int))=some (jt (rH cs st n now)):=by
  intro n;induction n with
  |zero=>
   intro now _ hw;refine hU ?_;simp only[kY,C3 hn hw (fun i k hi hk=>hr now i k hw hi hk),aa,rH];cases nG cs st now with
   |none=>simp[CP,jt]
   |some p=>simp[CP,jt]
  |succ n ih=>
   intro now h8 hw;have hne:(((8-(n+1):Nat):Int)==8)=false:=cw.2 gu;cases hp:nG cs st now with
   |none=>
    refine hU ?_;simp only[kY,C3 hn hw (fun i k hi hk=>hr now i k hw hi hk),aa,rH,hp];simp[CP,jt]
   |some p=>
    obtain⟨p1,p2,p3⟩:=qF hp;obtain⟨u,hu⟩:=Option.isSome_iff_exists.1 p3;have hf:kY rec cs d (now,((8-(n+1):Nat):Int))=some (.inl (u,((8-n:Nat):Int))):=by
     simp only[kY,C3 hn hw (fun i k hi hk=>hr now i k hw hi hk),aa,hp,CP,aj,hne,ah,ay,hr now p.1 p.2 hw p1 p2,hu,jt];rw[kI gu gu,show((8-(n+1):Nat):Int)+1=((8-n:Nat):Int) by omega]
    rw[jN hf,ih u gu (hk _ _ _ _ hw p1 p2 hu),rH,hp];simp only[hu,aa]
 obtain⟨_,_,hl,_⟩:=gH.1 ht;unfold jU;rw[jG (show t.length<_ by omega),aa];exact key 8 t gu ht
theorem PO{a p u q v:fI}(hu:Wf a 1 u):zD a (p++(u++q)) p.length v=if(p++(v++q)).length<=60 then some (p++(v++q))else none:=by unfold zD;rw[Bu hu]
structure CT(a:fI)(b:Bd):Prop where
 len:b.length=24
 to:∀u∈b,u.length<=60
 wf:∀n,n<0->kG b n=[]\/Wf a 1 (kG b n)
theorem CT.sub{a:fI}{b:Bd}(h:CT a b):Q4 a b:=⟨by rw[h.len];decide,h.to,fun x h1 h2=>by
 unfold Tm.sig;rcases h.wf x h2 with hb|hb
 ·rw[aE hb];exact Wf.mE.2 ⟨⟨h1,gu⟩,by simp[vH,h2];exact Wf.nil⟩
 ·rw[aJ hb.ne];exact hb⟩
theorem xl{a:fI}:CT a k_:=⟨by simp[k_],fun u hu=>by simp[k_]at hu;rw[hu];simp,fun n _=>.inl (EN n)⟩
theorem xG{a p t:fI}{b b':Bd}(h:CT a b)(hp:gE a p=true)(ht:gE a t=true)(hm:uL a p t b=some b'):
 CT a b'/\t=Tm.sub (kG b') p/\(∀n∈p,n<0->kG b' n≠[])/\∀n,n<0->kG b n≠[]->kG b' n=kG b n:=by
 obtain⟨_,_,_,hpw⟩:=gH.1 hp;obtain⟨_,_,htl,htw⟩:=gH.1 ht;obtain⟨e1,l1,k1,w1,n1⟩:=zQ hpw htw h.len hm;obtain⟨_,s2⟩:=tP hm h.to htl h.len;refine⟨⟨l1,s2,fun n hn=>?_⟩,e1,fun n hnp hn=>?_,k1⟩
 ·by_cases hnp:n∈p
  ·rcases w1 n hnp hn with h1|⟨h1,h2⟩
   ·exact .inr h1
   ·rw[<-h1];exact h.wf n hn
  ·rw[n1 n hn hnp];exact h.wf n hn
 ·rcases w1 n hnp hn with h1|⟨h1,h2⟩
  ·exact h1.ne
  ·rw[<-h1];exact h2
abbrev F0(b:Bd)(l:fI):Prop:=∀n∈l,n<0->kG b n≠[]
theorem F0.app{b b':Bd}{l p:fI}(h:F0 b l)(h1:∀n∈p,n<0->kG b' n≠[])(h2:∀n,n<0->kG b n≠[]->kG b' n=kG b n):F0 b' (l++p):=fun n hn h0=>by
 rcases aG.1 hn with hn|hn
 ·rw[h2 n h0 (h n hn h0)];exact h n hn h0
 ·exact h1 n hn h0
theorem F0.var{b:Bd}{l t:fI}(h:F0 b l)(hv:xK l t=true):F0 b t:=fun n hn h0=>by
 simp only[xK,cc,aQ]at hv;exact h n (hv n hn h0) h0
theorem vb{a:fI}{b:Bd}{t x:fI}(h:CT a b)(ht:gE a t=true)(hx:oo (Tm.sig b) t=some x):gE a x=true:=by
 obtain⟨ha,_,_,hw⟩:=gH.1 ht;unfold oo at hx;split at hx
 ·rename_i hl;cases hx;exact pe ha (Vx h.sub.wf hw) hl
 ·cases hx
theorem EU{a:fI}{nf:fI->Option fI}(hnf:∀x y,gE a x=true->nf x=some y->gE a y=true):∀{cs:List fJ}{b b':Bd}{l r:fI},rF a l cs r=true->CT a b->F0 b l->pP a nf cs b=some b'->CT a b'/\F0 b' r
 |[],b,b',l,r,hc,hg,hk,h=>by
  cases h;exact⟨hg,hk.var hc⟩
 |c::cs,b,b',l,r,hc,hg,hk,h=>by
  rw[rF,bq,bq]at hc;obtain⟨h1,h2,h3⟩:=hc;simp only[xS,bq]at h1;rw[pP]at h;obtain⟨x,g1,h⟩:=ai.1 h;obtain⟨y,g2,h⟩:=ai.1 h;obtain⟨b2,g3,h⟩:=ai.1 h;have hx:=vb hg h1.1 g1;obtain⟨m1,_,m3,m4⟩:=xG hg h1.2 (hnf x y hx g2) g3;exact EU hnf h3 m1 (hk.app m3 m4) h
theorem jS{a:fI}{r:ye}:qZ a r=true<->gE a r.1=true/\gE a r.2.1=true/\0<=r.1.headD 0/\r.2.2.length<=2/\rF a r.1 r.2.2 r.2.1=true:=by simp[qZ]
theorem mF{cs:mY}:mV cs=true<->kN cs.1=true/\cs.2.length<=12/\∀r∈cs.2,qZ cs.1 r=true:=by simp[mV]
theorem Fh{a:fI}{nf:Option (fI->Option fI)}{r:ye}{u:fI}{b:Bd}(hr:qZ a r=true)(hu:gE a u=true)(hnf:∀f,nf=some f->∀x y,gE a x=true->f x=some y->gE a y=true)(h:yC a nf r u=some b):CT a b/\F0 b r.2.1:=by
 obtain⟨h1,h2,_,_,h5⟩:=jS.1 hr;unfold yC at h;obtain⟨b0,g1,h⟩:=ai.1 h;obtain⟨m1,_,m3,m4⟩:=xG xl h1 hu g1;split at h
 ·rename_i hc;cases h;rw[hc]at h5;exact⟨m1,F0.var m3 h5⟩
 ·cases nf with
  |none=>cases h
  |some f=>exact EU (hnf f rfl) h5 m1 m3 h
theorem OE{cs:mY}{nf:Option (fI->Option fI)}(hc:mV cs=true)(hnf:∀f,nf=some f->∀x y,gE cs.1 x=true->f x=some y->gE cs.1 y=true):xP cs (G3 cs nf):=fun t i k u ht hi hk h=>by
 obtain⟨ha,_,hr⟩:=mF.1 hc;obtain⟨_,_,_,hw⟩:=gH.1 ht;have hrk:=hr _ (iQ hk);obtain⟨h1,h2,_,_,_⟩:=jS.1 hrk;obtain⟨p,s,q,e,hp,hs⟩:=hw.place hi;have hat:iz cs.1 t i=s:=by rw[e,<-hp];exact A0 hs
 unfold G3 at h;obtain⟨b,g1,h⟩:=ai.1 h;obtain⟨v,g2,h⟩:=ai.1 h;have hsl:s.length<=60:=by have:=(gH.1 ht).2.2.1;rw[e]at this;simp at this;omega
 rw[hat]at g1;obtain⟨m1,m2⟩:=Fh hrk (pe ha hs hsl) hnf g1;have hv:=vb m1 h2 g2;rw[e,<-hp,PO hs]at h;split at h
 ·rename_i hl;cases h;exact pe ha (Wf.put hs (gH.1 hv).2.2.2 (by rw[<-e];exact hw)) hl
 ·cases h
theorem vT{cs:mY}(hc:mV cs=true):∀d,xP cs (CR cs d)
 |0=>OE hc fun f h=>by cases h
 |d+1=>OE hc fun f h x y hx hy=>by
  cases h;exact xy (vT hc d) hx hy
theorem Gr{a p t:fI}{b:Bd}(hp:gE a p=true)(ht:gE a t=true)(hg:CT a b):∃q,je a b p t=some q/\z_ (uL a p t b) q:=by
 have h:=ym hp ht hg.len hg.to;obtain⟨q,hq⟩:=h.2 trivial;exact⟨q,hq,h.1 q hq⟩
section
variable{cs:mY}{d:Int}{rec:I3}{r:ye}
theorem Cs{g:Bd}{j:Int}:gI (jI rec cs r d) (g,false,j)=some (g,false):=by
 refine hU ?_;by_cases h:j<(r.2.2.length:Int)<;>simp[jI,h]
theorem JG{nf:fI->Option fI}(hd:d≠0)(hnf:∀x,gE cs.1 x=true->jU rec cs x (IntKind.i64.wrap (d-1))=some (jt (nf x)))
 (hkeep:∀x y,gE cs.1 x=true->nf x=some y->gE cs.1 y=true) (hr:r.2.2.length<=2):
 ∀(ms:List fJ)(i:Nat)(b:Bd)(l:fI),r.2.2.drop i=ms->i+ms.length=r.2.2.length->rF cs.1 l ms r.2.1=true->CT cs.1 b->F0 b l->
  ∃q,gI (jI rec cs r d) (b,true,(i:Int))=some q/\z_ (pP cs.1 nf ms b) q:=by
 intro ms;induction ms with
 |nil=>
  intro i b l hdr hi hc hg hk;obtain rfl:i=r.2.2.length:=by simpa using hi
  exact⟨(b,true),hU (by simp[jI]),rfl⟩
 |cons c ms ih=>
  intro i b l hdr hi hc hg hk;simp only[aK]at hi;obtain⟨g1,g2,g3⟩:=drop_cons hdr;rw[rF,bq,bq]at hc;obtain⟨h1,h2,h3⟩:=hc;simp only[xS,bq]at h1;have hd':(d==0)=false:=cw.2 hd;have hf:jI rec cs r d (b,true,(i:Int))=(ku b c.1).bind fun r_2=>if r_2.2=true then(jU rec cs r_2.1 (IntKind.i64.wrap (d-1))).bind fun r_3=>if r_3.2=true then(je cs.1 b c.2 r_3.1).bind fun r_4=>some (.inl (r_4.1,r_4.2,(i:Int)+1))else some (.inr (b,false))else some (.inr (b,false)):=by
   simp only[jI,show(i:Int)<r.2.2.length by omega,show(0:Int)<=i by omega,aW,aC,aj,az,g2,hd',ah,ay,kI (n:=(i:Int)+1) gu gu];rfl
  rw[(zl hg.sub h1.1).2,aa]at hf;rw[pP];cases hx:oo (Tm.sig b) c.1 with
  |none=>
   rw[hx]at hf;exact⟨(b,false),hU (by rw[hf];rfl),rfl⟩
  |some x=>
   have hxo:=vb hg h1.1 hx;rw[hx]at hf;simp only[jt,aj,hnf x hxo,aa]at hf;rw[aa];cases hy:nf x with
   |none=>
    rw[hy]at hf;exact⟨(b,false),hU (by rw[hf];rfl),rfl⟩
   |some y=>
    have hyo:=hkeep x y hxo hy;obtain⟨q,q1,q2⟩:=Gr h1.2 hyo hg;rw[hy]at hf;simp only[jt,aj,q1,aa]at hf;rw[aa,jN hf];cases hm:uL cs.1 c.2 y b with
    |none=>
     rw[hm]at q2;have q2':q.2=false:=q2;rw[q2'];exact⟨(q.1,false),Cs,rfl⟩
    |some b2=>
     rw[hm]at q2;have q2':q=(b2,true):=q2;rw[q2',aa,show((i:Int)+1)=((i+1:Nat):Int) by omega];obtain⟨m1,_,m3,m4⟩:=xG hg h1.2 hyo hm;exact ih (i+1) b2 (l++c.2) g3 gu h3 m1 (hk.app m3 m4)
theorem OQ{nf:fI->Option fI}{nfo:Option (fI->Option fI)}(hd:(d=0/\nfo=none)\/(d≠0/\nfo=some nf/\(∀x,gE cs.1 x=true->jU rec cs x (IntKind.i64.wrap (d-1))=some (jt (nf x)))/\∀x y,gE cs.1 x=true->nf x=some y->gE cs.1 y=true))
 (hr:qZ cs.1 r=true) {u:fI} (hu:gE cs.1 u=true):∃q,mq rec cs u r d=some q/\z_ (yC cs.1 nfo r u) q:=by
 obtain⟨h1,h2,_,h4,h5⟩:=jS.1 hr;obtain⟨q,q1,q2⟩:=Gr h1 hu (xl (a:=cs.1));unfold mq yC;have q1':je cs.1 (List.replicate 24 []) r.1 u=some q:=q1;rw[q1',aa];cases hm:uL cs.1 r.1 u k_ with
 |none=>
  rw[hm]at q2;have q2':q.2=false:=q2;rw[q2'];exact⟨(q.1,false),Cs,rfl⟩
 |some b=>
  rw[hm]at q2;have q2':q=(b,true):=q2;obtain⟨m1,_,m3,m4⟩:=xG xl h1 hu hm;rw[q2',aa];by_cases hc:r.2.2=[]
  ·rw[aE hc];exact⟨(b,true),hU (by simp[jI,hc]),rfl⟩
  ·rw[aJ hc];rcases hd with⟨d0,rfl⟩|⟨d1,rfl,hnf,hkeep⟩
   ·have hlen:0<r.2.2.length:=bT.2 hc;exact⟨(b,false),hU (by simp[jI,d0,show(0:Int)<r.2.2.length by omega,hc]),rfl⟩
   ·exact JG d1 hnf hkeep h4 r.2.2 0 b r.1 (by simp) (by simp) h5 m1 m3
end
theorem GI{cs:mY}(hc:mV cs=true):∀(d:Nat),d<=2->Nz cs (d:Int) (CR cs d) (jz (d+1)):=by
 obtain⟨ha,hn,hrs⟩:=mF.1 hc;have body:∀(n:Nat)(d:Int)(nf:fI->Option fI)(nfo:Option (fI->Option fI)),
  ((d=0/\nfo=none)\/(d≠0/\nfo=some nf/\(∀x,gE cs.1 x=true->jU (jz n) cs x (IntKind.i64.wrap (d-1))=some (jt (nf x)))/\∀x y,gE cs.1 x=true->nf x=some y->gE cs.1 y=true))->
  Nz cs d (G3 cs nfo) (jz (n+1)):=by
  intro n d nf nfo hd t i k ht hi hk;obtain⟨_,_,hl,hw⟩:=gH.1 ht;have hrk:=hrs _ (iQ hk);obtain⟨h1,h2,_,_,_⟩:=jS.1 hrk;obtain⟨p,s,q,e,hp,hs,f4,_,f6⟩:=PM ht (i:=(i:Int)) gu gu;have hpi:p.length=i:=by omega
  have hsl:s.length<=60:=by rw[e]at hl;simp at hl;omega
  have hso:=pe ha hs hsl;rw[az]at f4;obtain⟨g,g1,g2⟩:=OQ (rec:=jz n) hd hrk hso;rw[jz,f6,aa,aE ⟨gu,gu⟩,az];have g1':mq (jz n) cs s ((cs.2.getD k default).1,(cs.2.getD k default).2.1,(cs.2.getD k default).2.2) d=some g:=g1;rw[g1',aa];unfold G3;rw[f4];cases hg:yC cs.1 nfo (cs.2.getD k default) s with
  |none=>
   rw[hg]at g2;have g2':g.2=false:=g2;simp[g2',jt]
  |some b=>
   rw[hg]at g2;have g2':g=(b,true):=g2;obtain⟨m1,m2⟩:=Fh hrk hso (fun f hf x y hx hy=>by
    rcases hd with⟨_,hd2⟩|⟨_,hd2,_,hd4⟩
    ·rw[hd2]at hf;cases hf
    ·rw[hd2]at hf;cases hf;exact hd4 x y hx hy) hg
   simp only[g2',aj,show(0:Int)<=k/\(k:Int)<cs.2.length from⟨gu,gu⟩,aW,(zl m1.sub h2).2,aa];cases hv:oo (Tm.sig b) (cs.2.getD k default).2.1 with
   |none=>simp[jt]
   |some v=>
    have hvo:=vb m1 h2 hv;have hput:qD cs.1 t i v=some (jt (zD cs.1 t i v)):=by
     have:=yP (p:=p) (s:=q) ha hs (by rw[<-e];exact hl) (gH.1 hvo).2.2.1;rwa [<-e,hpi]at this
    simp only[jt,aj,hput,aa]
 intro d;induction d with
 |zero=>intro _;exact body 0 0 (fun _=>none) none (.inl ⟨rfl,rfl⟩)
 |succ d ih=>
  intro h2;have ihd:=ih gu;exact body (d+1) ((d+1:Nat):Int) (rH cs (CR cs d) 8) _ (.inr ⟨gu,rfl,fun x hx=>by
   rw[kI gu gu,show((d+1:Nat):Int)-1=(d:Int) by omega];exact MJ hn (vT hc d) ihd hx,fun x y hx hy=>xy (vT hc d) hx hy⟩)
theorem xJ{cs:mY}(hc:mV cs=true){d:Nat}(hd:d<=2){t:fI}{i k:Nat}(ht:gE cs.1 t=true)(hi:i<t.length)(hk:k<cs.2.length):
 kS cs t i k d=some (jt (CR cs d t i k)):=by
 unfold kS;exact CZ (fun n=>FK n cs t i k d) (GI hc d hd t i k ht hi hk)
def yw(cs:mY)(t:fI)(d:Int):Bool:=mV cs&&(gE cs.1 t&&decide (0<=d/\d<=2))
theorem Al(cs:mY)(t:fI)(d:Int):qM cs t d=some (yw cs t d):=by
 unfold qM yw;rw[pZ,aa];cases mV cs with
 |false=>simp
 |true=>
  simp only[aj,kE,aa,bz];cases gE cs.1 t with
  |false=>simp
  |true=>simp[mQ]
def BN(cs:mY)(t:fI)(i k d:Int):Option fI:=
 if yw cs t d=true/\(0<=i/\i<t.length)/\(0<=k/\k<cs.2.length)then CR cs d.toNat t i.toNat k.toNat else none
theorem Ar{cs:mY}{t:fI}{d:Int}:yw cs t d=true<->mV cs=true/\gE cs.1 t=true/\0<=d/\d<=2:=by simp[yw]
theorem wX(cs:mY)(t:fI)(i k d:Int):qf cs t i k d=some (jt (BN cs t i k d)):=by
 unfold qf BN;rw[Al,aa];cases hr:yw cs t d with
 |false=>simp[jt]
 |true=>
  obtain⟨hc,ht,d0,d2⟩:=Ar.1 hr;obtain⟨_,_,hl,_⟩:=gH.1 ht;obtain⟨_,hn,_⟩:=mF.1 hc;simp only[aj,uh hl,aa,cx];by_cases hi:0<=i/\i<t.length
  ·simp only[hi,aW,aC,aj,mQ,aa,kI (n:=(cs.2.length:Int)-1) gu gu,cx];by_cases hk:0<=k/\k<cs.2.length
   ·have e1:(decide (0<=k)&&decide (k<=(cs.2.length:Int)-1))=true:=by simp;omega
    rw[aE e1,aE hk];have h:=xJ hc (d:=d.toNat) gu ht (i:=i.toNat) (k:=k.toNat) gu gu;rw[show((i.toNat:Nat):Int)=i by omega,show((k.toNat:Nat):Int)=k by omega,show((d.toNat:Nat):Int)=d by omega]at h;rw[h,aa];cases CR cs d.toNat t i.toNat k.toNat<;>simp[jt]
   ·have e1:¬(decide (0<=k)&&decide (k<=(cs.2.length:Int)-1))=true:=by simp;omega
    rw[aJ e1,aJ hk];rfl
  ·simp[hi,jt]
theorem qN{a:fI}:∀{cs:List fJ}{l r:fI},rF a l cs r=true->∀c∈cs,gE a c.1=true/\gE a c.2=true
 |[],_,_,_,c,hc=>by cases hc
 |x::cs,l,r,h,c,hc=>by
  rw[rF,bq,bq]at h;rcases bt.1 hc with rfl|hc
  ·simpa[xS]using h.1
  ·exact qN h.2.2 c hc
theorem jf{a t:fI}(h:gE a t=true):t.length<=60/\∀x∈t, -24<=x:=⟨(gH.1 h).2.2.1,fun x hx=>((gH.1 h).2.2.2.all x hx).1⟩
def rG(r:ye)(i:Nat):fI:=(r.2.2.take i).foldl (fun v c=>jH v c.2) (jH [] r.1)
def xZ(r:ye)(i:Nat):fI:=(r.2.2.drop (i+1)).foldl (fun v c=>jH (jH v c.1) c.2) (jH (jH [] r.2.1) (r.2.2.getD i default).2)
def nF(r:ye)(i:Nat):fI:=(rG r i).filter fun x=>decide (x∈xZ r i)
theorem BT:∀{cs:List fJ}{v:fI}{m:Nat},(∀c∈cs,c.2.length<=60)->v.length<=m->(cs.foldl (fun v c=>jH v c.2) v).length<=m+60*cs.length
 |[],v,m,_,h=>by simpa using h
 |c::cs,v,m,hc,h=>by
  have h1:=pg (t:=c.2) (v:=v);have h2:=hc c (by simp);have:=BT (cs:=cs) (v:=jH v c.2) (m:=m+60) (fun c hc'=>hc c (by simp[hc'])) gu;simp only[cE,aK];omega
theorem BU:∀{cs:List fJ}{v:fI}{m:Nat},(∀c∈cs,c.1.length<=60/\c.2.length<=60)->v.length<=m->(cs.foldl (fun v c=>jH (jH v c.1) c.2) v).length<=m+120*cs.length
 |[],v,m,_,h=>by simpa using h
 |c::cs,v,m,hc,h=>by
  have h1:=pg (t:=c.1) (v:=v);have h3:=pg (t:=c.2) (v:=jH v c.1);have h2:=hc c (by simp);have:=BU (cs:=cs) (v:=jH (jH v c.1) c.2) (m:=m+120) (fun c hc'=>hc c (by simp[hc'])) gu;simp only[cE,aK];omega
theorem qX{a:fI}{r:ye}(hr:qZ a r=true){i:Nat}(hi:i<r.2.2.length):mS r i=some (nF r i):=by
 obtain⟨h1,h2,_,h4,h5⟩:=jS.1 hr;obtain⟨l1,x1⟩:=jf h1;obtain⟨l2,x2⟩:=jf h2;have hcs:=qN h5;have hc1:∀c∈r.2.2,c.1.length<=60/\c.2.length<=60:=fun c hc=>⟨(jf (hcs c hc).1).1,(jf (hcs c hc).2).1⟩
 have hkl:∀j,((r.2.2.take j).foldl (fun v c=>jH v c.2) (jH [] r.1)).length<=60+60*2:=fun j=>by
  have h0:=pg (t:=r.1) (v:=[]);have:=BT (cs:=r.2.2.take j) (v:=jH [] r.1) (m:=60) (fun c hc=>(hc1 c (bg hc)).2) (by simp at h0;omega);have h3:(r.2.2.take j).length<=2:=by rw[aU];omega
  omega
 unfold mS;rw[l_ (by simp) l1 x1,aa];have A:=pJ (n:=i) (fun j=>((r.2.2.take j).foldl (fun v c=>jH v c.2) (jH [] r.1),(j:Int))) (c:=nF r i) (f:=pH r i) (fun j hj=>by
  have hjl:j<r.2.2.length:=gu;have hm:=hcs _ (iQ hjl);obtain⟨m1,m2⟩:=jf hm.2;have:=hkl j;simp only[pH,show(j:Int)<(i:Int) by omega,aC,aj,show(0:Int)<=j by omega,show(j:Int)<r.2.2.length by omega,aW,az,l_ (show((r.2.2.take j).foldl (fun v c=>jH v c.2) (jH [] r.1)).length<=10000 by omega) m1 m2,aa,kI (n:=(j:Int)+1) gu gu];rw[mX hjl,dK];simp) (by
  have hm:=hcs _ (iQ hi);obtain⟨m1,m2⟩:=jf hm.2;have n0:=pg (t:=r.2.1) (v:=[]);have n1:=pg (t:=(r.2.2.getD i default).2) (v:=jH [] r.2.1);simp only[bB]at n0;simp only[pH,ct,aL,ah,ay,l_ (v:=[]) (by simp) l2 x2,aa,show(0:Int)<=i by omega,show(i:Int)<r.2.2.length by omega,aW,aj,az,l_ (v:=jH [] r.2.1) gu m1 m2,kI (n:=(i:Int)+1) gu gu];have B:=pJ (n:=r.2.2.length-(i+1)) (fun j=>(((r.2.2.drop (i+1)).take j).foldl (fun v c=>jH (jH v c.1) c.2) (jH (jH [] r.2.1) (r.2.2.getD i default).2),((i+1+j:Nat):Int))) (c:=nF r i) (f:=nU r (rG r i)) (fun j hj=>by
   have hjl:i+1+j<r.2.2.length:=gu;have hm:=hcs _ (iQ hjl);obtain⟨a1,a2⟩:=jf hm.1;obtain⟨b1,b2⟩:=jf hm.2;have g:=BU (cs:=(r.2.2.drop (i+1)).take j) (v:=jH (jH [] r.2.1) (r.2.2.getD i default).2) (m:=120) (fun c hc=>hc1 c (bO (bg hc))) gu;have g2:((r.2.2.drop (i+1)).take j).length<=2:=by rw[aU,bX];omega
   have g3:=pg (t:=(r.2.2.getD (i+1+j) default).1) (v:=((r.2.2.drop (i+1)).take j).foldl (fun v c=>jH (jH v c.1) c.2) (jH (jH [] r.2.1) (r.2.2.getD i default).2));simp only[nU,show((i+1+j:Nat):Int)<r.2.2.length by omega,aC,aj,show(0:Int)<=((i+1+j:Nat):Int) by omega,aW,az];rw[l_ gu a1 a2,aa,l_ gu b1 b2,aa,kI gu gu];have hlt:j<(r.2.2.drop (i+1)).length:=by rw[bX];omega
   have hg:(r.2.2.drop (i+1)).getD j default=r.2.2.getD (i+1+j) default:=by rw[iM hlt,iM hjl,List.getElem_drop]
   rw[mX hlt,dK,hg];simp only[cE,List.foldl_nil];refine bW (fun x=>some (Sum.inl x)) ?_;refine fk rfl ?_;show((i+1+j:Nat):Int)+1=((i+1+(j+1):Nat):Int);omega) (by
   have hs:i+1+(r.2.2.length-(i+1))=r.2.2.length:=by omega
   have ht:(r.2.2.drop (i+1)).take (r.2.2.length-(i+1))=r.2.2.drop (i+1):=by rw[bM (by rw[bX];omega)]
   simp only[nU,hs,ht,ct,aL,ah,ay];have hkn:(rG r i).length<=180:=hkl i;have hnn:Small (xZ r i):=by
    have g:=BU (cs:=r.2.2.drop (i+1)) (v:=jH (jH [] r.2.1) (r.2.2.getD i default).2) (m:=120) (fun c hc=>hc1 c (bO hc)) gu;have g2:(r.2.2.drop (i+1)).length<=2:=by rw[bX];omega
    show(xZ r i).length<_;unfold xZ;omega
   have C:=pJ (n:=(rG r i).length) (fun j=>(((rG r i).take j).filter fun x=>decide (x∈xZ r i),(j:Int))) (c:=nF r i) (f:=nV (rG r i) (xZ r i)) (fun j hj=>by
    have hl:(((rG r i).take j).filter fun x=>decide (x∈xZ r i)).length<=180:=bP (dH _ _) (by rw[aU];omega);simp only[nV,show(j:Int)<(rG r i).length by omega,aC,aj,show(0:Int)<=j by omega,aW,az,qK hnn,aa,kI (n:=(j:Int)+1) gu gu,show((((rG r i).take j).filter fun x=>decide (x∈xZ r i)).length+1)*8<=140737488355328 by omega];rw[mX hj,fh];by_cases hm:(rG r i).getD j default∈xZ r i
    ·rw[aE (by simpa using hm)];rw[eO (by simpa using hm)];simp
    ·rw[aJ (by simpa using hm)];rw[eP (by simpa using hm)];simp) (by simp[nV,nF])
   have C':gI (nV (rG r i) (xZ r i)) ([],0)=some (nF r i):=by simpa using C
   unfold xZ at C';rw[C'];rfl)
  have B':gI (nU r (rG r i)) (jH (jH [] r.2.1) (r.2.2.getD i default).2,(i:Int)+1)=some (nF r i):=by simpa using B
  unfold rG at B';rw[B'];rfl)
 simpa using A
abbrev S5(v:fI):Prop:=∀x∈v,0<=x/\x<=23
theorem FV{v t:fI}(hv:S5 v)(ht:∀x∈t, -24<=x):S5 (jH v t):=fun m hm=>by
 rcases sk.1 hm with h|⟨x,h1,h2,rfl⟩
 ·exact hv m h
 ·have:=ht x h1;omega
theorem Fa{a:fI}:∀{cs:List fJ}{v:fI},(∀c∈cs,gE a c.2=true)->S5 v->S5 (cs.foldl (fun v c=>jH v c.2) v)
 |[],v,_,h=>h
 |c::cs,v,hc,h=>Fa (cs:=cs) (v:=jH v c.2) (fun c hc'=>hc c (by simp[hc'])) (FV h (jf (hc c (by simp))).2)
theorem wJ{a:fI}{r:ye}(hr:qZ a r=true)(i:Nat):(nF r i).length<=180/\S5 (nF r i):=by
 obtain⟨h1,h2,_,h4,h5⟩:=jS.1 hr;obtain⟨l1,x1⟩:=jf h1;have hcs:=qN h5;constructor
 ·have h0:=pg (t:=r.1) (v:=[]);have:=BT (cs:=r.2.2.take i) (v:=jH [] r.1) (m:=60) (fun c hc=>(jf (hcs c (bg hc)).2).1) (by simp at h0;omega);have h3:(r.2.2.take i).length<=2:=by rw[aU];omega
  refine bP (dH _ _) ?_;unfold rG;omega
 ·intro x hx;have hk:S5 (rG r i):=Fa (fun c hc=>(hcs c (bg hc)).2) (FV (fun x hx=>by cases hx) x1);exact hk x (dm.1 hx).1
def wg(sym:Int)(t vars:fI):fI:=[sym]++t++vars.map fun v=> -1-v
theorem uk{sym:Int}{t vars:fI}(ht:t.length<=60)(hv:vars.length<=1000)(hx:S5 vars):oM sym t vars=some (wg sym t vars):=by
 unfold oM;rw[aE gu];refine DP (mk:=fun i out=>(out,i)) (xs:=vars) (g:=fun v=> -1-v) (out0:=[sym]++t) (fun i out x hi hm hg ho=>?_) ?_
 ·have:=hx x hm;have ho':out.length=t.length+1+i:=by simpa[eA]using ho
  simp only[qY,show(i:Int)<vars.length by omega,aC,aj,show(0:Int)<=i by omega,aW,az,hg,kI (n:= -1-x) gu gu,kI (n:=(i:Int)+1) gu gu,show(out.length+1)*8<=140737488355328 by omega]
 ·simp[qY,wg]
def wP(r:ye)(sym:Int)(i:Nat):fI×fI:=
 (wg (sym+i) (r.2.2.getD i default).2 (nF r i),if i+1<r.2.2.length then wg (sym+i+1) (r.2.2.getD (i+1) default).1 (nF r (i+1))else r.2.1)
def jq(r:ye)(sym:Int):List fJ:=
 (r.1,if 0<r.2.2.length then wg sym (r.2.2.getD 0 default).1 (nF r 0)else r.2.1)::(List.range r.2.2.length).map (wP r sym)
theorem Am{a:fI}{r:ye}(hr:qZ a r=true){sym:Int}(h0:0<=sym)(hs:sym<=1000):o_ r sym=some (jq r sym):=by
 obtain⟨h1,h2,_,h4,h5⟩:=jS.1 hr;obtain⟨l1,x1⟩:=jf h1;obtain⟨l2,x2⟩:=jf h2;have hcs:=qN h5;unfold o_ jq;rw[jG (show r.1.length<_ by omega),jG (show r.2.1.length<_ by omega)];by_cases hc:r.2.2.length=0
 ·simp[hc]
 ·have hc':((r.2.2.length:Int)==0)=false:=cw.2 gu;have hpos:0<r.2.2.length:=by omega
  obtain⟨g1,g2⟩:=wJ hr 0;have hm0:=hcs _ (iQ hpos);simp only[hc',ah,ay,aa,hpos,aj];rw[aE (by constructor<;>omega),show((0:Int))=((0:Nat):Int)from rfl,qX hr hpos,aa,uk (jf hm0.1).1 gu g2,aa];have A:=pJ (n:=r.2.2.length) (fun j=>((r.1,wg sym (r.2.2.getD 0 default).1 (nF r 0))::(List.range j).map (wP r sym),(j:Int))) (c:=(r.1,wg sym (r.2.2.getD 0 default).1 (nF r 0))::(List.range r.2.2.length).map (wP r sym)) (f:=oL r sym) (fun j hj=>by
   obtain⟨k1,k2⟩:=wJ hr j;have hm:=hcs _ (iQ hj);simp only[oL,show(j:Int)<r.2.2.length by omega,aC,aj,show(0:Int)<=j by omega,aW,az,qX hr hj,aa,kI (n:=sym+(j:Int)) gu gu,uk (jf hm.2).1 (show(nF r j).length<=1000 by omega) k2,jG (show r.2.1.length<_ by omega),kI (n:=(j:Int)+1) gu gu,
    kI (n:=sym+(j:Int)+1) gu gu]
   have hout:(((r.1,wg sym (r.2.2.getD 0 default).1 (nF r 0))::(List.range j).map (wP r sym)).length+1)*48<=140737488355328:=by simp;omega
   have hnx:((r.1,wg sym (r.2.2.getD 0 default).1 (nF r 0))::(List.range (j+1)).map (wP r sym))=((r.1,wg sym (r.2.2.getD 0 default).1 (nF r 0))::(List.range j).map (wP r sym))++[wP r sym j]:=by rw[eu,aP];rfl
   rw[hnx];by_cases hlast:j+1<r.2.2.length
   ·obtain⟨q1,q2⟩:=wJ hr (j+1);have hmq:=hcs _ (iQ hlast);have e1:((j:Int)+1)=((j+1:Nat):Int):=by omega
    rw[aE (by simp;omega),aE gu,e1,qX hr hlast,aa,az,uk (jf hmq.1).1 gu q2,aa,aE hout];simp only[wP,hlast,aj]
   ·rw[aJ (by simp;omega),aE hout];simp only[wP,hlast,ay];rfl) (by simp[oL])
  simpa using A
def Eu(r:ye)(n:Nat):fI:=(List.range n).map fun k=>1+((nF r k).length:Int)
def lB(acc:Sys)(r:ye):Sys:=(acc.1++Eu r r.2.2.length,acc.2++jq r acc.1.length)
def ju(cs:mY):Sys:=cs.2.foldl lB (cs.1,[])
theorem qG(r:ye)(sym:Int):(jq r sym).length=r.2.2.length+1:=by simp[jq]
theorem GO:∀{rs:List ye}{acc:Sys}{m:Nat},(∀r∈rs,r.2.2.length<=2)->acc.1.length<=m->acc.2.length<=m->(rs.foldl lB acc).1.length<=m+3*rs.length/\(rs.foldl lB acc).2.length<=m+3*rs.length
 |[],acc,m,_,h1,h2=>by simpa using⟨h1,h2⟩
 |r::rs,acc,m,hr,h1,h2=>by
  have h:=hr r (by simp);have:=GO (rs:=rs) (acc:=lB acc r) (m:=m+3) (fun r hr'=>hr r (by simp[hr'])) (by simp only[lB,au,Eu,aS,dJ];omega) (by simp only[lB,au,qG];omega);simp only[cE,aK];omega
theorem M4{cs:mY}{i:Nat}{out1 r2:List fJ}{a:fI}(hr:qZ a (cs.2.getD i default)=true)(hi:i<1000){ar:fI}(ha:ar.length<=1000):
 gI (mC cs i out1 r2) (0,ar)=some (.inl ((i:Int)+1,ar++Eu (cs.2.getD i default) (cs.2.getD i default).2.2.length,out1++r2)):=by
 have h4:=(jS.1 hr).2.2.2.1;have A:=pJ (n:=(cs.2.getD i default).2.2.length) (fun j=>((j:Int),ar++Eu (cs.2.getD i default) j)) (c:=Sum.inl ((i:Int)+1,ar++Eu (cs.2.getD i default) (cs.2.getD i default).2.2.length,out1++r2)) (f:=mC cs i out1 r2) (fun j hj=>by
  obtain⟨k1,_⟩:=wJ hr j;have e:mS ((cs.2.getD i default).1,(cs.2.getD i default).2.1,(cs.2.getD i default).2.2) (j:Int)=some (nF (cs.2.getD i default) j):=qX hr hj;have hl:((ar++Eu (cs.2.getD i default) j).length+1)*8<=140737488355328:=by simp only[au,Eu,aS,dJ];omega
  simp only[mC,az,show(j:Int)<(cs.2.getD i default).2.2.length by omega,aC,aj,e,aa,hl,kI (n:=1+((nF (cs.2.getD i default) j).length:Int)) gu gu,kI (n:=(j:Int)+1) gu gu];have hx:Eu (cs.2.getD i default) (j+1)=Eu (cs.2.getD i default) j++[1+((nF (cs.2.getD i default) j).length:Int)]:=by unfold Eu;rw[eu,aP];rfl
  rw[hx,aI];rfl) (by
  simp only[mC,az,ct,aL,ah,ay,kI (n:=(i:Int)+1) gu gu];rfl)
 simpa[Eu]using A
theorem vg(cs:mY):nT cs=some (if mV cs=true/\lD (ju cs)=true then(ju cs,true)else(([],[]),false)):=by
 unfold nT;rw[pZ,aa];cases hc:mV cs with
 |false=>simp
 |true=>
  obtain⟨ha,hn,hrs⟩:=mF.1 hc;have hal:=(oC.1 ha).2.1;have h2:∀r∈cs.2,r.2.2.length<=2:=fun r hr=>(jS.1 (hrs r hr)).2.2.2.1
  simp only[aj,jG (show cs.1.length<_ by omega),aa,cx];have A:=pJ (n:=cs.2.length) (fun j=>((j:Int),((cs.2.take j).foldl lB (cs.1,[])).1,((cs.2.take j).foldl lB (cs.1,[])).2)) (c:=if lD (ju cs)=true then(ju cs,true)else(([],[]),false)) (f:=nK cs) (fun j hj=>by
   have hl:=GO (rs:=cs.2.take j) (acc:=(cs.1,[])) (m:=8) (fun r hr=>h2 r (bg hr)) hal (by simp);have htl:(cs.2.take j).length<=12:=by rw[aU];omega
   have hr:=hrs _ (iQ hj);have hr2:=h2 _ (iQ hj);have e:o_ ((cs.2.getD j default).1,(cs.2.getD j default).2.1,(cs.2.getD j default).2.2) ((((cs.2.take j).foldl lB (cs.1,[])).1.length:Nat):Int)=some (jq (cs.2.getD j default) (((cs.2.take j).foldl lB (cs.1,[])).1.length:Int)):=Am hr gu gu;simp only[nK,show(j:Int)<cs.2.length by omega,aC,aj,show(0:Int)<=j by omega,aW,az,e,aa];rw[aE (by rw[qG];omega),M4 hr gu gu,mX hj,dK];rfl) (by
   have e:cs.2.take cs.2.length=cs.2:=cK;simp only[nK,ct,aL,ah,ay,e];have:nc ((cs.2.foldl lB (cs.1,[])).1,(cs.2.foldl lB (cs.1,[])).2)=some (lD (ju cs)):=sZ (ju cs);rw[this,aa];cases lD (ju cs)<;>rfl)
  simpa using A
theorem Dz{α:Type}{p:α->Bool}{xs:List α}:decide (0<=BS p xs)=xs.any p:=by
 by_cases h:∃x∈xs,p x=true
 ·obtain⟨x,hx,hp⟩:=h;rw[cB (Mk hx hp),dP.2 ⟨x,hx,hp⟩]
 ·have h':∀x∈xs,p x=false:=fun x hx=>by
   cases hp:p x with
   |false=>rfl
   |true=>exact absurd ⟨x,hx,hp⟩ h
  have e:=HH h';rw[e,dY.2 (fun x hx=>by rw[h' x hx];decide)];decide
theorem yM{t:fI}{os:List fI}(ht:t.length<=60)(ho:os.length<=60)(hs:∀u∈os,u.length<=60):qz t os=some (xK os.flatten t):=by
 have hc:∀n,jQ os n=some (os.any fun u=>decide (n∈u)):=fun n=>by
  unfold jQ lT;have:=DO (xs:=os) (p:=fun u=>decide (n∈u)) (f:=jR os n) (fun i u hi hm hg=>by
   have:=hs u hm;simp only[jR,t_,show(i:Int)<os.length by omega,aC,aj,show(0:Int)<=i by omega,aW,az,hg,pE (show u.length<_ by omega),aa,kI (n:=(i:Int)+1) gu gu];by_cases h:n∈u<;>simp[h]) (by simp[jR])
  rw[this,aa,Dz]
 unfold qz xK;refine uA (xs:=t) (fun i x hi hi' hm hg=>?_) (by simp[sO]);simp only[sO,hi',aC,aj,show(0:Int)<=i by omega,aW,az,hg,hc,aa,kI (n:=(i:Int)+1) gu gu];have e:(os.any fun u=>decide (x∈u))=decide (x∈os.flatten):=by
  by_cases h:x∈os.flatten
  ·rw[cB h];obtain⟨u,hu,hx⟩:=ej.1 h;exact dP.2 ⟨u,hu,by simpa using hx⟩
  ·rw[cJ h];exact dY.2 fun u hu hx=>h (ej.2 ⟨u,hu,by simpa using hx⟩)
 rw[e];by_cases h0:x<0
 ·by_cases h:x∈os.flatten
  ·simp only[h0,h,aC,aj,true_implies]
  ·simp only[h0,h,aC,aL,aj,ah,ay,true_implies];rfl
 ·simp[h0]
theorem CH(a:fI)(c:fI×fI):tj a c=some (xS a c):=by
 unfold tj xS;rw[nr,aa];cases gE a c.1 with
 |false=>simp
 |true=>simp[nr]
theorem AM(a:fI)(r:ye):qc a r=some (qZ a r):=by
 unfold qc qZ;rw[nr,aa];cases h1:gE a r.1 with
 |false=>simp
 |true=>
  simp only[aj,nr,aa,bz];cases h2:gE a r.2.1 with
  |false=>simp
  |true=>
   obtain⟨_,l1,l2,l3⟩:=gH.1 h1;obtain⟨_,r1,r2,r3⟩:=gH.1 h2;have e3:(0:Int)<r.1.length:=by omega
   simp only[aj,dg,aO,e3,aW,bz,eX,cx];rw[yD gu];by_cases h0:r.1.headD 0<0
   ·simp[-List.headD_eq_head?_getD,h0,show ¬0<=r.1.headD 0 by omega]
   ·simp only[h0,aL,ah,ay,show 0<=r.1.headD 0 by omega,aC,bz];by_cases hc:r.2.2.length<=2
    ·rw[aJ (by simp only[aQ];omega)];simp only[hc,aC,bz];have key:∀(ms:List fJ)(i:Nat)(b:List fI),r.2.2.drop i=ms->i+ms.length=r.2.2.length->b.length=i+1->(∀u∈b,u.length<=60)->
      gI (nO a r) (b,(i:Int))=some (rF a b.flatten ms r.2.1):=by
      intro ms;induction ms with
      |nil=>
       intro i b hd hi hb hs;obtain rfl:i=r.2.2.length:=by simpa using hi
       refine hU ?_;simp only[nO,ct,aL,ah,ay,yM r2 (show b.length<=60 by omega) hs,aa,rF];rfl
      |cons c ms ih=>
       intro i b hd hi hb hs;obtain⟨g1,g2,g3⟩:=drop_cons hd;simp only[aK]at hi;have hf:nO a r (b,(i:Int))=(tj a c).bind fun r_4=>if r_4=true then(qz c.1 b).bind fun r_5=>if r_5=true then some (.inl (b++[c.2],(i:Int)+1))else some (.inr false)else some (.inr false):=by
        simp only[nO,show(i:Int)<r.2.2.length by omega,show(0:Int)<=i by omega,aW,aC,aj,az,g2,kI (n:=(i:Int)+1) gu gu,show(b.length+1)*24<=140737488355328 by omega];rfl
       rw[CH,aa]at hf;rw[rF];cases he:xS a c with
       |false=>
        rw[he]at hf;exact hU (by rw[hf];rfl)
       |true=>
        rw[he,aE rfl]at hf;simp only[xS,bq]at he;rw[yM (jf he.1).1 gu hs,aa]at hf;cases hw:xK b.flatten c.1 with
        |false=>
         rw[hw]at hf;exact hU (by rw[hf];rfl)
        |true=>
         rw[hw,aE rfl]at hf;rw[jN hf,show((i:Int)+1)=((i+1:Nat):Int) by omega,ih (i+1) (b++[c.2]) g3 gu (by simp[hb]) (fun u hu=>by
          rcases aG.1 hu with hu|hu
          ·exact hs u hu
          ·simp at hu;subst hu;exact(jf he.2).1)]
         simp
     have:=key r.2.2 0 [r.1] (by simp) (by simp) rfl (fun u hu=>by simp at hu;subst hu;exact l2);simpa using this
    ·rw[aE (by simp only[aQ];omega)];simp[hc]
theorem vV(cs:mY):oB cs=some (mV cs):=by
 unfold oB mV;rw[vI,aa];cases kN cs.1 with
 |false=>simp
 |true=>
  by_cases hl:cs.2.length<=12
  ·rw[aE rfl,aJ (by simp only[aQ];omega)];simp only[bz,hl,aC];unfold jy jK;have:=DO (xs:=cs.2) (p:=fun r=>!qZ cs.1 r) (f:=ja cs.2 cs.1 cs.2) (fun i x hi hm hg=>by
    have e:qc cs.1 (x.1,x.2.1,x.2.2)=some (qZ cs.1 x):=AM cs.1 x;simp only[ja,qw,show(i:Int)<cs.2.length by omega,aC,aj,show(0:Int)<=i by omega,aW,az,hg,e,aa,kI (n:=(i:Int)+1) gu gu];cases qZ cs.1 x<;>simp) (by simp[ja])
   rw[this,aa,aa,Dz];congr 1;cases h:cs.2.all (qZ cs.1)with
   |true=>rw[dY.2 fun x hx=>by rw[cc.1 h x hx];decide];rfl
   |false=>
    obtain⟨x,hx,hn⟩:=List.all_eq_false.1 h;rw[dP.2 ⟨x,hx,by simpa using hn⟩];rfl
  ·rw[aE rfl,aE (by simp only[aQ];omega)];simp[hl]
theorem AP(cs:mY)(t:fI)(d:Int):mO cs t d=some (yw cs t d):=by
 unfold mO yw;rw[vV,aa];cases mV cs with
 |false=>simp
 |true=>
  simp only[aj,nr,aa,bz];cases gE cs.1 t with
  |false=>simp
  |true=>by_cases h:0<=d<;>simp[h]
theorem E6{a t:fI}(ht:gE a t=true){i q:Nat}(hi:i<t.length)(h1:i<=q)(h2:(q:Int)<uR a t i):uR a t q<=uR a t i:=by
 obtain⟨_,_,_,hw⟩:=gH.1 ht;obtain⟨p,u,s,e,hp,hu⟩:=hw.place hi;have hd:t.drop i=u++s:=by rw[e,<-hp,bI]
 have hl:=bW List.length e;simp only[au]at hl;rw[vA hd hu]at h2⊢;obtain⟨p',u',s',e',hp',hu'⟩:=hu.place (i:=q-i) gu;have hd':t.drop q=u'++(s'++s):=by
  have:t.drop q=(t.drop i).drop (q-i):=by rw[List.drop_drop];congr 1;omega
  rw[this,hd,e',<-hp',aI,bI,aI]
 rw[vA hd' hu'];simp only[au];omega
section
variable{cs:mY}{t:fI}{st:oS}
theorem DH(ht:gE cs.1 t=true):∀(m p:Nat),p<t.length->(uR cs.1 t p).toNat<=p+m->oP st cs.2.length t p≠none->∃q,p<=q/\(q:Int)<uR cs.1 t p/\vP cs st t q=true
 |0,p,hp,hm,hr=>by have:=(wG ht hp).1;omega
 |m+1,p,hp,hm,hr=>by
  by_cases h:∃p',p'<t.length/\p<p'/\(p':Int)<uR cs.1 t p/\oP st cs.2.length t p'≠none
  ·obtain⟨p',a1,a2,a3,a4⟩:=h;have hn:=E6 ht hp (fo a2) a3;obtain⟨q,b1,b2,b3⟩:=DH ht m p' a1 gu a4;exact⟨q,gu,gu,b3⟩
  ·refine⟨p,aO _,(wG ht hp).1,?_⟩;unfold vP;rw[bq];refine⟨?_,cc.2 fun q hq=>cB fun hc=>?_⟩
   ·cases hk:oP st cs.2.length t p with
    |none=>exact absurd hk hr
    |some k=>rfl
   ·cases hk:oP st cs.2.length t q with
    |none=>rfl
    |some k=>exact absurd ⟨q,bY.1 hq,hc.1,hc.2,by rw[hk];simp⟩ h
end
abbrev G_:=mY->fI->Int->ye->Int->Option fN
abbrev Db(cs:mY)(d:Int)(st:oS)(rec:G_):Prop:=∀(t:fI)(i k:Nat),gE cs.1 t=true->i<t.length->k<cs.2.length->rec cs t i (cs.2.getD k default) d=some (jt (st t i k))
def za(cs:mY)(st:oS)(t:fI)(i:Nat):Option Nat:=(List.range t.length).find? fun j=>decide (i<=j)&&vP cs st t j
def Eo(cs:mY)(st:oS)(t:fI)(i:Nat):Int×Int×fI×Int×Int:=match za cs st t i with
 |none=>(-1,0,[],(t.length:Int),(i:Int)-1)
 |some j=>((j:Int),Bh st cs.2.length t j,(st t j (Bh st cs.2.length t j).toNat).getD [],(j:Int),(i:Int)-1)
theorem ML{cs:mY}{st:oS}{t:fI}{i:Nat}(h:vP cs st t i=false):za cs st t i=za cs st t (i+1):=by
 unfold za;congr 1;funext j;by_cases hj:j=i
 ·subst hj;rw[h];simp
 ·have:decide (i<=j)=decide (i+1<=j):=by
   by_cases h2:i<=j
   ·rw[cB h2,cB gu]
   ·rw[cJ h2,cJ gu]
  rw[this]
theorem Sn{cs:mY}{st:oS}{t:fI}{i:Nat}(hi:i<t.length)(h:vP cs st t i=true):za cs st t i=some i:=by
 unfold za;exact cT.2 ⟨by simp[h],bY.2 hi,fun j hj=>by simp;omega⟩
section
variable{cs:mY}{t:fI}{d:Int}{st:oS}{rec:G_}
theorem Kc(hn:cs.2.length<=12){i:Nat}(hi:i<60)(h:∀k:Nat,k<cs.2.length->rec cs t i (cs.2.getD k default) d=some (jt (st t i k))){best rule lowest:Int}{to:fI}:
 gI (jX rec cs t d best rule to lowest i) 0=some (.inl (match oP st cs.2.length t i with
  |some k=>((i:Int),(k:Int),(st t i k).getD [],(i:Int),(i:Int)-1)
  |none=>(best,rule,to,lowest,(i:Int)-1))):=by
 have key:∀m j:Nat,j+m=cs.2.length->(∀k<j,st t i k=none)->gI (jX rec cs t d best rule to lowest i) (j:Int)=some (.inl (match oP st cs.2.length t i with
  |some k=>((i:Int),(k:Int),(st t i k).getD [],(i:Int),(i:Int)-1)
  |none=>(best,rule,to,lowest,(i:Int)-1))):=by
  intro m;induction m with
  |zero=>
   intro j hj hno;obtain rfl:j=cs.2.length:=by omega
   rw[AD.2 hno];refine hU ?_;simp only[jX,ct,aL,ah,ay,kI (n:=(i:Int)-1) gu gu];rfl
  |succ m ih=>
   intro j hj hno;have hrec:rec cs t i ((cs.2.getD j default).1,(cs.2.getD j default).2.1,(cs.2.getD j default).2.2) d=some (jt (st t i j)):=h j gu;have hf:jX rec cs t d best rule to lowest i (j:Int)=some (match st t i j with|some u=>.inr (.inl ((i:Int),(j:Int),u,(i:Int),(i:Int)-1))|none=>.inl ((j:Int)+1)):=by
    simp only[jX,show(j:Int)<cs.2.length by omega,show(0:Int)<=j by omega,aW,aC,aj,az,hrec,aa,kI (n:=(j:Int)+1) gu gu,kI (n:=(i:Int)-1) gu gu];cases st t i j<;>simp[jt]
   cases hs:st t i j with
   |none=>
    rw[hs]at hf;rw[jN hf,show((j:Int)+1)=((j+1:Nat):Int) by omega];refine ih (j+1) gu fun k hk=>?_
    by_cases hkj:k=j
    ·rw[hkj];exact hs
    ·exact hno k gu
   |some u=>
    rw[hs]at hf;rw[AE.2 ⟨⟨gu,by rw[hs];rfl⟩,hno⟩];exact hU (by rw[hf];simp[hs])
 exact key cs.2.length 0 gu fun k hk=>by omega
end
abbrev G7(cs:mY)(st:oS):Prop:=∀(t:fI)(i k:Nat),gE cs.1 t=true->i<t.length->k<cs.2.length->t.getD i default<0->st t i k=none
def zC(cs:mY)(st:oS)(t:fI):Int×Int×fI:=match nG cs st t with
 |none=>(-1,0,[])
 |some p=>((p.1:Int),(p.2:Int),(st t p.1 p.2).getD [])
theorem Fw{cs:mY}{st:oS}{t:fI}{i j:Nat}(h:za cs st t i=some j):i<=j/\j<t.length/\vP cs st t j=true/\∀q<j,i<=q->vP cs st t q=false:=by
 unfold za at h;obtain⟨h1,h2,h3⟩:=cT.1 h;simp only[bq,aQ]at h1;refine⟨h1.1,bY.1 h2,h1.2,fun q hq hi=>?_⟩;have:=h3 q hq;simpa[hi]using this
theorem MK{cs:mY}{st:oS}{t:fI}{i:Nat}(h:za cs st t i=none){q:Nat}(hi:i<=q)(hq:q<t.length):vP cs st t q=false:=by
 unfold za at h;have:=eH.1 h q (bY.2 hq);simpa[hi]using this
theorem zP{cs:mY}{st:oS}{t:fI}{i:Nat}(h:oP st cs.2.length t i=none):vP cs st t i=false:=by unfold vP;rw[h];rfl
theorem Qd{cs:mY}{st:oS}{t:fI}{i:Nat}(h:vP cs st t i=false):Eo cs st t i=((Eo cs st t (i+1)).1,(Eo cs st t (i+1)).2.1,(Eo cs st t (i+1)).2.2.1,(Eo cs st t (i+1)).2.2.2.1,(i:Int)-1):=by
 unfold Eo;rw[ML h];cases za cs st t (i+1)<;>rfl
section
variable{cs:mY}{t:fI}{d:Int}{st:oS}{rec:G_}
theorem Ke(hn:cs.2.length<=12)(hr:Db cs d st rec)(hv:G7 cs st)(ht:gE cs.1 t=true){i:Nat}(hi:i<t.length):
 jd rec cs t d (Eo cs st t (i+1))=some (.inl (Eo cs st t i)):=by
 obtain⟨ha,hm,hl,hw⟩:=gH.1 ht;obtain⟨best,rule,to,lowest,hst⟩:∃best rule to lowest,Eo cs st t (i+1)=(best,rule,to,lowest,(i:Int)):=by
  unfold Eo;cases za cs st t (i+1)with
  |none=>exact⟨_,_,_,_,by rw[show(((i+1:Nat):Int)-1)=i by omega]⟩
  |some j=>exact⟨_,_,_,_,by rw[show(((i+1:Nat):Int)-1)=i by omega]⟩
 have hend:nH cs.1 t i=some (uR cs.1 t i):=sN ha (show t.length<_ by omega) (fun x hx=>(hw.all x hx).1) gu;have hsame:vP cs st t i=false->(best,rule,to,lowest,(i:Int)-1)=Eo cs st t i:=fun h=>by rw[Qd h,hst]
 rw[hst];simp only[jd,show(0:Int)<=i by omega,show(i:Int)<t.length by omega,aW,aC,aj,az,hend,aa,kI (n:=(i:Int)-1) gu gu,aQ];by_cases hneg:t.getD i default<0
 ·rw[aE hneg,hsame (zP (AD.2 fun k hk=>hv t i k ht hi hk hneg))]
 rw[aJ hneg];by_cases hlow:lowest<uR cs.1 t i
 ·rw[aE hlow,hsame];unfold Eo at hst;cases hx:za cs st t (i+1)with
  |none=>
   rw[hx]at hst;have:=(wG ht hi).2;simp only[cI]at hst;omega
  |some j=>
   rw[hx]at hst;simp only[cI]at hst;obtain⟨h1,h2,h3,h4⟩:=Fw hx;have hjr:oP st cs.2.length t j≠none:=fun hc=>by rw[zP hc]at h3;cases h3
   unfold vP;rw[Bool.and_eq_false_iff];right;rw[List.all_eq_false];exact⟨j,bY.2 h2,by rw[aQ];exact fun hc=>hjr (hc ⟨gu,gu⟩)⟩
 ·rw[aJ hlow,Kc hn gu (fun k hk=>hr t i k ht hi hk)];cases hk:oP st cs.2.length t i with
  |none=>simp only[hsame (zP hk)]
  |some k=>
   have hin:vP cs st t i=true:=by
    unfold vP;rw[hk];rw[bq];refine⟨rfl,cc.2 fun p hp=>cB fun hc=>?_⟩;cases hkp:oP st cs.2.length t p with
    |none=>rfl
    |some k'=>
     exfalso;have hp':=bY.1 hp;obtain⟨q,q1,q2,q3⟩:=DH ht (uR cs.1 t p).toNat p hp' gu (by rw[hkp];simp);have hnest:=E6 ht hi (fo hc.1) hc.2;have hqe:=(wG ht hp').2;unfold Eo at hst;cases hx:za cs st t (i+1)with
     |none=>rw[MK hx (q:=q) gu gu]at q3;cases q3
     |some j=>
      rw[hx]at hst;simp only[cI]at hst;obtain⟨h1,h2,h3,h4⟩:=Fw hx;by_cases hqj:q<j
      ·rw[h4 q hqj gu]at q3;cases q3
      ·omega
   have e:Eo cs st t i=((i:Int),(k:Int),(st t i k).getD [],(i:Int),(i:Int)-1):=by
    unfold Eo Bh;rw[Sn hi hin];simp[hk]
   simp only[e]
theorem Bs(hn:cs.2.length<=12)(hr:Db cs d st rec)(hv:G7 cs st)(ht:gE cs.1 t=true):
 jP rec cs t d=some (zC cs st t):=by
 obtain⟨ha,hm,hl,hw⟩:=gH.1 ht;have hlast:jd rec cs t d (Eo cs st t 0)=some (.inr (zC cs st t)):=by
  unfold Eo zC nG;have e0:za cs st t 0=(List.range t.length).find? (vP cs st t):=by unfold za;simp
  rw[e0];cases hx:(List.range t.length).find? (vP cs st t)with
  |none=>simp[jd]
  |some j=>
   obtain⟨h1,h2,h3⟩:=cT.1 hx;cases hk:oP st cs.2.length t j with
   |none=>rw[zP hk]at h1;cases h1
   |some k=>simp[jd,Bh,hk]
 have h0:((-1:Int),(0:Int),([]:fI),(t.length:Int),(IntKind.i64.wrap ((t.length:Int)-1)))=Eo cs st t t.length:=by
  unfold Eo;have:za cs st t t.length=none:=by
   unfold za;rw[eH];intro j hj;have:=bY.1 hj;simp;omega
  rw[this,kI gu gu]
 unfold jP;rw[h0];have:=pJ (n:=t.length) (fun i=>Eo cs st t (t.length-i)) (c:=zC cs st t) (f:=jd rec cs t d) (fun i hi=>by
  have e:t.length-i=(t.length-(i+1))+1:=gu;show jd rec cs t d (Eo cs st t (t.length-i))=_;rw[e];exact Ke hn hr hv ht gu) (by
  show jd rec cs t d (Eo cs st t (t.length-t.length))=_;rw[Nat.sub_self];exact hlast)
 simpa using this
end
theorem J7{cs:mY}{d:Int}{st:oS}{rec:G_}(hn:cs.2.length<=12)(hk:xP cs st)(hr:Db cs d st rec)(hv:G7 cs st){t:fI}(ht:gE cs.1 t=true):
 i_ rec cs t d=some (jt (rH cs st 8 t)):=by
 have key:∀(n:Nat)(now:fI),n<=8->gE cs.1 now=true->gI (jD rec cs d) (now,(n:Int))=some (jt (rH cs st n now)):=by
  intro n;induction n with
  |zero=>
   intro now _ hw;refine hU ?_;simp only[jD,Bs hn hr hv hw,aa,rH,zC];cases nG cs st now with
   |none=>simp[jt]
   |some p=>
    have:¬(p.1:Int)<0:=by omega
    simp[jt,this,ud]
  |succ n ih=>
   intro now h8 hw;cases hp:nG cs st now with
   |none=>
    refine hU ?_;simp only[jD,Bs hn hr hv hw,aa,rH,zC,hp];simp[jt]
   |some p=>
    obtain⟨p1,p2,p3⟩:=qF hp;obtain⟨u,hu⟩:=Option.isSome_iff_exists.1 p3;have hz:(((n+1:Nat):Int)==0)=false:=cw.2 gu;have hf:jD rec cs d (now,((n+1:Nat):Int))=some (.inl (u,(n:Int))):=by
     simp only[jD,Bs hn hr hv hw,aa,zC,hp,show ¬(p.1:Int)<0 by omega,aL,ah,ay,ud,hz,aj,hu,Option.getD_some];rw[kI gu gu,show((n+1:Nat):Int)-1=(n:Int) by omega]
    rw[jN hf,ih u gu (hk _ _ _ _ hw p1 p2 hu),rH,hp];simp only[hu,aa]
 unfold i_;exact key 8 t gu ht
theorem Eb{rec:G_}{cs:mY}{t:fI}{i:Int}{r:ye}{d:Int}:ot rec cs t i r d=iY rec cs t i r d:=by
 funext s;obtain⟨v,b⟩:=s;rw[ot,iY]
section
variable{cs:mY}{d:Int}{rec:G_}{r:ye}{t:fI}{p:Nat}
abbrev Uy(a:fI)(t:fI)(p:Nat)(v:fI)(b:Bd):Option fI:=(oo (Tm.sig b) v).bind fun v=>zD a t p v
theorem FJ(hput:∀v:fI,v.length<=60->nX cs.1 t p v=some (jt (zD cs.1 t p v)))(hR:gE cs.1 r.2.1=true){b:Bd}(hg:CT cs.1 b):
 gI (iY rec cs t p r d) ((r.2.2.length:Int),b)=some (jt (Uy cs.1 t p r.2.1 b)):=by
 refine hU ?_;simp only[iY,ct,aL,ah,ay,hg.len,aj,jw,aa,(zl hg.sub hR).1,Uy];cases hv:oo (Tm.sig b) r.2.1 with
 |none=>simp[jt]
 |some v=>
  have hvo:=vb hg hR hv;simp[jt,hput v (gH.1 hvo).2.2.1]
theorem Ts{a q t:fI}{b:Bd}(hq:gE a q=true)(ht:gE a t=true)(hg:CT a b):∃o,kB a q t b=some o/\z_ (uL a q t b) o/\o.1.length=24:=by
 obtain⟨ha,_,h1,h2⟩:=gH.1 hq;obtain⟨_,_,h3,h4⟩:=gH.1 ht;obtain⟨o,e1,e2⟩:=(vW ha h2 h4 h1 h3 hg.len hg.to).get;exact⟨o,e1,e2⟩
theorem Km{nf:fI->Option fI}(hnf:∀x,gE cs.1 x=true->i_ rec cs x (IntKind.i64.wrap (d-1))=some (jt (nf x)))
 (hkeep:∀x y,gE cs.1 x=true->nf x=some y->gE cs.1 y=true) (hr:r.2.2.length<=2)
 (hput:∀v:fI,v.length<=60->nX cs.1 t p v=some (jt (zD cs.1 t p v))) (hR:gE cs.1 r.2.1=true):
 ∀(ms:List fJ)(i:Nat)(b:Bd)(l:fI),r.2.2.drop i=ms->i+ms.length=r.2.2.length->rF cs.1 l ms r.2.1=true->CT cs.1 b->
  gI (iY rec cs t p r d) ((i:Int),b)=some (jt ((pP cs.1 nf ms b).bind (Uy cs.1 t p r.2.1))):=by
 intro ms;induction ms with
 |nil=>
  intro i b l hdr hi hc hg;obtain rfl:i=r.2.2.length:=by simpa using hi
  rw[FJ hput hR hg];rfl
 |cons c ms ih=>
  intro i b l hdr hi hc hg;simp only[aK]at hi;obtain⟨g1,g2,g3⟩:=drop_cons hdr;rw[rF,bq,bq]at hc;obtain⟨h1,h2,h3⟩:=hc;simp only[xS,bq]at h1;have hf:iY rec cs t p r d ((i:Int),b)=(m_ b c.1).bind fun r_4=>if r_4.2=true then(i_ rec cs r_4.1 (IntKind.i64.wrap (d-1))).bind fun r_5=>if r_5.2=true then(kB cs.1 c.2 r_5.1 b).bind fun r_6=>if r_6.1.length=24 then if r_6.2=true then some (.inl ((i:Int)+1,r_6.1))else some (.inr ([],false))else none else some (.inr ([],false))else some (.inr ([],false)):=by
   simp only[iY,show(i:Int)<r.2.2.length by omega,show(0:Int)<=i by omega,aW,aC,aj,az,g2,hg.len,jw,aa,eX,kI (n:=(i:Int)+1) gu gu];rfl
  rw[(zl hg.sub h1.1).1,aa]at hf;rw[pP];cases hx:oo (Tm.sig b) c.1 with
  |none=>
   rw[hx]at hf;exact hU (by rw[hf];rfl)
  |some x=>
   have hxo:=vb hg h1.1 hx;rw[hx]at hf;simp only[jt,aj,hnf x hxo,aa]at hf;rw[aa];cases hy:nf x with
   |none=>
    rw[hy]at hf;exact hU (by rw[hf];rfl)
   |some y=>
    have hyo:=hkeep x y hxo hy;obtain⟨q,q1,q2,q3⟩:=Ts h1.2 hyo hg;rw[hy]at hf;simp only[jt,aj,q1,aa,q3]at hf;rw[aa];cases hm:uL cs.1 c.2 y b with
    |none=>
     rw[hm]at q2;have q2':q.2=false:=q2;rw[q2']at hf;exact hU (by rw[hf];rfl)
    |some b2=>
     rw[hm]at q2;have q2':q=(b2,true):=q2;rw[q2']at hf;simp only[aj]at hf;rw[jN hf,aa,show((i:Int)+1)=((i+1:Nat):Int) by omega];obtain⟨m1,_,m3,m4⟩:=xG hg h1.2 hyo hm;exact ih (i+1) b2 (l++c.2) g3 gu h3 m1
end
theorem EV{cs:mY}{nf:Option (fI->Option fI)}(hc:mV cs=true):G7 cs (G3 cs nf):=fun t i k ht hi hk hneg=>by
 obtain⟨ha,_,hr⟩:=mF.1 hc;obtain⟨_,_,_,hw⟩:=gH.1 ht;obtain⟨h1,_,h3,_,_⟩:=jS.1 (hr _ (iQ hk));obtain⟨p,s,q,e,hp,hs⟩:=hw.place hi;have hat:iz cs.1 t i=s:=by rw[e,<-hp];exact A0 hs
 unfold G3 yC;rw[hat];have hsne:=hs.ne;cases s with
 |nil=>exact absurd rfl hsne
 |cons x s=>
  have hx:x<0:=by
   have:t.getD i default=x:=by rw[e,<-hp];simp
   rw[<-this];exact hneg
  have:uL cs.1 (cs.2.getD k default).1 (x::s) k_=none:=by
   cases hl:(cs.2.getD k default).1 with
   |nil=>rw[hl]at h1;simp[gH]at h1
   |cons f l=>
    rw[hl]at h3;simp only[List.headD_cons]at h3;rw[yE gu,aJ gu]
  rw[this];rfl
theorem FI{cs:mY}(hc:mV cs=true):∀d,G7 cs (CR cs d)
 |0=>EV hc
 |d+1=>EV hc
abbrev LeI(f g:G_):Prop:=∀cs t i r d,Le (f cs t i r d) (g cs t i r d)
section
variable{f g:G_}(h:LeI f g)
include h
theorem Kb(cs:mY)(t:fI)(d:Int):Le (jP f cs t d) (jP g cs t d):=by
 unfold jP;refine Le.loop (fun s=>?_) _;obtain⟨a,b,c,e,i⟩:=s;unfold jd;refine Le.ite (fun _=>Le.ite (fun _=>Le.ite (fun _=>Le.refl _) fun _=>Le.bind (Le.refl _) fun _=>Le.ite (fun _=>Le.refl _) fun _=>Le.loop (fun s=>?_) _) fun _=>Le.refl _) fun _=>Le.refl _
 unfold jX;exact Le.ite (fun _=>Le.ite (fun _=>Le.bind (h _ _ _ _ _) fun _=>Le.refl _) fun _=>Le.refl _) fun _=>Le.refl _
theorem Gy(cs:mY)(t:fI)(d:Int):Le (i_ f cs t d) (i_ g cs t d):=by
 unfold i_;refine Le.loop (fun s=>?_) _;obtain⟨now,k⟩:=s;unfold jD;exact Le.bind (Kb h cs now d) fun _=>Le.refl _
theorem Ah(cs:mY)(t:fI)(i:Int)(r:ye)(d:Int)(s:Int×Bd):Le (gI (iY f cs t i r d) s) (gI (iY g cs t i r d) s):=by
 refine Le.loop (fun s=>?_) _;obtain⟨v,b⟩:=s;unfold iY;exact Le.ite (fun _=>Le.ite (fun _=>Le.ite (fun _=>Le.bind (Le.refl _) fun _=>Le.bind (Le.refl _) fun _=>Le.ite (fun _=>Le.bind (Gy h _ _ _) fun _=>Le.refl _) fun _=>Le.refl _) fun _=>Le.refl _) fun _=>Le.refl _) fun _=>Le.refl _
end
theorem AH:∀(n:Nat),LeI (iO n) (iO (n+1))
 |0=>fun cs t i r d=>by rw[iO];exact Le.none _
 |n+1=>fun cs t i r d=>by
  rw[iO,iO];simp only[Eb];exact Le.bind (Le.refl _) fun _=>Le.bind (Le.refl _) fun _=>Le.ite (fun _=>Le.ite (fun _=>Le.ite (fun _=>Le.ite (fun _=>Le.refl _) fun _=>Ah (AH n) _ _ _ _ _ _) fun _=>Ah (AH n) _ _ _ _ _ _) fun _=>Le.refl _) fun _=>Le.refl _
theorem Gk{cs:mY}(hc:mV cs=true):∀(d:Nat),d<=2->Db cs (d:Int) (CR cs d) (iO (d+1)):=by
 obtain⟨ha,hn,hrs⟩:=mF.1 hc;have body:∀(n:Nat)(d:Int)(nf:fI->Option fI)(nfo:Option (fI->Option fI)),
  ((d=0/\nfo=none)\/(d≠0/\nfo=some nf/\(∀x,gE cs.1 x=true->i_ (iO n) cs x (IntKind.i64.wrap (d-1))=some (jt (nf x)))/\∀x y,gE cs.1 x=true->nf x=some y->gE cs.1 y=true))->
  Db cs d (G3 cs nfo) (iO (n+1)):=by
  intro n d nf nfo hd t i k ht hi hk;obtain⟨_,_,hl,hw⟩:=gH.1 ht;have hm24:∀x∈t, -24<=x:=fun x hx=>(hw.all x hx).1
  have hrk:=hrs _ (iQ hk);obtain⟨h1,h2,_,h4,h5⟩:=jS.1 hrk;obtain⟨p,s,q,e,hp,hs⟩:=hw.place hi;have hat:iz cs.1 t i=s:=by rw[e,<-hp];exact A0 hs
  have hsl:s.length<=60:=by rw[e]at hl;simp at hl;omega
  have hso:=pe ha hs hsl;have hdr:t.drop i=s++q:=by rw[e,<-hp];exact bI
  have hsub:mP cs.1 t i=some s:=qI ha (show t.length<_ by omega) hm24 hdr hs;have hput:∀v:fI,v.length<=60->nX cs.1 t i v=some (jt (zD cs.1 t i v)):=fun v hv=>by
   have:=uY (p:=p) (s:=q) ha hs (by rw[<-e];exact hm24) (by rw[<-e];exact hl) hv;rwa [<-e,hp]at this
  obtain⟨o,o1,o2,o3⟩:=Ts h1 hso (xl (a:=cs.1));have o1':kB cs.1 (cs.2.getD k default).1 s (List.replicate 24 [])=some o:=o1;rw[iO,hsub,aa,o1',aa,aE o3];unfold G3 yC;rw[hat];cases hm:uL cs.1 (cs.2.getD k default).1 s k_ with
  |none=>
   rw[hm]at o2;have o2':o.2=false:=o2;simp[o2',jt]
  |some b=>
   rw[hm]at o2;have o2':o=(b,true):=o2;obtain⟨m1,_,m3,m4⟩:=xG xl h1 hso hm;rw[o2',aE rfl,aa];by_cases hz:(cs.2.getD k default).2.2=[]
   ·have hlen:(cs.2.getD k default).2.2.length=0:=by rw[hz];rfl
    have hend:=FJ (rec:=iO n) (d:=d) (r:=cs.2.getD k default) hput h2 m1;rw[hlen]at hend;rw[hlen,aJ (by decide),Eb,aE hz,aa];exact hend
   ·have hlen:0<(cs.2.getD k default).2.2.length:=bT.2 hz;rw[aE (cB gu),aJ hz];rcases hd with⟨d0,rfl⟩|⟨d1,rfl,hnf,hkeep⟩
    ·rw[aE (by rw[d0];rfl)];rfl
    ·rw[aJ (by simpa using d1)];exact Km (r:=cs.2.getD k default) hnf hkeep h4 hput h2 _ 0 b _ (by simp) (by simp) h5 m1
 intro d;induction d with
 |zero=>intro _;exact body 0 0 (fun _=>none) none (.inl ⟨rfl,rfl⟩)
 |succ d ih=>
  intro h2;have ihd:=ih gu;exact body (d+1) ((d+1:Nat):Int) (rH cs (CR cs d) 8) _ (.inr ⟨gu,rfl,fun x hx=>by
   rw[kI gu gu,show((d+1:Nat):Int)-1=(d:Int) by omega];exact J7 hn (vT hc d) ihd (FI hc d) hx,fun x y hx hy=>xy (vT hc d) hx hy⟩)
theorem Af{cs:mY}(hc:mV cs=true){d:Nat}(hd:d<=2){t:fI}{i k:Nat}(ht:gE cs.1 t=true)(hi:i<t.length)(hk:k<cs.2.length):
 kA cs t i (cs.2.getD k default) d=some (jt (CR cs d t i k)):=by
 unfold kA;exact CZ (fun n=>AH n cs t i _ d) (Gk hc d hd t i k ht hi hk)
theorem wU(cs:mY)(t:fI)(i k d:Int):qd cs t i k d=some (jt (BN cs t i k d)):=by
 unfold qd BN;rw[AP,aa];cases hr:yw cs t d with
 |false=>simp[jt]
 |true=>
  obtain⟨hc,ht,d0,d2⟩:=Ar.1 hr;simp only[aj,cx,aQ];by_cases hi0:i<0
  ·rw[aE hi0,aJ gu];rfl
  rw[aJ hi0];by_cases hi1:(t.length:Int)<=i
  ·rw[aE hi1,aJ gu];rfl
  rw[aJ hi1];by_cases hk0:k<0
  ·rw[aE hk0,aJ gu];rfl
  rw[aJ hk0];by_cases hk1:(cs.2.length:Int)<=k
  ·rw[aE hk1,aJ gu];rfl
  rw[aJ hk1,aE gu,aE gu];have h:=Af hc (d:=d.toNat) gu ht (i:=i.toNat) (k:=k.toNat) gu gu;rw[show((i.toNat:Nat):Int)=i by omega,show((d.toNat:Nat):Int)=d by omega]at h;have h':kA cs t i ((cs.2.getD k.toNat default).1,(cs.2.getD k.toNat default).2.1,(cs.2.getD k.toNat default).2.2) d=some (jt (CR cs d.toNat t i.toNat k.toNat)):=h;rw[h',aa]
theorem sA{xs:List fI}(hl:xs.length<=3)(hs:∀u∈xs,u.length<=1000):iy xs=some xs.flatten:=by
 have hfl:∀i,i<=xs.length->(xs.take i).flatten.length<=1000*i:=fun i=>by
  induction i with
  |zero=>simp
  |succ i ih=>
   intro hi;have h1:i<xs.length:=by omega
   rw[cY,aA h1,dc,au];have:=ih gu;have:=hs _ (bu h1);simp only[fc,cm,fB,bh];omega
 have tk:∀i (h1:i<xs.length),(xs.take (i+1)).flatten=(xs.take i).flatten++xs[i]:=fun i h1=>by rw[cY,aA h1,dc];simp
 have key:iu True (iy xs) (·=xs.flatten):=by
  unfold iy;refine iu.loop (fun q:Int×Int=>∃i:Nat,q.2=i/\i<=xs.length/\q.1=((xs.take i).flatten.length:Int)) (fun q:Int×Int=>xs.length-q.2.toNat) ⟨0,rfl,gu,by simp⟩ ?_;rintro⟨_,_⟩ ⟨i,rfl,h1,rfl⟩;simp only[lR];have hb:=hfl i h1;by_cases hi:i<xs.length
  ·have hu:=hs _ (bu hi);simp only[show(i:Int)<xs.length by omega,aC,aj,show(0:Int)<=i by omega,aW,az,iM hi,kI (n:=(i:Int)+1) gu gu,
    kI (n:=((xs.take i).flatten.length:Int)+(xs[i].length:Int)) gu gu,show ¬((xs.take i).flatten.length:Int)+(xs[i].length:Int)<0 by omega,aL,ah,ay]
   exact .some ⟨⟨i+1,by simp,gu,by rw[tk i hi];simp⟩,by simp;omega⟩
  ·simp only[show ¬(i:Int)<xs.length by omega,aL,ah,ay,nj,show 0<=((xs.take i).flatten.length:Int)/\((xs.take i).flatten.length:Int)*8<=140737488355328 by omega,aW,aj,aa];refine iu.inr ?_;simp only[wj];refine iu.loop (fun q:fI×Int=>∃i:Nat,q.2=i/\i<=xs.length/\q.1=(xs.take i).flatten) (fun q:fI×Int=>xs.length-q.2.toNat) ⟨0,rfl,gu,by simp⟩ ?_;rintro⟨_,_⟩ ⟨j,rfl,h2,rfl⟩;simp only[lS];have hb:=hfl j h2;by_cases hj:j<xs.length
   ·have hu:=hs _ (bu hj);simp only[show(j:Int)<xs.length by omega,aC,aj,show(0:Int)<=j by omega,aW,az,iM hj,kI (n:=(j:Int)+1) gu gu,
     show((xs.take j).flatten.length+xs[j].length)*8<=140737488355328 by omega]
    exact .some ⟨⟨j+1,by simp,gu,by rw[tk j hj]⟩,by simp;omega⟩
   ·simp only[show ¬(j:Int)<xs.length by omega,aL,ah,ay,aX];refine .some ?_;simp only[wj];rw[bM gu]
 exact key.eq
theorem KH:∀{l m:fI},l.Pairwise (·<·)->m.Pairwise (·<·)->(∀x,x∈l<->x∈m)->l=m
 |[],[],_,_,_=>rfl
 |[],y::m,_,_,h=>by have:=(h y).2 (by simp);simp at this
 |x::l,[],_,_,h=>by have:=(h x).1 (by simp);simp at this
 |x::l,y::m,hl,hm,h=>by
  rw[di]at hl hm;have e:x=y:=by
   rcases bt.1 ((h x).1 (by simp))with h1|h1
   ·exact h1
   ·rcases bt.1 ((h y).2 (by simp))with h2|h2
    ·exact h2.symm
    ·have:=hl.1 y h2;have:=hm.1 x h1;omega
  subst e;rw[KH hl.2 hm.2 fun z=>⟨fun hz=>?_,fun hz=>?_⟩]
  ·rcases bt.1 ((h z).1 (by simp[hz]))with h1|h1
   ·have:=hl.1 z hz;omega
   ·exact h1
  ·rcases bt.1 ((h z).2 (by simp[hz]))with h1|h1
   ·have:=hm.1 z hz;omega
   ·exact h1
theorem K5{n:Int}:∀{l:fI},l.Pairwise (·<·)->(ins n l).Pairwise (·<·)
 |[],_=>by simp[ins]
 |x::l,h=>by
  rw[di]at h;unfold ins;by_cases h1:x<n
  ·rw[aE h1,di];refine⟨fun y hy=>?_,K5 h.2⟩;rcases Gn.1 hy with rfl|hy
   ·exact h1
   ·exact h.1 y hy
  ·rw[aJ h1];by_cases h2:x=n
   ·rw[aE h2];exact di.2 h
   ·rw[aJ h2,di];refine⟨fun y hy=>?_,di.2 h⟩;rcases bt.1 hy with rfl|hy
    ·omega
    ·have:=h.1 y hy;omega
theorem zX:∀{t v:fI},v.Pairwise (·<·)->(jH v t).Pairwise (·<·)
 |[],v,h=>h
 |x::t,v,h=>by
  show(jH (if x<0 then ins (-1-x) v else v) t).Pairwise (·<·);split
  ·exact zX (K5 h)
  ·exact zX h
theorem E9:∀{cs:List fJ}{v:fI},v.Pairwise (·<·)->(cs.foldl (fun v c=>jH v c.2) v).Pairwise (·<·)
 |[],v,h=>h
 |c::cs,v,h=>E9 (cs:=cs) (zX h)
theorem E_{m:Int}:∀{cs:List fJ}{v:fI},m∈cs.foldl (fun v c=>jH v c.2) v<->m∈v\/∃x∈cs.flatMap (·.2),x<0/\m= -1-x
 |[],v=>by simp
 |c::cs,v=>by
  rw[cE,E_ (cs:=cs),sk,or_assoc];simp only[cn,aG];constructor
  ·rintro(h|⟨x,h1,h2⟩|⟨x,h1,h2⟩)
   ·exact .inl h
   ·exact .inr ⟨x,.inl h1,h2⟩
   ·exact .inr ⟨x,.inr h1,h2⟩
  ·rintro(h|⟨x,h1|h1,h2⟩)
   ·exact .inl h
   ·exact .inr (.inl ⟨x,h1,h2⟩)
   ·exact .inr (.inr ⟨x,h1,h2⟩)
theorem Fb{m:Int}:∀{cs:List fJ}{v:fI},m∈cs.foldl (fun v c=>jH (jH v c.1) c.2) v<->m∈v\/∃x∈cs.flatMap (fun c=>c.1++c.2),x<0/\m= -1-x
 |[],v=>by simp
 |c::cs,v=>by
  rw[cE,Fb (cs:=cs),sk,sk,or_assoc,or_assoc];simp only[cn,aG];constructor
  ·rintro(h|⟨x,h1,h2⟩|⟨x,h1,h2⟩|⟨x,h1,h2⟩)
   ·exact .inl h
   ·exact .inr ⟨x,.inl (.inl h1),h2⟩
   ·exact .inr ⟨x,.inl (.inr h1),h2⟩
   ·exact .inr ⟨x,.inr h1,h2⟩
  ·rintro(h|⟨x,(h1|h1)|h1,h2⟩)
   ·exact .inl h
   ·exact .inr (.inl ⟨x,h1,h2⟩)
   ·exact .inr (.inr (.inl ⟨x,h1,h2⟩))
   ·exact .inr (.inr (.inr ⟨x,h1,h2⟩))
def IL(t:fI):fI:=((List.range 24).map fun i:Nat=>(i:Int)).filter fun i=>decide (-1-i∈t)
theorem SX(t:fI):(IL t).Pairwise (·<·):=by
 refine List.Pairwise.filter _ ?_;rw[List.pairwise_map];exact List.pairwise_lt_range.imp fun h=>by omega
theorem GQ{t:fI}{m:Int}:m∈IL t<->(0<=m/\m<24)/\ -1-m∈t:=by
 simp only[IL,dm,bF,bY,aQ];constructor
 ·rintro⟨⟨i,h1,rfl⟩,h2⟩;exact⟨gu,h2⟩
 ·rintro⟨h1,h2⟩;exact⟨⟨m.toNat,gu,gu⟩,h2⟩
theorem BD{t:fI}(hs:Small t):qP t=some (IL t):=by
 unfold qP;have:=pJ (n:=24) (fun j=>((((List.range j).map fun i:Nat=>(i:Int)).filter fun i=>decide (-1-i∈t)),(j:Int))) (c:=IL t) (f:=qe t) (fun j hj=>by
  have hl:((((List.range j).map fun i:Nat=>(i:Int)).filter fun i=>decide (-1-i∈t)).length)<=24:=bP (dH _ _) (by simp;omega);simp only[qe,show(j:Int)<24 by omega,aC,aj,kI (n:= -1-(j:Int)) gu gu,pE hs,aa,kI (n:=(j:Int)+1) gu gu,show((((List.range j).map fun i:Nat=>(i:Int)).filter fun i=>decide (-1-i∈t)).length+1)*8<=140737488355328 by omega];rw[eu,aP,fh];by_cases hm: -1-(j:Int)∈t
  ·rw[aE (by simpa using hm),aT,eO (by simpa using hm)];simp
  ·rw[aJ (by simpa using hm),aT,eP (by simpa using hm)];simp) (by simp[qe,IL])
 simpa using this
def tY(r:ye)(i:Nat):fI:=r.1++(r.2.2.take i).flatMap (·.2)
def BJ(r:ye)(i:Nat):fI:=((r.2.2.getD i default).2++r.2.1)++(r.2.2.drop (i+1)).flatMap fun c=>c.1++c.2
theorem HR{a:fI}{r:ye}(hr:qZ a r=true){i:Nat}(hi:i<r.2.2.length):(IL (tY r i)).filter (fun x=>decide (-1-x∈BJ r i))=nF r i:=by
 obtain⟨h1,h2,_,h4,h5⟩:=jS.1 hr;have hcs:=qN h5;refine KH ((SX _).filter _) ((E9 (zX List.Pairwise.nil)).filter _) fun x=>?_
 have hk:x∈rG r i<->∃y∈tY r i,y<0/\x= -1-y:=by
  unfold rG tY;rw[E_,sk];simp only[cS,false_or,aG];constructor
  ·rintro(⟨y,a1,a2⟩|⟨y,a1,a2⟩)
   ·exact⟨y,.inl a1,a2⟩
   ·exact⟨y,.inr a1,a2⟩
  ·rintro⟨y,a1|a1,a2⟩
   ·exact .inl ⟨y,a1,a2⟩
   ·exact .inr ⟨y,a1,a2⟩
 have hn:x∈xZ r i<->∃y∈BJ r i,y<0/\x= -1-y:=by
  unfold xZ BJ;rw[Fb,sk,sk];simp only[cS,false_or,aG];constructor
  ·rintro((⟨y,a1,a2⟩|⟨y,a1,a2⟩)|⟨y,a1,a2⟩)
   ·exact⟨y,.inl (.inr a1),a2⟩
   ·exact⟨y,.inl (.inl a1),a2⟩
   ·exact⟨y,.inr a1,a2⟩
  ·rintro⟨y,(a1|a1)|a1,a2⟩
   ·exact .inl (.inr ⟨y,a1,a2⟩)
   ·exact .inl (.inl ⟨y,a1,a2⟩)
   ·exact .inr ⟨y,a1,a2⟩
 have hb:∀y∈tY r i, -24<=y:=fun y hy=>by
  rcases aG.1 hy with hy|hy
  ·exact(jf h1).2 y hy
  ·obtain⟨c,c1,c2⟩:=List.mem_flatMap.1 hy;exact(jf (hcs c (bg c1)).2).2 y c2
 unfold nF;rw[dm,dm,aQ,aQ,GQ,hk,hn];constructor
 ·rintro⟨⟨a1,a2⟩,a3⟩;exact⟨⟨_,a2,gu,gu⟩,⟨_,a3,gu,gu⟩⟩
 ·rintro⟨⟨y,a1,a2,a3⟩,⟨z,b1,b2,b3⟩⟩;have e1: -1-x=y:=by omega
  have e2: -1-x=z:=by omega
  have:=hb y a1;exact⟨⟨gu,by rw[e1];exact a1⟩,by rw[e2];exact b1⟩
theorem vf{l:fI}(hs:Small l):jM l=some l:=by
 unfold jM;refine(iu.S8 (t:=True) (P:=(·=l)) ?_ fun h=>?_).eq
 ·rw[aE (by have:=hs;omega)];exact .some rfl
 ·subst h;simp
theorem E8{cs:List fJ}(h:∀c∈cs,c.1.length<=60/\c.2.length<=60):(cs.flatMap (·.2)).length<=60*cs.length/\(cs.flatMap fun c=>c.1++c.2).length<=120*cs.length:=by
 induction cs with
 |nil=>simp
 |cons c cs ih=>
  have h1:=h c (by simp);have h2:=ih fun c hc=>h c (by simp[hc])
  simp only[cn,au,aK];omega
theorem C7{a:fI}{r:ye}(hr:qZ a r=true){i:Nat}(hi:i<r.2.2.length):nP r i=some (nF r i):=by
 obtain⟨h1,h2,_,h4,h5⟩:=jS.1 hr;obtain⟨l1,x1⟩:=jf h1;obtain⟨l2,x2⟩:=jf h2;have hcs:=qN h5;have hc1:∀c∈r.2.2,c.1.length<=60/\c.2.length<=60:=fun c hc=>⟨(jf (hcs c hc).1).1,(jf (hcs c hc).2).1⟩
 have hci:=hc1 _ (iQ hi);unfold nP;rw[vf (show r.1.length<_ by omega),aa,aE gu,az,sA (by simp) (fun u hu=>by
  rcases bt.1 hu with rfl|hu
  ·omega
  ·rw[bS.1 hu];omega),aa]
 have hbl:∀j,(((r.2.2.take j).drop (i+1)).flatMap fun c=>c.1++c.2).length<=240:=fun j=>by
  have:=(E8 (cs:=(r.2.2.take j).drop (i+1)) fun c hc=>hc1 c (bg (bO hc))).2;have hl:((r.2.2.take j).drop (i+1)).length<=2:=by rw[bX,aU];omega
  omega
 have hgl:∀j,(((r.2.2.take j).take i).flatMap (·.2)).length<=120:=fun j=>by
  have:=(E8 (cs:=(r.2.2.take j).take i) fun c hc=>hc1 c (bg (bg hc))).1;have hl:((r.2.2.take j).take i).length<=2:=by rw[aU,aU];omega
  omega
 have A:=pJ (n:=r.2.2.length) (fun j=>(((r.2.2.getD i default).2++r.2.1)++((r.2.2.take j).drop (i+1)).flatMap fun c=>c.1++c.2,(j:Int),r.1++((r.2.2.take j).take i).flatMap (·.2))) (c:=nF r i) (f:=mB r i) (fun j hj=>by
  have hcj:=hc1 _ (iQ hj);have hb:=hbl j;have hg:=hgl j;have hlt:(r.2.2.take j).length=j:=by rw[aU];omega
  have d1:(r.2.2.take (j+1)).drop (i+1)=(r.2.2.take j).drop (i+1)++(if i<j then [r.2.2.getD j default]else []):=by
   rw[mX hj,List.drop_append,hlt];by_cases hij:i<j
   ·rw[aE hij,show i+1-j=0 by omega];rfl
   ·rw[aJ hij,bU (l:=[_]) (by simp;omega)]
  have d2:(r.2.2.take (j+1)).take i=(r.2.2.take j).take i++(if j<i then [r.2.2.getD j default]else []):=by
   rw[mX hj,List.take_append,hlt];by_cases hij:j<i
   ·rw[aE hij,bM (l:=[_]) (by simp;omega)]
   ·rw[aJ hij,show i-j=0 by omega];rfl
  simp only[mB,show(j:Int)<r.2.2.length by omega,aC,aj,show(0:Int)<=j by omega,aW,az,kI (n:=(j:Int)+1) gu gu,d1,d2,eZ];rcases Nat.lt_trichotomy j i with hij|hij|hij
  ·have hsz:((r.1++((r.2.2.take j).take i).flatMap (·.2)).length+(r.2.2.getD j default).2.length)*8<=140737488355328:=by rw[au];omega
   rw[aE (cB gu),aE hsz,aJ (by simp only[aQ];omega),aJ (show ¬i<j by omega),aE hij];simp
  ·rw[aJ (by simp only[aQ];omega),aJ (by simp only[aQ];omega),aJ (show ¬i<j by omega),aJ (show ¬j<i by omega)];simp
  ·rw[aJ (by simp only[aQ];omega),aE (cB gu),aE hij,aJ (show ¬j<i by omega),sA (by simp) (by
    intro u hu;simp only[bt,cS,or_false]at hu;rcases hu with rfl|rfl|rfl
    ·simp only[au];omega
    ·omega
    ·omega),aa]
   simp) (by
  have e1:r.2.2.take r.2.2.length=r.2.2:=cK;have hb:=hbl r.2.2.length;have hg:=hgl r.2.2.length;rw[e1]at hb hg;have hbs:Small (tY r i):=by show(tY r i).length<_;unfold tY;rw[au];omega
  have hds:Small (BJ r i):=by show(BJ r i).length<_;unfold BJ;rw[au,au];omega
  simp only[e1];have eg:mB r i (((r.2.2.getD i default).2++r.2.1)++(r.2.2.drop (i+1)).flatMap fun c=>c.1++c.2,(r.2.2.length:Int),r.1++(r.2.2.take i).flatMap (·.2))=Option.map Sum.inr ((qP (tY r i)).bind fun r_5=>gI (lG (BJ r i) r_5) ([],0)):=by
   simp only[mB,ct,aL,ah,ay];rfl
  rw[eg,BD hbs,aa];have hvl:(IL (tY r i)).length<=24:=bP (dH _ _) (by simp);have C:=pJ (n:=(IL (tY r i)).length) (fun j=>(((IL (tY r i)).take j).filter fun x=>decide (-1-x∈BJ r i),(j:Int))) (c:=nF r i) (f:=lG (BJ r i) (IL (tY r i))) (fun j hj=>by
   have hl:(((IL (tY r i)).take j).filter fun x=>decide (-1-x∈BJ r i)).length<=24:=bP (dH _ _) (by rw[aU];omega);have hx:=(GQ.1 (iQ hj)).1;simp only[lG,show(j:Int)<(IL (tY r i)).length by omega,aC,aj,show(0:Int)<=j by omega,aW,az,kI (n:= -1-(IL (tY r i)).getD j default) gu gu,pE hds,aa,kI (n:=(j:Int)+1) gu gu,show((((IL (tY r i)).take j).filter fun x=>decide (-1-x∈BJ r i)).length+1)*8<=140737488355328 by omega];rw[mX hj,fh];by_cases hm: -1-(IL (tY r i)).getD j default∈BJ r i
   ·rw[aE (by simpa using hm),eO (by simpa using hm)];simp
   ·rw[aJ (by simpa using hm),eP (by simpa using hm)];simp) (by
   have:=HR hr hi;simp[lG,this])
  have C':gI (lG (BJ r i) (IL (tY r i))) ([],0)=some (nF r i):=by simpa using C
  rw[C'];rfl)
 simpa using A
theorem yN{sym:Int}{t vars:fI}(ht:t.length<=60)(hv:vars.length<=1000)(hx:S5 vars):rQ sym t vars=some (wg sym t vars):=by
 unfold rQ;rw[sA (by simp) (by simp;omega),aa];have he:[[sym],t].flatten=[sym]++t:=by simp
 rw[he];refine DP (mk:=fun i out=>(out,i)) (xs:=vars) (g:=fun v=> -1-v) (out0:=[sym]++t) (fun i out x hi hm hg ho=>?_) ?_
 ·have:=hx x hm;have ho':out.length=t.length+1+i:=by simpa[eA]using ho
  simp only[sP,show(i:Int)<vars.length by omega,aC,aj,show(0:Int)<=i by omega,aW,az,hg,kI (n:= -1-x) gu gu,kI (n:=(i:Int)+1) gu gu,show(out.length+1)*8<=140737488355328 by omega]
 ·simp[sP,wg]
theorem FA{r:ye}{sym:Int}{j:Nat}(hj:j<r.2.2.length):((jq r sym).getD j default).2=wg (sym+j) (r.2.2.getD j default).1 (nF r j)/\((jq r sym).getD (j+1) default).1=wg (sym+j) (r.2.2.getD j default).2 (nF r j):=by
 constructor
 ·cases j with
  |zero=>
   simp only[jq,dU,hj,aj];rw[show sym+((0:Nat):Int)=sym by omega]
  |succ j=>
   have h:j<((List.range r.2.2.length).map (wP r sym)).length:=by simp;omega
   rw[jq,ez,iM h];simp only[dO,eG,wP,hj,aj];rw[show sym+(j:Int)+1=sym+((j+1:Nat):Int) by omega]
 ·have h:j<((List.range r.2.2.length).map (wP r sym)).length:=by simp;omega
  rw[jq,ez,iM h];simp only[dO,eG,wP]
theorem CB{r:ye}{sym:Int}:((jq r sym).getD r.2.2.length default).2=r.2.1:=by
 cases hl:r.2.2.length with
 |zero=>simp[jq,hl]
 |succ n=>
  have h:n<((List.range (n+1)).map (wP r sym)).length:=by simp
  rw[jq,ez,hl,iM h];simp only[dO,eG,wP,hl,Nat.lt_irrefl,ay]
theorem EC{cs:mY}{i:Nat}{a:fI}(hr:qZ a (cs.2.getD i default)=true)(hi:i<1000){ar:fI}{out:List fJ}(ha:ar.length<=1000)(ho:out.length<=1000):
 gI (kP cs i) ((cs.2.getD i default).1,0,ar,out)=some (.inl ((i:Int)+1,ar++Eu (cs.2.getD i default) (cs.2.getD i default).2.2.length,out++jq (cs.2.getD i default) ar.length)):=by
 obtain⟨h1,h2,_,h4,h5⟩:=jS.1 hr;obtain⟨l2,x2⟩:=jf h2;have hcs:=qN h5;have A:=pJ (n:=(cs.2.getD i default).2.2.length) (fun j=>(((jq (cs.2.getD i default) ar.length).getD j default).1,(j:Int),ar++Eu (cs.2.getD i default) j,out++(jq (cs.2.getD i default) ar.length).take j)) (c:=Sum.inl ((i:Int)+1,ar++Eu (cs.2.getD i default) (cs.2.getD i default).2.2.length,out++jq (cs.2.getD i default) ar.length)) (f:=kP cs i) (fun j hj=>by
  obtain⟨k1,k2⟩:=wJ hr j;have hm:=hcs _ (iQ hj);have e:nP ((cs.2.getD i default).1,(cs.2.getD i default).2.1,(cs.2.getD i default).2.2) (j:Int)=some (nF (cs.2.getD i default) j):=C7 hr hj;have hal:(ar++Eu (cs.2.getD i default) j).length=ar.length+j:=by simp[Eu]
  have htl:((jq (cs.2.getD i default) ar.length).take j).length=j:=by rw[aU,qG];omega
  have hol:(out++(jq (cs.2.getD i default) ar.length).take j).length=out.length+j:=by rw[au,htl]
  have hcast:((ar.length+j:Nat):Int)=(ar.length:Int)+(j:Int):=by omega
  obtain⟨r1,r2⟩:=FA (r:=cs.2.getD i default) (sym:=(ar.length:Int)) hj;simp only[kP,az,show(j:Int)<(cs.2.getD i default).2.2.length by omega,aC,aj,show(0:Int)<=j by omega,aW,e,aa,hal,hol,hcast,show(ar.length+j+1)*8<=140737488355328 by omega,show(out.length+j+1)*48<=140737488355328 by omega,
   yN (sym:=(ar.length:Int)+(j:Int)) (jf hm.1).1 (show(nF (cs.2.getD i default) j).length<=1000 by omega) k2,yN (sym:=(ar.length:Int)+(j:Int)) (jf hm.2).1 (show(nF (cs.2.getD i default) j).length<=1000 by omega) k2,
   kI (n:=1+((nF (cs.2.getD i default) j).length:Int)) gu gu,kI (n:=(j:Int)+1) gu gu]
  have hx:Eu (cs.2.getD i default) (j+1)=Eu (cs.2.getD i default) j++[1+((nF (cs.2.getD i default) j).length:Int)]:=by unfold Eu;rw[eu,aP];rfl
  have hlt:j<(jq (cs.2.getD i default) ar.length).length:=by rw[qG];omega
  rw[hx,mX hlt,aI,aI,r2,<-r1];rfl) (by
  have htl:((jq (cs.2.getD i default) ar.length).take (cs.2.getD i default).2.2.length).length=(cs.2.getD i default).2.2.length:=by rw[aU,qG];omega
  have hol:(out++(jq (cs.2.getD i default) ar.length).take (cs.2.getD i default).2.2.length).length=out.length+(cs.2.getD i default).2.2.length:=by rw[au,htl]
  have hall:jq (cs.2.getD i default) ar.length=(jq (cs.2.getD i default) ar.length).take (cs.2.getD i default).2.2.length++[(((jq (cs.2.getD i default) ar.length).getD (cs.2.getD i default).2.2.length default).1,(cs.2.getD i default).2.1)]:=by
   have hlt:(cs.2.getD i default).2.2.length<(jq (cs.2.getD i default) ar.length).length:=by rw[qG];omega
   have h:=mX hlt;rw[bM (by rw[qG];omega)]at h;refine h.trans ?_;rw[<-CB (r:=cs.2.getD i default) (sym:=(ar.length:Int))]
  simp only[kP,az,ct,aL,ah,ay,nR (show(cs.2.getD i default).2.1.length<_ by omega),aa,hol,show(out.length+(cs.2.getD i default).2.2.length+1)*48<=140737488355328 by omega,aj,kI (n:=(i:Int)+1) gu gu];rw[aI,<-hall];rfl)
 simpa[Eu,jq]using A
theorem wV{cs:mY}(hc:mV cs=true):lQ cs=some (ju cs,lD (ju cs)):=by
 obtain⟨ha,hn,hrs⟩:=mF.1 hc;have hal:=(oC.1 ha).2.1;have h2:∀r∈cs.2,r.2.2.length<=2:=fun r hr=>(jS.1 (hrs r hr)).2.2.2.1
 unfold lQ;rw[vf (show cs.1.length<_ by omega),aa];have A:=pJ (n:=cs.2.length) (fun j=>((j:Int),((cs.2.take j).foldl lB (cs.1,[])).1,((cs.2.take j).foldl lB (cs.1,[])).2)) (c:=(ju cs,lD (ju cs))) (f:=lX cs) (fun j hj=>by
  have hl:=GO (rs:=cs.2.take j) (acc:=(cs.1,[])) (m:=8) (fun r hr=>h2 r (bg hr)) hal (by simp);have htl:(cs.2.take j).length<=12:=by rw[aU];omega
  have hr:=hrs _ (iQ hj);have hl1:=(jf (jS.1 hr).1).1;simp only[lX,show(j:Int)<cs.2.length by omega,aC,aj,show(0:Int)<=j by omega,aW,az,nR (show(cs.2.getD j default).1.length<_ by omega),aa];rw[EC hr gu gu gu,mX hj,dK];rfl) (by
  have e:cs.2.take cs.2.length=cs.2:=cK;simp only[lX,ct,aL,ah,ay,e];have:oX ((cs.2.foldl lB (cs.1,[])).1,(cs.2.foldl lB (cs.1,[])).2)=some (lD (ju cs)):=Ai (ju cs);rw[this,aa];rfl)
 simpa using A
def mI(cs:mY)(k:Nat):Nat:=((cs.2.take k).map fun r=>1+r.2.2.length).sum
theorem Bc{cs:mY}(hn:cs.2.length<=12)(h2:∀r∈cs.2,r.2.2.length<=2):∀k,mI cs k<=36:=fun k=>by
 have key:∀l:List ye,(∀r∈l,r.2.2.length<=2)->(l.map fun r=>1+r.2.2.length).sum<=3*l.length:=fun l=>by
  induction l with
  |nil=>simp
  |cons r l ih=>
   intro h;have:=h r (by simp);have:=ih fun r hr=>h r (by simp[hr])
   simp only[aT,List.sum_cons,aK];omega
 have:=key (cs.2.take k) fun r hr=>h2 r (bg hr)
 have hl:(cs.2.take k).length<=12:=by rw[aU];omega
 unfold mI;omega
theorem Fe{cs:mY}{k:Nat}(hk:k<cs.2.length):mI cs (k+1)=mI cs k+(1+(cs.2.getD k default).2.2.length):=by unfold mI;rw[mX hk];simp
theorem zY{cs:mY}(hc:mV cs=true){k:Nat}(hk:k<cs.2.length):me cs k=some (mI cs k:Int):=by
 obtain⟨ha,hn,hrs⟩:=mF.1 hc;have h2:∀r∈cs.2,r.2.2.length<=2:=fun r hr=>(jS.1 (hrs r hr)).2.2.2.1
 unfold me;rw[aE gu];have hlt:(cs.2.take k).length=k:=by rw[aU];omega
 have A:=pJ (n:=k) (fun j=>((mI cs j:Int),(j:Int))) (c:=(mI cs k:Int)) (f:=lg cs k) (fun j hj=>by
  have hg:(cs.2.take k).getD j default=cs.2.getD j default:=by rw[iM gu,iM (show j<cs.2.length by omega),List.getElem_take]
  have hb:=Bc hn h2 j;have hb2:=h2 _ (iQ (show j<cs.2.length by omega));have hs:=Fe (show j<cs.2.length by omega);simp only[lg,az,hlt,show(j:Int)<(k:Int) by omega,aC,aj,show(0:Int)<=j by omega,aW,hg,kI (n:=1+((cs.2.getD j default).2.2.length:Int)) gu gu,kI (n:=(mI cs j:Int)+(1+((cs.2.getD j default).2.2.length:Int))) gu gu,kI (n:=(j:Int)+1) gu gu];refine bW (fun x=>some (Sum.inl x)) ?_;refine fk ?_ ?_
  ·show(mI cs j:Int)+(1+((cs.2.getD j default).2.2.length:Int))=(mI cs (j+1):Int);omega
  ·show(j:Int)+1=((j+1:Nat):Int);omega) (by simp[lg,hlt])
 simpa[mI]using A
theorem Ak{cs:mY}(hc:mV cs=true){k:Nat}(hk:k<cs.2.length):qL cs k=some (mI cs k:Int):=by
 obtain⟨ha,hn,hrs⟩:=mF.1 hc;have h2:∀r∈cs.2,r.2.2.length<=2:=fun r hr=>(jS.1 (hrs r hr)).2.2.2.1
 unfold qL;have A:=pJ (n:=k) (fun j=>((mI cs j:Int),(j:Int))) (c:=(mI cs k:Int)) (f:=oJ cs k) (fun j hj=>by
  have hb:=Bc hn h2 j;have hb2:=h2 _ (iQ (show j<cs.2.length by omega));have hs:=Fe (show j<cs.2.length by omega);simp only[oJ,show(j:Int)<(k:Int) by omega,aC,aj,show(0:Int)<=j by omega,show(j:Int)<cs.2.length by omega,aW,az,kI (n:=(mI cs j:Int)+1) gu gu,kI (n:=(mI cs j:Int)+1+((cs.2.getD j default).2.2.length:Int)) gu gu,kI (n:=(j:Int)+1) gu gu];refine bW (fun x=>some (Sum.inl x)) ?_;refine fk ?_ ?_
  ·show(mI cs j:Int)+1+((cs.2.getD j default).2.2.length:Int)=(mI cs (j+1):Int);omega
  ·show(j:Int)+1=((j+1:Nat):Int);omega) (by simp[oJ])
 simpa[mI]using A
end Go.Proofs.YtelhemjlfkbkeaaGreat
