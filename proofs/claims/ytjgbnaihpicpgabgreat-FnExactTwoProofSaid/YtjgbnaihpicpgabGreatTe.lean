/- A part of the proof about FnExactTwoProof (ThA, Un, Un2, Un3, Un4, Un5, Un6, Un7, Un8, Un9). -/
import Derived.Test.YtjgbnaihpicpgabGreatTa
import Derived.Test.YtjgbnaihpicpgabGreatTc
set_option linter.all false
namespace Tm
def mV(a:gI)(x:Int):Nat:=if x<0 then 0 else(a.getD x.toNat 0).toNat
def Iy(a:gI)(x:Int):Prop:= -24<=x/\x<a.length
instance(a:gI)(x:Int):Decidable (Iy a x):=by unfold Iy;infer_instance
def skip(a:gI):gI->Nat->Option gI
 |t,0=>some t
 |[],_+1=>none
 |x::t,k+1=>if Iy a x then skip a t (k+mV a x)else none
def Wf(a:gI)(k:Nat)(t:gI):Prop:=skip a t k=some []
instance(a:gI)(k:Nat)(t:gI):Decidable (Wf a k t):=by unfold Wf;infer_instance
theorem vH(a t:gI):skip a t 0=some t:=by cases t<;>simp[skip]
theorem xw(a t:gI)(x:Int)(k:Nat):skip a (x::t) (k+1)=if Iy a x then skip a t (k+mV a x)else none:=by simp[skip]
theorem K9(a:gI)(k:Nat):skip a [] (k+1)=none:=by simp[skip]
theorem K8{a:gI}(s:gI):∀{t r:gI}{k:Nat},skip a t k=some r->skip a (t++s) k=some (r++s)
 |t,r,0,h=>by rw[vH]at h⊢;cases h;rfl
 |[],r,k+1,h=>by simp[skip]at h
 |x::t,r,k+1,h=>by
  rw[bz];rw[xw]at h⊢;split at h
  ·rename_i hx;rw[ah hx];exact K8 s h
  ·cases h
theorem Hf{a:gI}(j:Nat):∀{t:gI}{k:Nat},skip a t (k+j)=(skip a t k).bind fun r=>skip a r j
 |t,0=>by simp[vH]
 |[],k+1=>by rw[show k+1+j=(k+j)+1 by omega];simp[skip]
 |x::t,k+1=>by
  rw[show k+1+j=(k+j)+1 by omega,xw,xw];split
  ·rw[show k+j+mV a x=(k+mV a x)+j by omega];exact Hf j
  ·rfl
theorem CW{a:gI}:∀{t r:gI}{k:Nat},skip a t k=some r->∃u,t=u++r/\Wf a k u
 |t,r,0,h=>by rw[vH]at h;cases h;exact⟨[],rfl,vH _ _⟩
 |[],r,k+1,h=>by simp[skip]at h
 |x::t,r,k+1,h=>by
  rw[xw]at h;split at h
  ·rename_i hx;obtain⟨u,rfl,h2⟩:=CW h;exact⟨x::u,rfl,by unfold Wf;rw[xw,ah hx];exact h2⟩
  ·cases h
theorem Wf.skip{a u:gI}{k:Nat}(h:Wf a k u)(s:gI):skip a (u++s) k=some s:=K8 s h
theorem Wf.app{a u v:gI}{k j:Nat}(h:Wf a k u)(h':Wf a j v):Wf a (k+j) (u++v):=by unfold Wf;rw[Hf,h.skip];exact h'
theorem Wf.nil{a:gI}:Wf a 0 []:=vH _ _
theorem Wf.zero{a t:gI}(h:Wf a 0 t):t=[]:=by unfold Wf at h;rw[vH]at h;exact dG h
theorem Wf.jS{a t:gI}{x:Int}{k:Nat}:Wf a (k+1) (x::t)<->Iy a x/\Wf a (k+mV a x) t:=by
 unfold Wf;rw[xw];split<;>simp_all
theorem Wf.pos{a t:gI}{k:Nat}(h:Wf a (k+1) t):∃x r,t=x::r/\Iy a x/\Wf a (k+mV a x) r:=by
 cases t with
 |nil=>simp[Wf,Tm.skip]at h
 |cons x r=>exact⟨x,r,rfl,Wf.jS.1 h⟩
theorem Wf.split{a t:gI}{k j:Nat}(h:Wf a (k+j) t):∃u v,t=u++v/\Wf a k u/\Wf a j v:=by
 unfold Wf at h;rw[Hf]at h;obtain⟨r,h1,h2⟩:=av.1 h;obtain⟨u,rfl,h3⟩:=CW h1;exact⟨u,r,rfl,h3,h2⟩
theorem Wf.uniq{a u u' v v':gI}{k:Nat}(h:Wf a k u)(h':Wf a k u')(e:u++v=u'++v'):u=u'/\v=v':=by
 have h1:=h.skip v;have h2:=h'.skip v';rw[e,h2]at h1;cases dG h1;exact⟨List.append_cancel_right e,rfl⟩
theorem Wf.all{a:gI}:∀{t:gI}{k:Nat},Wf a k t->∀x∈t,Iy a x
 |[],_,_=>by simp
 |y::t,0,h=>by have:=h.zero;cases this
 |y::t,k+1,h=>by
  obtain⟨h1,h2⟩:=Wf.jS.1 h;intro x hx;rcases bA.1 hx with rfl|hx
  ·exact h1
  ·exact h2.all x hx
theorem Wf.len{a:gI}:∀{t:gI}{k:Nat},Wf a k t->k<=t.length
 |t,0,_=>by omega
 |[],k+1,h=>by simp[Wf,Tm.skip]at h
 |y::t,k+1,h=>by
  obtain⟨h1,h2⟩:=Wf.jS.1 h;have:=h2.len;simp;omega
theorem Wf.place{a:gI}:∀{t:gI}{k i:Nat},Wf a k t->i<t.length->∃p u s,t=p++(u++s)/\p.length=i/\Wf a 1 u
 |[],_,_,_,hi=>by simp at hi
 |y::t,0,_,h,_=>by have:=h.zero;cases this
 |y::t,k+1,0,h,_=>by
  rw[show k+1=1+k by omega]at h;obtain⟨u,v,e,h1,_⟩:=h.split;exact⟨[],u,v,e,rfl,h1⟩
 |y::t,k+1,i+1,h,hi=>by
  obtain⟨p,u,s,rfl,h2,h3⟩:=(Wf.jS.1 h).2.place (i:=i) (by simpa using hi);exact⟨y::p,u,s,rfl,by simp[h2],h3⟩
theorem Wf.put{a u v s:gI}(hu:Wf a 1 u)(hv:Wf a 1 v):∀{p:gI}{k:Nat},Wf a k (p++(u++s))->Wf a k (p++(v++s))
 |[],0,h=>by
  have:=h.zero;have:=hu.len
  simp_all
 |[],k+1,h=>by
  rw[aZ]at h⊢;rw[show k+1=1+k by omega]at h⊢;obtain⟨u',v',e,h1,h2⟩:=h.split;obtain⟨rfl,rfl⟩:=hu.uniq h1 e;exact hv.app h2
 |y::p,0,h=>by have:=h.zero;cases this
 |y::p,k+1,h=>by
  rw[bz]at h⊢;obtain⟨h1,h2⟩:=Wf.jS.1 h;exact Wf.jS.2 ⟨h1,Wf.put hu hv h2⟩
def sub(σ:Int->gI)(t:gI):gI:=t.flatMap fun x=>if x<0 then σ x else [x]
theorem XD(σ:Int->gI):sub σ []=[]:=rfl
theorem jN(σ:Int->gI)(x:Int)(t:gI):sub σ (x::t)=(if x<0 then σ x else [x])++sub σ t:=by simp[sub]
theorem mu(σ:Int->gI)(s t:gI):sub σ (s++t)=sub σ s++sub σ t:=by simp[sub]
theorem sub_congr{σ τ:Int->gI}{t:gI}(h:∀x∈t,x<0->σ x=τ x):sub σ t=sub τ t:=by
 induction t with
 |nil=>rfl
 |cons x t ih=>
  rw[jN,jN,ih fun y hy=>h y (by simp[hy])];by_cases hx:x<0
  ·rw[ah hx,ah hx,h x (by simp) hx]
  ·rw[aj hx,aj hx]
theorem Wf.sub{a:gI}{σ:Int->gI}:∀{t:gI}{k:Nat},Wf a k t->(∀x∈t,x<0->Wf a 1 (σ x))->Wf a k (Tm.sub σ t)
 |[],k,h,_=>by simpa[Tm.sub]using h
 |y::t,0,h,_=>by have:=h.zero;cases this
 |y::t,k+1,h,hs=>by
  obtain⟨h1,h2⟩:=Wf.jS.1 h;rw[jN];have ih:=h2.sub fun x hx=>hs x (by simp[hx])
  by_cases hy:y<0
  ·rw[ah hy,show k+1=1+k by omega];refine(hs y (by simp) hy).app ?_;simpa[mV,hy]using ih
  ·rw[aj hy];exact Wf.jS.2 ⟨h1,ih⟩
abbrev Bd:=List gI
def k_(b:Bd)(n:Int):gI:=b.getD (-1-n).toNat []
def iS(b:Bd)(n:Int)(u:gI):Bd:=b.set (-1-n).toNat u
def yE(a:gI):gI->gI->Bd->Option Bd
 |[],_,b=>some b
 |n::p,t,b=>
  if n<0 then match skip a t 1 with
   |none=>none
   |some r=>
    let u:=t.take (t.length-r.length)
    if k_ b n=[]then yE a p r (iS b n u)else if k_ b n=u then yE a p r b else none
  else match t with
   |[]=>none
   |y::t=>if y=n then yE a p t b else none
theorem DD(a t:gI)(b:Bd):yE a [] t b=some b:=by simp[yE]
theorem Wf.ne{a u:gI}(h:Wf a 1 u):u≠[]:=by have:=h.len;intro e;subst e;simp at this
theorem DE{a p t:gI}{n y:Int}{b:Bd}(hn:¬n<0):yE a (n::p) (y::t) b=if y=n then yE a p t b else none:=by simp[yE,hn]
theorem Jc{a p u r:gI}{n:Int}{b:Bd}(hn:n<0)(hu:Wf a 1 u):yE a (n::p) (u++r) b=
 if k_ b n=[]then yE a p r (iS b n u)else if k_ b n=u then yE a p r b else none:=by
 simp[yE,hn,hu.skip]
theorem yH{b:Bd}{n m:Int}{u:gI}(hn:n<0)(hl: -1-n<b.length)(hm:m<0):k_ (iS b n u) m=if m=n then u else k_ b m:=by
 unfold k_ iS;rw[List.getD_eq_getElem?_getD,List.getD_eq_getElem?_getD,de];by_cases h:m=n
 ·subst h;rw[ah rfl,ah rfl,ah iA];rfl
 ·rw[aj h,aj iA]
theorem yK{a:gI}:∀{p t:gI}{b b':Bd}{k:Nat},Wf a k p->Wf a k t->b.length=24->yE a p t b=some b'->
 t=sub (k_ b') p/\b'.length=24/\(∀n,n<0->k_ b n≠[]->k_ b' n=k_ b n)/\(∀n∈p,n<0->Wf a 1 (k_ b' n)\/k_ b n=k_ b' n/\k_ b n≠[])/\
 (∀n,n<0->n∉p->k_ b' n=k_ b n)
 |[],t,b,b',k,hp,ht,hb,h=>by
  rw[DD]at h;cases h;cases k with
  |zero=>have:=ht.zero;subst this;exact⟨rfl,hb,fun _ _ _=>rfl,by simp,fun _ _ _=>rfl⟩
  |succ k=>simp[Wf,Tm.skip]at hp
 |n::p,t,b,b',0,hp,ht,hb,h=>by have:=hp.zero;cases this
 |n::p,t,b,b',k+1,hp,ht,hb,h=>by
  obtain⟨hx,hp⟩:=Wf.jS.1 hp;by_cases hn:n<0
  ·rw[show k+1=1+k by omega]at ht;obtain⟨u,r,rfl,hu,hr⟩:=ht.split;rw[Jc hn hu]at h;have ha:mV a n=0:=by simp[mV,hn]
   rw[ha,dh]at hp;have hl: -1-n<b.length:=by have:=hx.1;omega
   split at h
   ·rename_i h0;obtain⟨h1,h2,h3,h4,h5⟩:=yK hp hr (by simpa[iS]using hb) h;have hbn:k_ b' n=u:=by rw[h3 n hn (by rw[yH hn hl hn,ah rfl];exact hu.ne),yH hn hl hn,ah rfl]
    refine⟨by rw[jN,ah hn,hbn,<-h1],h2,fun m hm hne=>?_,fun m hm hm0=>?_,fun m hm hmp=>?_⟩
    ·by_cases hmn:m=n
     ·subst hmn;exact absurd h0 hne
     ·have:=yH (u:=u) hn hl hm;rw[aj hmn]at this;rw[h3 m hm (by rw[this];exact hne),this]
    ·by_cases hmn:m=n
     ·subst hmn;rw[hbn];exact .inl hu
     ·have:=yH (u:=u) hn hl hm0;rw[aj hmn]at this;rcases bA.1 hm with e|hm
      ·exact absurd e hmn
      ·rw[<-this];exact h4 m hm hm0
    ·have hmn:m≠n:=fun e=>hmp (by simp[e])
     have:=yH (u:=u) hn hl hm;rw[aj hmn]at this;rw[h5 m hm fun hx=>hmp (by simp[hx]),this]
   ·rename_i h0;split at h
    ·rename_i h00;obtain⟨h1,h2,h3,h4,h5⟩:=yK hp hr hb h;have hbn:k_ b' n=u:=by rw[h3 n hn h0,h00]
     refine⟨by rw[jN,ah hn,hbn,<-h1],h2,h3,fun m hm hm0=>?_,fun m hm hmp=>?_⟩
     ·by_cases hmn:m=n
      ·subst hmn;rw[hbn];exact .inl hu
      ·rcases bA.1 hm with e|hm
       ·exact absurd e hmn
       ·exact h4 m hm hm0
     ·exact h5 m hm fun hx=>hmp (by simp[hx])
    ·cases h
  ·obtain⟨y,t,rfl,hy,ht⟩:=ht.pos;rw[DE hn]at h;split at h
   ·rename_i e;subst e;obtain⟨h1,h2,h3,h4,h5⟩:=yK hp ht hb h;refine⟨by rw[jN,aj hn,dD,<-h1],h2,h3,fun m hm hm0=>?_,fun m hm hmp=>?_⟩
    ·rcases bA.1 hm with e|hm
     ·omega
     ·exact h4 m hm hm0
    ·exact h5 m hm fun hx=>hmp (by simp[hx])
   ·cases h
theorem wI{a:gI}{σ:Int->gI}:∀{p:gI}{b:Bd}{k:Nat},Wf a k p->b.length=24->(∀n∈p,n<0->Wf a 1 (σ n))->(∀n∈p,n<0->k_ b n=[]\/k_ b n=σ n)->
 ∃b',yE a p (sub σ p) b=some b'/\b'.length=24/\(∀n∈p,n<0->k_ b' n=σ n)/\(∀n,n<0->n∉p->k_ b' n=k_ b n)
 |[],b,k,hp,hb,hs,hc=>⟨b,DD _ _ _,hb,by simp,fun _ _ _=>rfl⟩
 |n::p,b,0,hp,hb,hs,hc=>by have:=hp.zero;cases this
 |n::p,b,k+1,hp,hb,hs,hc=>by
  obtain⟨hx,hp⟩:=Wf.jS.1 hp;by_cases hn:n<0
  ·have hu:=hs n (by simp) hn;have ha:mV a n=0:=by simp[mV,hn]
   rw[ha,dh]at hp;have hl: -1-n<b.length:=by have:=hx.1;omega
   rw[jN,ah hn,Jc hn hu];by_cases h0:k_ b n=[]
   ·rw[ah h0];have hg:∀m,m<0->k_ (iS b n (σ n)) m=if m=n then σ n else k_ b m:=fun m hm=>yH hn hl hm
    obtain⟨b',h1,h2,h3,h4⟩:=wI (σ:=σ) (b:=iS b n (σ n)) hp (by simpa[iS]using hb) (fun m hm hm0=>hs m (by simp[hm]) hm0) fun m hm hm0=>by
     rw[hg m hm0];by_cases hmn:m=n
     ·subst hmn;rw[ah rfl];exact .inr rfl
     ·rw[aj hmn];exact hc m (by simp[hm]) hm0
    refine⟨b',h1,h2,fun m hm hm0=>?_,fun m hm hmp=>?_⟩
    ·by_cases hmp:m∈p
     ·exact h3 m hmp hm0
     ·rcases bA.1 hm with rfl|hm
      ·rw[h4 m hm0 hmp,hg m hm0,ah rfl]
      ·exact absurd hm hmp
    ·have hmn:m≠n:=fun e=>hmp (by simp[e])
     rw[h4 m hm fun hx=>hmp (by simp[hx]),hg m hm,aj hmn]
   ·have hbn:k_ b n=σ n:=(hc n (by simp) hn).resolve_left h0;rw[aj h0,ah hbn];obtain⟨b',h1,h2,h3,h4⟩:=wI hp hb (fun m hm hm0=>hs m (by simp[hm]) hm0) fun m hm hm0=>hc m (by simp[hm]) hm0
    refine⟨b',h1,h2,fun m hm hm0=>?_,fun m hm hmp=>h4 m hm fun hx=>hmp (by simp[hx])⟩;by_cases hmp:m∈p
    ·exact h3 m hmp hm0
    ·rcases bA.1 hm with rfl|hm
     ·rw[h4 m hm0 hmp,hbn]
     ·exact absurd hm hmp
  ·rw[jN,aj hn,dD,DE hn,ah rfl];obtain⟨b',h1,h2,h3,h4⟩:=wI hp hb (fun m hm hm0=>hs m (by simp[hm]) hm0) fun m hm hm0=>hc m (by simp[hm]) hm0
   refine⟨b',h1,h2,fun m hm hm0=>?_,fun m hm hmp=>h4 m hm fun hx=>hmp (by simp[hx])⟩;rcases bA.1 hm with rfl|hm
   ·exact absurd hm0 hn
   ·exact h3 m hm hm0
def kr:Bd:=List.replicate 24 []
theorem Ac(n:Int):k_ kr n=[]:=by
 unfold k_ kr;rw[List.getD_eq_getElem?_getD,dn];split<;>rfl
def Mv(a f o t t':gI)(i:Nat):Prop:=∃p s σ,p.length=i/\t=p++(sub σ f++s)/\t'=p++(sub σ o++s)/\∀x,x<0->Wf a 1 (σ x)
theorem Mv.wf{a f o t t':gI}{i:Nat}(h:Mv a f o t t' i)(hf:Wf a 1 f)(ho:Wf a 1 o)(ht:Wf a 1 t):Wf a 1 t':=by
 obtain⟨p,s,σ,h1,rfl,rfl,h4⟩:=h;exact Wf.put (hf.sub fun x _ hx=>h4 x hx) (ho.sub fun x _ hx=>h4 x hx) ht
theorem Wf.var{a:gI}:Wf a 1 [-1]:=Wf.jS.2 ⟨⟨iA,iA⟩,by simp[mV];exact Wf.nil⟩
theorem Ql{a f o p s u u':gI}{b b':Bd}(hf:Wf a 1 f)(ho:Wf a 1 o)(hu:Wf a 1 u)(hu':Wf a 1 u')(h1:yE a f u kr=some b)(h2:yE a o u' b=some b'):
 Mv a f o (p++(u++s)) (p++(u'++s)) p.length:=by
 obtain⟨e1,l1,k1,w1,n1⟩:=yK hf hu (by simp[kr]) h1;obtain⟨e2,l2,k2,w2,n2⟩:=yK ho hu' l1 h2;have hw1:∀n∈f,n<0->Wf a 1 (k_ b n):=fun n hn h0=>by
  rcases w1 n hn h0 with h|h
  ·exact h
  ·exact absurd (Ac n) h.2
 let σ:Int->gI:=fun x=>if Wf a 1 (k_ b' x)then k_ b' x else [-1]
 have hσ:∀x,x<0->Wf a 1 (σ x):=fun x _=>by
  by_cases h:Wf a 1 (k_ b' x)
  ·simp only[σ,ah h];exact h
  ·simp only[σ,aj h];exact Wf.var
 have hfx:∀n∈f,n<0->σ n=k_ b n:=fun n hn h0=>by
  have h3:=hw1 n hn h0;have h4:=k2 n h0 h3.ne;simp only[σ,h4,ah h3]
 have hox:∀n∈o,n<0->σ n=k_ b' n:=fun n hn h0=>by
  have:Wf a 1 (k_ b' n):=by
   rcases w2 n hn h0 with h|⟨h,hne⟩
   ·exact h
   ·by_cases hn':n∈f
    ·rw[<-h];exact hw1 n hn' h0
    ·exact absurd (by rw[n1 n h0 hn',Ac]) hne
  simp only[σ,ah this]
 refine⟨p,s,σ,rfl,?_,?_,hσ⟩
 ·rw[sub_congr hfx,<-e1]
 ·rw[sub_congr hox,<-e2]
theorem Qe{a f o p s:gI}{σ:Int->gI}(hf:Wf a 1 f)(ho:Wf a 1 o)(hσ:∀x,x<0->Wf a 1 (σ x)):
 ∃b b',yE a f (sub σ f) kr=some b/\yE a o (sub σ o) b=some b':=by
 obtain⟨b,h1,h2,h3,h4⟩:=wI (σ:=σ) (b:=kr) hf (by simp[kr]) (fun n _ hn=>hσ n hn) fun n _ _=>.inl (Ac n)
 obtain⟨b',h5,_⟩:=wI (σ:=σ) (b:=b) ho h2 (fun n _ hn=>hσ n hn) fun n _ hn=>by
  by_cases hnf:n∈f
  ·exact .inr (h3 n hnf hn)
  ·exact .inl (by rw[h4 n hn hnf,Ac])
 exact⟨b,b',h1,h5⟩
def iY(a t:gI)(i:Nat):gI:=match skip a (t.drop i) 1 with
 |some r=>(t.drop i).take ((t.drop i).length-r.length)
 |none=>[]
theorem Bm{a p u s:gI}(hu:Wf a 1 u):iY a (p++(u++s)) p.length=u:=by
 unfold iY;rw[bS,hu.skip];simp
def KY(a t:gI)(i:Nat)(v:gI):gI:=t.take i++(v++t.drop (i+(iY a t i).length))
theorem DS{a p u s v:gI}(hu:Wf a 1 u):KY a (p++(u++s)) p.length v=p++(v++s):=by
 unfold KY;rw[Bm hu,ef,<-List.drop_drop,bS,bS]
def mvB(a f o t t':gI)(i:Nat):Bool:=KY a t i (iY a t' i)==t'&&((yE a f (iY a t i) kr).bind fun b=>yE a o (iY a t' i) b).isSome
theorem Ol{a f o t t':gI}{i:Nat}(hf:Wf a 1 f)(ho:Wf a 1 o)(ht:Wf a 1 t)(ht':Wf a 1 t')(hi:i<t.length)(hi':i<t'.length):mvB a f o t t' i=true<->Mv a f o t t' i:=by
 constructor
 ·intro h;simp only[mvB,bh,bC]at h;obtain⟨h1,h2⟩:=h;obtain⟨p,u,s,rfl,rfl,hu⟩:=ht.place hi;obtain⟨p',u',s',rfl,hp,hu'⟩:=ht'.place hi';rw[<-hp,Bm hu',hp,DS hu]at h1;rw[<-hp,Bm hu',hp,Bm hu]at h2;obtain⟨b,hb⟩:=Option.isSome_iff_exists.1 h2;obtain⟨b0,h3,h4⟩:=av.1 hb;rw[<-h1];exact Ql hf ho hu hu' h3 h4
 ·rintro⟨p,s,σ,rfl,rfl,rfl,hσ⟩;have hu:Wf a 1 (sub σ f):=hf.sub fun x _ hx=>hσ x hx
  have hu':Wf a 1 (sub σ o):=ho.sub fun x _ hx=>hσ x hx
  simp only[mvB,Bm hu,Bm hu',DS hu,cp,cq];obtain⟨b,b',h1,h2⟩:=Qe (p:=p) (s:=s) hf ho hσ;rw[h1,aa,h2];rfl
def sig(b:Bd)(n:Int):gI:=if k_ b n=[]then [n]else k_ b n
def Hl(a l r t:gI)(i:Nat):Option gI:=(yE a l (iY a t i) kr).bind fun b=>
 if(sub (sig b) r).length<=60/\(KY a t i (sub (sig b) r)).length<=60 then some (KY a t i (sub (sig b) r))else none
theorem Ui{a l r t t':gI}{i:Nat}(hl:Wf a 1 l)(hr:Wf a 1 r)(ht:Wf a 1 t)(hi:i<t.length)(hv:∀n∈r,n<0->n∈l)(h:Hl a l r t i=some t'):
 Mv a l r t t' i/\t'.length<=60:=by
 unfold Hl at h;obtain⟨b,h1,h2⟩:=av.1 h;split at h2
 ·rename_i hc;cases h2;refine⟨?_,hc.2⟩;obtain⟨p,u,s,rfl,rfl,hu⟩:=ht.place hi;rw[Bm hu]at h1;rw[DS hu];obtain⟨e1,l1,k1,w1,n1⟩:=yK hl hu (by simp[kr]) h1;have hw1:∀n∈l,n<0->Wf a 1 (k_ b n):=fun n hn h0=>by
   rcases w1 n hn h0 with h|h
   ·exact h
   ·exact absurd (Ac n) h.2
  let σ:Int->gI:=fun x=>if Wf a 1 (k_ b x)then k_ b x else [-1]
  have hσ:∀x,x<0->Wf a 1 (σ x):=fun x _=>by
   by_cases h:Wf a 1 (k_ b x)
   ·simp only[σ,ah h];exact h
   ·simp only[σ,aj h];exact Wf.var
  have hx:∀n∈l,n<0->σ n=k_ b n:=fun n hn h0=>by simp only[σ,ah (hw1 n hn h0)]
  refine⟨p,s,σ,rfl,?_,?_,hσ⟩
  ·rw[sub_congr hx,<-e1]
  ·rw[sub_congr fun n hn h0=>?_];rw[hx n (hv n hn h0) h0];unfold sig;rw[aj (hw1 n (hv n hn h0) h0).ne]
 ·cases h2
end Tm
namespace Un
open Tm
def BS(a:gI):gI->Nat->Option gI
 |t,0=>some t
 |[],_+1=>none
 |x::t,k+1=>if x<a.length then BS a t (k+mV a x)else none
def Wv(a:gI)(k:Nat)(t:gI):Prop:=BS a t k=some []
theorem zi(a t:gI):BS a t 0=some t:=by cases t<;>simp[BS]
theorem zh(a t:gI)(x:Int)(k:Nat):BS a (x::t) (k+1)=if x<a.length then BS a t (k+mV a x)else none:=by simp[BS]
theorem OP{a:gI}(s:gI):∀{t r:gI}{k:Nat},BS a t k=some r->BS a (t++s) k=some (r++s)
 |t,r,0,h=>by rw[zi]at h⊢;cases h;rfl
 |[],r,k+1,h=>by simp[BS]at h
 |x::t,r,k+1,h=>by
  rw[bz];rw[zh]at h⊢;split at h
  ·rename_i hx;rw[ah hx];exact OP s h
  ·cases h
theorem Js{a:gI}(j:Nat):∀{t:gI}{k:Nat},BS a t (k+j)=(BS a t k).bind fun r=>BS a r j
 |t,0=>by simp[zi]
 |[],k+1=>by rw[show k+1+j=(k+j)+1 by omega];simp[BS]
 |x::t,k+1=>by
  rw[show k+1+j=(k+j)+1 by omega,zh,zh];split
  ·rw[show k+j+mV a x=(k+mV a x)+j by omega];exact Js j
  ·rfl
theorem IC{a:gI}:∀{t r:gI}{k:Nat},BS a t k=some r->∃u,t=u++r/\Wv a k u
 |t,r,0,h=>by rw[zi]at h;cases h;exact⟨[],rfl,zi _ _⟩
 |[],r,k+1,h=>by simp[BS]at h
 |x::t,r,k+1,h=>by
  rw[zh]at h;split at h
  ·rename_i hx;obtain⟨u,rfl,h2⟩:=IC h;exact⟨x::u,rfl,by unfold Wv;rw[zh,ah hx];exact h2⟩
  ·cases h
theorem Wv.skip{a u:gI}{k:Nat}(h:Wv a k u)(s:gI):BS a (u++s) k=some s:=OP s h
theorem Wv.app{a u v:gI}{k j:Nat}(h:Wv a k u)(h':Wv a j v):Wv a (k+j) (u++v):=by unfold Wv;rw[Js,h.skip];exact h'
theorem Wv.nil{a:gI}:Wv a 0 []:=zi _ _
theorem Wv.zero{a t:gI}(h:Wv a 0 t):t=[]:=by unfold Wv at h;rw[zi]at h;exact dG h
theorem Wv.jS{a t:gI}{x:Int}{k:Nat}:Wv a (k+1) (x::t)<->x<a.length/\Wv a (k+mV a x) t:=by
 unfold Wv;rw[zh];split
 ·rename_i h;exact⟨fun e=>⟨h,e⟩,fun e=>e.2⟩
 ·rename_i h;exact⟨fun e=>(by cases e),fun e=>absurd e.1 h⟩
theorem Wv.pos{a t:gI}{k:Nat}(h:Wv a (k+1) t):∃x r,t=x::r/\x<a.length/\Wv a (k+mV a x) r:=by
 cases t with
 |nil=>simp[Wv,BS]at h
 |cons x r=>exact⟨x,r,rfl,Wv.jS.1 h⟩
theorem Wv.split{a t:gI}{k j:Nat}(h:Wv a (k+j) t):∃u v,t=u++v/\Wv a k u/\Wv a j v:=by
 unfold Wv at h;rw[Js]at h;obtain⟨r,h1,h2⟩:=av.1 h;obtain⟨u,rfl,h3⟩:=IC h1;exact⟨u,r,rfl,h3,h2⟩
theorem Wv.uniq{a u u' v v':gI}{k:Nat}(h:Wv a k u)(h':Wv a k u')(e:u++v=u'++v'):u=u'/\v=v':=by
 have h1:=h.skip v;have h2:=h'.skip v';rw[e,h2]at h1;cases dG h1;exact⟨List.append_cancel_right e,rfl⟩
theorem Wv.len{a:gI}:∀{t:gI}{k:Nat},Wv a k t->k<=t.length
 |t,0,_=>by omega
 |[],k+1,h=>by simp[Wv,BS]at h
 |y::t,k+1,h=>by
  obtain⟨h1,h2⟩:=Wv.jS.1 h;have:=h2.len;simp;omega
theorem Wv.ne{a u:gI}(h:Wv a 1 u):u≠[]:=by have:=h.len;intro e;subst e;simp at this
theorem yB{a:gI}{x:Int}(h:x<0):mV a x=0:=by unfold mV;rw[ah h]
theorem Wv.var{a:gI}{x:Int}(h:x<0):Wv a 1 [x]:=Wv.jS.2 ⟨iA,by rw[yB h];exact Wv.nil⟩
theorem Wv.XL{a t:gI}{x:Int}(h:Wv a 1 (x::t))(hx:x<0):t=[]:=by
 obtain⟨_,h2⟩:=Wv.jS.1 h;rw[yB hx]at h2;exact h2.zero
theorem Wv.sub{a:gI}{σ:Int->gI}:∀{t:gI}{k:Nat},Wv a k t->(∀x∈t,x<0->Wv a 1 (σ x))->Wv a k (Tm.sub σ t)
 |t,0,h,_=>by rw[h.zero];exact Wv.nil
 |[],k+1,h,_=>by simp[Wv,BS]at h
 |x::t,k+1,h,hs=>by
  obtain⟨h1,h2⟩:=Wv.jS.1 h;rw[jN];have ih:=h2.sub fun y hy=>hs y (aX _ hy)
  by_cases hx:x<0
  ·rw[ah hx];rw[yB hx]at ih;have:=(hs x bf hx).app ih;rwa [cP]at this
  ·rw[aj hx];exact Wv.jS.2 ⟨h1,ih⟩
abbrev Sb:=Int->gI
theorem sub_sub(σ τ:Sb):∀t:gI,sub τ (sub σ t)=sub (fun x=>sub τ (σ x)) t
 |[]=>rfl
 |x::t=>by
  rw[jN,jN,mu,sub_sub σ τ t];by_cases hx:x<0
  ·rw[ah hx,ah hx]
  ·rw[aj hx,aj hx];simp[sub,hx]
theorem Uk{σ:Sb}:∀{t:gI},(∀x∈t,x<0->σ x=[x])->sub σ t=t
 |[],_=>rfl
 |x::t,h=>by
  rw[jN,Uk fun y hy=>h y (aX _ hy)];by_cases hx:x<0
  ·rw[ah hx,h x bf hx];rfl
  ·rw[aj hx];rfl
theorem sub_one{σ:Sb}{x:Int}(hx:x<0):sub σ [x]=σ x:=by simp[sub,hx]
theorem qw{σ:Sb}{t:gI}{y:Int}:y∈sub σ t<->∃x∈t,(x<0/\y∈σ x)\/(¬x<0/\y=x):=by
 unfold sub;rw[eM];constructor
 ·rintro⟨x,hx,hy⟩;split at hy
  ·rename_i h;exact⟨x,hx,.inl ⟨h,hy⟩⟩
  ·rename_i h;exact⟨x,hx,.inr ⟨h,aR.1 hy⟩⟩
 ·rintro⟨x,hx,⟨h,hy⟩|⟨h,rfl⟩⟩
  ·exact⟨x,hx,by rw[ah h];exact hy⟩
  ·exact⟨y,hx,by rw[aj h];exact aR.2 rfl⟩
theorem Tf{σ:Sb}{x:Int}(hx:x<0)(hp:∀y,y<0->1<=(σ y).length):∀{t:gI},x∈t->(σ x).length+(t.length-1)<=(sub σ t).length
 |[],h=>by cases h
 |y::t,h=>by
  have hall:∀t:gI,t.length<=(sub σ t).length:=fun t=>by
   induction t with
   |nil=>simp[sub]
   |cons z t ih=>
    rw[jN,ak,aN];split
    ·rename_i hz;have:=hp z hz;omega
    ·simp;omega
  rw[jN,ak];rcases bA.1 h with rfl|h
  ·rw[ah hx];have:=hall t;simp;omega
  ·have ih:=Tf hx hp h;have h1:1<=t.length:=fD h;split
   ·rename_i hy;have:=hp y hy;simp;omega
   ·simp;omega
structure Pl where
 n:Nat
 P:List gI
structure Nb(N:Pl)(t:gI):Prop where
 le:∀y∈t, -(N.n:Int)<=y
 mem:t∈N.P
instance{N:Pl}{t:gI}:CoeFun (Nb N t) (fun _=>∀y∈t, -(N.n:Int)<=y):=⟨Nb.le⟩
def bg(b:List gI)(n:Int):gI:=b.getD (-1-n).toNat []
def bs(b:List gI)(n:Int)(u:gI):List gI:=b.set (-1-n).toNat u
theorem X2{b:List gI}{n m:Int}{u:gI}(hn:n<0)(hl: -1-n<b.length)(hm:m<0):bg (bs b n u) m=if m=n then u else bg b m:=by
 unfold bg bs;rw[List.getD_eq_getElem?_getD,List.getD_eq_getElem?_getD,de];by_cases h:m=n
 ·subst h;rw[ah rfl,ah rfl,ah iA];rfl
 ·rw[aj h,aj iA]
structure Bn(a:gI)(N:Pl)(b:List gI)(σ:Sb)(r:Int->Nat):Prop where
 len:b.length=N.n
 tm:∀x,x<0->bg b x≠[]->Wv a 1 (bg b x)/\Nb N (bg b x)
 inr:∀x,x<0->bg b x≠[]-> -(N.n:Int)<=x
 val:∀x,x<0->bg b x≠[]->σ x=sub σ (bg b x)
 Rs:∀x,x<0->bg b x=[]->σ x=[x]
 HR:∀x,x<0->∀y∈σ x,y<0->bg b y=[]
 wv:∀x,x<0->Wv a 1 (σ x)
 Gd:∀x,x<0-> -(N.n:Int)<=x->∀y∈σ x, -(N.n:Int)<=y
 rk:∀x,x<0->bg b x≠[]->∀y∈bg b x,y<0->bg b y≠[]->r y<r x
def zW(a:gI)(b:List gI)(τ:Sb):Prop:=(∀x,x<0->Wv a 1 (τ x))/\∀x,x<0->bg b x≠[]->τ x=sub τ (bg b x)
theorem Bn.self{a:gI}{N:Pl}{b:List gI}{σ:Sb}{r:Int->Nat}(h:Bn a N b σ r):zW a b σ:=⟨h.wv,h.val⟩
theorem zW.NI{a:gI}{N:Pl}{b:List gI}{σ τ:Sb}{r:Int->Nat}(h:Bn a N b σ r)(hτ:zW a b τ):∀(n:Nat){x:Int},x<0->r x<n->τ x=sub τ (σ x)
 |0,x,_,hr=>by omega
 |n+1,x,hx,hr=>by
  by_cases hb:bg b x=[]
  ·rw[h.Rs x hx hb,sub_one hx]
  ·rw[hτ.2 x hx hb,h.val x hx hb,sub_sub];refine sub_congr fun y hy hy0=>?_
   by_cases hb':bg b y=[]
   ·rw[h.Rs y hy0 hb',sub_one hy0]
   ·exact zW.NI h hτ n hy0 (by have:=h.rk x hx hb y hy hy0 hb';omega)
theorem zW.abs{a:gI}{N:Pl}{b:List gI}{σ τ:Sb}{r:Int->Nat}(h:Bn a N b σ r)(hτ:zW a b τ){x:Int}(hx:x<0):τ x=sub τ (σ x):=zW.NI h hτ (r x+1) hx (dw _)
theorem zW.Z8{a:gI}{N:Pl}{b:List gI}{σ τ:Sb}{r:Int->Nat}(h:Bn a N b σ r)(hτ:zW a b τ)(t:gI):sub τ (sub σ t)=sub τ t:=by
 rw[sub_sub];exact sub_congr fun x _ hx=>(hτ.abs h hx).symm
theorem Bn.none(a:gI)(N:Pl):Bn a N (List.replicate N.n []) (fun x=>[x]) (fun _=>0):=by
 have e:∀x:Int,bg (List.replicate N.n []) x=[]:=fun x=>by
  unfold bg;rw[List.getD_eq_getElem?_getD,dn];split<;>rfl
 refine⟨by simp,fun x _ h=>absurd (e x) h,fun x _ h=>absurd (e x) h,fun x _ h=>absurd (e x) h,fun _ _ _=>rfl,fun x hx y hy hy0=>e y,fun x hx=>Wv.var hx,fun x hx h y hy=>?_,fun x _ h=>absurd (e x) h⟩;rw[aR.1 hy];exact h
def G2(v:Int)(u:gI):Sb:=fun x=>if x=v then u else [x]
theorem aaV{v:Int}{u:gI}:G2 v u v=u:=by simp[G2]
theorem OF{v x:Int}{u:gI}(h:x≠v):G2 v u x=[x]:=by simp[G2,h]
theorem Ul{v:Int}{u t:gI}(h:v∉t):sub (G2 v u) t=t:=Uk fun x hx _=>OF fun e=>h (by rw[<-e];exact hx)
theorem BL(r:Int->Nat):∀t:gI,∃M,∀y∈t,r y<M
 |[]=>⟨0,by simp⟩
 |x::t=>by
  obtain⟨M,h⟩:=BL r t;refine⟨M+r x+1,fun y hy=>?_⟩;rcases bA.1 hy with rfl|hy
  ·omega
  ·have:=h y hy;omega
theorem Bn.bind{a:gI}{N:Pl}{b:List gI}{σ:Sb}{r:Int->Nat}(h:Bn a N b σ r){v:Int}{t:gI}(hv:v<0)(hvN: -(N.n:Int)<=v)(hb:bg b v=[])(ht:Wv a 1 t)(htN:Nb N t)(hno:v∉sub σ t):
 ∃r',Bn a N (bs b v t) (fun x=>sub (G2 v (sub σ t)) (σ x)) r':=by
 obtain⟨M,hM⟩:=BL r t;have hl: -1-v<(b.length:Int):=by rw[h.len];omega
 have hg:∀{x:Int},x<0->bg (bs b v t) x=if x=v then t else bg b x:=fun hx=>X2 hv hl hx
 have hσv:σ v=[v]:=h.Rs v hv hb;have hut:sub (G2 v (sub σ t)) (sub σ t)=sub σ t:=Ul hno;have hwt:Wv a 1 (sub σ t):=ht.sub fun x _ hx=>h.wv x hx
 have hp:∀y,y<0->Wv a 1 (G2 v (sub σ t) y):=fun y hy=>by
  unfold G2;split
  ·exact hwt
  ·exact Wv.var hy
 have hmem:∀{x y:Int},x<0->bg b x≠[]->y∈bg b x->y<0->v∈σ y->v∈σ x:=fun{x y} hx hbx hy hy0 hvy=>by
  rw[h.val x hx hbx];exact qw.2 ⟨y,hy,.inl ⟨hy0,hvy⟩⟩
 refine⟨fun x=>if x=v then M else if v∈σ x then r x+M+1 else r x,?_,?_,?_,?_,?_,?_,?_,?_,?_⟩
 ·unfold bs;rw[dW];exact h.len
 ·intro x hx hbx;rw[hg hx]at hbx⊢;split
  ·exact⟨ht,htN⟩
  ·rename_i hne;rw[aj hne]at hbx;exact h.tm x hx hbx
 ·intro x hx hbx;rw[hg hx]at hbx;split at hbx
  ·rename_i e;rw[e];exact hvN
  ·exact h.inr x hx hbx
 ·intro x hx hbx;rw[hg hx]at hbx⊢;rw[<-sub_sub];split
  ·rename_i e;rw[e,hσv,sub_one hv,aaV,hut]
  ·rename_i hne;rw[aj hne]at hbx;rw[h.val x hx hbx]
 ·intro x hx hbx;rw[hg hx]at hbx;split at hbx
  ·rw[hbx]at ht;exact absurd rfl ht.ne
  ·rename_i hne;rw[h.Rs x hx hbx,sub_one hx,OF hne]
 ·intro x hx y hy hy0;rw[hg hy0];obtain⟨z,hz,⟨hz0,hyz⟩|⟨hz0,rfl⟩⟩:=qw.1 hy
  ·unfold G2 at hyz;split at hyz
   ·have hne:y≠v:=fun e=>hno (by rw[<-e];exact hyz)
    rw[aj hne];obtain⟨q,hq,⟨hq0,hyq⟩|⟨hq0,rfl⟩⟩:=qw.1 hyz
    ·exact h.HR q hq0 y hyq hy0
    ·exact absurd hy0 hq0
   ·rename_i hne;rw[aR.1 hyz,aj hne];exact h.HR x hx z hz hz0
  ·exact absurd hy0 hz0
 ·intro x hx;exact(h.wv x hx).sub fun y _ hy=>hp y hy
 ·intro x hx hxN y hy;obtain⟨z,hz,⟨hz0,hyz⟩|⟨hz0,rfl⟩⟩:=qw.1 hy
  ·unfold G2 at hyz;split at hyz
   ·obtain⟨q,hq,⟨hq0,hyq⟩|⟨hq0,rfl⟩⟩:=qw.1 hyz
    ·exact h.Gd q hq0 (htN q hq) y hyq
    ·exact htN y hq
   ·rw[aR.1 hyz];exact h.Gd x hx hxN z hz
  ·exact h.Gd x hx hxN y hz
 ·intro x hx hbx y hy hy0 hby;rw[hg hx]at hbx hy;rw[hg hy0]at hby;by_cases hxv:x=v
  ·rw[ah hxv]at hy;have hyv:y≠v:=fun e=>hno (qw.2 ⟨v,by rw[<-e];exact hy,.inl ⟨hv,by rw[hσv];exact aR.2 rfl⟩⟩)
   rw[aj hyv]at hby;have hvy:v∉σ y:=fun e=>hno (qw.2 ⟨y,hy,.inl ⟨hy0,e⟩⟩)
   have:=hM y hy;simp only[hxv,aA,hyv,hvy,aE];exact this
  ·rw[aj hxv]at hbx hy;by_cases hyv:y=v
   ·have hvx:v∈σ x:=hmem hx hbx hy hy0 (by rw[hyv,hσv];exact aR.2 rfl);simp only[hyv,aA,hxv,hvx,aE];omega
   ·rw[aj hyv]at hby;have hr:=h.rk x hx hbx y hy hy0 hby;simp only[hxv,hyv,aE];by_cases hvy:v∈σ y
    ·rw[ah hvy,ah (hmem hx hbx hy hy0 hvy)];omega
    ·rw[aj hvy];split<;>omega
theorem zW.bind{a:gI}{N:Pl}{b:List gI}{τ:Sb}{v:Int}{t:gI}(hN:b.length=N.n)(hv:v<0)(hvN: -(N.n:Int)<=v)(hb:bg b v=[])(ht:t≠[]):zW a (bs b v t) τ<->zW a b τ/\τ v=sub τ t:=by
 have hl: -1-v<(b.length:Int):=by omega
 have hg:∀{x:Int},x<0->bg (bs b v t) x=if x=v then t else bg b x:=fun hx=>X2 hv hl hx
 constructor
 ·rintro⟨h1,h2⟩;refine⟨⟨h1,fun x hx hbx=>?_⟩,?_⟩
  ·have hne:x≠v:=fun e=>hbx (by rw[e];exact hb)
   have:=h2 x hx (by rw[hg hx,aj hne];exact hbx);rwa [hg hx,aj hne]at this
  ·have:=h2 v hv (by rw[hg hv,ah rfl];exact ht);rwa [hg hv,ah rfl]at this
 ·rintro⟨⟨h1,h2⟩,h3⟩;refine⟨h1,fun x hx hbx=>?_⟩;rw[hg hx]at hbx⊢;split
  ·rename_i e;rw[e];exact h3
  ·rename_i hne;rw[aj hne]at hbx;exact h2 x hx hbx
theorem WR{a:gI}{N:Pl}{b:List gI}{σ τ:Sb}{r:Int->Nat}(h:Bn a N b σ r)(hτ:zW a b τ){v:Int}{t:gI}(hv:v<0)(hin:v∈sub σ t)(hlen:2<=(sub σ t).length):τ v≠sub τ t:=fun e=>by
 rw[<-hτ.Z8 h t]at e;have:=Tf (σ:=τ) hv (fun y hy=>(hτ.1 y hy).len) hin;rw[<-e]at this;omega
theorem aaL{a:gI}{N:Pl}{b1 b2:List gI}{σ1 σ2:Sb}{r1 r2:Int->Nat}(h1:Bn a N b1 σ1 r1)(h2:Bn a N b2 σ2 r2)(h:∀τ,zW a b1 τ<->zW a b2 τ)(t:gI):
 sub σ1 (sub σ2 t)=sub σ1 t/\sub σ2 (sub σ1 t)=sub σ2 t:=⟨((h σ1).1 h1.self).Z8 h2 t,((h σ2).2 h2.self).Z8 h1 t⟩
def hv(σ:Sb)(x:Int):Int:=if x<0 then(σ x).headD 0 else x
theorem FY{σ:Sb}(hp:∀y,y<0->1<=(σ y).length):∀t:gI,t.length<=(sub σ t).length
 |[]=>by simp[sub]
 |z::t=>by
  have ih:=FY hp t;rw[jN,ak,aN];split
  ·rename_i hz;have:=hp z hz;omega
  ·simp;omega
theorem FZ{σ:Sb}(hp:∀y,y<0->1<=(σ y).length):∀{t:gI},(sub σ t).length<=t.length->sub σ t=t.map (hv σ)
 |[],_=>rfl
 |z::t,h=>by
  have ih:=FY hp t;rw[jN,ak,aN]at h;rw[jN,aK];by_cases hz:z<0
  ·rw[ah hz]at h⊢;have hz1:=hp z hz;have e:σ z=[hv σ z]:=by
    unfold hv;rw[ah hz]
    match hq:σ z,hz1,h with
    |[y],_,_=>rfl
    |_::_::_,_,h=>simp at h;omega
   rw[FZ hp (t:=t) (by rw[e]at h;simp at h;omega),e];simp[hv,hz]
  ·rw[aj hz]at h⊢;rw[FZ hp (t:=t) (by simp at h;omega)];simp[hv,hz]
structure Ren(ρ:Int->Int)(t u:gI):Prop where
 eq:u=t.map ρ
 fn:∀x,¬x<0->ρ x=x
 vr:∀x∈t,x<0->ρ x<0
 inj:∀x∈t,∀y∈t,ρ x=ρ y->x=y
theorem MY{a:gI}{N:Pl}{b1 b2:List gI}{σ1 σ2:Sb}{r1 r2:Int->Nat}(h1:Bn a N b1 σ1 r1)(h2:Bn a N b2 σ2 r2)(h:∀τ,zW a b1 τ<->zW a b2 τ)(t:gI):Ren (hv σ1) (sub σ2 t) (sub σ1 t):=by
 obtain⟨e1,e2⟩:=aaL h1 h2 h t;have p1:∀y,y<0->1<=(σ1 y).length:=fun y hy=>(h1.wv y hy).len
 have p2:∀y,y<0->1<=(σ2 y).length:=fun y hy=>(h2.wv y hy).len
 have l1:=FY p1 (sub σ2 t);have l2:=FY p2 (sub σ1 t);rw[e1]at l1;rw[e2]at l2;have m1:sub σ1 t=(sub σ2 t).map (hv σ1):=by rw[<-FZ p1 (by rw[e1];exact l2),e1]
 have m2:sub σ2 t=(sub σ1 t).map (hv σ2):=by rw[<-FZ p2 (by rw[e2];exact l1),e2]
 have back:∀x∈sub σ2 t,hv σ2 (hv σ1 x)=x:=fun x hx=>by
  have hm:(sub σ2 t).map (fun x=>hv σ2 (hv σ1 x))=(sub σ2 t).map id:=by
   rw[List.map_id];conv=>rhs;rw[m2,m1]
   rw[eF];rfl
  exact List.map_inj_left.1 hm x hx
 refine⟨m1,fun x hx=>by simp[hv,hx],fun x hx hx0=>?_,fun x hx y hy e=>?_⟩
 ·refine dg fun hn=>?_
  have hb:=back x hx;have:hv σ2 (hv σ1 x)=hv σ1 x:=by rw[hv,aj hn]
  omega
 ·rw[<-back x hx,<-back y hy,e]
inductive Hd(b:List gI):gI->gI->Prop
 |stop {t:gI} (h:t.headD 0<0->bg b (t.headD 0)=[]):Hd b t t
 |go {t u:gI} (h:t.headD 0<0) (hb:bg b (t.headD 0)≠[]) (hu:Hd b (bg b (t.headD 0)) u):Hd b t u
theorem BA{a t:gI}(ht:Wv a 1 t)(h:t.headD 0<0):t=[t.headD 0]:=by
 obtain⟨x,q,rfl,_,_⟩:=ht.pos;have h':x<0:=h;rw[ht.XL h'];rfl
theorem Hd.ok{a:gI}{N:Pl}{b:List gI}{σ:Sb}{r:Int->Nat}(h:Bn a N b σ r){t u:gI}(hu:Hd b t u):Wv a 1 t->Nb N t->
 Wv a 1 u/\Nb N u/\(u.headD 0<0->bg b (u.headD 0)=[])/\∀τ,zW a b τ->sub τ u=sub τ t:=by
 induction hu with
 |stop hs=>exact fun h1 h2=>⟨h1,h2,hs,fun _ _=>rfl⟩
 |@go t u hx hb _ ih=>
  intro h1 h2;obtain⟨w1,w2⟩:=h.tm _ hx hb;obtain⟨k1,k2,k3,k4⟩:=ih w1 w2;refine⟨k1,k2,k3,fun τ hτ=>?_⟩;rw[k4 τ hτ,BA h1 hx,sub_one hx];exact(hτ.2 _ hx hb).symm
theorem Hd.ex{a:gI}{N:Pl}{b:List gI}{σ:Sb}{r:Int->Nat}(h:Bn a N b σ r):∀(n:Nat){t:gI},Wv a 1 t->r (t.headD 0)<n->∃u,Hd b t u
 |0,_,_,hr=>by omega
 |n+1,t,ht,hr=>by
  by_cases hx:t.headD 0<0
  ·by_cases hb:bg b (t.headD 0)=[]
   ·exact⟨t,.stop fun _=>hb⟩
   ·obtain⟨w1,w2⟩:=h.tm _ hx hb;by_cases hy:(bg b (t.headD 0)).headD 0<0
    ·by_cases hb':bg b ((bg b (t.headD 0)).headD 0)=[]
     ·exact⟨_,.go hx hb (.stop fun _=>hb')⟩
     ·have hm:(bg b (t.headD 0)).headD 0∈bg b (t.headD 0):=by
       have:=BA w1 hy;rw[this];simp
      have:=h.rk _ hx hb _ hm hy hb';obtain⟨u,hu⟩:=Hd.ex h n w1 iA;exact⟨u,.go hx hb hu⟩
    ·exact⟨_,.go hx hb (.stop fun hc=>absurd hc hy)⟩
  ·exact⟨t,.stop fun hc=>absurd hc hx⟩
theorem Kc{a:gI}{τ:Sb}{f g:Int}{p q:gI}(hf:¬f<0)(hg:¬g<0)(h:sub τ (f::p)=sub τ (g::q)):f=g/\sub τ p=sub τ q:=by
 rw[jN,jN,aj hf,aj hg]at h;simp only[dD,bY]at h;exact h
def uG(τ:Sb):List gM->Prop
 |[]=>True
 |pq::l=>sub τ pq.1=sub τ pq.2/\uG τ l
theorem yG{τ:Sb}:∀{l m:List gM},uG τ (l++m)<->uG τ l/\uG τ m
 |[],m=>by simp[uG]
 |pq::l,m=>by simp[uG,yG (l:=l),and_assoc]
theorem NW{a:gI}{τ:Sb}(hτ:∀x,x<0->Wv a 1 (τ x)):∀{l:List gM},(∀pq∈l,Wv a 1 pq.1/\Wv a 1 pq.2)->(sub τ (l.map (·.1)).flatten=sub τ (l.map (·.2)).flatten<->uG τ l)
 |[],_=>by simp[uG,sub]
 |pq::l,h=>by
  obtain⟨w1,w2⟩:=h pq bf;have ih:=NW hτ (l:=l) fun x hx=>h x (aX _ hx)
  simp only[aK,cg,mu,uG,<-ih];constructor
  ·intro e;exact(w1.sub fun x _ hx=>hτ x hx).uniq (w2.sub fun x _ hx=>hτ x hx) e
  ·rintro⟨e1,e2⟩;rw[e1,e2]
structure At(a:gI)(N:Pl)(b:List gI)(s t u v:gI):Prop where
 ws:Wv a 1 s
 wt:Wv a 1 t
 ns:Nb N s
 nt:Nb N t
 hu:Hd b s u
 hv:Hd b t v
section
variable{a:gI}{N:Pl}{b:List gI}{σ:Sb}{r:Int->Nat}{s t u v:gI}
theorem At.eqs(h:Bn a N b σ r)(k:At a N b s t u v){τ:Sb}(hτ:zW a b τ):sub τ s=sub τ t<->sub τ u=sub τ v:=by rw[((k.hu.ok h k.ws k.ns).2.2.2 τ hτ),((k.hv.ok h k.wt k.nt).2.2.2 τ hτ)]
theorem OW(h:Bn a N b σ r)(k:At a N b s t u v)(hx:u.headD 0<0)(he:u.headD 0=v.headD 0){τ:Sb}(hτ:zW a b τ):sub τ s=sub τ t:=by
 obtain⟨w1,_,_,_⟩:=k.hu.ok h k.ws k.ns;obtain⟨w2,_,_,_⟩:=k.hv.ok h k.wt k.nt;rw[k.eqs h hτ,BA w1 hx,BA w2 iA,he]
theorem N3(h:Bn a N b σ r){x:Int}(hx:x<0)(hb:bg b x=[]){y:Int}(hy:y<0)(hby:bg b y=[]):x∈sub σ [y]<->x=y:=by rw[sub_one hy,h.Rs y hy hby,aR]
theorem Na(h:Bn a N b σ r)(k:At a N b s t u v)(hx:u.headD 0<0)(hne:u.headD 0≠v.headD 0)(hin:u.headD 0∈sub σ v){τ:Sb}(hτ:zW a b τ):sub τ s≠sub τ t:=by
 obtain⟨w1,_,f1,_⟩:=k.hu.ok h k.ws k.ns;obtain⟨w2,_,f2,_⟩:=k.hv.ok h k.wt k.nt;rw[Ne,k.eqs h hτ];have e1:=BA w1 hx;rw[e1,sub_one hx];refine WR h hτ hx hin ?_;by_cases hv0:v.headD 0<0
 ·rw[BA w2 hv0]at hin;exact absurd ((N3 h hx (f1 hx) hv0 (f2 hv0)).1 hin) hne
 ·obtain⟨y,q,rfl,_,_⟩:=w2.pos;have hy:¬y<0:=hv0;rw[jN,aj hy]at hin⊢;have hm:u.headD 0∈sub σ q:=by
   rcases aG.1 hin with hm|hm
   ·rw[aR.1 hm]at hx;exact absurd hx hy
   ·exact hm
  have:=fD hm;simp;omega
theorem Jz(h:Bn a N b σ r)(k:At a N b s t u v)(hx:u.headD 0<0)(hno:u.headD 0∉sub σ v):
 (∃σ' r',Bn a N (bs b (u.headD 0) v) σ' r')/\(∀τ,zW a (bs b (u.headD 0) v) τ<->zW a b τ/\sub τ s=sub τ t)/\bg b (u.headD 0)=[]/\ -(N.n:Int)<=u.headD 0/\v≠[]:=by
 obtain⟨w1,n1,f1,_⟩:=k.hu.ok h k.ws k.ns;obtain⟨w2,n2,_,_⟩:=k.hv.ok h k.wt k.nt;have e1:=BA w1 hx;have hxN: -(N.n:Int)<=u.headD 0:=n1 _ (by rw[e1];simp);obtain⟨r',hB⟩:=h.bind hx hxN (f1 hx) w2 n2 hno;refine⟨⟨_,r',hB⟩,fun τ=>?_,f1 hx,hxN,w2.ne⟩;rw[zW.bind h.len hx hxN (f1 hx) w2.ne];constructor
 ·rintro⟨h1,h2⟩;exact⟨h1,by rw[k.eqs h h1,e1,sub_one hx];exact h2⟩
 ·rintro⟨h1,h2⟩;rw[k.eqs h h1,e1,sub_one hx]at h2;exact⟨h1,h2⟩
theorem At.symm(k:At a N b s t u v):At a N b t s v u:=⟨k.wt,k.ws,k.nt,k.ns,k.hv,k.hu⟩
theorem Ld(h:Bn a N b σ r)(k:At a N b s t u v)(hx:¬u.headD 0<0)(hy:¬v.headD 0<0)(hne:u.headD 0≠v.headD 0){τ:Sb}(hτ:zW a b τ):sub τ s≠sub τ t:=by
 obtain⟨w1,_,_,_⟩:=k.hu.ok h k.ws k.ns;obtain⟨w2,_,_,_⟩:=k.hv.ok h k.wt k.nt;rw[Ne,k.eqs h hτ];obtain⟨x,p,rfl,_,_⟩:=w1.pos;obtain⟨y,q,rfl,_,_⟩:=w2.pos;intro e;exact hne (Kc (a:=a) hx hy e).1
theorem Uh(h:Bn a N b σ r)(k:At a N b s t u v)(hx:¬u.headD 0<0)(hne:u.headD 0=v.headD 0){l:List gM}(hl:∀pq∈l,Wv a 1 pq.1/\Wv a 1 pq.2)(hu:u.tail=(l.map (·.1)).flatten)(hv:v.tail=(l.map (·.2)).flatten){τ:Sb}(hτ:zW a b τ):
 sub τ s=sub τ t<->uG τ l:=by
 obtain⟨w1,_,_,_⟩:=k.hu.ok h k.ws k.ns;obtain⟨w2,_,_,_⟩:=k.hv.ok h k.wt k.nt;rw[k.eqs h hτ];obtain⟨x,p,rfl,_,_⟩:=w1.pos;obtain⟨y,q,rfl,_,_⟩:=w2.pos;have e:x=y:=hne;subst e;have hx':¬x<0:=hx;rw[<-NW hτ.1 hl];simp only[List.tail_cons]at hu hv;rw[<-hu,<-hv];exact⟨fun e=>(Kc (a:=a) hx' hx' e).2,fun e=>by rw[jN,jN,e]⟩
end
def Hr(b:List gI):Nat:=b.countP fun t=>t.isEmpty
theorem Cx{p:gI->Bool}:∀{b:List gI}{i:Nat}{u:gI},i<b.length->p (b.getD i [])=true->p u=false->(b.set i u).countP p<b.countP p
 |[],i,_,h,_,_=>by simp at h
 |x::b,0,u,_,h1,h2=>by
  have h1':p x=true:=h1;simp[fA,h1',h2]
 |x::b,i+1,u,hi,h1,h2=>by
  have:=Cx (p:=p) (b:=b) (i:=i) (u:=u) (by simpa using hi) (by simpa using h1) h2;simp only[bK,fA];omega
theorem Nh{b:List gI}{x:Int}{u:gI}(hx:x<0)(hl: -1-x<(b.length:Int))(hb:bg b x=[])(hu:u≠[]):Hr (bs b x u)<Hr b:=by
 unfold Hr bs;refine Cx iA ?_ ?_
 ·unfold bg at hb;rw[hb];rfl
 ·cases u with
  |nil=>exact absurd rfl hu
  |cons y u=>rfl
theorem Jk{σ:Sb}{f:Int}{p q m:gI}(hf:¬f<0):(sub σ m).length<(sub σ (f::(p++(m++q)))).length:=by
 rw[jN,aj hf,mu,mu];simp;omega
end Un
namespace Un
def E9(s:gI)(x:Int):gI:=if x<0/\x∉s then s++[x]else s
def nO(s t:gI):gI:=t.foldl E9 s
def Cu(o:gI)(x:Int):Int:=if x<0 then -1-(o.idxOf x:Int)else x
def BM(o t:gI):gI:=t.map (Cu o)
structure JI(ρ:Int->Int)(T:gI):Prop where
 fn:∀x,¬x<0->ρ x=x
 vr:∀x∈T,x<0->ρ x<0
 inj:∀x∈T,∀y∈T,ρ x=ρ y->x=y
theorem Ren.apart{ρ:Int->Int}{t u:gI}(h:Ren ρ t u):JI ρ t:=⟨h.fn,h.vr,h.inj⟩
theorem Ou{s:gI}{x y:Int}(h:y∈E9 s x):y∈s\/y=x:=by
 unfold E9 at h;split at h
 ·rcases aG.1 h with h|h
  ·exact .inl h
  ·exact .inr (aR.1 h)
 ·exact .inl h
theorem Jh:∀{t s:gI}{y:Int},y∈nO s t->y∈s\/y∈t
 |[],s,y,h=>.inl h
 |x::t,s,y,h=>by
  rcases Jh (t:=t) (s:=E9 s x) h with h|h
  ·rcases Ou h with h|h
   ·exact .inl h
   ·exact .inr (by rw[h];exact bf)
  ·exact .inr (aX _ h)
theorem Oq{ρ:Int->Int}{T:gI}(hA:JI ρ T):∀{t s:gI},(∀x∈s,x∈T)->(∀x∈t,x∈T)->nO (s.map ρ) (t.map ρ)=(nO s t).map ρ
 |[],s,_,_=>rfl
 |x::t,s,hs,ht=>by
  have hx:=ht x bf;have e:E9 (s.map ρ) (ρ x)=(E9 s x).map ρ:=by
   unfold E9;by_cases h0:x<0
   ·have h1:=hA.vr x hx h0;by_cases hm:x∈s
    ·rw[aj (fun c=>c.2 (a_.2 ⟨x,hm,rfl⟩)),aj (fun c=>c.2 hm)]
    ·rw[ah ⟨h1,fun c=>by
      obtain⟨y,hy,he⟩:=a_.1 c;exact hm (by rw[<-hA.inj y (hs y hy) x hx he];exact hy)⟩,ah ⟨h0,hm⟩,aQ];rfl
   ·rw[aj (fun c=>h0 (by have:=c.1;rwa [hA.fn x h0]at this)),aj fun c=>h0 c.1]
  show nO (E9 (s.map ρ) (ρ x)) (t.map ρ)=(nO (E9 s x) t).map ρ;rw[e];refine Oq hA (fun y hy=>?_) fun y hy=>ht y (aX _ hy)
  rcases Ou hy with hy|rfl
  ·exact hs y hy
  ·exact hx
theorem N9{ρ:Int->Int}{T:gI}(hA:JI ρ T){x:Int}(hx:x∈T):∀{o:gI},(∀y∈o,y∈T)->(o.map ρ).idxOf (ρ x)=o.idxOf x
 |[],_=>rfl
 |y::o,ho=>by
  rw[aK,List.idxOf_cons,List.idxOf_cons,N9 hA hx fun z hz=>ho z (aX _ hz)];by_cases h:y=x
  ·subst h;simp
  ·have:ρ y≠ρ x:=fun e=>h (hA.inj y (ho y bf) x hx e)
   have h1:(ρ y==ρ x)=false:=by simpa using this
   have h2:(y==x)=false:=by simpa using h
   rw[h1,h2]
theorem Xh{ρ:Int->Int}{T o:gI}(hA:JI ρ T)(ho:∀y∈o,y∈T){x:Int}(hx:x∈T):Cu (o.map ρ) (ρ x)=Cu o x:=by
 unfold Cu;by_cases h0:x<0
 ·rw[ah (hA.vr x hx h0),ah h0,N9 hA hx ho]
 ·rw[hA.fn x h0,aj h0,aj h0]
theorem OH{ρ:Int->Int}{T o t:gI}(hA:JI ρ T)(ho:∀y∈o,y∈T)(ht:∀y∈t,y∈T):BM (o.map ρ) (t.map ρ)=BM o t:=by
 unfold BM;rw[eF];exact eY fun x hx=>Xh hA ho (ht x hx)
theorem Oy{a:gI}{N:Pl}{b1 b2:List gI}{σ1 σ2:Sb}{r1 r2:Int->Nat}(h1:Bn a N b1 σ1 r1)(h2:Bn a N b2 σ2 r2)(h:∀τ,zW a b1 τ<->zW a b2 τ)(p q w:gI):
 (Tm.sub σ1 p).length=(Tm.sub σ2 p).length/\(nO [] (Tm.sub σ1 p)).length=(nO [] (Tm.sub σ2 p)).length/\
 BM (nO [] (Tm.sub σ1 p)) (Tm.sub σ1 p)=BM (nO [] (Tm.sub σ2 p)) (Tm.sub σ2 p)/\BM (nO [] (Tm.sub σ1 p)) (Tm.sub σ1 q)=BM (nO [] (Tm.sub σ2 p)) (Tm.sub σ2 q)/\(Tm.sub σ1 q).length=(Tm.sub σ2 q).length:=by
 have R:=MY h1 h2 h (p++q);have hA:=R.apart;have e:=R.eq;have Rp:=(MY h1 h2 h p).eq;have Rq:=(MY h1 h2 h q).eq;rw[Tm.mu]at hA;have m1:∀x∈Tm.sub σ2 p,x∈Tm.sub σ2 p++Tm.sub σ2 q:=fun x hx=>bp _ hx
 have m2:∀x∈Tm.sub σ2 q,x∈Tm.sub σ2 p++Tm.sub σ2 q:=fun x hx=>bM _ hx
 have ho:nO [] ((Tm.sub σ2 p).map (hv σ1))=(nO [] (Tm.sub σ2 p)).map (hv σ1):=Oq hA (s:=[]) (by simp) m1;have hs:∀y∈nO [] (Tm.sub σ2 p),y∈Tm.sub σ2 p++Tm.sub σ2 q:=fun y hy=>(Jh hy).elim (fun c=>by cases c) (m1 y)
 rw[Rp,Rq,ho];exact⟨by simp,by simp,OH hA hs m1,OH hA hs m2,by simp⟩
end Un
namespace Un
open Tm
def sn(seen:List Bool)(m:Int):Bool:=seen.getD (-1-m).toNat false
def ss(seen:List Bool)(m:Int):List Bool:=seen.set (-1-m).toNat true
theorem ZQ{seen:List Bool}{n m:Int}(hn:n<0)(hl: -1-n<(seen.length:Int))(hm:m<0):sn (ss seen n) m=if m=n then true else sn seen m:=by
 unfold sn ss;rw[List.getD_eq_getElem?_getD,List.getD_eq_getElem?_getD,de];by_cases h:m=n
 ·subst h;rw[ah rfl,ah rfl,ah iA];rfl
 ·rw[aj h,aj iA]
def zn(b:List gI)(x:Int):Nat->gI->List Bool->Option (Bool×List Bool)
 |0,_,_=>none
 |_+1,[],seen=>some (false,seen)
 |f+1,m::t,seen=>
  if m=x then some (true,seen)
  else if 0<=m\/sn seen m=true then zn b x (f+1) t seen
  else if bg b m=[]then zn b x (f+1) t (ss seen m)
  else(zn b x f (bg b m) (ss seen m)).bind fun q=>if q.1=true then some (true,q.2)else zn b x (f+1) t q.2
termination_by f t _=>(f,t.length)
theorem Av{b:List gI}{x:Int}:∀(f:Nat)(t:gI)(seen:List Bool){q:Bool×List Bool},zn b x f t seen=some q->q.2.length=seen.length
 |0,_,_,q,h=>by simp[zn]at h
 |f+1,[],seen,q,h=>by simp only[zn,aP]at h;rw[<-h]
 |f+1,m::t,seen,q,h=>by
  rw[zn]at h;split at h
  ·cases h;rfl
  ·split at h
   ·exact Av (f+1) t seen h
   ·split at h
    ·rw[Av (f+1) t _ h];simp[ss]
    ·obtain⟨p,hp,h⟩:=av.1 h;have h1:=Av f _ _ hp;split at h
     ·cases h;rw[h1];simp[ss]
     ·rw[Av (f+1) t _ h,h1];simp[ss]
termination_by f t _=>(f,t.length)
theorem DI{a:gI}{N:Pl}{b:List gI}{σ:Sb}{r:Int->Nat}(h:Bn a N b σ r){x:Int}(hx:x<0)(hbx:bg b x=[]):∀(f:Nat)(t:gI)(seen:List Bool){R:Nat},R<f->seen.length=N.n->
 (∀y∈t, -(N.n:Int)<=y)->(∀y∈t,y<0->bg b y≠[]->r y<R)->(∀m,m<0-> -(N.n:Int)<=m->sn seen m=true->(bg b m≠[]->r m<R)->x∉σ m)->
 ∃q,zn b x f t seen=some q/\(q.1=true->x∈sub σ t)/\(q.1=false->x∉sub σ t/\∀m,m<0-> -(N.n:Int)<=m->sn q.2 m=true->sn seen m=true\/x∉σ m)
 |0,_,_,R,hR,_,_,_,_=>by omega
 |f+1,[],seen,R,hR,hl,hn,hr,hs=>⟨(false,seen),by simp[zn],fun e=>(by cases e),fun _=>⟨by simp[sub],fun m _ _ e=>.inl e⟩⟩
 |f+1,m::t,seen,R,hR,hl,hn,hr,hs=>by
  have hn':∀y∈t, -(N.n:Int)<=y:=fun y hy=>hn y (aX _ hy)
  have hr':∀y∈t,y<0->bg b y≠[]->r y<R:=fun y hy=>hr y (aX _ hy)
  have hmN:=hn m bf;rw[zn];by_cases hm:m=x
  ·rw[ah hm];refine⟨_,rfl,fun _=>?_,fun e=>by cases e⟩;refine qw.2 ⟨x,by rw[hm];exact bf,.inl ⟨hx,?_⟩⟩;rw[h.Rs x hx hbx];exact aR.2 rfl
  ·rw[aj hm];by_cases hc:0<=m\/sn seen m=true
   ·rw[ah hc];obtain⟨q,e,q1,q2⟩:=DI h hx hbx (f+1) t seen hR hl hn' hr' hs;refine⟨q,e,fun k=>?_,fun k=>⟨fun hin=>?_,(q2 k).2⟩⟩
    ·rw[jN];exact bM _ (q1 k)
    ·rw[jN]at hin;rcases aG.1 hin with hin|hin
     ·split at hin
      ·rename_i h0;rcases hc with hc|hc
       ·omega
       ·exact hs m h0 hmN hc (hr m bf h0) hin
      ·rename_i h0;exact hm (aR.1 hin).symm
     ·exact(q2 k).1 hin
   ·rw[aj hc];have h0:m<0:=by omega
    have E7:sn seen m≠true:=fun e=>hc (.inr e)
    have hlm: -1-m<(seen.length:Int):=by omega
    have hg:∀{y:Int},y<0->sn (ss seen m) y=if y=m then true else sn seen y:=fun hy=>ZQ h0 hlm hy
    have hl':(ss seen m).length=N.n:=by simp[ss,hl]
    by_cases hb:bg b m=[]
    ·rw[ah hb];have hxm:x∉σ m:=by rw[h.Rs m h0 hb];exact fun e=>hm (aR.1 e).symm
     obtain⟨q,e,q1,q2⟩:=DI h hx hbx (f+1) t (ss seen m) hR hl' hn' hr' (fun y hy hyN hsy hry=>by
      rw[hg hy]at hsy;split at hsy
      ·rename_i e;rw[e];exact hxm
      ·exact hs y hy hyN hsy hry)
     refine⟨q,e,fun k=>?_,fun k=>⟨fun hin=>?_,fun y hy hyN hsy=>?_⟩⟩
     ·rw[jN];exact bM _ (q1 k)
     ·rw[jN,ah h0]at hin;rcases aG.1 hin with hin|hin
      ·exact hxm hin
      ·exact(q2 k).1 hin
     ·rcases(q2 k).2 y hy hyN hsy with hsy|hsy
      ·rw[hg hy]at hsy;split at hsy
       ·rename_i e;exact .inr (by rw[e];exact hxm)
       ·exact .inl hsy
      ·exact .inr hsy
    ·rw[aj hb];obtain⟨w1,w2⟩:=h.tm m h0 hb;have hmR:=hr m bf h0 hb;obtain⟨p,e1,p1,p2⟩:=DI h hx hbx f (bg b m) (ss seen m) (R:=r m) iA hl' w2 (fun y hy hy0 hby=>h.rk m h0 hb y hy hy0 hby) (fun y hy hyN hsy hry=>by
      rw[hg hy]at hsy;split at hsy
      ·rename_i e;have:=hry (by rw[e];exact hb);rw[e]at this;omega
      ·exact hs y hy hyN hsy fun k=>by have:=hry k;omega)
     rw[e1,aa];cases hp:p.1 with
     |true=>
      rw[ah rfl];refine⟨_,rfl,fun _=>?_,fun e=>by cases e⟩;rw[jN,ah h0];exact bp _ (by rw[h.val m h0 hb];exact p1 hp)
     |false=>
      rw[aj (by simp)];obtain⟨k1,k2⟩:=p2 hp;have hxm:x∉σ m:=by rw[h.val m h0 hb];exact k1
      have hpl:p.2.length=N.n:=by rw[Av f _ _ e1];exact hl'
      obtain⟨q,e,q1,q2⟩:=DI h hx hbx (f+1) t p.2 hR hpl hn' hr' (fun y hy hyN hsy hry=>by
       rcases k2 y hy hyN hsy with hsy|hsy
       ·rw[hg hy]at hsy;split at hsy
        ·rename_i e;rw[e];exact hxm
        ·exact hs y hy hyN hsy hry
       ·exact hsy)
      refine⟨q,e,fun k=>?_,fun k=>⟨fun hin=>?_,fun y hy hyN hsy=>?_⟩⟩
      ·rw[jN];exact bM _ (q1 k)
      ·rw[jN,ah h0]at hin;rcases aG.1 hin with hin|hin
       ·exact hxm hin
       ·exact(q2 k).1 hin
      ·rcases(q2 k).2 y hy hyN hsy with hsy|hsy
       ·rcases k2 y hy hyN hsy with hsy|hsy
        ·rw[hg hy]at hsy;split at hsy
         ·rename_i e;exact .inr (by rw[e];exact hxm)
         ·exact .inl hsy
        ·exact .inr hsy
       ·exact .inr hsy
termination_by f t _=>(f,t.length)
abbrev Bd:=List gI
def qD(a:gI):Nat->gI->List gI
 |0,_=>[]
 |k+1,t=>match BS a t 1 with
  |some r=>t.take (t.length-r.length)::qD a k r
  |none=>[]
theorem wN{a:gI}:∀{k:Nat}{t:gI},Wv a k t->(qD a k t).flatten=t/\(qD a k t).length=k/\∀u∈qD a k t,Wv a 1 u
 |0,t,h=>by rw[h.zero];simp[qD]
 |k+1,t,h=>by
  rw[cP]at h;obtain⟨u,v,rfl,h1,h2⟩:=h.split;have e:BS a (u++v) 1=some v:=h1.skip v;obtain⟨i1,i2,i3⟩:=wN h2;have e2:(u++v).take ((u++v).length-v.length)=u:=by rw[ak,dB];simp
  have e3:qD a (k+1) (u++v)=u::qD a k v:=by rw[qD,e];simp only;rw[e2]
  rw[e3];refine⟨by rw[cg,i1],by rw[aN,i2],fun w hw=>?_⟩;rcases bA.1 hw with rfl|hw
  ·exact h1
  ·exact i3 w hw
def Cl(a:gI)(N:Pl):Prop:=∀t,Nb N t->Wv a 1 t->¬t.headD 0<0->∀u∈qD a (mV a (t.headD 0)) t.tail,Nb N u
structure Cm(a:gI)(N:Pl)(b:Bd)(E:Sb->Prop)(res:Bd×Bool):Prop where
 yes:res.2=true->(∃σ' r',Bn a N res.1 σ' r')/\(∀τ,zW a res.1 τ<->zW a b τ/\E τ)/\(res.1=b\/Hr res.1<Hr b)
 no:res.2=false->∀τ,zW a b τ->¬E τ
def eqL(E:Bd->gI->gI->Option (Bd×Bool)):Bd->List gM->Option (Bd×Bool)
 |b,[]=>some (b,true)
 |b,pq::l=>(E b pq.1 pq.2).bind fun q=>if q.2=true then eqL E q.1 l else some (q.1,false)
def way(u v:gI):Int×gI:=if v.headD 0<0/\(0<=u.headD 0\/v.headD 0<u.headD 0)then(v.headD 0,u)else(u.headD 0,v)
open Classical in
noncomputable def one(a:gI)(E:Bd->gI->gI->Option (Bd×Bool))(b:Bd)(σ:Sb)(u v:gI):Option (Bd×Bool):=
 if u.headD 0=v.headD 0/\u.headD 0<0 then some (b,true)
 else if u.headD 0<0\/v.headD 0<0 then
  if 0<=(way u v).2.headD 0/\(way u v).1∈sub σ (way u v).2 then some (b,false)else some (bs b (way u v).1 (way u v).2,true)
 else if u.headD 0≠v.headD 0 then some (b,false)
 else eqL E b ((qD a (mV a (u.headD 0)) u.tail).zip (qD a (mV a (u.headD 0)) v.tail))
structure Ei(a:gI)(N:Pl)(E:Nat->Bd->gI->gI->Option (Bd×Bool)):Prop where
 step:∀{b:Bd}{σ:Sb}{r:Int->Nat}{s t:gI},Bn a N b σ r->Wv a 1 s->Wv a 1 t->Nb N s->Nb N t->
  ∃u v,Hd b s u/\Hd b t v/\∀f,E (f+1) b s t=one a (E f) b σ u v
theorem Hv{α β:Type}:∀{xs:List α}{ys:List β},xs.length=ys.length->(xs.zip ys).map (·.1)=xs/\(xs.zip ys).map (·.2)=ys
 |[],[],_=>⟨rfl,rfl⟩
 |x::xs,y::ys,h=>by
  obtain⟨h1,h2⟩:=Hv (xs:=xs) (ys:=ys) (by simpa using h);exact⟨by rw[fV,aK,h1],by rw[fV,aK,h2]⟩
 |[],_::_,h=>by cases h
 |_::_,[],h=>by cases h
theorem pK{xs:List gI}{u:gI}(h:u∈xs):∃p q,xs.flatten=p++(u++q):=by
 obtain⟨l,r,rfl⟩:=List.append_of_mem h;exact⟨l.flatten,r.flatten,by simp⟩
def Good(a:gI)(N:Pl)(E:Nat->Bd->gI->gI->Option (Bd×Bool))(b:Bd)(s t:gI):Prop:=
 ∃F res,(∀f,F<=f->E f b s t=some res)/\Cm a N b (fun τ=>sub τ s=sub τ t) res
theorem SO{a:gI}{N:Pl}{E:Nat->Bd->gI->gI->Option (Bd×Bool)}{b0:Bd}{σ0:Sb}{r0:Int->Nat}(h0:Bn a N b0 σ0 r0)
 (low:∀{b:Bd}{σ:Sb}{r:Int->Nat}{s t:gI},Bn a N b σ r->Hr b<Hr b0->Wv a 1 s->Wv a 1 t->Nb N s->Nb N t->Good a N E b s t):
 ∀(l:List gM){b:Bd}{σ:Sb}{r:Int->Nat},Bn a N b σ r->(b=b0\/Hr b<Hr b0)->(∀pq∈l,Wv a 1 pq.1/\Wv a 1 pq.2/\(Nb N pq.1)/\(Nb N pq.2)/\Good a N E b0 pq.1 pq.2)->
 ∃F res,(∀f,F<=f->eqL (E f) b l=some res)/\Cm a N b (fun τ=>uG τ l) res
 |[],b,σ,r,h,hb,hl=>⟨0,(b,true),fun _ _=>rfl,⟨fun _=>⟨⟨σ,r,h⟩,fun τ=>by simp[uG],.inl rfl⟩,fun e=>by cases e⟩⟩
 |pq::l,b,σ,r,h,hb,hl=>by
  obtain⟨w1,w2,n1,n2,hg⟩:=hl pq bf;have hgood:Good a N E b pq.1 pq.2:=by
   rcases hb with rfl|hb
   ·exact hg
   ·exact low h hb w1 w2 n1 n2
  obtain⟨F,res,e1,R1⟩:=hgood;cases hr:res.2 with
  |false=>
   refine⟨F,(res.1,false),fun f hf=>?_,⟨fun e=>(by cases e),fun _ τ hτ hA=>R1.no hr τ hτ hA.1⟩⟩;rw[eqL,e1 f hf,aa,hr,aj (by simp)]
  |true=>
   obtain⟨⟨σ',r',h'⟩,hS,hb'⟩:=R1.yes hr;have hb2:res.1=b0\/Hr res.1<Hr b0:=by
    rcases hb' with e|hb'
    ·rw[e];exact hb
    ·rcases hb with rfl|hb
     ·exact .inr hb'
     ·exact .inr iA
   obtain⟨F2,res2,e2,R2⟩:=SO h0 low l h' hb2 fun x hx=>hl x (aX _ hx)
   refine⟨max F F2,res2,fun f hf=>?_,⟨fun e=>?_,fun e τ hτ hA=>?_⟩⟩
   ·rw[eqL,e1 f iA,aa,hr,ah rfl];exact e2 f iA
   ·obtain⟨k1,k2,k3⟩:=R2.yes e;refine⟨k1,fun τ=>?_,?_⟩
    ·rw[k2 τ,hS τ];simp only[uG,and_assoc]
    ·rcases k3 with k3|k3
     ·rw[k3];exact hb'
     ·rcases hb' with e'|hb'
      ·rw[e']at k3;exact .inr k3
      ·exact .inr iA
   ·exact R2.no e τ ((hS τ).2 ⟨hτ,hA.1⟩) hA.2
theorem Lq{a:gI}{N:Pl}{b:Bd}{σ:Sb}{r:Int->Nat}(h:Bn a N b σ r){s t u v:gI}(k:At a N b s t u v)(hx:u.headD 0<0)(hne:u.headD 0≠v.headD 0):
 (0<=v.headD 0/\u.headD 0∈sub σ v->∀τ,zW a b τ->sub τ s≠sub τ t)/\
 (¬(0<=v.headD 0/\u.headD 0∈sub σ v)->Cm a N b (fun τ=>sub τ s=sub τ t) (bs b (u.headD 0) v,true)):=by
 refine⟨fun hc τ hτ=>Na h k hx hne hc.2 hτ,fun hc=>?_⟩;have hno:u.headD 0∉sub σ v:=fun hin=>by
  obtain⟨w1,n1,f1,_⟩:=k.hu.ok h k.ws k.ns;obtain⟨w2,n2,f2,_⟩:=k.hv.ok h k.wt k.nt;by_cases h0:v.headD 0<0
  ·rw[BA w2 h0]at hin;exact hne ((N3 h hx (f1 hx) h0 (f2 h0)).1 hin)
  ·exact hc ⟨iA,hin⟩
 obtain⟨k1,k2,k3,k4,k5⟩:=Jz h k hx hno;refine⟨fun _=>⟨k1,k2,.inr ?_⟩,fun e=>by cases e⟩;exact Nh hx (by rw[h.len];omega) k3 k5
theorem Cm.of{a:gI}{N:Pl}{b:Bd}{E E':Sb->Prop}{res:Bd×Bool}(h:Cm a N b E res)(he:∀τ,zW a b τ->(E τ<->E' τ)):Cm a N b E' res:=
 ⟨fun e=>⟨(h.yes e).1,fun τ=>by rw[(h.yes e).2.1 τ];exact⟨fun k=>⟨k.1,(he τ k.1).1 k.2⟩,fun k=>⟨k.1,(he τ k.1).2 k.2⟩⟩,(h.yes e).2.2⟩,fun e τ hτ hE=>h.no e τ hτ ((he τ hτ).2 hE)⟩
theorem Ei.good{a:gI}{N:Pl}{E:Nat->Bd->gI->gI->Option (Bd×Bool)}(hE:Ei a N E)(hC:Cl a N)(U M:Nat){b:Bd}{σ:Sb}{r:Int->Nat}{s t:gI}(h:Bn a N b σ r)(hU:Hr b<=U)(hM:(sub σ s).length+(sub σ t).length<=M)
 (ws:Wv a 1 s) (wt:Wv a 1 t) (ns:Nb N s) (nt:Nb N t):Good a N E b s t:=by
 obtain⟨u,v,hu,hv,hstep⟩:=hE.step h ws wt ns nt;have k:At a N b s t u v:=⟨ws,wt,ns,nt,hu,hv⟩;obtain⟨w1,n1,f1,g1⟩:=hu.ok h ws ns;obtain⟨w2,n2,f2,g2⟩:=hv.ok h wt nt;have key:∃F res,(∀f,F<=f->one a (E f) b σ u v=some res)/\Cm a N b (fun τ=>sub τ s=sub τ t) res:=by
  unfold one;by_cases c1:u.headD 0=v.headD 0/\u.headD 0<0
  ·refine⟨0,(b,true),fun f _=>by rw[ah c1],⟨fun _=>⟨⟨σ,r,h⟩,fun τ=>⟨fun hτ=>⟨hτ,OW h k c1.2 c1.1 hτ⟩,fun hτ=>hτ.1⟩,.inl rfl⟩,fun e=>by cases e⟩⟩
  ·by_cases c2:u.headD 0<0\/v.headD 0<0
   ·have hne:u.headD 0≠v.headD 0:=fun e=>c1 ⟨e,iA⟩
    by_cases c3:v.headD 0<0/\(0<=u.headD 0\/v.headD 0<u.headD 0)
    ·have hw:way u v=(v.headD 0,u):=by unfold way;rw[ah c3]
     obtain⟨p1,p2⟩:=Lq h k.symm c3.1 (gG hne);by_cases c4:0<=u.headD 0/\v.headD 0∈sub σ u
     ·exact⟨0,(b,false),fun f _=>by rw[aj c1,ah c2,hw,ah c4],⟨fun e=>(by cases e),fun _ τ hτ e=>p1 c4 τ hτ e.symm⟩⟩
     ·exact⟨0,(bs b (v.headD 0) u,true),fun f _=>by rw[aj c1,ah c2,hw,aj c4],(p2 c4).of fun τ _=>eq_comm⟩
    ·have hx:u.headD 0<0:=by omega
     have hw:way u v=(u.headD 0,v):=by unfold way;rw[aj c3]
     obtain⟨p1,p2⟩:=Lq h k hx hne;by_cases c4:0<=v.headD 0/\u.headD 0∈sub σ v
     ·exact⟨0,(b,false),fun f _=>by rw[aj c1,ah c2,hw,ah c4],⟨fun e=>(by cases e),fun _ τ hτ e=>p1 c4 τ hτ e⟩⟩
     ·exact⟨0,(bs b (u.headD 0) v,true),fun f _=>by rw[aj c1,ah c2,hw,aj c4],p2 c4⟩
   ·have hx:¬u.headD 0<0:=by omega
    have hy:¬v.headD 0<0:=by omega
    by_cases c3:u.headD 0=v.headD 0
    ·obtain⟨x,p,eu,_,wp⟩:=w1.pos;obtain⟨y,q,ev,_,wq⟩:=w2.pos;subst eu;subst ev;have exy:x=y:=c3;subst exy;have hx':¬x<0:=hx;rw[bU]at wp wq;obtain⟨i1,i2,i3⟩:=wN wp;obtain⟨j1,j2,j3⟩:=wN wq;have hlen:(qD a (mV a x) p).length=(qD a (mV a x) q).length:=by rw[i2,j2]
     obtain⟨z1,z2⟩:=Hv hlen;have hsz1:(sub σ (x::p)).length=(sub σ s).length:=by rw[g1 σ h.self]
     have hsz2:(sub σ (x::q)).length=(sub σ t).length:=by rw[g2 σ h.self]
     have low:∀{b':Bd}{σ':Sb}{r':Int->Nat}{s' t':gI},Bn a N b' σ' r'->Hr b'<Hr b->Wv a 1 s'->Wv a 1 t'->(Nb N s')->(Nb N t')->Good a N E b' s' t':=fun{b' σ' r' s' t'} h' hlt ws' wt' ns' nt'=>
      have hd:Hr b'<U:=by omega
      Ei.good hE hC (Hr b') _ h' (aC _) (aC _) ws' wt' ns' nt'
     have pairs:∀pq∈(qD a (mV a x) p).zip (qD a (mV a x) q),Wv a 1 pq.1/\Wv a 1 pq.2/\(Nb N pq.1)/\(Nb N pq.2)/\Good a N E b pq.1 pq.2:=fun pq hpq=>by
      obtain⟨m1,m2⟩:=gD (a:=pq.1) (b:=pq.2) hpq;obtain⟨p1,p2,ep⟩:=pK m1;obtain⟨q1,q2,eq'⟩:=pK m2;rw[i1]at ep;rw[j1]at eq';have np:Nb N pq.1:=hC _ n1 w1 hx' _ m1;have nq:Nb N pq.2:=hC _ n2 w2 hx' _ m2;have l1:=Jk (σ:=σ) (p:=p1) (q:=p2) (m:=pq.1) hx';have l2:=Jk (σ:=σ) (p:=q1) (q:=q2) (m:=pq.2) hx';rw[<-ep,hsz1]at l1;rw[<-eq',hsz2]at l2;have hd:(sub σ pq.1).length+(sub σ pq.2).length<M:=by omega
      exact⟨i3 _ m1,j3 _ m2,np,nq,Ei.good hE hC U _ h hU (aC _) (i3 _ m1) (j3 _ m2) np nq⟩
     obtain⟨F,res,e1,R⟩:=SO h low ((qD a (mV a x) p).zip (qD a (mV a x) q)) h (.inl rfl) pairs;refine⟨F,res,fun f hf=>?_,R.of fun τ hτ=>?_⟩
     ·rw[aj c1,aj c2,aj (fun e=>e c3)];exact e1 f hf
     ·exact(Uh h k hx c3 (fun pq hpq=>⟨(pairs pq hpq).1,(pairs pq hpq).2.1⟩) (by rw[z1,i1];rfl) (by rw[z2,j1];rfl) hτ).symm
    ·exact⟨0,(b,false),fun f _=>by rw[aj c1,aj c2,ah c3],⟨fun e=>(by cases e),fun _ τ hτ e=>Ld h k hx hy c3 hτ e⟩⟩
 obtain⟨F,res,e1,R⟩:=key;refine⟨F+1,res,fun f hf=>?_,R⟩;obtain⟨g,rfl⟩:∃g,f=g+1:=⟨f-1,iA⟩;rw[hstep g];exact e1 g iA
termination_by (U,M)
end Un
namespace Un
open Tm oq
abbrev Pr:=List gM
def Qu(σ:Sb)(l:Pr):Nat:=(l.map fun pq=>(sub σ pq.1).length+(sub σ pq.2).length).sum
theorem OE{σ:Sb}{l m:Pr}:Qu σ (l++m)=Qu σ l+Qu σ m:=by unfold Qu;rw[aQ,List.sum_append]
theorem KW{σ:Sb}:∀{l:Pr},Qu σ l=(sub σ (l.map (·.1)).flatten).length+(sub σ (l.map (·.2)).flatten).length
 |[]=>rfl
 |pq::l=>by
  have ih:=KW (σ:=σ) (l:=l);unfold Qu at ih⊢;simp only[aK,List.sum_cons,cg,mu,ak];omega
theorem KR:∀{H P:List gI},H.Nodup->(∀x∈H,x∈P)->H.length<=P.length
 |[],P,_,_=>cS _
 |x::H,P,hn,hs=>by
  obtain⟨h1,h2⟩:=bX.1 hn;have hx:=hs x bf;have i:=KR (P:=P.erase x) h2 fun y hy=>(List.mem_erase_of_ne (fun e:y=x=>h1 (by rw[<-e];exact hy))).2 (hs y (aX _ hy))
  rw[List.length_erase_of_mem hx]at i;have:=fD hx;rw[aN];omega
def Cs(a:gI)(b:Bd)(e X:gI):Prop:=∀τ,zW a b τ->(sub τ e).length<(sub τ X).length
inductive Ch(N:Pl)(C:gI->gI->Prop):List gI->List gI->Prop
 |base {l:List gI} (h:l.length<=1):Ch N C [] l
 |Yn {H l m:List gI} {X:gI} (h:Ch N C H l) (h3:m.length<=3) (he:∀e∈m,C e X) (hX:∀Y∈H,C X Y) (hP:X∈N.P):Ch N C (X::H) (l++m)
theorem Ch.mono{N:Pl}{C C':gI->gI->Prop}(hC:∀e X,C e X->C' e X){H l:List gI}(h:Ch N C H l):Ch N C' H l:=by
 induction h with
 |base h=>exact .base h
 |Yn h h3 he hX hP ih=>exact .Yn ih h3 (fun e k=>hC _ _ (he e k)) (fun Y k=>hC _ _ (hX Y k)) hP
theorem Ch.len{N:Pl}{C:gI->gI->Prop}{H l:List gI}(h:Ch N C H l):l.length<=1+3*H.length:=by
 induction h with
 |base h=>simpa using h
 |Yn h h3 he hX hP ih=>rw[ak,aN];omega
theorem Ch.mem{N:Pl}{C:gI->gI->Prop}{H l:List gI}(h:Ch N C H l):∀x∈H,x∈N.P:=by
 induction h with
 |base h=>simp
 |Yn h h3 he hX hP ih=>
  intro x hx;rcases bA.1 hx with rfl|hx
  ·exact hP
  ·exact ih x hx
theorem Ch.nodup{N:Pl}{C:gI->gI->Prop}(hi:∀X,¬C X X){H l:List gI}(h:Ch N C H l):H.Nodup:=by
 induction h with
 |base h=>exact fe
 |@Yn H l m X h h3 he hX hP ih=>exact bX.2 ⟨fun k=>hi X (hX X k),ih⟩
theorem Ch.pop{N:Pl}{C:gI->gI->Prop}(ht:∀{x y z},C x y->C y z->C x z){H q:List gI}(h:Ch N C H q):∀{l:List gI}{s:gI},q=l++[s]->∃H',Ch N C H' l/\∀Y∈H',C s Y:=by
 induction h with
 |base h=>
  intro l s e;subst e;rw[ak,aU]at h;exact⟨[],.base iA,by simp⟩
 |@Yn H l0 m X h h3 he hX hP ih=>
  intro l s e;rcases fH m with rfl|⟨m',s',rfl⟩
  ·rw[aT]at e;exact ih e
  ·rw[d_,<-aF]at e;obtain⟨e1,e2⟩:=List.append_inj' e rfl;cases e2;rw[d_]at he h3;have hs:C s X:=he s (by simp);refine⟨X::H,e1▸ .Yn h (by rw[ak]at h3;omega) (fun e k=>he e (bp _ k)) hX hP,fun Y hY=>?_⟩;rcases bA.1 hY with rfl|hY
   ·exact hs
   ·exact ht hs (hX Y hY)
structure CH{S β:Type}(a:gI)(N:Pl)(enc:Bd->List gI->List gI->S)(out:Bd->Bool->β)(f:S->Option (S⊕β)):Prop where
 nil:∀b,f (enc b [] [])=some (.inr (out b true))
 step:∀{b:Bd}{σ:Sb}{r:Int->Nat}{l:Pr}{s t:gI},Bn a N b σ r->Wv a 1 s->Wv a 1 t->Nb N s->Nb N t->
  l.length<=3*N.P.length->
  ∃u v,Hd b s u/\Hd b t v/\
   (u.headD 0=v.headD 0/\u.headD 0<0->f (enc b (l.map (·.1)++[s]) (l.map (·.2)++[t]))=some (.inl (enc b (l.map (·.1)) (l.map (·.2)))))/\
   (u.headD 0≠v.headD 0->u.headD 0<0->u.headD 0∈sub σ v->∃b',f (enc b (l.map (·.1)++[s]) (l.map (·.2)++[t]))=some (.inr (out b' false)))/\
   (u.headD 0≠v.headD 0->u.headD 0<0->u.headD 0∉sub σ v->f (enc b (l.map (·.1)++[s]) (l.map (·.2)++[t]))=some (.inl (enc (bs b (u.headD 0) v) (l.map (·.1)) (l.map (·.2)))))/\
   (¬u.headD 0<0->v.headD 0<0->v.headD 0∈sub σ u->∃b',f (enc b (l.map (·.1)++[s]) (l.map (·.2)++[t]))=some (.inr (out b' false)))/\
   (¬u.headD 0<0->v.headD 0<0->v.headD 0∉sub σ u->f (enc b (l.map (·.1)++[s]) (l.map (·.2)++[t]))=some (.inl (enc (bs b (v.headD 0) u) (l.map (·.1)) (l.map (·.2)))))/\
   (¬u.headD 0<0->¬v.headD 0<0->u.headD 0≠v.headD 0->∃b',f (enc b (l.map (·.1)++[s]) (l.map (·.2)++[t]))=some (.inr (out b' false)))/\
   (¬u.headD 0<0->u.headD 0=v.headD 0->f (enc b (l.map (·.1)++[s]) (l.map (·.2)++[t]))=some (.inl (enc b (l.map (·.1)++qD a (mV a (u.headD 0)) u.tail) (l.map (·.2)++qD a (mV a (u.headD 0)) v.tail))))
def Z4(a:gI)(N:Pl)(l:Pr):Prop:=∀pq∈l,Wv a 1 pq.1/\Wv a 1 pq.2/\(Nb N pq.1)/\Nb N pq.2
theorem Cm.chain{a:gI}{N:Pl}{b b':Bd}{E E' F:Sb->Prop}{res:Bd×Bool}(h:Cm a N b' E res)(h1:∀τ,zW a b' τ<->zW a b τ/\F τ)(hb:b'=b\/Hr b'<Hr b)(he:∀τ,zW a b τ->(E' τ<->F τ/\E τ)):Cm a N b E' res:=by
 refine⟨fun e=>⟨(h.yes e).1,fun τ=>?_,?_⟩,fun e τ hτ hE=>?_⟩
 ·rw[(h.yes e).2.1 τ,h1 τ];constructor
  ·rintro⟨⟨k1,k2⟩,k3⟩;exact⟨k1,(he τ k1).2 ⟨k2,k3⟩⟩
  ·rintro⟨k1,k2⟩;exact⟨⟨k1,((he τ k1).1 k2).1⟩,((he τ k1).1 k2).2⟩
 ·rcases(h.yes e).2.2 with k|k
  ·rw[k];exact hb
  ·rcases hb with rfl|hb
   ·exact .inr k
   ·exact .inr iA
 ·obtain⟨k1,k2⟩:=(he τ hτ).1 hE;exact h.no e τ ((h1 τ).2 ⟨hτ,k1⟩) k2
theorem CH.good{S β:Type}{a:gI}{N:Pl}{enc:Bd->List gI->List gI->S}{out:Bd->Bool->β}{f:S->Option (S⊕β)}(hf:CH a N enc out f)(hC:Cl a N)(hA:∀x,mV a x<=3)(U M:Nat){b:Bd}{σ:Sb}{r:Int->Nat}{l:Pr}(h:Bn a N b σ r)(hU:Hr b<=U)(hM:Qu σ l<=M)(hl:Z4 a N l){H:List gI}(hH:Ch N (Cs a b) H (l.map (·.1))):
 ∃res:Bd×Bool,iL f (enc b (l.map (·.1)) (l.map (·.2)))=some (out res.1 res.2)/\Cm a N b (fun τ=>uG τ l) res:=by
 rcases fH l with rfl|⟨l',⟨s,t⟩,rfl⟩
 ·exact⟨(b,true),iK (hf.nil b),⟨fun _=>⟨⟨σ,r,h⟩,fun τ=>by simp[uG],.inl rfl⟩,fun e=>by cases e⟩⟩
 ·rw[d_]at hM hl⊢;obtain⟨ws,wt,ns,nt⟩:=hl (s,t) (by simp);have hl':Z4 a N l':=fun pq hpq=>hl pq (bp _ hpq)
  have hll:l'.length<=3*N.P.length:=by
   have q1:=hH.len;have q2:=KR (hH.nodup fun X c=>eP _ (c σ h.self)) hH.mem;simp only[d_,aJ,ak,aU]at q1;omega
  obtain⟨H',hH',hs'⟩:=hH.pop (fun k1 k2 τ hτ=>Nat.lt_trans (k1 τ hτ) (k2 τ hτ)) (l:=l'.map (·.1)) (s:=s) (by simp);obtain⟨u,v,hu,hv,s1,s2,s3,s4,s5,s6,s7⟩:=hf.step (l:=l') h ws wt ns nt hll;have k:At a N b s t u v:=⟨ws,wt,ns,nt,hu,hv⟩;obtain⟨w1,n1,f1,g1⟩:=hu.ok h ws ns;obtain⟨w2,n2,f2,g2⟩:=hv.ok h wt nt;have hps:1<=(sub σ s).length:=(ws.sub fun x _ hx=>h.wv x hx).len;rw[OE]at hM;have hone:Qu σ [(s,t)]=(sub σ s).length+(sub σ t).length:=by simp[Qu]
  rw[hone]at hM;rw[aQ,aQ,aK,cJ,aK,cJ];have fail:(∃b',f (enc b (l'.map (·.1)++[s]) (l'.map (·.2)++[t]))=some (.inr (out b' false)))->(∀τ,zW a b τ->sub τ s≠sub τ t)->∃res:Bd×Bool,iL f (enc b (l'.map (·.1)++[s]) (l'.map (·.2)++[t]))=some (out res.1 res.2)/\Cm a N b (fun τ=>uG τ (l'++[(s,t)])) res:=by
   rintro⟨b',e⟩ hno;refine⟨(b',false),iK e,⟨fun e=>(by cases e),fun _ τ hτ hA=>?_⟩⟩;exact hno τ hτ (yG.1 hA).2.1
  have bind:∀{x:Int}{w s' t':gI},f (enc b (l'.map (·.1)++[s]) (l'.map (·.2)++[t]))=some (.inl (enc (bs b x w) (l'.map (·.1)) (l'.map (·.2))))->Cm a N b (fun τ=>sub τ s=sub τ t) (bs b x w,true)->Hr (bs b x w)<Hr b->
   ∃res:Bd×Bool,iL f (enc b (l'.map (·.1)++[s]) (l'.map (·.2)++[t]))=some (out res.1 res.2)/\Cm a N b (fun τ=>uG τ (l'++[(s,t)])) res:=fun{x w s' t'} e R hlt=>by
   obtain⟨⟨σ',r',h'⟩,hS,_⟩:=R.yes rfl;have hd:Hr (bs b x w)<U:=by omega
   obtain⟨res,e2,R2⟩:=CH.good hf hC hA (Hr (bs b x w)) _ h' (aC _) (aC _) hl' (hH'.mono fun e X k τ hτ=>k τ ((hS τ).1 hτ).1);exact⟨res,(iZ e).trans e2,R2.chain hS (.inr hlt) fun τ hτ=>by rw[yG];simp[uG,and_comm]⟩
  by_cases c1:u.headD 0=v.headD 0/\u.headD 0<0
  ·have hd:Qu σ l'<M:=by omega
   obtain⟨res,e2,R2⟩:=CH.good hf hC hA U (Qu σ l') h hU (aC _) hl' hH';refine⟨res,(iZ (s1 c1)).trans e2,R2.of fun τ hτ=>?_⟩;rw[yG];simp[uG,OW h k c1.2 c1.1 hτ]
  ·by_cases hx:u.headD 0<0
   ·have hne:u.headD 0≠v.headD 0:=fun e=>c1 ⟨e,hx⟩
    by_cases hin:u.headD 0∈sub σ v
    ·exact fail (s2 hne hx hin) fun τ hτ=>Na h k hx hne hin hτ
    ·obtain⟨k1,k2,k3,k4,k5⟩:=Jz h k hx hin;have hlt:=Nh (b:=b) (u:=v) hx (by rw[h.len];omega) k3 k5;exact bind (s':=s) (t':=t) (s3 hne hx hin) ⟨fun _=>⟨k1,k2,.inr hlt⟩,fun e=>by cases e⟩ hlt
   ·by_cases hy:v.headD 0<0
    ·have hne:v.headD 0≠u.headD 0:=by omega
     by_cases hin:v.headD 0∈sub σ u
     ·exact fail (s4 hx hy hin) fun τ hτ e=>Na h k.symm hy hne hin hτ e.symm
     ·obtain⟨k1,k2,k3,k4,k5⟩:=Jz h k.symm hy hin;have hlt:=Nh (b:=b) (u:=u) hy (by rw[h.len];omega) k3 k5;exact bind (s':=s) (t':=t) (s5 hx hy hin) ⟨fun _=>⟨k1,fun τ=>by rw[k2 τ];exact⟨fun q=>⟨q.1,q.2.symm⟩,fun q=>⟨q.1,q.2.symm⟩⟩,.inr hlt⟩,fun e=>by cases e⟩ hlt
    ·by_cases c3:u.headD 0=v.headD 0
     ·have e:=s7 hx c3;obtain⟨x,p,eu,_,wp⟩:=w1.pos;obtain⟨y,q,ev,_,wq⟩:=w2.pos;subst eu;subst ev;have exy:x=y:=c3;subst exy;have hx':¬x<0:=hx;rw[bU]at wp wq;obtain⟨i1,i2,i3⟩:=wN wp;obtain⟨j1,j2,j3⟩:=wN wq;obtain⟨z1,z2⟩:=Hv (xs:=qD a (mV a x) p) (ys:=qD a (mV a x) q) (by rw[i2,j2]);have hsz1:(sub σ (x::p)).length=(sub σ s).length:=by rw[g1 σ h.self]
      have hsz2:(sub σ (x::q)).length=(sub σ t).length:=by rw[g2 σ h.self]
      rw[jN,aj hx']at hsz1 hsz2;simp only[dD,aN]at hsz1 hsz2;have hz:Qu σ ((qD a (mV a x) p).zip (qD a (mV a x) q))=(sub σ p).length+(sub σ q).length:=by rw[KW,z1,z2,i1,j1]
      have hd:Qu σ (l'++(qD a (mV a x) p).zip (qD a (mV a x) q))<M:=by rw[OE,hz];omega
      have hok:Z4 a N (l'++(qD a (mV a x) p).zip (qD a (mV a x) q)):=fun pq hpq=>by
       rcases aG.1 hpq with hpq|hpq
       ·exact hl' pq hpq
       ·obtain⟨m1,m2⟩:=gD (a:=pq.1) (b:=pq.2) hpq;obtain⟨p1,p2,ep⟩:=pK m1;obtain⟨q1,q2,eq'⟩:=pK m2;rw[i1]at ep;rw[j1]at eq';exact⟨i3 _ m1,j3 _ m2,hC _ n1 w1 hx' _ m1,hC _ n2 w2 hx' _ m2⟩
      have hH2:Ch N (Cs a b) ((x::p)::H') ((l'++(qD a (mV a x) p).zip (qD a (mV a x) q)).map (·.1)):=by
       rw[aQ,z1];refine .Yn hH' (by rw[i2];exact hA x) (fun e he τ hτ=>?_) (fun Y hY τ hτ=>?_) n1.mem
       ·obtain⟨p1,p2,ep⟩:=pK he;rw[i1]at ep;rw[ep];exact Jk hx'
       ·rw[g1 τ hτ];exact hs' Y hY τ hτ
      obtain⟨res,e2,R2⟩:=CH.good hf hC hA U _ h hU (aC _) hok hH2;rw[aQ,aQ,z1,z2]at e2;refine⟨res,(iZ e).trans e2,R2.of fun τ hτ=>?_⟩;have hst:=Uh h k hx c3 (l:=(qD a (mV a x) p).zip (qD a (mV a x) q)) (fun pq hpq=>by
       obtain⟨m1,m2⟩:=gD (a:=pq.1) (b:=pq.2) hpq;exact⟨i3 _ m1,j3 _ m2⟩) (by rw[z1,i1];rfl) (by rw[z2,j1];rfl) hτ
      rw[yG,yG,<-hst];simp[uG]
     ·exact fail (s6 hx hy c3) fun τ hτ=>Ld h k hx hy c3 hτ
termination_by (U,M)
def Lx(b:Bd)(x:Int):gI->List Bool->List gI->Option (List Bool×List gI)
 |[],se,td=>some (se,td)
 |m::t,se,td=>if m=x then none else if m<0/\sn se m=false/\bg b m≠[]then Lx b x t (ss se m) (td++[bg b m])else Lx b x t se td
def Lp(se:List Bool):Nat:=se.countP fun z=>!z
theorem yC:∀{se:List Bool}{i:Nat},i<se.length->se.getD i false=false->(se.set i true).countP (fun z=>!z)<se.countP fun z=>!z
 |[],i,h,_=>by simp at h
 |z::se,0,_,h=>by
  have h':z=false:=h;simp[fA,h']
 |z::se,i+1,hi,h=>by
  have:=yC (se:=se) (i:=i) (by simpa using hi) (by simpa using h);simp only[bK,fA];omega
theorem M0{b:Bd}{x:Int}{N:Pl}:∀(t:gI){se:List Bool}{td:List gI},se.length=N.n->(∀y∈t, -(N.n:Int)<=y)->
 (Lx b x t se td=none->x∈t)/\∀se' td',Lx b x t se td=some (se',td')->x∉t/\(∀y∈t,y<0->bg b y≠[]->sn se' y=true)/\se'.length=N.n/\(∀y,y<0-> -(N.n:Int)<=y->sn se y=true->sn se' y=true)/\
  (∀y,y<0-> -(N.n:Int)<=y->sn se' y=true->sn se y=true\/(bg b y≠[]/\bg b y∈td'))/\(∀w∈td,w∈td')/\(∀w∈td',w∈td\/∃y∈t,y<0/\bg b y≠[]/\w=bg b y)/\(Lp se'<Lp se\/(se'=se/\td'=td))
 |[],se,td,hl,hn=>⟨fun h=>by simp[Lx]at h,fun se' td' h=>by
  simp only[Lx,aP,dY]at h;obtain⟨rfl,rfl⟩:=h;exact⟨by simp,by simp,hl,fun _ _ _ h=>h,fun _ _ _ h=>.inl h,fun _ h=>h,fun _ h=>.inl h,.inr ⟨rfl,rfl⟩⟩⟩
 |m::t,se,td,hl,hn=>by
  have hn':∀y∈t, -(N.n:Int)<=y:=fun y hy=>hn y (aX _ hy)
  have hmN:=hn m bf;rw[Lx];by_cases hm:m=x
  ·rw[ah hm];exact⟨fun _=>by rw[hm];exact bf,fun _ _ h=>by cases h⟩
  ·rw[aj hm];by_cases hc:m<0/\sn se m=false/\bg b m≠[]
   ·rw[ah hc];obtain⟨h0,hs,hb⟩:=hc;have hlm: -1-m<(se.length:Int):=by omega
    have hl':(ss se m).length=N.n:=by simp[ss,hl]
    have hg:∀{y:Int},y<0->sn (ss se m) y=if y=m then true else sn se y:=fun hy=>ZQ h0 hlm hy
    obtain⟨q1,q2⟩:=M0 (b:=b) (x:=x) t (td:=td++[bg b m]) hl' hn';refine⟨fun h=>aX _ (q1 h),fun se' td' h=>?_⟩;obtain⟨k1,k2,k3,k4,k5,k6,k7,k8⟩:=q2 se' td' h;have hlt:Lp (ss se m)<Lp se:=yC iA hs;refine⟨fun c=>?_,fun y hy hy0 hby=>?_,k3,fun y hy hyN hsy=>?_,fun y hy hyN hsy=>?_,fun w hw=>k6 w (bp _ hw),fun w hw=>?_,.inl ?_⟩
    ·rcases bA.1 c with c|c
     ·exact hm c.symm
     ·exact k1 c
    ·rcases bA.1 hy with rfl|hy
     ·exact k4 y h0 hmN (by rw[hg h0,ah rfl])
     ·exact k2 y hy hy0 hby
    ·exact k4 y hy hyN (by rw[hg hy];split<;>simp[hsy])
    ·rcases k5 y hy hyN hsy with c|c
     ·rw[hg hy]at c;split at c
      ·rename_i e;exact .inr (by rw[e];exact⟨hb,k6 _ (by simp)⟩)
      ·exact .inl c
     ·exact .inr c
    ·rcases k7 w hw with c|⟨y,hy,c⟩
     ·rcases aG.1 c with c|c
      ·exact .inl c
      ·exact .inr ⟨m,bf,h0,hb,aR.1 c⟩
     ·exact .inr ⟨y,aX _ hy,c⟩
    ·rcases k8 with c|⟨c,_⟩
     ·omega
     ·rw[c];exact hlt
   ·rw[aj hc];obtain⟨q1,q2⟩:=M0 (b:=b) (x:=x) t (td:=td) hl hn';refine⟨fun h=>aX _ (q1 h),fun se' td' h=>?_⟩;obtain⟨k1,k2,k3,k4,k5,k6,k7,k8⟩:=q2 se' td' h;refine⟨fun c=>?_,fun y hy hy0 hby=>?_,k3,k4,k5,k6,fun w hw=>?_,k8⟩
    ·rcases bA.1 c with c|c
     ·exact hm c.symm
     ·exact k1 c
    ·rcases bA.1 hy with rfl|hy
     ·have hs:sn se y=true:=by
       cases hq:sn se y with
       |true=>rfl
       |false=>exact absurd ⟨hy0,hq,hby⟩ hc
      exact k4 y hy0 hmN hs
     ·exact k2 y hy hy0 hby
    ·rcases k7 w hw with c|⟨y,hy,c⟩
     ·exact .inl c
     ·exact .inr ⟨y,aX _ hy,c⟩
theorem Jr{b:Bd}{x:Int}{N:Pl}:∀(t:gI){se se':List Bool}{td td':List gI},se.length=N.n->(∀y∈t, -(N.n:Int)<=y)->Lx b x t se td=some (se',td')->td'.length+Lp se'<=td.length+Lp se
 |[],se,se',td,td',hl,hn,h=>by
  simp only[Lx,aP,dY]at h;obtain⟨rfl,rfl⟩:=h;exact aC _
 |m::t,se,se',td,td',hl,hn,h=>by
  have hn':∀y∈t, -(N.n:Int)<=y:=fun y hy=>hn y (aX _ hy)
  have hmN:=hn m bf;rw[Lx]at h;split at h
  ·cases h
  ·split at h
   ·rename_i hc;have hlt:Lp (ss se m)<Lp se:=yC iA hc.2.1;have i:=Jr t (se:=ss se m) (by simp[ss,hl]) hn' h;rw[ak,aU]at i;omega
   ·exact Jr t hl hn' h
structure Eh{S:Type}(b:Bd)(x:Int)(enc:List Bool->List gI->S)(f:S->Option (S⊕Bool))(N:Pl):Prop where
 nil:∀se,se.length=N.n->f (enc se [])=some (.inr false)
 step:∀{se:List Bool}{td:List gI}{u:gI},se.length=N.n->Nb N u->td.length+Lp se<=N.n->f (enc se (td++[u]))=some (match Lx b x u se td with|none=>.inr true|some q=>.inl (enc q.1 q.2))
def Lk(b:Bd)(x:Int)(se:List Bool)(u:gI):Prop:=x∉u/\∀y∈u,y<0->bg b y≠[]->sn se y=true
structure LI(a:gI)(N:Pl)(b:Bd)(σ:Sb)(x:Int)(t0:gI)(se:List Bool)(td:List gI):Prop where
 len:se.length=N.n
 bd:∀u∈td,Nb N u/\(x∈sub σ u->x∈sub σ t0)
 hi:td.length+Lp se<=N.n+1
 mkd:∀m,m<0-> -(N.n:Int)<=m->sn se m=true->bg b m≠[]/\(bg b m∈td\/Lk b x se (bg b m))
 t0:t0∈td\/Lk b x se t0
theorem Tg{a:gI}{N:Pl}{b:Bd}{σ:Sb}{r:Int->Nat}(h:Bn a N b σ r){x:Int}(hx:x<0)(hbx:bg b x=[]){se:List Bool}(hm:∀m,m<0-> -(N.n:Int)<=m->sn se m=true->bg b m≠[]/\Lk b x se (bg b m)):∀(n:Nat){m:Int},m<0-> -(N.n:Int)<=m->sn se m=true->r m<n->x∉σ m
 |0,m,_,_,_,hr=>by omega
 |n+1,m,h0,hN,hs,hr=>by
  obtain⟨hb,l1,l2⟩:=hm m h0 hN hs;obtain⟨w1,w2⟩:=h.tm m h0 hb;rw[h.val m h0 hb];intro hin;obtain⟨y,hy,⟨hy0,hxy⟩|⟨hy0,rfl⟩⟩:=qw.1 hin
  ·by_cases hby:bg b y=[]
   ·rw[h.Rs y hy0 hby]at hxy;exact l1 (by rw[aR.1 hxy];exact hy)
   ·exact Tg h hx hbx hm n hy0 (w2 y hy) (l2 y hy hy0 hby) (by have:=h.rk m h0 hb y hy hy0 hby;omega) hxy
  ·exact l1 hy
theorem Eh.good{S:Type}{a:gI}{N:Pl}{b:Bd}{σ:Sb}{r:Int->Nat}{enc:List Bool->List gI->S}{f:S->Option (S⊕Bool)}(h:Bn a N b σ r){x:Int}(hx:x<0)(hbx:bg b x=[])(hf:Eh b x enc f N){t0:gI}(ht0:∀y∈t0, -(N.n:Int)<=y)(U M:Nat){se:List Bool}{td:List gI}(hU:Lp se<=U)(hM:td.length<=M)(hI:LI a N b σ x t0 se td):
 ∃res,iL f (enc se td)=some res/\(res=true<->x∈sub σ t0):=by
 rcases fH td with rfl|⟨td',u,rfl⟩
 ·refine⟨false,iK (hf.nil se hI.len),⟨fun e=>(by cases e),fun hin=>?_⟩⟩;have hm:∀m,m<0-> -(N.n:Int)<=m->sn se m=true->bg b m≠[]/\Lk b x se (bg b m):=fun m h0 hN hs=>⟨(hI.mkd m h0 hN hs).1,(hI.mkd m h0 hN hs).2.resolve_left (by simp)⟩
  obtain⟨l1,l2⟩:=hI.t0.resolve_left (by simp);obtain⟨y,hy,⟨hy0,hxy⟩|⟨hy0,rfl⟩⟩:=qw.1 hin
  ·by_cases hby:bg b y=[]
   ·rw[h.Rs y hy0 hby]at hxy;exact absurd (by rw[aR.1 hxy];exact hy) l1
   ·exact absurd hxy (Tg h hx hbx hm (r y+1) hy0 (ht0 y hy) (l2 y hy hy0 hby) (dw _))
  ·exact absurd hy l1
 ·rw[d_]at hM hI⊢;obtain⟨hu,hsu⟩:=hI.bd u (by simp);have hhi:=hI.hi;rw[ak,aU]at hhi;have e:=hf.step (td:=td') (u:=u) hI.len hu iA;obtain⟨q1,q2⟩:=M0 (b:=b) (x:=x) (N:=N) u (td:=td') hI.len hu;cases hq:Lx b x u se td' with
  |none=>
   rw[hq]at e;refine⟨true,iK e,⟨fun _=>hsu ?_,fun _=>rfl⟩⟩;exact qw.2 ⟨x,q1 hq,.inl ⟨hx,by rw[h.Rs x hx hbx];exact aR.2 rfl⟩⟩
  |some p=>
   obtain⟨se',td2⟩:=p;rw[hq]at e;obtain⟨k1,k2,k3,k4,k5,k6,k7,k8⟩:=q2 se' td2 hq;have mono:∀{w:gI},Lk b x se w->(∀y∈w, -(N.n:Int)<=y)->Lk b x se' w:=fun{w} hw hwN=>⟨hw.1,fun y hy hy0 hby=>k4 y hy0 (hwN y hy) (hw.2 y hy hy0 hby)⟩
   have hI':LI a N b σ x t0 se' td2:=by
    refine⟨k3,fun w hw=>?_,by have:=Jr (N:=N) u hI.len hu.le hq;omega,fun m h0 hN hs=>?_,?_⟩
    ·rcases k7 w hw with c|⟨y,hy,hy0,hby,rfl⟩
     ·exact hI.bd w (bp _ c)
     ·refine⟨(h.tm y hy0 hby).2,fun hin=>hsu ?_⟩;exact qw.2 ⟨y,hy,.inl ⟨hy0,by rw[h.val y hy0 hby];exact hin⟩⟩
    ·rcases k5 m h0 hN hs with c|⟨c1,c2⟩
     ·obtain⟨b1,b2⟩:=hI.mkd m h0 hN c;refine⟨b1,?_⟩;rcases b2 with b2|b2
      ·rcases aG.1 b2 with b2|b2
       ·exact .inl (k6 _ b2)
       ·rw[aR.1 b2];exact .inr ⟨k1,k2⟩
      ·exact .inr (mono b2 (h.tm m h0 b1).2)
     ·exact⟨c1,.inl c2⟩
    ·rcases hI.t0 with c|c
     ·rcases aG.1 c with c|c
      ·exact .inl (k6 _ c)
      ·rw[aR.1 c];exact .inr ⟨k1,k2⟩
     ·exact .inr (mono c ht0)
   rcases k8 with hlt|⟨rfl,rfl⟩
   ·have hd:Lp se'<U:=by omega
    obtain⟨res,e2,R⟩:=Eh.good h hx hbx hf ht0 (Lp se') td2.length (aC _) (aC _) hI';exact⟨res,(iZ e).trans e2,R⟩
   ·have hd:td2.length<M:=by simp at hM;omega
    obtain⟨res,e2,R⟩:=Eh.good h hx hbx hf ht0 U td2.length hU (aC _) hI';exact⟨res,(iZ e).trans e2,R⟩
termination_by (U,M)
end Un
