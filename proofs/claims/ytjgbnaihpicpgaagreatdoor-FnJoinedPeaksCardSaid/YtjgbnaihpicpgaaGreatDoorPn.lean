/- A part of the proof about FnJoinedPeaks (ThA, Un, Un2, Un3, Un4, Un5, Un6, Un7, Un8, Un9). -/
import Derived.Test.YtjgbnaihpicpgaaGreatDoorPa
import Derived.Test.YtjgbnaihpicpgaaGreatDoorPc
set_option linter.all false
namespace Tm
def lR(a:gv)(x:Int):Nat:=if x<0 then 0 else(a.getD x.toNat 0).toNat
def FL(a:gv)(x:Int):Prop:= -24<=x/\x<a.length
instance(a:gv)(x:Int):Decidable (FL a x):=by unfold FL;infer_instance
def skip(a:gv):gv->Nat->Option gv
 |t,0=>some t
 |[],_+1=>none
 |x::t,k+1=>if FL a x then skip a t (k+lR a x)else none
def Wf(a:gv)(k:Nat)(t:gv):Prop:=skip a t k=some []
instance(a:gv)(k:Nat)(t:gv):Decidable (Wf a k t):=by unfold Wf;infer_instance
theorem sH(a t:gv):skip a t 0=some t:=by cases t<;>simp[skip]
theorem ud(a t:gv)(x:Int)(k:Nat):skip a (x::t) (k+1)=if FL a x then skip a t (k+lR a x)else none:=by simp[skip]
theorem HA(a:gv)(k:Nat):skip a [] (k+1)=none:=by simp[skip]
theorem Hz{a:gv}(s:gv):∀{t r:gv}{k:Nat},skip a t k=some r->skip a (t++s) k=some (r++s)
 |t,r,0,h=>by rw[sH]at h⊢;cases h;rfl
 |[],r,k+1,h=>by simp[skip]at h
 |x::t,r,k+1,h=>by
  rw[bP];rw[ud]at h⊢;split at h
  ·rename_i hx;rw[ah hx];exact Hz s h
  ·cases h
theorem DY{a:gv}(j:Nat):∀{t:gv}{k:Nat},skip a t (k+j)=(skip a t k).bind fun r=>skip a r j
 |t,0=>by simp[sH]
 |[],k+1=>by rw[show k+1+j=(k+j)+1 by omega];simp[skip]
 |x::t,k+1=>by
  rw[show k+1+j=(k+j)+1 by omega,ud,ud];split
  ·rw[show k+j+lR a x=(k+lR a x)+j by omega];exact DY j
  ·rfl
theorem Ar{a:gv}:∀{t r:gv}{k:Nat},skip a t k=some r->∃u,t=u++r/\Wf a k u
 |t,r,0,h=>by rw[sH]at h;cases h;exact⟨[],rfl,sH _ _⟩
 |[],r,k+1,h=>by simp[skip]at h
 |x::t,r,k+1,h=>by
  rw[ud]at h;split at h
  ·rename_i hx;obtain⟨u,rfl,h2⟩:=Ar h;exact⟨x::u,rfl,by unfold Wf;rw[ud,ah hx];exact h2⟩
  ·cases h
theorem Wf.skip{a u:gv}{k:Nat}(h:Wf a k u)(s:gv):skip a (u++s) k=some s:=Hz s h
theorem Wf.app{a u v:gv}{k j:Nat}(h:Wf a k u)(h':Wf a j v):Wf a (k+j) (u++v):=by unfold Wf;rw[DY,h.skip];exact h'
theorem Wf.nil{a:gv}:Wf a 0 []:=sH _ _
theorem Wf.zero{a t:gv}(h:Wf a 0 t):t=[]:=by unfold Wf at h;rw[sH]at h;exact c_ h
theorem Wf.jt{a t:gv}{x:Int}{k:Nat}:Wf a (k+1) (x::t)<->FL a x/\Wf a (k+lR a x) t:=by
 unfold Wf;rw[ud];split<;>simp_all
theorem Wf.pos{a t:gv}{k:Nat}(h:Wf a (k+1) t):∃x r,t=x::r/\FL a x/\Wf a (k+lR a x) r:=by
 cases t with
 |nil=>simp[Wf,Tm.skip]at h
 |cons x r=>exact⟨x,r,rfl,Wf.jt.1 h⟩
theorem Wf.split{a t:gv}{k j:Nat}(h:Wf a (k+j) t):∃u v,t=u++v/\Wf a k u/\Wf a j v:=by
 unfold Wf at h;rw[DY]at h;obtain⟨r,h1,h2⟩:=au.1 h;obtain⟨u,rfl,h3⟩:=Ar h1;exact⟨u,r,rfl,h3,h2⟩
theorem Wf.uniq{a u u' v v':gv}{k:Nat}(h:Wf a k u)(h':Wf a k u')(e:u++v=u'++v'):u=u'/\v=v':=by
 have h1:=h.skip v;have h2:=h'.skip v';rw[e,h2]at h1;cases c_ h1;exact⟨List.append_cancel_right e,rfl⟩
theorem Wf.all{a:gv}:∀{t:gv}{k:Nat},Wf a k t->∀x∈t,FL a x
 |[],_,_=>by simp
 |y::t,0,h=>by have:=h.zero;cases this
 |y::t,k+1,h=>by
  obtain⟨h1,h2⟩:=Wf.jt.1 h;intro x hx;rcases bI.1 hx with rfl|hx
  ·exact h1
  ·exact h2.all x hx
theorem Wf.len{a:gv}:∀{t:gv}{k:Nat},Wf a k t->k<=t.length
 |t,0,_=>by omega
 |[],k+1,h=>by simp[Wf,Tm.skip]at h
 |y::t,k+1,h=>by
  obtain⟨h1,h2⟩:=Wf.jt.1 h;have:=h2.len;simp;omega
theorem Wf.place{a:gv}:∀{t:gv}{k i:Nat},Wf a k t->i<t.length->∃p u s,t=p++(u++s)/\p.length=i/\Wf a 1 u
 |[],_,_,_,hi=>by simp at hi
 |y::t,0,_,h,_=>by have:=h.zero;cases this
 |y::t,k+1,0,h,_=>by
  rw[show k+1=1+k by omega]at h;obtain⟨u,v,e,h1,_⟩:=h.split;exact⟨[],u,v,e,rfl,h1⟩
 |y::t,k+1,i+1,h,hi=>by
  obtain⟨p,u,s,rfl,h2,h3⟩:=(Wf.jt.1 h).2.place (i:=i) (by simpa using hi);exact⟨y::p,u,s,rfl,by simp[h2],h3⟩
theorem Wf.put{a u v s:gv}(hu:Wf a 1 u)(hv:Wf a 1 v):∀{p:gv}{k:Nat},Wf a k (p++(u++s))->Wf a k (p++(v++s))
 |[],0,h=>by
  have:=h.zero;have:=hu.len
  simp_all
 |[],k+1,h=>by
  rw[bp]at h⊢;rw[show k+1=1+k by omega]at h⊢;obtain⟨u',v',e,h1,h2⟩:=h.split;obtain⟨rfl,rfl⟩:=hu.uniq h1 e;exact hv.app h2
 |y::p,0,h=>by have:=h.zero;cases this
 |y::p,k+1,h=>by
  rw[bP]at h⊢;obtain⟨h1,h2⟩:=Wf.jt.1 h;exact Wf.jt.2 ⟨h1,Wf.put hu hv h2⟩
def sub(σ:Int->gv)(t:gv):gv:=t.flatMap fun x=>if x<0 then σ x else [x]
theorem jg(σ:Int->gv)(x:Int)(t:gv):sub σ (x::t)=(if x<0 then σ x else [x])++sub σ t:=by simp[sub]
theorem jK(σ:Int->gv)(s t:gv):sub σ (s++t)=sub σ s++sub σ t:=by simp[sub]
theorem sub_congr{σ τ:Int->gv}{t:gv}(h:∀x∈t,x<0->σ x=τ x):sub σ t=sub τ t:=by
 induction t with
 |nil=>rfl
 |cons x t ih=>
  rw[jg,jg,ih fun y hy=>h y (by simp[hy])];by_cases hx:x<0
  ·rw[ah hx,ah hx,h x (by simp) hx]
  ·rw[ak hx,ak hx]
theorem Wf.sub{a:gv}{σ:Int->gv}:∀{t:gv}{k:Nat},Wf a k t->(∀x∈t,x<0->Wf a 1 (σ x))->Wf a k (Tm.sub σ t)
 |[],k,h,_=>by simpa[Tm.sub]using h
 |y::t,0,h,_=>by have:=h.zero;cases this
 |y::t,k+1,h,hs=>by
  obtain⟨h1,h2⟩:=Wf.jt.1 h;rw[jg];have ih:=h2.sub fun x hx=>hs x (by simp[hx])
  by_cases hy:y<0
  ·rw[ah hy,show k+1=1+k by omega];refine(hs y (by simp) hy).app ?_;simpa[lR,hy]using ih
  ·rw[ak hy];exact Wf.jt.2 ⟨h1,ih⟩
abbrev Bd:=List gv
def kB(b:Bd)(n:Int):gv:=b.getD (-1-n).toNat []
def iy(b:Bd)(n:Int)(u:gv):Bd:=b.set (-1-n).toNat u
def xm(a:gv):gv->gv->Bd->Option Bd
 |[],_,b=>some b
 |n::p,t,b=>
  if n<0 then match skip a t 1 with
   |none=>none
   |some r=>
    let u:=t.take (t.length-r.length)
    if kB b n=[]then xm a p r (iy b n u)else if kB b n=u then xm a p r b else none
  else match t with
   |[]=>none
   |y::t=>if y=n then xm a p t b else none
theorem AZ(a t:gv)(b:Bd):xm a [] t b=some b:=by simp[xm]
theorem Wf.ne{a u:gv}(h:Wf a 1 u):u≠[]:=by have:=h.len;intro e;subst e;simp at this
theorem CI{a p t:gv}{n y:Int}{b:Bd}(hn:¬n<0):xm a (n::p) (y::t) b=if y=n then xm a p t b else none:=by simp[xm,hn]
theorem FA{a p u r:gv}{n:Int}{b:Bd}(hn:n<0)(hu:Wf a 1 u):xm a (n::p) (u++r) b=
 if kB b n=[]then xm a p r (iy b n u)else if kB b n=u then xm a p r b else none:=by
 simp[xm,hn,hu.skip]
theorem vh{b:Bd}{n m:Int}{u:gv}(hn:n<0)(hl: -1-n<b.length)(hm:m<0):kB (iy b n u) m=if m=n then u else kB b m:=by
 unfold kB iy;rw[ay,ay,dX];by_cases h:m=n
 ·subst h;rw[ah rfl,ah rfl,ah gY];rfl
 ·rw[ak h,ak gY]
theorem vl{a:gv}:∀{p t:gv}{b b':Bd}{k:Nat},Wf a k p->Wf a k t->b.length=24->xm a p t b=some b'->
 t=sub (kB b') p/\b'.length=24/\(∀n,n<0->kB b n≠[]->kB b' n=kB b n)/\(∀n∈p,n<0->Wf a 1 (kB b' n)\/kB b n=kB b' n/\kB b n≠[])/\
 (∀n,n<0->n∉p->kB b' n=kB b n)
 |[],t,b,b',k,hp,ht,hb,h=>by
  rw[AZ]at h;cases h;cases k with
  |zero=>have:=ht.zero;subst this;exact⟨rfl,hb,fun _ _ _=>rfl,by simp,fun _ _ _=>rfl⟩
  |succ k=>simp[Wf,Tm.skip]at hp
 |n::p,t,b,b',0,hp,ht,hb,h=>by have:=hp.zero;cases this
 |n::p,t,b,b',k+1,hp,ht,hb,h=>by
  obtain⟨hx,hp⟩:=Wf.jt.1 hp;by_cases hn:n<0
  ·rw[show k+1=1+k by omega]at ht;obtain⟨u,r,rfl,hu,hr⟩:=ht.split;rw[FA hn hu]at h;have ha:lR a n=0:=by simp[lR,hn]
   rw[ha,dD]at hp;have hl: -1-n<b.length:=by have:=hx.1;omega
   split at h
   ·rename_i h0;obtain⟨h1,h2,h3,h4,h5⟩:=vl hp hr (by simpa[iy]using hb) h;have hbn:kB b' n=u:=by rw[h3 n hn (by rw[vh hn hl hn,ah rfl];exact hu.ne),vh hn hl hn,ah rfl]
    refine⟨by rw[jg,ah hn,hbn,<-h1],h2,fun m hm hne=>?_,fun m hm hm0=>?_,fun m hm hmp=>?_⟩
    ·by_cases hmn:m=n
     ·subst hmn;exact absurd h0 hne
     ·have:=vh (u:=u) hn hl hm;rw[ak hmn]at this;rw[h3 m hm (by rw[this];exact hne),this]
    ·by_cases hmn:m=n
     ·subst hmn;rw[hbn];exact .inl hu
     ·have:=vh (u:=u) hn hl hm0;rw[ak hmn]at this;rcases bI.1 hm with e|hm
      ·exact absurd e hmn
      ·rw[<-this];exact h4 m hm hm0
    ·have hmn:m≠n:=fun e=>hmp (by simp[e])
     have:=vh (u:=u) hn hl hm;rw[ak hmn]at this;rw[h5 m hm fun hx=>hmp (by simp[hx]),this]
   ·rename_i h0;split at h
    ·rename_i h00;obtain⟨h1,h2,h3,h4,h5⟩:=vl hp hr hb h;have hbn:kB b' n=u:=by rw[h3 n hn h0,h00]
     refine⟨by rw[jg,ah hn,hbn,<-h1],h2,h3,fun m hm hm0=>?_,fun m hm hmp=>?_⟩
     ·by_cases hmn:m=n
      ·subst hmn;rw[hbn];exact .inl hu
      ·rcases bI.1 hm with e|hm
       ·exact absurd e hmn
       ·exact h4 m hm hm0
     ·exact h5 m hm fun hx=>hmp (by simp[hx])
    ·cases h
  ·obtain⟨y,t,rfl,hy,ht⟩:=ht.pos;rw[CI hn]at h;split at h
   ·rename_i e;subst e;obtain⟨h1,h2,h3,h4,h5⟩:=vl hp ht hb h;refine⟨by rw[jg,ak hn,dU,<-h1],h2,h3,fun m hm hm0=>?_,fun m hm hmp=>?_⟩
    ·rcases bI.1 hm with e|hm
     ·omega
     ·exact h4 m hm hm0
    ·exact h5 m hm fun hx=>hmp (by simp[hx])
   ·cases h
theorem qW{a:gv}{σ:Int->gv}:∀{p:gv}{b:Bd}{k:Nat},Wf a k p->b.length=24->(∀n∈p,n<0->Wf a 1 (σ n))->(∀n∈p,n<0->kB b n=[]\/kB b n=σ n)->
 ∃b',xm a p (sub σ p) b=some b'/\b'.length=24/\(∀n∈p,n<0->kB b' n=σ n)/\(∀n,n<0->n∉p->kB b' n=kB b n)
 |[],b,k,hp,hb,hs,hc=>⟨b,AZ _ _ _,hb,by simp,fun _ _ _=>rfl⟩
 |n::p,b,0,hp,hb,hs,hc=>by have:=hp.zero;cases this
 |n::p,b,k+1,hp,hb,hs,hc=>by
  obtain⟨hx,hp⟩:=Wf.jt.1 hp;by_cases hn:n<0
  ·have hu:=hs n (by simp) hn;have ha:lR a n=0:=by simp[lR,hn]
   rw[ha,dD]at hp;have hl: -1-n<b.length:=by have:=hx.1;omega
   rw[jg,ah hn,FA hn hu];by_cases h0:kB b n=[]
   ·rw[ah h0];have hg:∀m,m<0->kB (iy b n (σ n)) m=if m=n then σ n else kB b m:=fun m hm=>vh hn hl hm
    obtain⟨b',h1,h2,h3,h4⟩:=qW (σ:=σ) (b:=iy b n (σ n)) hp (by simpa[iy]using hb) (fun m hm hm0=>hs m (by simp[hm]) hm0) fun m hm hm0=>by
     rw[hg m hm0];by_cases hmn:m=n
     ·subst hmn;rw[ah rfl];exact .inr rfl
     ·rw[ak hmn];exact hc m (by simp[hm]) hm0
    refine⟨b',h1,h2,fun m hm hm0=>?_,fun m hm hmp=>?_⟩
    ·by_cases hmp:m∈p
     ·exact h3 m hmp hm0
     ·rcases bI.1 hm with rfl|hm
      ·rw[h4 m hm0 hmp,hg m hm0,ah rfl]
      ·exact absurd hm hmp
    ·have hmn:m≠n:=fun e=>hmp (by simp[e])
     rw[h4 m hm fun hx=>hmp (by simp[hx]),hg m hm,ak hmn]
   ·have hbn:kB b n=σ n:=(hc n (by simp) hn).resolve_left h0;rw[ak h0,ah hbn];obtain⟨b',h1,h2,h3,h4⟩:=qW hp hb (fun m hm hm0=>hs m (by simp[hm]) hm0) fun m hm hm0=>hc m (by simp[hm]) hm0
    refine⟨b',h1,h2,fun m hm hm0=>?_,fun m hm hmp=>h4 m hm fun hx=>hmp (by simp[hx])⟩;by_cases hmp:m∈p
    ·exact h3 m hmp hm0
    ·rcases bI.1 hm with rfl|hm
     ·rw[h4 m hm0 hmp,hbn]
     ·exact absurd hm hmp
  ·rw[jg,ak hn,dU,CI hn,ah rfl];obtain⟨b',h1,h2,h3,h4⟩:=qW hp hb (fun m hm hm0=>hs m (by simp[hm]) hm0) fun m hm hm0=>hc m (by simp[hm]) hm0
   refine⟨b',h1,h2,fun m hm hm0=>?_,fun m hm hmp=>h4 m hm fun hx=>hmp (by simp[hx])⟩;rcases bI.1 hm with rfl|hm
   ·exact absurd hm0 hn
   ·exact h3 m hm hm0
def kf:Bd:=List.replicate 24 []
theorem vi(n:Int):kB kf n=[]:=by
 unfold kB kf;rw[ay,dj];split<;>rfl
def Mv(a f o t t':gv)(i:Nat):Prop:=∃p s σ,p.length=i/\t=p++(sub σ f++s)/\t'=p++(sub σ o++s)/\∀x,x<0->Wf a 1 (σ x)
theorem Mv.wf{a f o t t':gv}{i:Nat}(h:Mv a f o t t' i)(hf:Wf a 1 f)(ho:Wf a 1 o)(ht:Wf a 1 t):Wf a 1 t':=by
 obtain⟨p,s,σ,h1,rfl,rfl,h4⟩:=h;exact Wf.put (hf.sub fun x _ hx=>h4 x hx) (ho.sub fun x _ hx=>h4 x hx) ht
theorem Wf.var{a:gv}:Wf a 1 [-1]:=Wf.jt.2 ⟨⟨gY,gY⟩,by simp[lR];exact Wf.nil⟩
theorem L6{a f o p s u u':gv}{b b':Bd}(hf:Wf a 1 f)(ho:Wf a 1 o)(hu:Wf a 1 u)(hu':Wf a 1 u')(h1:xm a f u kf=some b)(h2:xm a o u' b=some b'):
 Mv a f o (p++(u++s)) (p++(u'++s)) p.length:=by
 obtain⟨e1,l1,k1,w1,n1⟩:=vl hf hu (by simp[kf]) h1;obtain⟨e2,l2,k2,w2,n2⟩:=vl ho hu' l1 h2;have hw1:∀n∈f,n<0->Wf a 1 (kB b n):=fun n hn h0=>by
  rcases w1 n hn h0 with h|h
  ·exact h
  ·exact absurd (vi n) h.2
 let σ:Int->gv:=fun x=>if Wf a 1 (kB b' x)then kB b' x else [-1]
 have hσ:∀x,x<0->Wf a 1 (σ x):=fun x _=>by
  by_cases h:Wf a 1 (kB b' x)
  ·simp only[σ,ah h];exact h
  ·simp only[σ,ak h];exact Wf.var
 have hfx:∀n∈f,n<0->σ n=kB b n:=fun n hn h0=>by
  have h3:=hw1 n hn h0;have h4:=k2 n h0 h3.ne;simp only[σ,h4,ah h3]
 have hox:∀n∈o,n<0->σ n=kB b' n:=fun n hn h0=>by
  have:Wf a 1 (kB b' n):=by
   rcases w2 n hn h0 with h|⟨h,hne⟩
   ·exact h
   ·by_cases hn':n∈f
    ·rw[<-h];exact hw1 n hn' h0
    ·exact absurd (by rw[n1 n h0 hn',vi]) hne
  simp only[σ,ah this]
 refine⟨p,s,σ,rfl,?_,?_,hσ⟩
 ·rw[sub_congr hfx,<-e1]
 ·rw[sub_congr hox,<-e2]
theorem LZ{a f o p s:gv}{σ:Int->gv}(hf:Wf a 1 f)(ho:Wf a 1 o)(hσ:∀x,x<0->Wf a 1 (σ x)):
 ∃b b',xm a f (sub σ f) kf=some b/\xm a o (sub σ o) b=some b':=by
 obtain⟨b,h1,h2,h3,h4⟩:=qW (σ:=σ) (b:=kf) hf (by simp[kf]) (fun n _ hn=>hσ n hn) fun n _ _=>.inl (vi n)
 obtain⟨b',h5,_⟩:=qW (σ:=σ) (b:=b) ho h2 (fun n _ hn=>hσ n hn) fun n _ hn=>by
  by_cases hnf:n∈f
  ·exact .inr (h3 n hnf hn)
  ·exact .inl (by rw[h4 n hn hnf,vi])
 exact⟨b,b',h1,h5⟩
def at'(a t:gv)(i:Nat):gv:=match skip a (t.drop i) 1 with
 |some r=>(t.drop i).take ((t.drop i).length-r.length)
 |none=>[]
theorem yC{a p u s:gv}(hu:Wf a 1 u):at' a (p++(u++s)) p.length=u:=by
 unfold at';rw[bS,hu.skip];simp
def Hr(a t:gv)(i:Nat)(v:gv):gv:=t.take i++(v++t.drop (i+(at' a t i).length))
theorem zE{a p u s v:gv}(hu:Wf a 1 u):Hr a (p++(u++s)) p.length v=p++(v++s):=by
 unfold Hr;rw[yC hu,dK,<-List.drop_drop,bS,bS]
def Zp(a f o t t':gv)(i:Nat):Bool:=Hr a t i (at' a t' i)==t'&&((xm a f (at' a t i) kf).bind fun b=>xm a o (at' a t' i) b).isSome
theorem Kp{a f o t t':gv}{i:Nat}(hf:Wf a 1 f)(ho:Wf a 1 o)(ht:Wf a 1 t)(ht':Wf a 1 t')(hi:i<t.length)(hi':i<t'.length):Zp a f o t t' i=true<->Mv a f o t t' i:=by
 constructor
 ·intro h;simp only[Zp,bu,bw]at h;obtain⟨h1,h2⟩:=h;obtain⟨p,u,s,rfl,rfl,hu⟩:=ht.place hi;obtain⟨p',u',s',rfl,hp,hu'⟩:=ht'.place hi';rw[<-hp,yC hu',hp,zE hu]at h1;rw[<-hp,yC hu',hp,yC hu]at h2;obtain⟨b,hb⟩:=Option.isSome_iff_exists.1 h2;obtain⟨b0,h3,h4⟩:=au.1 hb;rw[<-h1];exact L6 hf ho hu hu' h3 h4
 ·rintro⟨p,s,σ,rfl,rfl,rfl,hσ⟩;have hu:Wf a 1 (sub σ f):=hf.sub fun x _ hx=>hσ x hx
  have hu':Wf a 1 (sub σ o):=ho.sub fun x _ hx=>hσ x hx
  simp only[Zp,yC hu,yC hu',zE hu,cj,cn];obtain⟨b,b',h1,h2⟩:=LZ (p:=p) (s:=s) hf ho hσ;rw[h1,aa,h2];rfl
def sig(b:Bd)(n:Int):gv:=if kB b n=[]then [n]else kB b n
def Cg(a l r t:gv)(i:Nat):Option gv:=(xm a l (at' a t i) kf).bind fun b=>
 if(sub (sig b) r).length<=60/\(Hr a t i (sub (sig b) r)).length<=60 then some (Hr a t i (sub (sig b) r))else none
theorem Pm{a l r t t':gv}{i:Nat}(hl:Wf a 1 l)(hr:Wf a 1 r)(ht:Wf a 1 t)(hi:i<t.length)(hv:∀n∈r,n<0->n∈l)(h:Cg a l r t i=some t'):
 Mv a l r t t' i/\t'.length<=60:=by
 unfold Cg at h;obtain⟨b,h1,h2⟩:=au.1 h;split at h2
 ·rename_i hc;cases h2;refine⟨?_,hc.2⟩;obtain⟨p,u,s,rfl,rfl,hu⟩:=ht.place hi;rw[yC hu]at h1;rw[zE hu];obtain⟨e1,l1,k1,w1,n1⟩:=vl hl hu (by simp[kf]) h1;have hw1:∀n∈l,n<0->Wf a 1 (kB b n):=fun n hn h0=>by
   rcases w1 n hn h0 with h|h
   ·exact h
   ·exact absurd (vi n) h.2
  let σ:Int->gv:=fun x=>if Wf a 1 (kB b x)then kB b x else [-1]
  have hσ:∀x,x<0->Wf a 1 (σ x):=fun x _=>by
   by_cases h:Wf a 1 (kB b x)
   ·simp only[σ,ah h];exact h
   ·simp only[σ,ak h];exact Wf.var
  have hx:∀n∈l,n<0->σ n=kB b n:=fun n hn h0=>by simp only[σ,ah (hw1 n hn h0)]
  refine⟨p,s,σ,rfl,?_,?_,hσ⟩
  ·rw[sub_congr hx,<-e1]
  ·rw[sub_congr fun n hn h0=>?_];rw[hx n (hv n hn h0) h0];unfold sig;rw[ak (hw1 n (hv n hn h0) h0).ne]
 ·cases h2
end Tm
namespace Un
open Tm
def zF(a:gv):gv->Nat->Option gv
 |t,0=>some t
 |[],_+1=>none
 |x::t,k+1=>if x<a.length then zF a t (k+lR a x)else none
def Wv(a:gv)(k:Nat)(t:gv):Prop:=zF a t k=some []
theorem vN(a t:gv):zF a t 0=some t:=by cases t<;>simp[zF]
theorem vM(a t:gv)(x:Int)(k:Nat):zF a (x::t) (k+1)=if x<a.length then zF a t (k+lR a x)else none:=by simp[zF]
theorem KO{a:gv}(s:gv):∀{t r:gv}{k:Nat},zF a t k=some r->zF a (t++s) k=some (r++s)
 |t,r,0,h=>by rw[vN]at h⊢;cases h;rfl
 |[],r,k+1,h=>by simp[zF]at h
 |x::t,r,k+1,h=>by
  rw[bP];rw[vM]at h⊢;split at h
  ·rename_i hx;rw[ah hx];exact KO s h
  ·cases h
theorem FT{a:gv}(j:Nat):∀{t:gv}{k:Nat},zF a t (k+j)=(zF a t k).bind fun r=>zF a r j
 |t,0=>by simp[vN]
 |[],k+1=>by rw[show k+1+j=(k+j)+1 by omega];simp[zF]
 |x::t,k+1=>by
  rw[show k+1+j=(k+j)+1 by omega,vM,vM];split
  ·rw[show k+j+lR a x=(k+lR a x)+j by omega];exact FT j
  ·rfl
theorem E5{a:gv}:∀{t r:gv}{k:Nat},zF a t k=some r->∃u,t=u++r/\Wv a k u
 |t,r,0,h=>by rw[vN]at h;cases h;exact⟨[],rfl,vN _ _⟩
 |[],r,k+1,h=>by simp[zF]at h
 |x::t,r,k+1,h=>by
  rw[vM]at h;split at h
  ·rename_i hx;obtain⟨u,rfl,h2⟩:=E5 h;exact⟨x::u,rfl,by unfold Wv;rw[vM,ah hx];exact h2⟩
  ·cases h
theorem Wv.skip{a u:gv}{k:Nat}(h:Wv a k u)(s:gv):zF a (u++s) k=some s:=KO s h
theorem Wv.app{a u v:gv}{k j:Nat}(h:Wv a k u)(h':Wv a j v):Wv a (k+j) (u++v):=by unfold Wv;rw[FT,h.skip];exact h'
theorem Wv.nil{a:gv}:Wv a 0 []:=vN _ _
theorem Wv.zero{a t:gv}(h:Wv a 0 t):t=[]:=by unfold Wv at h;rw[vN]at h;exact c_ h
theorem Wv.jt{a t:gv}{x:Int}{k:Nat}:Wv a (k+1) (x::t)<->x<a.length/\Wv a (k+lR a x) t:=by
 unfold Wv;rw[vM];split
 ·rename_i h;exact⟨fun e=>⟨h,e⟩,fun e=>e.2⟩
 ·rename_i h;exact⟨fun e=>(by cases e),fun e=>absurd e.1 h⟩
theorem Wv.pos{a t:gv}{k:Nat}(h:Wv a (k+1) t):∃x r,t=x::r/\x<a.length/\Wv a (k+lR a x) r:=by
 cases t with
 |nil=>simp[Wv,zF]at h
 |cons x r=>exact⟨x,r,rfl,Wv.jt.1 h⟩
theorem Wv.split{a t:gv}{k j:Nat}(h:Wv a (k+j) t):∃u v,t=u++v/\Wv a k u/\Wv a j v:=by
 unfold Wv at h;rw[FT]at h;obtain⟨r,h1,h2⟩:=au.1 h;obtain⟨u,rfl,h3⟩:=E5 h1;exact⟨u,r,rfl,h3,h2⟩
theorem Wv.uniq{a u u' v v':gv}{k:Nat}(h:Wv a k u)(h':Wv a k u')(e:u++v=u'++v'):u=u'/\v=v':=by
 have h1:=h.skip v;have h2:=h'.skip v';rw[e,h2]at h1;cases c_ h1;exact⟨List.append_cancel_right e,rfl⟩
theorem Wv.len{a:gv}:∀{t:gv}{k:Nat},Wv a k t->k<=t.length
 |t,0,_=>by omega
 |[],k+1,h=>by simp[Wv,zF]at h
 |y::t,k+1,h=>by
  obtain⟨h1,h2⟩:=Wv.jt.1 h;have:=h2.len;simp;omega
theorem Wv.ne{a u:gv}(h:Wv a 1 u):u≠[]:=by have:=h.len;intro e;subst e;simp at this
theorem uZ{a:gv}{x:Int}(h:x<0):lR a x=0:=by unfold lR;rw[ah h]
theorem Wv.var{a:gv}{x:Int}(h:x<0):Wv a 1 [x]:=Wv.jt.2 ⟨gY,by rw[uZ h];exact Wv.nil⟩
theorem Wv.Sx{a t:gv}{x:Int}(h:Wv a 1 (x::t))(hx:x<0):t=[]:=by
 obtain⟨_,h2⟩:=Wv.jt.1 h;rw[uZ hx]at h2;exact h2.zero
theorem Wv.sub{a:gv}{σ:Int->gv}:∀{t:gv}{k:Nat},Wv a k t->(∀x∈t,x<0->Wv a 1 (σ x))->Wv a k (Tm.sub σ t)
 |t,0,h,_=>by rw[h.zero];exact Wv.nil
 |[],k+1,h,_=>by simp[Wv,zF]at h
 |x::t,k+1,h,hs=>by
  obtain⟨h1,h2⟩:=Wv.jt.1 h;rw[jg];have ih:=h2.sub fun y hy=>hs y (a_ _ hy)
  by_cases hx:x<0
  ·rw[ah hx];rw[uZ hx]at ih;have:=(hs x bh hx).app ih;rwa [cN]at this
  ·rw[ak hx];exact Wv.jt.2 ⟨h1,ih⟩
abbrev Sb:=Int->gv
theorem sub_sub(σ τ:Sb):∀t:gv,sub τ (sub σ t)=sub (fun x=>sub τ (σ x)) t
 |[]=>rfl
 |x::t=>by
  rw[jg,jg,jK,sub_sub σ τ t];by_cases hx:x<0
  ·rw[ah hx,ah hx]
  ·rw[ak hx,ak hx];simp[sub,hx]
theorem Po{σ:Sb}:∀{t:gv},(∀x∈t,x<0->σ x=[x])->sub σ t=t
 |[],_=>rfl
 |x::t,h=>by
  rw[jg,Po fun y hy=>h y (a_ _ hy)];by_cases hx:x<0
  ·rw[ah hx,h x bh hx];rfl
  ·rw[ak hx];rfl
theorem sub_one{σ:Sb}{x:Int}(hx:x<0):sub σ [x]=σ x:=by simp[sub,hx]
theorem nO{σ:Sb}{t:gv}{y:Int}:y∈sub σ t<->∃x∈t,(x<0/\y∈σ x)\/(¬x<0/\y=x):=by
 unfold sub;rw[fj];constructor
 ·rintro⟨x,hx,hy⟩;split at hy
  ·rename_i h;exact⟨x,hx,.inl ⟨h,hy⟩⟩
  ·rename_i h;exact⟨x,hx,.inr ⟨h,aX.1 hy⟩⟩
 ·rintro⟨x,hx,⟨h,hy⟩|⟨h,rfl⟩⟩
  ·exact⟨x,hx,by rw[ah h];exact hy⟩
  ·exact⟨y,hx,by rw[ak h];exact aX.2 rfl⟩
theorem Ox{σ:Sb}{x:Int}(hx:x<0)(hp:∀y,y<0->1<=(σ y).length):∀{t:gv},x∈t->(σ x).length+(t.length-1)<=(sub σ t).length
 |[],h=>by cases h
 |y::t,h=>by
  have hall:∀t:gv,t.length<=(sub σ t).length:=fun t=>by
   induction t with
   |nil=>simp[sub]
   |cons z t ih=>
    rw[jg,ai,aQ];split
    ·rename_i hz;have:=hp z hz;omega
    ·simp;omega
  rw[jg,ai];rcases bI.1 h with rfl|h
  ·rw[ah hx];have:=hall t;simp;omega
  ·have ih:=Ox hx hp h;have h1:1<=t.length:=eB h;split
   ·rename_i hy;have:=hp y hy;simp;omega
   ·simp;omega
structure Pl where
 n:Nat
 P:List gv
structure Nb(N:Pl)(t:gv):Prop where
 le:∀y∈t, -(N.n:Int)<=y
 mem:t∈N.P
instance{N:Pl}{t:gv}:CoeFun (Nb N t) (fun _=>∀y∈t, -(N.n:Int)<=y):=⟨Nb.le⟩
def bg(b:List gv)(n:Int):gv:=b.getD (-1-n).toNat []
def bs(b:List gv)(n:Int)(u:gv):List gv:=b.set (-1-n).toNat u
theorem SO{b:List gv}{n m:Int}{u:gv}(hn:n<0)(hl: -1-n<b.length)(hm:m<0):bg (bs b n u) m=if m=n then u else bg b m:=by
 unfold bg bs;rw[ay,ay,dX];by_cases h:m=n
 ·subst h;rw[ah rfl,ah rfl,ah gY];rfl
 ·rw[ak h,ak gY]
structure Bn(a:gv)(N:Pl)(b:List gv)(σ:Sb)(r:Int->Nat):Prop where
 len:b.length=N.n
 tm:∀x,x<0->bg b x≠[]->Wv a 1 (bg b x)/\Nb N (bg b x)
 inr:∀x,x<0->bg b x≠[]-> -(N.n:Int)<=x
 val:∀x,x<0->bg b x≠[]->σ x=sub σ (bg b x)
 MV:∀x,x<0->bg b x=[]->σ x=[x]
 Es:∀x,x<0->∀y∈σ x,y<0->bg b y=[]
 wv:∀x,x<0->Wv a 1 (σ x)
 C_:∀x,x<0-> -(N.n:Int)<=x->∀y∈σ x, -(N.n:Int)<=y
 rk:∀x,x<0->bg b x≠[]->∀y∈bg b x,y<0->bg b y≠[]->r y<r x
def wO(a:gv)(b:List gv)(τ:Sb):Prop:=(∀x,x<0->Wv a 1 (τ x))/\∀x,x<0->bg b x≠[]->τ x=sub τ (bg b x)
theorem Bn.self{a:gv}{N:Pl}{b:List gv}{σ:Sb}{r:Int->Nat}(h:Bn a N b σ r):wO a b σ:=⟨h.wv,h.val⟩
theorem wO.JV{a:gv}{N:Pl}{b:List gv}{σ τ:Sb}{r:Int->Nat}(h:Bn a N b σ r)(hτ:wO a b τ):∀(n:Nat){x:Int},x<0->r x<n->τ x=sub τ (σ x)
 |0,x,_,hr=>by omega
 |n+1,x,hx,hr=>by
  by_cases hb:bg b x=[]
  ·rw[h.MV x hx hb,sub_one hx]
  ·rw[hτ.2 x hx hb,h.val x hx hb,sub_sub];refine sub_congr fun y hy hy0=>?_
   by_cases hb':bg b y=[]
   ·rw[h.MV y hy0 hb',sub_one hy0]
   ·exact wO.JV h hτ n hy0 (by have:=h.rk x hx hb y hy hy0 hb';omega)
theorem wO.abs{a:gv}{N:Pl}{b:List gv}{σ τ:Sb}{r:Int->Nat}(h:Bn a N b σ r)(hτ:wO a b τ){x:Int}(hx:x<0):τ x=sub τ (σ x):=wO.JV h hτ (r x+1) hx (dw _)
theorem wO.Uw{a:gv}{N:Pl}{b:List gv}{σ τ:Sb}{r:Int->Nat}(h:Bn a N b σ r)(hτ:wO a b τ)(t:gv):sub τ (sub σ t)=sub τ t:=by
 rw[sub_sub];exact sub_congr fun x _ hx=>(hτ.abs h hx).symm
theorem Bn.none(a:gv)(N:Pl):Bn a N (List.replicate N.n []) (fun x=>[x]) (fun _=>0):=by
 have e:∀x:Int,bg (List.replicate N.n []) x=[]:=fun x=>by
  unfold bg;rw[ay,dj];split<;>rfl
 refine⟨by simp,fun x _ h=>absurd (e x) h,fun x _ h=>absurd (e x) h,fun x _ h=>absurd (e x) h,fun _ _ _=>rfl,fun x hx y hy hy0=>e y,fun x hx=>Wv.var hx,fun x hx h y hy=>?_,fun x _ h=>absurd (e x) h⟩;rw[aX.1 hy];exact h
def DS(v:Int)(u:gv):Sb:=fun x=>if x=v then u else [x]
theorem Vs{v:Int}{u:gv}:DS v u v=u:=by simp[DS]
theorem KE{v x:Int}{u:gv}(h:x≠v):DS v u x=[x]:=by simp[DS,h]
theorem Pp{v:Int}{u t:gv}(h:v∉t):sub (DS v u) t=t:=Po fun x hx _=>KE fun e=>h (by rw[<-e];exact hx)
theorem za(r:Int->Nat):∀t:gv,∃M,∀y∈t,r y<M
 |[]=>⟨0,by simp⟩
 |x::t=>by
  obtain⟨M,h⟩:=za r t;refine⟨M+r x+1,fun y hy=>?_⟩;rcases bI.1 hy with rfl|hy
  ·omega
  ·have:=h y hy;omega
theorem Bn.bind{a:gv}{N:Pl}{b:List gv}{σ:Sb}{r:Int->Nat}(h:Bn a N b σ r){v:Int}{t:gv}(hv:v<0)(hvN: -(N.n:Int)<=v)(hb:bg b v=[])(ht:Wv a 1 t)(htN:Nb N t)(hno:v∉sub σ t):
 ∃r',Bn a N (bs b v t) (fun x=>sub (DS v (sub σ t)) (σ x)) r':=by
 obtain⟨M,hM⟩:=za r t;have hl: -1-v<(b.length:Int):=by rw[h.len];omega
 have hg:∀{x:Int},x<0->bg (bs b v t) x=if x=v then t else bg b x:=fun hx=>SO hv hl hx
 have hσv:σ v=[v]:=h.MV v hv hb;have hut:sub (DS v (sub σ t)) (sub σ t)=sub σ t:=Pp hno;have hwt:Wv a 1 (sub σ t):=ht.sub fun x _ hx=>h.wv x hx
 have hp:∀y,y<0->Wv a 1 (DS v (sub σ t) y):=fun y hy=>by
  unfold DS;split
  ·exact hwt
  ·exact Wv.var hy
 have hmem:∀{x y:Int},x<0->bg b x≠[]->y∈bg b x->y<0->v∈σ y->v∈σ x:=fun{x y} hx hbx hy hy0 hvy=>by
  rw[h.val x hx hbx];exact nO.2 ⟨y,hy,.inl ⟨hy0,hvy⟩⟩
 refine⟨fun x=>if x=v then M else if v∈σ x then r x+M+1 else r x,?_,?_,?_,?_,?_,?_,?_,?_,?_⟩
 ·unfold bs;rw[fo];exact h.len
 ·intro x hx hbx;rw[hg hx]at hbx⊢;split
  ·exact⟨ht,htN⟩
  ·rename_i hne;rw[ak hne]at hbx;exact h.tm x hx hbx
 ·intro x hx hbx;rw[hg hx]at hbx;split at hbx
  ·rename_i e;rw[e];exact hvN
  ·exact h.inr x hx hbx
 ·intro x hx hbx;rw[hg hx]at hbx⊢;rw[<-sub_sub];split
  ·rename_i e;rw[e,hσv,sub_one hv,Vs,hut]
  ·rename_i hne;rw[ak hne]at hbx;rw[h.val x hx hbx]
 ·intro x hx hbx;rw[hg hx]at hbx;split at hbx
  ·rw[hbx]at ht;exact absurd rfl ht.ne
  ·rename_i hne;rw[h.MV x hx hbx,sub_one hx,KE hne]
 ·intro x hx y hy hy0;rw[hg hy0];obtain⟨z,hz,⟨hz0,hyz⟩|⟨hz0,rfl⟩⟩:=nO.1 hy
  ·unfold DS at hyz;split at hyz
   ·have hne:y≠v:=fun e=>hno (by rw[<-e];exact hyz)
    rw[ak hne];obtain⟨q,hq,⟨hq0,hyq⟩|⟨hq0,rfl⟩⟩:=nO.1 hyz
    ·exact h.Es q hq0 y hyq hy0
    ·exact absurd hy0 hq0
   ·rename_i hne;rw[aX.1 hyz,ak hne];exact h.Es x hx z hz hz0
  ·exact absurd hy0 hz0
 ·intro x hx;exact(h.wv x hx).sub fun y _ hy=>hp y hy
 ·intro x hx hxN y hy;obtain⟨z,hz,⟨hz0,hyz⟩|⟨hz0,rfl⟩⟩:=nO.1 hy
  ·unfold DS at hyz;split at hyz
   ·obtain⟨q,hq,⟨hq0,hyq⟩|⟨hq0,rfl⟩⟩:=nO.1 hyz
    ·exact h.C_ q hq0 (htN q hq) y hyq
    ·exact htN y hq
   ·rw[aX.1 hyz];exact h.C_ x hx hxN z hz
  ·exact h.C_ x hx hxN y hz
 ·intro x hx hbx y hy hy0 hby;rw[hg hx]at hbx hy;rw[hg hy0]at hby;by_cases hxv:x=v
  ·rw[ah hxv]at hy;have hyv:y≠v:=fun e=>hno (nO.2 ⟨v,by rw[<-e];exact hy,.inl ⟨hv,by rw[hσv];exact aX.2 rfl⟩⟩)
   rw[ak hyv]at hby;have hvy:v∉σ y:=fun e=>hno (nO.2 ⟨y,hy,.inl ⟨hy0,e⟩⟩)
   have:=hM y hy;simp only[hxv,aC,hyv,hvy,aE];exact this
  ·rw[ak hxv]at hbx hy;by_cases hyv:y=v
   ·have hvx:v∈σ x:=hmem hx hbx hy hy0 (by rw[hyv,hσv];exact aX.2 rfl);simp only[hyv,aC,hxv,hvx,aE];omega
   ·rw[ak hyv]at hby;have hr:=h.rk x hx hbx y hy hy0 hby;simp only[hxv,hyv,aE];by_cases hvy:v∈σ y
    ·rw[ah hvy,ah (hmem hx hbx hy hy0 hvy)];omega
    ·rw[ak hvy];split<;>omega
theorem wO.bind{a:gv}{N:Pl}{b:List gv}{τ:Sb}{v:Int}{t:gv}(hN:b.length=N.n)(hv:v<0)(hvN: -(N.n:Int)<=v)(hb:bg b v=[])(ht:t≠[]):wO a (bs b v t) τ<->wO a b τ/\τ v=sub τ t:=by
 have hl: -1-v<(b.length:Int):=by omega
 have hg:∀{x:Int},x<0->bg (bs b v t) x=if x=v then t else bg b x:=fun hx=>SO hv hl hx
 constructor
 ·rintro⟨h1,h2⟩;refine⟨⟨h1,fun x hx hbx=>?_⟩,?_⟩
  ·have hne:x≠v:=fun e=>hbx (by rw[e];exact hb)
   have:=h2 x hx (by rw[hg hx,ak hne];exact hbx);rwa [hg hx,ak hne]at this
  ·have:=h2 v hv (by rw[hg hv,ah rfl];exact ht);rwa [hg hv,ah rfl]at this
 ·rintro⟨⟨h1,h2⟩,h3⟩;refine⟨h1,fun x hx hbx=>?_⟩;rw[hg hx]at hbx⊢;split
  ·rename_i e;rw[e];exact h3
  ·rename_i hne;rw[ak hne]at hbx;exact h2 x hx hbx
theorem RQ{a:gv}{N:Pl}{b:List gv}{σ τ:Sb}{r:Int->Nat}(h:Bn a N b σ r)(hτ:wO a b τ){v:Int}{t:gv}(hv:v<0)(hin:v∈sub σ t)(hlen:2<=(sub σ t).length):τ v≠sub τ t:=fun e=>by
 rw[<-hτ.Uw h t]at e;have:=Ox (σ:=τ) hv (fun y hy=>(hτ.1 y hy).len) hin;rw[<-e]at this;omega
theorem Vj{a:gv}{N:Pl}{b1 b2:List gv}{σ1 σ2:Sb}{r1 r2:Int->Nat}(h1:Bn a N b1 σ1 r1)(h2:Bn a N b2 σ2 r2)(h:∀τ,wO a b1 τ<->wO a b2 τ)(t:gv):
 sub σ1 (sub σ2 t)=sub σ1 t/\sub σ2 (sub σ1 t)=sub σ2 t:=⟨((h σ1).1 h1.self).Uw h2 t,((h σ2).2 h2.self).Uw h1 t⟩
def hv(σ:Sb)(x:Int):Int:=if x<0 then(σ x).headD 0 else x
theorem CS{σ:Sb}(hp:∀y,y<0->1<=(σ y).length):∀t:gv,t.length<=(sub σ t).length
 |[]=>by simp[sub]
 |z::t=>by
  have ih:=CS hp t;rw[jg,ai,aQ];split
  ·rename_i hz;have:=hp z hz;omega
  ·simp;omega
theorem CT{σ:Sb}(hp:∀y,y<0->1<=(σ y).length):∀{t:gv},(sub σ t).length<=t.length->sub σ t=t.map (hv σ)
 |[],_=>rfl
 |z::t,h=>by
  have ih:=CS hp t;rw[jg,ai,aQ]at h;rw[jg,aP];by_cases hz:z<0
  ·rw[ah hz]at h⊢;have hz1:=hp z hz;have e:σ z=[hv σ z]:=by
    unfold hv;rw[ah hz]
    match hq:σ z,hz1,h with
    |[y],_,_=>rfl
    |_::_::_,_,h=>simp at h;omega
   rw[CT hp (t:=t) (by rw[e]at h;simp at h;omega),e];simp[hv,hz]
  ·rw[ak hz]at h⊢;rw[CT hp (t:=t) (by simp at h;omega)];simp[hv,hz]
structure Ren(ρ:Int->Int)(t u:gv):Prop where
 eq:u=t.map ρ
 fn:∀x,¬x<0->ρ x=x
 vr:∀x∈t,x<0->ρ x<0
 inj:∀x∈t,∀y∈t,ρ x=ρ y->x=y
theorem Jk{a:gv}{N:Pl}{b1 b2:List gv}{σ1 σ2:Sb}{r1 r2:Int->Nat}(h1:Bn a N b1 σ1 r1)(h2:Bn a N b2 σ2 r2)(h:∀τ,wO a b1 τ<->wO a b2 τ)(t:gv):Ren (hv σ1) (sub σ2 t) (sub σ1 t):=by
 obtain⟨e1,e2⟩:=Vj h1 h2 h t;have p1:∀y,y<0->1<=(σ1 y).length:=fun y hy=>(h1.wv y hy).len
 have p2:∀y,y<0->1<=(σ2 y).length:=fun y hy=>(h2.wv y hy).len
 have l1:=CS p1 (sub σ2 t);have l2:=CS p2 (sub σ1 t);rw[e1]at l1;rw[e2]at l2;have m1:sub σ1 t=(sub σ2 t).map (hv σ1):=by rw[<-CT p1 (by rw[e1];exact l2),e1]
 have m2:sub σ2 t=(sub σ1 t).map (hv σ2):=by rw[<-CT p2 (by rw[e2];exact l1),e2]
 have back:∀x∈sub σ2 t,hv σ2 (hv σ1 x)=x:=fun x hx=>by
  have hm:(sub σ2 t).map (fun x=>hv σ2 (hv σ1 x))=(sub σ2 t).map id:=by
   rw[List.map_id];conv=>rhs;rw[m2,m1]
   rw[eS];rfl
  exact List.map_inj_left.1 hm x hx
 refine⟨m1,fun x hx=>by simp[hv,hx],fun x hx hx0=>?_,fun x hx y hy e=>?_⟩
 ·refine de fun hn=>?_
  have hb:=back x hx;have:hv σ2 (hv σ1 x)=hv σ1 x:=by rw[hv,ak hn]
  omega
 ·rw[<-back x hx,<-back y hy,e]
inductive Hd(b:List gv):gv->gv->Prop
 |stop {t:gv} (h:t.headD 0<0->bg b (t.headD 0)=[]):Hd b t t
 |go {t u:gv} (h:t.headD 0<0) (hb:bg b (t.headD 0)≠[]) (hu:Hd b (bg b (t.headD 0)) u):Hd b t u
theorem yQ{a t:gv}(ht:Wv a 1 t)(h:t.headD 0<0):t=[t.headD 0]:=by
 obtain⟨x,q,rfl,_,_⟩:=ht.pos;have h':x<0:=h;rw[ht.Sx h'];rfl
theorem Hd.ok{a:gv}{N:Pl}{b:List gv}{σ:Sb}{r:Int->Nat}(h:Bn a N b σ r){t u:gv}(hu:Hd b t u):Wv a 1 t->Nb N t->
 Wv a 1 u/\Nb N u/\(u.headD 0<0->bg b (u.headD 0)=[])/\∀τ,wO a b τ->sub τ u=sub τ t:=by
 induction hu with
 |stop hs=>exact fun h1 h2=>⟨h1,h2,hs,fun _ _=>rfl⟩
 |@go t u hx hb _ ih=>
  intro h1 h2;obtain⟨w1,w2⟩:=h.tm _ hx hb;obtain⟨k1,k2,k3,k4⟩:=ih w1 w2;refine⟨k1,k2,k3,fun τ hτ=>?_⟩;rw[k4 τ hτ,yQ h1 hx,sub_one hx];exact(hτ.2 _ hx hb).symm
theorem Hd.ex{a:gv}{N:Pl}{b:List gv}{σ:Sb}{r:Int->Nat}(h:Bn a N b σ r):∀(n:Nat){t:gv},Wv a 1 t->r (t.headD 0)<n->∃u,Hd b t u
 |0,_,_,hr=>by omega
 |n+1,t,ht,hr=>by
  by_cases hx:t.headD 0<0
  ·by_cases hb:bg b (t.headD 0)=[]
   ·exact⟨t,.stop fun _=>hb⟩
   ·obtain⟨w1,w2⟩:=h.tm _ hx hb;by_cases hy:(bg b (t.headD 0)).headD 0<0
    ·by_cases hb':bg b ((bg b (t.headD 0)).headD 0)=[]
     ·exact⟨_,.go hx hb (.stop fun _=>hb')⟩
     ·have hm:(bg b (t.headD 0)).headD 0∈bg b (t.headD 0):=by
       have:=yQ w1 hy;rw[this];simp
      have:=h.rk _ hx hb _ hm hy hb';obtain⟨u,hu⟩:=Hd.ex h n w1 gY;exact⟨u,.go hx hb hu⟩
    ·exact⟨_,.go hx hb (.stop fun hc=>absurd hc hy)⟩
  ·exact⟨t,.stop fun hc=>absurd hc hx⟩
theorem GA{a:gv}{τ:Sb}{f g:Int}{p q:gv}(hf:¬f<0)(hg:¬g<0)(h:sub τ (f::p)=sub τ (g::q)):f=g/\sub τ p=sub τ q:=by
 rw[jg,jg,ak hf,ak hg]at h;simp only[dU,bT]at h;exact h
def rD(τ:Sb):List gz->Prop
 |[]=>True
 |pq::l=>sub τ pq.1=sub τ pq.2/\rD τ l
theorem vg{τ:Sb}:∀{l m:List gz},rD τ (l++m)<->rD τ l/\rD τ m
 |[],m=>by simp[rD]
 |pq::l,m=>by simp[rD,vg (l:=l),and_assoc]
theorem J5{a:gv}{τ:Sb}(hτ:∀x,x<0->Wv a 1 (τ x)):∀{l:List gz},(∀pq∈l,Wv a 1 pq.1/\Wv a 1 pq.2)->(sub τ (l.map (·.1)).flatten=sub τ (l.map (·.2)).flatten<->rD τ l)
 |[],_=>by simp[rD,sub]
 |pq::l,h=>by
  obtain⟨w1,w2⟩:=h pq bh;have ih:=J5 hτ (l:=l) fun x hx=>h x (a_ _ hx)
  simp only[aP,ck,jK,rD,<-ih];constructor
  ·intro e;exact(w1.sub fun x _ hx=>hτ x hx).uniq (w2.sub fun x _ hx=>hτ x hx) e
  ·rintro⟨e1,e2⟩;rw[e1,e2]
structure At(a:gv)(N:Pl)(b:List gv)(s t u v:gv):Prop where
 ws:Wv a 1 s
 wt:Wv a 1 t
 ns:Nb N s
 nt:Nb N t
 hu:Hd b s u
 hv:Hd b t v
section
variable{a:gv}{N:Pl}{b:List gv}{σ:Sb}{r:Int->Nat}{s t u v:gv}
theorem At.eqs(h:Bn a N b σ r)(k:At a N b s t u v){τ:Sb}(hτ:wO a b τ):sub τ s=sub τ t<->sub τ u=sub τ v:=by rw[((k.hu.ok h k.ws k.ns).2.2.2 τ hτ),((k.hv.ok h k.wt k.nt).2.2.2 τ hτ)]
theorem KT(h:Bn a N b σ r)(k:At a N b s t u v)(hx:u.headD 0<0)(he:u.headD 0=v.headD 0){τ:Sb}(hτ:wO a b τ):sub τ s=sub τ t:=by
 obtain⟨w1,_,_,_⟩:=k.hu.ok h k.ws k.ns;obtain⟨w2,_,_,_⟩:=k.hv.ok h k.wt k.nt;rw[k.eqs h hτ,yQ w1 hx,yQ w2 gY,he]
theorem J_(h:Bn a N b σ r){x:Int}(hx:x<0)(hb:bg b x=[]){y:Int}(hy:y<0)(hby:bg b y=[]):x∈sub σ [y]<->x=y:=by rw[sub_one hy,h.MV y hy hby,aX]
theorem Ju(h:Bn a N b σ r)(k:At a N b s t u v)(hx:u.headD 0<0)(hne:u.headD 0≠v.headD 0)(hin:u.headD 0∈sub σ v){τ:Sb}(hτ:wO a b τ):sub τ s≠sub τ t:=by
 obtain⟨w1,_,f1,_⟩:=k.hu.ok h k.ws k.ns;obtain⟨w2,_,f2,_⟩:=k.hv.ok h k.wt k.nt;rw[Ne,k.eqs h hτ];have e1:=yQ w1 hx;rw[e1,sub_one hx];refine RQ h hτ hx hin ?_;by_cases hv0:v.headD 0<0
 ·rw[yQ w2 hv0]at hin;exact absurd ((J_ h hx (f1 hx) hv0 (f2 hv0)).1 hin) hne
 ·obtain⟨y,q,rfl,_,_⟩:=w2.pos;have hy:¬y<0:=hv0;rw[jg,ak hy]at hin⊢;have hm:u.headD 0∈sub σ q:=by
   rcases aN.1 hin with hm|hm
   ·rw[aX.1 hm]at hx;exact absurd hx hy
   ·exact hm
  have:=eB hm;simp;omega
theorem FX(h:Bn a N b σ r)(k:At a N b s t u v)(hx:u.headD 0<0)(hno:u.headD 0∉sub σ v):
 (∃σ' r',Bn a N (bs b (u.headD 0) v) σ' r')/\(∀τ,wO a (bs b (u.headD 0) v) τ<->wO a b τ/\sub τ s=sub τ t)/\bg b (u.headD 0)=[]/\ -(N.n:Int)<=u.headD 0/\v≠[]:=by
 obtain⟨w1,n1,f1,_⟩:=k.hu.ok h k.ws k.ns;obtain⟨w2,n2,_,_⟩:=k.hv.ok h k.wt k.nt;have e1:=yQ w1 hx;have hxN: -(N.n:Int)<=u.headD 0:=n1 _ (by rw[e1];simp);obtain⟨r',hB⟩:=h.bind hx hxN (f1 hx) w2 n2 hno;refine⟨⟨_,r',hB⟩,fun τ=>?_,f1 hx,hxN,w2.ne⟩;rw[wO.bind h.len hx hxN (f1 hx) w2.ne];constructor
 ·rintro⟨h1,h2⟩;exact⟨h1,by rw[k.eqs h h1,e1,sub_one hx];exact h2⟩
 ·rintro⟨h1,h2⟩;rw[k.eqs h h1,e1,sub_one hx]at h2;exact⟨h1,h2⟩
theorem At.symm(k:At a N b s t u v):At a N b t s v u:=⟨k.wt,k.ws,k.nt,k.ns,k.hv,k.hu⟩
theorem HF(h:Bn a N b σ r)(k:At a N b s t u v)(hx:¬u.headD 0<0)(hy:¬v.headD 0<0)(hne:u.headD 0≠v.headD 0){τ:Sb}(hτ:wO a b τ):sub τ s≠sub τ t:=by
 obtain⟨w1,_,_,_⟩:=k.hu.ok h k.ws k.ns;obtain⟨w2,_,_,_⟩:=k.hv.ok h k.wt k.nt;rw[Ne,k.eqs h hτ];obtain⟨x,p,rfl,_,_⟩:=w1.pos;obtain⟨y,q,rfl,_,_⟩:=w2.pos;intro e;exact hne (GA (a:=a) hx hy e).1
theorem Pj(h:Bn a N b σ r)(k:At a N b s t u v)(hx:¬u.headD 0<0)(hne:u.headD 0=v.headD 0){l:List gz}(hl:∀pq∈l,Wv a 1 pq.1/\Wv a 1 pq.2)(hu:u.tail=(l.map (·.1)).flatten)(hv:v.tail=(l.map (·.2)).flatten){τ:Sb}(hτ:wO a b τ):
 sub τ s=sub τ t<->rD τ l:=by
 obtain⟨w1,_,_,_⟩:=k.hu.ok h k.ws k.ns;obtain⟨w2,_,_,_⟩:=k.hv.ok h k.wt k.nt;rw[k.eqs h hτ];obtain⟨x,p,rfl,_,_⟩:=w1.pos;obtain⟨y,q,rfl,_,_⟩:=w2.pos;have e:x=y:=hne;subst e;have hx':¬x<0:=hx;rw[<-J5 hτ.1 hl];simp only[List.tail_cons]at hu hv;rw[<-hu,<-hv];exact⟨fun e=>(GA (a:=a) hx' hx' e).2,fun e=>by rw[jg,jg,e]⟩
end
def D3(b:List gv):Nat:=b.countP fun t=>t.isEmpty
theorem zW{p:gv->Bool}:∀{b:List gv}{i:Nat}{u:gv},i<b.length->p (b.getD i [])=true->p u=false->(b.set i u).countP p<b.countP p
 |[],i,_,h,_,_=>by simp at h
 |x::b,0,u,_,h1,h2=>by
  have h1':p x=true:=h1;simp[fk,h1',h2]
 |x::b,i+1,u,hi,h1,h2=>by
  have:=zW (p:=p) (b:=b) (i:=i) (u:=u) (by simpa using hi) (by simpa using h1) h2;simp only[fL,fk];omega
theorem JA{b:List gv}{x:Int}{u:gv}(hx:x<0)(hl: -1-x<(b.length:Int))(hb:bg b x=[])(hu:u≠[]):D3 (bs b x u)<D3 b:=by
 unfold D3 bs;refine zW gY ?_ ?_
 ·unfold bg at hb;rw[hb];rfl
 ·cases u with
  |nil=>exact absurd rfl hu
  |cons y u=>rfl
theorem FN{σ:Sb}{f:Int}{p q m:gv}(hf:¬f<0):(sub σ m).length<(sub σ (f::(p++(m++q)))).length:=by
 rw[jg,ak hf,jK,jK];simp;omega
end Un
namespace Un
def Cb(s:gv)(x:Int):gv:=if x<0/\x∉s then s++[x]else s
def mB(s t:gv):gv:=t.foldl Cb s
def zP(o:gv)(x:Int):Int:=if x<0 then -1-(o.idxOf x:Int)else x
def wJ(o t:gv):gv:=t.map (zP o)
structure F8(ρ:Int->Int)(T:gv):Prop where
 fn:∀x,¬x<0->ρ x=x
 vr:∀x∈T,x<0->ρ x<0
 inj:∀x∈T,∀y∈T,ρ x=ρ y->x=y
theorem Ren.apart{ρ:Int->Int}{t u:gv}(h:Ren ρ t u):F8 ρ t:=⟨h.fn,h.vr,h.inj⟩
theorem Ku{s:gv}{x y:Int}(h:y∈Cb s x):y∈s\/y=x:=by
 unfold Cb at h;split at h
 ·rcases aN.1 h with h|h
  ·exact .inl h
  ·exact .inr (aX.1 h)
 ·exact .inl h
theorem FH:∀{t s:gv}{y:Int},y∈mB s t->y∈s\/y∈t
 |[],s,y,h=>.inl h
 |x::t,s,y,h=>by
  rcases FH (t:=t) (s:=Cb s x) h with h|h
  ·rcases Ku h with h|h
   ·exact .inl h
   ·exact .inr (by rw[h];exact bh)
  ·exact .inr (a_ _ h)
theorem Ks{ρ:Int->Int}{T:gv}(hA:F8 ρ T):∀{t s:gv},(∀x∈s,x∈T)->(∀x∈t,x∈T)->mB (s.map ρ) (t.map ρ)=(mB s t).map ρ
 |[],s,_,_=>rfl
 |x::t,s,hs,ht=>by
  have hx:=ht x bh;have e:Cb (s.map ρ) (ρ x)=(Cb s x).map ρ:=by
   unfold Cb;by_cases h0:x<0
   ·have h1:=hA.vr x hx h0;by_cases hm:x∈s
    ·rw[ak (fun c=>c.2 (bz.2 ⟨x,hm,rfl⟩)),ak (fun c=>c.2 hm)]
    ·rw[ah ⟨h1,fun c=>by
      obtain⟨y,hy,he⟩:=bz.1 c;exact hm (by rw[<-hA.inj y (hs y hy) x hx he];exact hy)⟩,ah ⟨h0,hm⟩,aR];rfl
   ·rw[ak (fun c=>h0 (by have:=c.1;rwa [hA.fn x h0]at this)),ak fun c=>h0 c.1]
  show mB (Cb (s.map ρ) (ρ x)) (t.map ρ)=(mB (Cb s x) t).map ρ;rw[e];refine Ks hA (fun y hy=>?_) fun y hy=>ht y (a_ _ hy)
  rcases Ku hy with hy|rfl
  ·exact hs y hy
  ·exact hx
theorem Ke{ρ:Int->Int}{T:gv}(hA:F8 ρ T){x:Int}(hx:x∈T):∀{o:gv},(∀y∈o,y∈T)->(o.map ρ).idxOf (ρ x)=o.idxOf x
 |[],_=>rfl
 |y::o,ho=>by
  rw[aP,List.idxOf_cons,List.idxOf_cons,Ke hA hx fun z hz=>ho z (a_ _ hz)];by_cases h:y=x
  ·subst h;simp
  ·have:ρ y≠ρ x:=fun e=>h (hA.inj y (ho y bh) x hx e)
   have h1:(ρ y==ρ x)=false:=by simpa using this
   have h2:(y==x)=false:=by simpa using h
   rw[h1,h2]
theorem R_{ρ:Int->Int}{T o:gv}(hA:F8 ρ T)(ho:∀y∈o,y∈T){x:Int}(hx:x∈T):zP (o.map ρ) (ρ x)=zP o x:=by
 unfold zP;by_cases h0:x<0
 ·rw[ah (hA.vr x hx h0),ah h0,Ke hA hx ho]
 ·rw[hA.fn x h0,ak h0,ak h0]
theorem KG{ρ:Int->Int}{T o t:gv}(hA:F8 ρ T)(ho:∀y∈o,y∈T)(ht:∀y∈t,y∈T):wJ (o.map ρ) (t.map ρ)=wJ o t:=by
 unfold wJ;rw[eS];exact eP fun x hx=>R_ hA ho (ht x hx)
theorem Kx{a:gv}{N:Pl}{b1 b2:List gv}{σ1 σ2:Sb}{r1 r2:Int->Nat}(h1:Bn a N b1 σ1 r1)(h2:Bn a N b2 σ2 r2)(h:∀τ,wO a b1 τ<->wO a b2 τ)(p q w:gv):
 (Tm.sub σ1 p).length=(Tm.sub σ2 p).length/\(mB [] (Tm.sub σ1 p)).length=(mB [] (Tm.sub σ2 p)).length/\
 wJ (mB [] (Tm.sub σ1 p)) (Tm.sub σ1 p)=wJ (mB [] (Tm.sub σ2 p)) (Tm.sub σ2 p)/\wJ (mB [] (Tm.sub σ1 p)) (Tm.sub σ1 q)=wJ (mB [] (Tm.sub σ2 p)) (Tm.sub σ2 q)/\(Tm.sub σ1 q).length=(Tm.sub σ2 q).length:=by
 have R:=Jk h1 h2 h (p++q);have hA:=R.apart;have e:=R.eq;have Rp:=(Jk h1 h2 h p).eq;have Rq:=(Jk h1 h2 h q).eq;rw[Tm.jK]at hA;have m1:∀x∈Tm.sub σ2 p,x∈Tm.sub σ2 p++Tm.sub σ2 q:=fun x hx=>bk _ hx
 have m2:∀x∈Tm.sub σ2 q,x∈Tm.sub σ2 p++Tm.sub σ2 q:=fun x hx=>bE _ hx
 have ho:mB [] ((Tm.sub σ2 p).map (hv σ1))=(mB [] (Tm.sub σ2 p)).map (hv σ1):=Ks hA (s:=[]) (by simp) m1;have hs:∀y∈mB [] (Tm.sub σ2 p),y∈Tm.sub σ2 p++Tm.sub σ2 q:=fun y hy=>(FH hy).elim (fun c=>by cases c) (m1 y)
 rw[Rp,Rq,ho];exact⟨by simp,by simp,KG hA hs m1,KG hA hs m2,by simp⟩
end Un
namespace Un
open Tm
def sn(seen:List Bool)(m:Int):Bool:=seen.getD (-1-m).toNat false
def ss(seen:List Bool)(m:Int):List Bool:=seen.set (-1-m).toNat true
theorem Uf{seen:List Bool}{n m:Int}(hn:n<0)(hl: -1-n<(seen.length:Int))(hm:m<0):sn (ss seen n) m=if m=n then true else sn seen m:=by
 unfold sn ss;rw[ay,ay,dX];by_cases h:m=n
 ·subst h;rw[ah rfl,ah rfl,ah gY];rfl
 ·rw[ak h,ak gY]
def vT(b:List gv)(x:Int):Nat->gv->List Bool->Option (Bool×List Bool)
 |0,_,_=>none
 |_+1,[],seen=>some (false,seen)
 |f+1,m::t,seen=>
  if m=x then some (true,seen)
  else if 0<=m\/sn seen m=true then vT b x (f+1) t seen
  else if bg b m=[]then vT b x (f+1) t (ss seen m)
  else(vT b x f (bg b m) (ss seen m)).bind fun q=>if q.1=true then some (true,q.2)else vT b x (f+1) t q.2
termination_by f t _=>(f,t.length)
theorem xp{b:List gv}{x:Int}:∀(f:Nat)(t:gv)(seen:List Bool){q:Bool×List Bool},vT b x f t seen=some q->q.2.length=seen.length
 |0,_,_,q,h=>by simp[vT]at h
 |f+1,[],seen,q,h=>by simp only[vT,aJ]at h;rw[<-h]
 |f+1,m::t,seen,q,h=>by
  rw[vT]at h;split at h
  ·cases h;rfl
  ·split at h
   ·exact xp (f+1) t seen h
   ·split at h
    ·rw[xp (f+1) t _ h];simp[ss]
    ·obtain⟨p,hp,h⟩:=au.1 h;have h1:=xp f _ _ hp;split at h
     ·cases h;rw[h1];simp[ss]
     ·rw[xp (f+1) t _ h,h1];simp[ss]
termination_by f t _=>(f,t.length)
theorem A6{a:gv}{N:Pl}{b:List gv}{σ:Sb}{r:Int->Nat}(h:Bn a N b σ r){x:Int}(hx:x<0)(hbx:bg b x=[]):∀(f:Nat)(t:gv)(seen:List Bool){R:Nat},R<f->seen.length=N.n->
 (∀y∈t, -(N.n:Int)<=y)->(∀y∈t,y<0->bg b y≠[]->r y<R)->(∀m,m<0-> -(N.n:Int)<=m->sn seen m=true->(bg b m≠[]->r m<R)->x∉σ m)->
 ∃q,vT b x f t seen=some q/\(q.1=true->x∈sub σ t)/\(q.1=false->x∉sub σ t/\∀m,m<0-> -(N.n:Int)<=m->sn q.2 m=true->sn seen m=true\/x∉σ m)
 |0,_,_,R,hR,_,_,_,_=>by omega
 |f+1,[],seen,R,hR,hl,hn,hr,hs=>⟨(false,seen),by simp[vT],fun e=>(by cases e),fun _=>⟨by simp[sub],fun m _ _ e=>.inl e⟩⟩
 |f+1,m::t,seen,R,hR,hl,hn,hr,hs=>by
  have hn':∀y∈t, -(N.n:Int)<=y:=fun y hy=>hn y (a_ _ hy)
  have hr':∀y∈t,y<0->bg b y≠[]->r y<R:=fun y hy=>hr y (a_ _ hy)
  have hmN:=hn m bh;rw[vT];by_cases hm:m=x
  ·rw[ah hm];refine⟨_,rfl,fun _=>?_,fun e=>by cases e⟩;refine nO.2 ⟨x,by rw[hm];exact bh,.inl ⟨hx,?_⟩⟩;rw[h.MV x hx hbx];exact aX.2 rfl
  ·rw[ak hm];by_cases hc:0<=m\/sn seen m=true
   ·rw[ah hc];obtain⟨q,e,q1,q2⟩:=A6 h hx hbx (f+1) t seen hR hl hn' hr' hs;refine⟨q,e,fun k=>?_,fun k=>⟨fun hin=>?_,(q2 k).2⟩⟩
    ·rw[jg];exact bE _ (q1 k)
    ·rw[jg]at hin;rcases aN.1 hin with hin|hin
     ·split at hin
      ·rename_i h0;rcases hc with hc|hc
       ·omega
       ·exact hs m h0 hmN hc (hr m bh h0) hin
      ·rename_i h0;exact hm (aX.1 hin).symm
     ·exact(q2 k).1 hin
   ·rw[ak hc];have h0:m<0:=by omega
    have B_:sn seen m≠true:=fun e=>hc (.inr e)
    have hlm: -1-m<(seen.length:Int):=by omega
    have hg:∀{y:Int},y<0->sn (ss seen m) y=if y=m then true else sn seen y:=fun hy=>Uf h0 hlm hy
    have hl':(ss seen m).length=N.n:=by simp[ss,hl]
    by_cases hb:bg b m=[]
    ·rw[ah hb];have hxm:x∉σ m:=by rw[h.MV m h0 hb];exact fun e=>hm (aX.1 e).symm
     obtain⟨q,e,q1,q2⟩:=A6 h hx hbx (f+1) t (ss seen m) hR hl' hn' hr' (fun y hy hyN hsy hry=>by
      rw[hg hy]at hsy;split at hsy
      ·rename_i e;rw[e];exact hxm
      ·exact hs y hy hyN hsy hry)
     refine⟨q,e,fun k=>?_,fun k=>⟨fun hin=>?_,fun y hy hyN hsy=>?_⟩⟩
     ·rw[jg];exact bE _ (q1 k)
     ·rw[jg,ah h0]at hin;rcases aN.1 hin with hin|hin
      ·exact hxm hin
      ·exact(q2 k).1 hin
     ·rcases(q2 k).2 y hy hyN hsy with hsy|hsy
      ·rw[hg hy]at hsy;split at hsy
       ·rename_i e;exact .inr (by rw[e];exact hxm)
       ·exact .inl hsy
      ·exact .inr hsy
    ·rw[ak hb];obtain⟨w1,w2⟩:=h.tm m h0 hb;have hmR:=hr m bh h0 hb;obtain⟨p,e1,p1,p2⟩:=A6 h hx hbx f (bg b m) (ss seen m) (R:=r m) gY hl' w2 (fun y hy hy0 hby=>h.rk m h0 hb y hy hy0 hby) (fun y hy hyN hsy hry=>by
      rw[hg hy]at hsy;split at hsy
      ·rename_i e;have:=hry (by rw[e];exact hb);rw[e]at this;omega
      ·exact hs y hy hyN hsy fun k=>by have:=hry k;omega)
     rw[e1,aa];cases hp:p.1 with
     |true=>
      rw[ah rfl];refine⟨_,rfl,fun _=>?_,fun e=>by cases e⟩;rw[jg,ah h0];exact bk _ (by rw[h.val m h0 hb];exact p1 hp)
     |false=>
      rw[ak (by simp)];obtain⟨k1,k2⟩:=p2 hp;have hxm:x∉σ m:=by rw[h.val m h0 hb];exact k1
      have hpl:p.2.length=N.n:=by rw[xp f _ _ e1];exact hl'
      obtain⟨q,e,q1,q2⟩:=A6 h hx hbx (f+1) t p.2 hR hpl hn' hr' (fun y hy hyN hsy hry=>by
       rcases k2 y hy hyN hsy with hsy|hsy
       ·rw[hg hy]at hsy;split at hsy
        ·rename_i e;rw[e];exact hxm
        ·exact hs y hy hyN hsy hry
       ·exact hsy)
      refine⟨q,e,fun k=>?_,fun k=>⟨fun hin=>?_,fun y hy hyN hsy=>?_⟩⟩
      ·rw[jg];exact bE _ (q1 k)
      ·rw[jg,ah h0]at hin;rcases aN.1 hin with hin|hin
       ·exact hxm hin
       ·exact(q2 k).1 hin
      ·rcases(q2 k).2 y hy hyN hsy with hsy|hsy
       ·rcases k2 y hy hyN hsy with hsy|hsy
        ·rw[hg hy]at hsy;split at hsy
         ·rename_i e;exact .inr (by rw[e];exact hxm)
         ·exact .inl hsy
        ·exact .inr hsy
       ·exact .inr hsy
termination_by f t _=>(f,t.length)
abbrev Bd:=List gv
def pE(a:gv):Nat->gv->List gv
 |0,_=>[]
 |k+1,t=>match zF a t 1 with
  |some r=>t.take (t.length-r.length)::pE a k r
  |none=>[]
theorem tC{a:gv}:∀{k:Nat}{t:gv},Wv a k t->(pE a k t).flatten=t/\(pE a k t).length=k/\∀u∈pE a k t,Wv a 1 u
 |0,t,h=>by rw[h.zero];simp[pE]
 |k+1,t,h=>by
  rw[cN]at h;obtain⟨u,v,rfl,h1,h2⟩:=h.split;have e:zF a (u++v) 1=some v:=h1.skip v;obtain⟨i1,i2,i3⟩:=tC h2;have e2:(u++v).take ((u++v).length-v.length)=u:=by rw[ai,dQ];simp
  have e3:pE a (k+1) (u++v)=u::pE a k v:=by rw[pE,e];simp only;rw[e2]
  rw[e3];refine⟨by rw[ck,i1],by rw[aQ,i2],fun w hw=>?_⟩;rcases bI.1 hw with rfl|hw
  ·exact h1
  ·exact i3 w hw
def Cl(a:gv)(N:Pl):Prop:=∀t,Nb N t->Wv a 1 t->¬t.headD 0<0->∀u∈pE a (lR a (t.headD 0)) t.tail,Nb N u
structure zK(a:gv)(N:Pl)(b:Bd)(E:Sb->Prop)(res:Bd×Bool):Prop where
 yes:res.2=true->(∃σ' r',Bn a N res.1 σ' r')/\(∀τ,wO a res.1 τ<->wO a b τ/\E τ)/\(res.1=b\/D3 res.1<D3 b)
 no:res.2=false->∀τ,wO a b τ->¬E τ
def UR(E:Bd->gv->gv->Option (Bd×Bool)):Bd->List gz->Option (Bd×Bool)
 |b,[]=>some (b,true)
 |b,pq::l=>(E b pq.1 pq.2).bind fun q=>if q.2=true then UR E q.1 l else some (q.1,false)
def way(u v:gv):Int×gv:=if v.headD 0<0/\(0<=u.headD 0\/v.headD 0<u.headD 0)then(v.headD 0,u)else(u.headD 0,v)
open Classical in
noncomputable def one(a:gv)(E:Bd->gv->gv->Option (Bd×Bool))(b:Bd)(σ:Sb)(u v:gv):Option (Bd×Bool):=
 if u.headD 0=v.headD 0/\u.headD 0<0 then some (b,true)
 else if u.headD 0<0\/v.headD 0<0 then
  if 0<=(way u v).2.headD 0/\(way u v).1∈sub σ (way u v).2 then some (b,false)else some (bs b (way u v).1 (way u v).2,true)
 else if u.headD 0≠v.headD 0 then some (b,false)
 else UR E b ((pE a (lR a (u.headD 0)) u.tail).zip (pE a (lR a (u.headD 0)) v.tail))
structure Bx(a:gv)(N:Pl)(E:Nat->Bd->gv->gv->Option (Bd×Bool)):Prop where
 step:∀{b:Bd}{σ:Sb}{r:Int->Nat}{s t:gv},Bn a N b σ r->Wv a 1 s->Wv a 1 t->Nb N s->Nb N t->
  ∃u v,Hd b s u/\Hd b t v/\∀f,E (f+1) b s t=one a (E f) b σ u v
theorem D7{α β:Type}:∀{xs:List α}{ys:List β},xs.length=ys.length->(xs.zip ys).map (·.1)=xs/\(xs.zip ys).map (·.2)=ys
 |[],[],_=>⟨rfl,rfl⟩
 |x::xs,y::ys,h=>by
  obtain⟨h1,h2⟩:=D7 (xs:=xs) (ys:=ys) (by simpa using h);exact⟨by rw[fJ,aP,h1],by rw[fJ,aP,h2]⟩
 |[],_::_,h=>by cases h
 |_::_,[],h=>by cases h
theorem nK{xs:List gv}{u:gv}(h:u∈xs):∃p q,xs.flatten=p++(u++q):=by
 obtain⟨l,r,rfl⟩:=List.append_of_mem h;exact⟨l.flatten,r.flatten,by simp⟩
def Good(a:gv)(N:Pl)(E:Nat->Bd->gv->gv->Option (Bd×Bool))(b:Bd)(s t:gv):Prop:=
 ∃F res,(∀f,F<=f->E f b s t=some res)/\zK a N b (fun τ=>sub τ s=sub τ t) res
theorem N3{a:gv}{N:Pl}{E:Nat->Bd->gv->gv->Option (Bd×Bool)}{b0:Bd}{σ0:Sb}{r0:Int->Nat}(h0:Bn a N b0 σ0 r0)
 (low:∀{b:Bd}{σ:Sb}{r:Int->Nat}{s t:gv},Bn a N b σ r->D3 b<D3 b0->Wv a 1 s->Wv a 1 t->Nb N s->Nb N t->Good a N E b s t):
 ∀(l:List gz){b:Bd}{σ:Sb}{r:Int->Nat},Bn a N b σ r->(b=b0\/D3 b<D3 b0)->(∀pq∈l,Wv a 1 pq.1/\Wv a 1 pq.2/\(Nb N pq.1)/\(Nb N pq.2)/\Good a N E b0 pq.1 pq.2)->
 ∃F res,(∀f,F<=f->UR (E f) b l=some res)/\zK a N b (fun τ=>rD τ l) res
 |[],b,σ,r,h,hb,hl=>⟨0,(b,true),fun _ _=>rfl,⟨fun _=>⟨⟨σ,r,h⟩,fun τ=>by simp[rD],.inl rfl⟩,fun e=>by cases e⟩⟩
 |pq::l,b,σ,r,h,hb,hl=>by
  obtain⟨w1,w2,n1,n2,hg⟩:=hl pq bh;have hgood:Good a N E b pq.1 pq.2:=by
   rcases hb with rfl|hb
   ·exact hg
   ·exact low h hb w1 w2 n1 n2
  obtain⟨F,res,e1,R1⟩:=hgood;cases hr:res.2 with
  |false=>
   refine⟨F,(res.1,false),fun f hf=>?_,⟨fun e=>(by cases e),fun _ τ hτ hA=>R1.no hr τ hτ hA.1⟩⟩;rw[UR,e1 f hf,aa,hr,ak (by simp)]
  |true=>
   obtain⟨⟨σ',r',h'⟩,hS,hb'⟩:=R1.yes hr;have hb2:res.1=b0\/D3 res.1<D3 b0:=by
    rcases hb' with e|hb'
    ·rw[e];exact hb
    ·rcases hb with rfl|hb
     ·exact .inr hb'
     ·exact .inr gY
   obtain⟨F2,res2,e2,R2⟩:=N3 h0 low l h' hb2 fun x hx=>hl x (a_ _ hx)
   refine⟨max F F2,res2,fun f hf=>?_,⟨fun e=>?_,fun e τ hτ hA=>?_⟩⟩
   ·rw[UR,e1 f gY,aa,hr,ah rfl];exact e2 f gY
   ·obtain⟨k1,k2,k3⟩:=R2.yes e;refine⟨k1,fun τ=>?_,?_⟩
    ·rw[k2 τ,hS τ];simp only[rD,and_assoc]
    ·rcases k3 with k3|k3
     ·rw[k3];exact hb'
     ·rcases hb' with e'|hb'
      ·rw[e']at k3;exact .inr k3
      ·exact .inr gY
   ·exact R2.no e τ ((hS τ).2 ⟨hτ,hA.1⟩) hA.2
theorem HN{a:gv}{N:Pl}{b:Bd}{σ:Sb}{r:Int->Nat}(h:Bn a N b σ r){s t u v:gv}(k:At a N b s t u v)(hx:u.headD 0<0)(hne:u.headD 0≠v.headD 0):
 (0<=v.headD 0/\u.headD 0∈sub σ v->∀τ,wO a b τ->sub τ s≠sub τ t)/\
 (¬(0<=v.headD 0/\u.headD 0∈sub σ v)->zK a N b (fun τ=>sub τ s=sub τ t) (bs b (u.headD 0) v,true)):=by
 refine⟨fun hc τ hτ=>Ju h k hx hne hc.2 hτ,fun hc=>?_⟩;have hno:u.headD 0∉sub σ v:=fun hin=>by
  obtain⟨w1,n1,f1,_⟩:=k.hu.ok h k.ws k.ns;obtain⟨w2,n2,f2,_⟩:=k.hv.ok h k.wt k.nt;by_cases h0:v.headD 0<0
  ·rw[yQ w2 h0]at hin;exact hne ((J_ h hx (f1 hx) h0 (f2 h0)).1 hin)
  ·exact hc ⟨gY,hin⟩
 obtain⟨k1,k2,k3,k4,k5⟩:=FX h k hx hno;refine⟨fun _=>⟨k1,k2,.inr ?_⟩,fun e=>by cases e⟩;exact JA hx (by rw[h.len];omega) k3 k5
theorem zK.of{a:gv}{N:Pl}{b:Bd}{E E':Sb->Prop}{res:Bd×Bool}(h:zK a N b E res)(he:∀τ,wO a b τ->(E τ<->E' τ)):zK a N b E' res:=
 ⟨fun e=>⟨(h.yes e).1,fun τ=>by rw[(h.yes e).2.1 τ];exact⟨fun k=>⟨k.1,(he τ k.1).1 k.2⟩,fun k=>⟨k.1,(he τ k.1).2 k.2⟩⟩,(h.yes e).2.2⟩,fun e τ hτ hE=>h.no e τ hτ ((he τ hτ).2 hE)⟩
theorem Bx.good{a:gv}{N:Pl}{E:Nat->Bd->gv->gv->Option (Bd×Bool)}(hE:Bx a N E)(hC:Cl a N)(U M:Nat){b:Bd}{σ:Sb}{r:Int->Nat}{s t:gv}(h:Bn a N b σ r)(hU:D3 b<=U)(hM:(sub σ s).length+(sub σ t).length<=M)
 (ws:Wv a 1 s) (wt:Wv a 1 t) (ns:Nb N s) (nt:Nb N t):Good a N E b s t:=by
 obtain⟨u,v,hu,hv,hstep⟩:=hE.step h ws wt ns nt;have k:At a N b s t u v:=⟨ws,wt,ns,nt,hu,hv⟩;obtain⟨w1,n1,f1,g1⟩:=hu.ok h ws ns;obtain⟨w2,n2,f2,g2⟩:=hv.ok h wt nt;have key:∃F res,(∀f,F<=f->one a (E f) b σ u v=some res)/\zK a N b (fun τ=>sub τ s=sub τ t) res:=by
  unfold one;by_cases c1:u.headD 0=v.headD 0/\u.headD 0<0
  ·refine⟨0,(b,true),fun f _=>by rw[ah c1],⟨fun _=>⟨⟨σ,r,h⟩,fun τ=>⟨fun hτ=>⟨hτ,KT h k c1.2 c1.1 hτ⟩,fun hτ=>hτ.1⟩,.inl rfl⟩,fun e=>by cases e⟩⟩
  ·by_cases c2:u.headD 0<0\/v.headD 0<0
   ·have hne:u.headD 0≠v.headD 0:=fun e=>c1 ⟨e,gY⟩
    by_cases c3:v.headD 0<0/\(0<=u.headD 0\/v.headD 0<u.headD 0)
    ·have hw:way u v=(v.headD 0,u):=by unfold way;rw[ah c3]
     obtain⟨p1,p2⟩:=HN h k.symm c3.1 (Ne.symm hne);by_cases c4:0<=u.headD 0/\v.headD 0∈sub σ u
     ·exact⟨0,(b,false),fun f _=>by rw[ak c1,ah c2,hw,ah c4],⟨fun e=>(by cases e),fun _ τ hτ e=>p1 c4 τ hτ e.symm⟩⟩
     ·exact⟨0,(bs b (v.headD 0) u,true),fun f _=>by rw[ak c1,ah c2,hw,ak c4],(p2 c4).of fun τ _=>eq_comm⟩
    ·have hx:u.headD 0<0:=by omega
     have hw:way u v=(u.headD 0,v):=by unfold way;rw[ak c3]
     obtain⟨p1,p2⟩:=HN h k hx hne;by_cases c4:0<=v.headD 0/\u.headD 0∈sub σ v
     ·exact⟨0,(b,false),fun f _=>by rw[ak c1,ah c2,hw,ah c4],⟨fun e=>(by cases e),fun _ τ hτ e=>p1 c4 τ hτ e⟩⟩
     ·exact⟨0,(bs b (u.headD 0) v,true),fun f _=>by rw[ak c1,ah c2,hw,ak c4],p2 c4⟩
   ·have hx:¬u.headD 0<0:=by omega
    have hy:¬v.headD 0<0:=by omega
    by_cases c3:u.headD 0=v.headD 0
    ·obtain⟨x,p,eu,_,wp⟩:=w1.pos;obtain⟨y,q,ev,_,wq⟩:=w2.pos;subst eu;subst ev;have exy:x=y:=c3;subst exy;have hx':¬x<0:=hx;rw[bU]at wp wq;obtain⟨i1,i2,i3⟩:=tC wp;obtain⟨j1,j2,j3⟩:=tC wq;have hlen:(pE a (lR a x) p).length=(pE a (lR a x) q).length:=by rw[i2,j2]
     obtain⟨z1,z2⟩:=D7 hlen;have hsz1:(sub σ (x::p)).length=(sub σ s).length:=by rw[g1 σ h.self]
     have hsz2:(sub σ (x::q)).length=(sub σ t).length:=by rw[g2 σ h.self]
     have low:∀{b':Bd}{σ':Sb}{r':Int->Nat}{s' t':gv},Bn a N b' σ' r'->D3 b'<D3 b->Wv a 1 s'->Wv a 1 t'->(Nb N s')->(Nb N t')->Good a N E b' s' t':=fun{b' σ' r' s' t'} h' hlt ws' wt' ns' nt'=>
      have hd:D3 b'<U:=by omega
      Bx.good hE hC (D3 b') _ h' (aF _) (aF _) ws' wt' ns' nt'
     have pairs:∀pq∈(pE a (lR a x) p).zip (pE a (lR a x) q),Wv a 1 pq.1/\Wv a 1 pq.2/\(Nb N pq.1)/\(Nb N pq.2)/\Good a N E b pq.1 pq.2:=fun pq hpq=>by
      obtain⟨m1,m2⟩:=gm (a:=pq.1) (b:=pq.2) hpq;obtain⟨p1,p2,ep⟩:=nK m1;obtain⟨q1,q2,eq'⟩:=nK m2;rw[i1]at ep;rw[j1]at eq';have np:Nb N pq.1:=hC _ n1 w1 hx' _ m1;have nq:Nb N pq.2:=hC _ n2 w2 hx' _ m2;have l1:=FN (σ:=σ) (p:=p1) (q:=p2) (m:=pq.1) hx';have l2:=FN (σ:=σ) (p:=q1) (q:=q2) (m:=pq.2) hx';rw[<-ep,hsz1]at l1;rw[<-eq',hsz2]at l2;have hd:(sub σ pq.1).length+(sub σ pq.2).length<M:=by omega
      exact⟨i3 _ m1,j3 _ m2,np,nq,Bx.good hE hC U _ h hU (aF _) (i3 _ m1) (j3 _ m2) np nq⟩
     obtain⟨F,res,e1,R⟩:=N3 h low ((pE a (lR a x) p).zip (pE a (lR a x) q)) h (.inl rfl) pairs;refine⟨F,res,fun f hf=>?_,R.of fun τ hτ=>?_⟩
     ·rw[ak c1,ak c2,ak (fun e=>e c3)];exact e1 f hf
     ·exact(Pj h k hx c3 (fun pq hpq=>⟨(pairs pq hpq).1,(pairs pq hpq).2.1⟩) (by rw[z1,i1];rfl) (by rw[z2,j1];rfl) hτ).symm
    ·exact⟨0,(b,false),fun f _=>by rw[ak c1,ak c2,ah c3],⟨fun e=>(by cases e),fun _ τ hτ e=>HF h k hx hy c3 hτ e⟩⟩
 obtain⟨F,res,e1,R⟩:=key;refine⟨F+1,res,fun f hf=>?_,R⟩;obtain⟨g,rfl⟩:∃g,f=g+1:=⟨f-1,gY⟩;rw[hstep g];exact e1 g gY
termination_by (U,M)
end Un
namespace Un
open Tm mm
abbrev Pr:=List gz
def Mb(σ:Sb)(l:Pr):Nat:=(l.map fun pq=>(sub σ pq.1).length+(sub σ pq.2).length).sum
theorem KD{σ:Sb}{l m:Pr}:Mb σ (l++m)=Mb σ l+Mb σ m:=by unfold Mb;rw[aR,List.sum_append]
theorem Hp{σ:Sb}:∀{l:Pr},Mb σ l=(sub σ (l.map (·.1)).flatten).length+(sub σ (l.map (·.2)).flatten).length
 |[]=>rfl
 |pq::l=>by
  have ih:=Hp (σ:=σ) (l:=l);unfold Mb at ih⊢;simp only[aP,List.sum_cons,ck,jK,ai];omega
theorem Hi:∀{H P:List gv},H.Nodup->(∀x∈H,x∈P)->H.length<=P.length
 |[],P,_,_=>cZ _
 |x::H,P,hn,hs=>by
  obtain⟨h1,h2⟩:=cF.1 hn;have hx:=hs x bh;have i:=Hi (P:=P.erase x) h2 fun y hy=>(List.mem_erase_of_ne (fun e:y=x=>h1 (by rw[<-e];exact hy))).2 (hs y (a_ _ hy))
  rw[List.length_erase_of_mem hx]at i;have:=eB hx;rw[aQ];omega
def Cs(a:gv)(b:Bd)(e X:gv):Prop:=∀τ,wO a b τ->(sub τ e).length<(sub τ X).length
inductive Ch(N:Pl)(C:gv->gv->Prop):List gv->List gv->Prop
 |base {l:List gv} (h:l.length<=1):Ch N C [] l
 |S7 {H l m:List gv} {X:gv} (h:Ch N C H l) (h3:m.length<=3) (he:∀e∈m,C e X) (hX:∀Y∈H,C X Y) (hP:X∈N.P):Ch N C (X::H) (l++m)
theorem Ch.mono{N:Pl}{C C':gv->gv->Prop}(hC:∀e X,C e X->C' e X){H l:List gv}(h:Ch N C H l):Ch N C' H l:=by
 induction h with
 |base h=>exact .base h
 |S7 h h3 he hX hP ih=>exact .S7 ih h3 (fun e k=>hC _ _ (he e k)) (fun Y k=>hC _ _ (hX Y k)) hP
theorem Ch.len{N:Pl}{C:gv->gv->Prop}{H l:List gv}(h:Ch N C H l):l.length<=1+3*H.length:=by
 induction h with
 |base h=>simpa using h
 |S7 h h3 he hX hP ih=>rw[ai,aQ];omega
theorem Ch.mem{N:Pl}{C:gv->gv->Prop}{H l:List gv}(h:Ch N C H l):∀x∈H,x∈N.P:=by
 induction h with
 |base h=>simp
 |S7 h h3 he hX hP ih=>
  intro x hx;rcases bI.1 hx with rfl|hx
  ·exact hP
  ·exact ih x hx
theorem Ch.nodup{N:Pl}{C:gv->gv->Prop}(hi:∀X,¬C X X){H l:List gv}(h:Ch N C H l):H.Nodup:=by
 induction h with
 |base h=>exact eV
 |@S7 H l m X h h3 he hX hP ih=>exact cF.2 ⟨fun k=>hi X (hX X k),ih⟩
theorem Ch.pop{N:Pl}{C:gv->gv->Prop}(ht:∀{x y z},C x y->C y z->C x z){H q:List gv}(h:Ch N C H q):∀{l:List gv}{s:gv},q=l++[s]->∃H',Ch N C H' l/\∀Y∈H',C s Y:=by
 induction h with
 |base h=>
  intro l s e;subst e;rw[ai,aL]at h;exact⟨[],.base gY,by simp⟩
 |@S7 H l0 m X h h3 he hX hP ih=>
  intro l s e;rcases fy m with rfl|⟨m',s',rfl⟩
  ·rw[aW]at e;exact ih e
  ·rw[dV,<-aG]at e;obtain⟨e1,e2⟩:=List.append_inj' e rfl;cases e2;rw[dV]at he h3;have hs:C s X:=he s (by simp);refine⟨X::H,e1▸ .S7 h (by rw[ai]at h3;omega) (fun e k=>he e (bk _ k)) hX hP,fun Y hY=>?_⟩;rcases bI.1 hY with rfl|hY
   ·exact hs
   ·exact ht hs (hX Y hY)
structure Ad{S β:Type}(a:gv)(N:Pl)(enc:Bd->List gv->List gv->S)(out:Bd->Bool->β)(f:S->Option (S⊕β)):Prop where
 nil:∀b,f (enc b [] [])=some (.inr (out b true))
 step:∀{b:Bd}{σ:Sb}{r:Int->Nat}{l:Pr}{s t:gv},Bn a N b σ r->Wv a 1 s->Wv a 1 t->Nb N s->Nb N t->
  l.length<=3*N.P.length->
  ∃u v,Hd b s u/\Hd b t v/\
   (u.headD 0=v.headD 0/\u.headD 0<0->f (enc b (l.map (·.1)++[s]) (l.map (·.2)++[t]))=some (.inl (enc b (l.map (·.1)) (l.map (·.2)))))/\
   (u.headD 0≠v.headD 0->u.headD 0<0->u.headD 0∈sub σ v->∃b',f (enc b (l.map (·.1)++[s]) (l.map (·.2)++[t]))=some (.inr (out b' false)))/\
   (u.headD 0≠v.headD 0->u.headD 0<0->u.headD 0∉sub σ v->f (enc b (l.map (·.1)++[s]) (l.map (·.2)++[t]))=some (.inl (enc (bs b (u.headD 0) v) (l.map (·.1)) (l.map (·.2)))))/\
   (¬u.headD 0<0->v.headD 0<0->v.headD 0∈sub σ u->∃b',f (enc b (l.map (·.1)++[s]) (l.map (·.2)++[t]))=some (.inr (out b' false)))/\
   (¬u.headD 0<0->v.headD 0<0->v.headD 0∉sub σ u->f (enc b (l.map (·.1)++[s]) (l.map (·.2)++[t]))=some (.inl (enc (bs b (v.headD 0) u) (l.map (·.1)) (l.map (·.2)))))/\
   (¬u.headD 0<0->¬v.headD 0<0->u.headD 0≠v.headD 0->∃b',f (enc b (l.map (·.1)++[s]) (l.map (·.2)++[t]))=some (.inr (out b' false)))/\
   (¬u.headD 0<0->u.headD 0=v.headD 0->f (enc b (l.map (·.1)++[s]) (l.map (·.2)++[t]))=some (.inl (enc b (l.map (·.1)++pE a (lR a (u.headD 0)) u.tail) (l.map (·.2)++pE a (lR a (u.headD 0)) v.tail))))
def Uv(a:gv)(N:Pl)(l:Pr):Prop:=∀pq∈l,Wv a 1 pq.1/\Wv a 1 pq.2/\(Nb N pq.1)/\Nb N pq.2
theorem zK.chain{a:gv}{N:Pl}{b b':Bd}{E E' F:Sb->Prop}{res:Bd×Bool}(h:zK a N b' E res)(h1:∀τ,wO a b' τ<->wO a b τ/\F τ)(hb:b'=b\/D3 b'<D3 b)(he:∀τ,wO a b τ->(E' τ<->F τ/\E τ)):zK a N b E' res:=by
 refine⟨fun e=>⟨(h.yes e).1,fun τ=>?_,?_⟩,fun e τ hτ hE=>?_⟩
 ·rw[(h.yes e).2.1 τ,h1 τ];constructor
  ·rintro⟨⟨k1,k2⟩,k3⟩;exact⟨k1,(he τ k1).2 ⟨k2,k3⟩⟩
  ·rintro⟨k1,k2⟩;exact⟨⟨k1,((he τ k1).1 k2).1⟩,((he τ k1).1 k2).2⟩
 ·rcases(h.yes e).2.2 with k|k
  ·rw[k];exact hb
  ·rcases hb with rfl|hb
   ·exact .inr k
   ·exact .inr gY
 ·obtain⟨k1,k2⟩:=(he τ hτ).1 hE;exact h.no e τ ((h1 τ).2 ⟨hτ,k1⟩) k2
theorem Ad.good{S β:Type}{a:gv}{N:Pl}{enc:Bd->List gv->List gv->S}{out:Bd->Bool->β}{f:S->Option (S⊕β)}(hf:Ad a N enc out f)(hC:Cl a N)(hA:∀x,lR a x<=3)(U M:Nat){b:Bd}{σ:Sb}{r:Int->Nat}{l:Pr}(h:Bn a N b σ r)(hU:D3 b<=U)(hM:Mb σ l<=M)(hl:Uv a N l){H:List gv}(hH:Ch N (Cs a b) H (l.map (·.1))):
 ∃res:Bd×Bool,iw f (enc b (l.map (·.1)) (l.map (·.2)))=some (out res.1 res.2)/\zK a N b (fun τ=>rD τ l) res:=by
 rcases fy l with rfl|⟨l',⟨s,t⟩,rfl⟩
 ·exact⟨(b,true),iz (hf.nil b),⟨fun _=>⟨⟨σ,r,h⟩,fun τ=>by simp[rD],.inl rfl⟩,fun e=>by cases e⟩⟩
 ·rw[dV]at hM hl⊢;obtain⟨ws,wt,ns,nt⟩:=hl (s,t) (by simp);have hl':Uv a N l':=fun pq hpq=>hl pq (bk _ hpq)
  have hll:l'.length<=3*N.P.length:=by
   have q1:=hH.len;have q2:=Hi (hH.nodup fun X c=>eH _ (c σ h.self)) hH.mem;simp only[dV,aM,ai,aL]at q1;omega
  obtain⟨H',hH',hs'⟩:=hH.pop (fun k1 k2 τ hτ=>Nat.lt_trans (k1 τ hτ) (k2 τ hτ)) (l:=l'.map (·.1)) (s:=s) (by simp);obtain⟨u,v,hu,hv,s1,s2,s3,s4,s5,s6,s7⟩:=hf.step (l:=l') h ws wt ns nt hll;have k:At a N b s t u v:=⟨ws,wt,ns,nt,hu,hv⟩;obtain⟨w1,n1,f1,g1⟩:=hu.ok h ws ns;obtain⟨w2,n2,f2,g2⟩:=hv.ok h wt nt;have hps:1<=(sub σ s).length:=(ws.sub fun x _ hx=>h.wv x hx).len;rw[KD]at hM;have hone:Mb σ [(s,t)]=(sub σ s).length+(sub σ t).length:=by simp[Mb]
  rw[hone]at hM;rw[aR,aR,aP,dr,aP,dr];have fail:(∃b',f (enc b (l'.map (·.1)++[s]) (l'.map (·.2)++[t]))=some (.inr (out b' false)))->(∀τ,wO a b τ->sub τ s≠sub τ t)->∃res:Bd×Bool,iw f (enc b (l'.map (·.1)++[s]) (l'.map (·.2)++[t]))=some (out res.1 res.2)/\zK a N b (fun τ=>rD τ (l'++[(s,t)])) res:=by
   rintro⟨b',e⟩ hno;refine⟨(b',false),iz e,⟨fun e=>(by cases e),fun _ τ hτ hA=>?_⟩⟩;exact hno τ hτ (vg.1 hA).2.1
  have bind:∀{x:Int}{w s' t':gv},f (enc b (l'.map (·.1)++[s]) (l'.map (·.2)++[t]))=some (.inl (enc (bs b x w) (l'.map (·.1)) (l'.map (·.2))))->zK a N b (fun τ=>sub τ s=sub τ t) (bs b x w,true)->D3 (bs b x w)<D3 b->
   ∃res:Bd×Bool,iw f (enc b (l'.map (·.1)++[s]) (l'.map (·.2)++[t]))=some (out res.1 res.2)/\zK a N b (fun τ=>rD τ (l'++[(s,t)])) res:=fun{x w s' t'} e R hlt=>by
   obtain⟨⟨σ',r',h'⟩,hS,_⟩:=R.yes rfl;have hd:D3 (bs b x w)<U:=by omega
   obtain⟨res,e2,R2⟩:=Ad.good hf hC hA (D3 (bs b x w)) _ h' (aF _) (aF _) hl' (hH'.mono fun e X k τ hτ=>k τ ((hS τ).1 hτ).1);exact⟨res,(iI e).trans e2,R2.chain hS (.inr hlt) fun τ hτ=>by rw[vg];simp[rD,and_comm]⟩
  by_cases c1:u.headD 0=v.headD 0/\u.headD 0<0
  ·have hd:Mb σ l'<M:=by omega
   obtain⟨res,e2,R2⟩:=Ad.good hf hC hA U (Mb σ l') h hU (aF _) hl' hH';refine⟨res,(iI (s1 c1)).trans e2,R2.of fun τ hτ=>?_⟩;rw[vg];simp[rD,KT h k c1.2 c1.1 hτ]
  ·by_cases hx:u.headD 0<0
   ·have hne:u.headD 0≠v.headD 0:=fun e=>c1 ⟨e,hx⟩
    by_cases hin:u.headD 0∈sub σ v
    ·exact fail (s2 hne hx hin) fun τ hτ=>Ju h k hx hne hin hτ
    ·obtain⟨k1,k2,k3,k4,k5⟩:=FX h k hx hin;have hlt:=JA (b:=b) (u:=v) hx (by rw[h.len];omega) k3 k5;exact bind (s':=s) (t':=t) (s3 hne hx hin) ⟨fun _=>⟨k1,k2,.inr hlt⟩,fun e=>by cases e⟩ hlt
   ·by_cases hy:v.headD 0<0
    ·have hne:v.headD 0≠u.headD 0:=by omega
     by_cases hin:v.headD 0∈sub σ u
     ·exact fail (s4 hx hy hin) fun τ hτ e=>Ju h k.symm hy hne hin hτ e.symm
     ·obtain⟨k1,k2,k3,k4,k5⟩:=FX h k.symm hy hin;have hlt:=JA (b:=b) (u:=u) hy (by rw[h.len];omega) k3 k5;exact bind (s':=s) (t':=t) (s5 hx hy hin) ⟨fun _=>⟨k1,fun τ=>by rw[k2 τ];exact⟨fun q=>⟨q.1,q.2.symm⟩,fun q=>⟨q.1,q.2.symm⟩⟩,.inr hlt⟩,fun e=>by cases e⟩ hlt
    ·by_cases c3:u.headD 0=v.headD 0
     ·have e:=s7 hx c3;obtain⟨x,p,eu,_,wp⟩:=w1.pos;obtain⟨y,q,ev,_,wq⟩:=w2.pos;subst eu;subst ev;have exy:x=y:=c3;subst exy;have hx':¬x<0:=hx;rw[bU]at wp wq;obtain⟨i1,i2,i3⟩:=tC wp;obtain⟨j1,j2,j3⟩:=tC wq;obtain⟨z1,z2⟩:=D7 (xs:=pE a (lR a x) p) (ys:=pE a (lR a x) q) (by rw[i2,j2]);have hsz1:(sub σ (x::p)).length=(sub σ s).length:=by rw[g1 σ h.self]
      have hsz2:(sub σ (x::q)).length=(sub σ t).length:=by rw[g2 σ h.self]
      rw[jg,ak hx']at hsz1 hsz2;simp only[dU,aQ]at hsz1 hsz2;have hz:Mb σ ((pE a (lR a x) p).zip (pE a (lR a x) q))=(sub σ p).length+(sub σ q).length:=by rw[Hp,z1,z2,i1,j1]
      have hd:Mb σ (l'++(pE a (lR a x) p).zip (pE a (lR a x) q))<M:=by rw[KD,hz];omega
      have hok:Uv a N (l'++(pE a (lR a x) p).zip (pE a (lR a x) q)):=fun pq hpq=>by
       rcases aN.1 hpq with hpq|hpq
       ·exact hl' pq hpq
       ·obtain⟨m1,m2⟩:=gm (a:=pq.1) (b:=pq.2) hpq;obtain⟨p1,p2,ep⟩:=nK m1;obtain⟨q1,q2,eq'⟩:=nK m2;rw[i1]at ep;rw[j1]at eq';exact⟨i3 _ m1,j3 _ m2,hC _ n1 w1 hx' _ m1,hC _ n2 w2 hx' _ m2⟩
      have hH2:Ch N (Cs a b) ((x::p)::H') ((l'++(pE a (lR a x) p).zip (pE a (lR a x) q)).map (·.1)):=by
       rw[aR,z1];refine .S7 hH' (by rw[i2];exact hA x) (fun e he τ hτ=>?_) (fun Y hY τ hτ=>?_) n1.mem
       ·obtain⟨p1,p2,ep⟩:=nK he;rw[i1]at ep;rw[ep];exact FN hx'
       ·rw[g1 τ hτ];exact hs' Y hY τ hτ
      obtain⟨res,e2,R2⟩:=Ad.good hf hC hA U _ h hU (aF _) hok hH2;rw[aR,aR,z1,z2]at e2;refine⟨res,(iI e).trans e2,R2.of fun τ hτ=>?_⟩;have hst:=Pj h k hx c3 (l:=(pE a (lR a x) p).zip (pE a (lR a x) q)) (fun pq hpq=>by
       obtain⟨m1,m2⟩:=gm (a:=pq.1) (b:=pq.2) hpq;exact⟨i3 _ m1,j3 _ m2⟩) (by rw[z1,i1];rfl) (by rw[z2,j1];rfl) hτ
      rw[vg,vg,<-hst];simp[rD]
     ·exact fail (s6 hx hy c3) fun τ hτ=>HF h k hx hy c3 hτ
termination_by (U,M)
def HU(b:Bd)(x:Int):gv->List Bool->List gv->Option (List Bool×List gv)
 |[],se,td=>some (se,td)
 |m::t,se,td=>if m=x then none else if m<0/\sn se m=false/\bg b m≠[]then HU b x t (ss se m) (td++[bg b m])else HU b x t se td
def HM(se:List Bool):Nat:=se.countP fun z=>!z
theorem u_:∀{se:List Bool}{i:Nat},i<se.length->se.getD i false=false->(se.set i true).countP (fun z=>!z)<se.countP fun z=>!z
 |[],i,h,_=>by simp at h
 |z::se,0,_,h=>by
  have h':z=false:=h;simp[fk,h']
 |z::se,i+1,hi,h=>by
  have:=u_ (se:=se) (i:=i) (by simpa using hi) (by simpa using h);simp only[fL,fk];omega
theorem Jl{b:Bd}{x:Int}{N:Pl}:∀(t:gv){se:List Bool}{td:List gv},se.length=N.n->(∀y∈t, -(N.n:Int)<=y)->
 (HU b x t se td=none->x∈t)/\∀se' td',HU b x t se td=some (se',td')->x∉t/\(∀y∈t,y<0->bg b y≠[]->sn se' y=true)/\se'.length=N.n/\(∀y,y<0-> -(N.n:Int)<=y->sn se y=true->sn se' y=true)/\
  (∀y,y<0-> -(N.n:Int)<=y->sn se' y=true->sn se y=true\/(bg b y≠[]/\bg b y∈td'))/\(∀w∈td,w∈td')/\(∀w∈td',w∈td\/∃y∈t,y<0/\bg b y≠[]/\w=bg b y)/\(HM se'<HM se\/(se'=se/\td'=td))
 |[],se,td,hl,hn=>⟨fun h=>by simp[HU]at h,fun se' td' h=>by
  simp only[HU,aJ,dS]at h;obtain⟨rfl,rfl⟩:=h;exact⟨by simp,by simp,hl,fun _ _ _ h=>h,fun _ _ _ h=>.inl h,fun _ h=>h,fun _ h=>.inl h,.inr ⟨rfl,rfl⟩⟩⟩
 |m::t,se,td,hl,hn=>by
  have hn':∀y∈t, -(N.n:Int)<=y:=fun y hy=>hn y (a_ _ hy)
  have hmN:=hn m bh;rw[HU];by_cases hm:m=x
  ·rw[ah hm];exact⟨fun _=>by rw[hm];exact bh,fun _ _ h=>by cases h⟩
  ·rw[ak hm];by_cases hc:m<0/\sn se m=false/\bg b m≠[]
   ·rw[ah hc];obtain⟨h0,hs,hb⟩:=hc;have hlm: -1-m<(se.length:Int):=by omega
    have hl':(ss se m).length=N.n:=by simp[ss,hl]
    have hg:∀{y:Int},y<0->sn (ss se m) y=if y=m then true else sn se y:=fun hy=>Uf h0 hlm hy
    obtain⟨q1,q2⟩:=Jl (b:=b) (x:=x) t (td:=td++[bg b m]) hl' hn';refine⟨fun h=>a_ _ (q1 h),fun se' td' h=>?_⟩;obtain⟨k1,k2,k3,k4,k5,k6,k7,k8⟩:=q2 se' td' h;have hlt:HM (ss se m)<HM se:=u_ gY hs;refine⟨fun c=>?_,fun y hy hy0 hby=>?_,k3,fun y hy hyN hsy=>?_,fun y hy hyN hsy=>?_,fun w hw=>k6 w (bk _ hw),fun w hw=>?_,.inl ?_⟩
    ·rcases bI.1 c with c|c
     ·exact hm c.symm
     ·exact k1 c
    ·rcases bI.1 hy with rfl|hy
     ·exact k4 y h0 hmN (by rw[hg h0,ah rfl])
     ·exact k2 y hy hy0 hby
    ·exact k4 y hy hyN (by rw[hg hy];split<;>simp[hsy])
    ·rcases k5 y hy hyN hsy with c|c
     ·rw[hg hy]at c;split at c
      ·rename_i e;exact .inr (by rw[e];exact⟨hb,k6 _ (by simp)⟩)
      ·exact .inl c
     ·exact .inr c
    ·rcases k7 w hw with c|⟨y,hy,c⟩
     ·rcases aN.1 c with c|c
      ·exact .inl c
      ·exact .inr ⟨m,bh,h0,hb,aX.1 c⟩
     ·exact .inr ⟨y,a_ _ hy,c⟩
    ·rcases k8 with c|⟨c,_⟩
     ·omega
     ·rw[c];exact hlt
   ·rw[ak hc];obtain⟨q1,q2⟩:=Jl (b:=b) (x:=x) t (td:=td) hl hn';refine⟨fun h=>a_ _ (q1 h),fun se' td' h=>?_⟩;obtain⟨k1,k2,k3,k4,k5,k6,k7,k8⟩:=q2 se' td' h;refine⟨fun c=>?_,fun y hy hy0 hby=>?_,k3,k4,k5,k6,fun w hw=>?_,k8⟩
    ·rcases bI.1 c with c|c
     ·exact hm c.symm
     ·exact k1 c
    ·rcases bI.1 hy with rfl|hy
     ·have hs:sn se y=true:=by
       cases hq:sn se y with
       |true=>rfl
       |false=>exact absurd ⟨hy0,hq,hby⟩ hc
      exact k4 y hy0 hmN hs
     ·exact k2 y hy hy0 hby
    ·rcases k7 w hw with c|⟨y,hy,c⟩
     ·exact .inl c
     ·exact .inr ⟨y,a_ _ hy,c⟩
theorem FR{b:Bd}{x:Int}{N:Pl}:∀(t:gv){se se':List Bool}{td td':List gv},se.length=N.n->(∀y∈t, -(N.n:Int)<=y)->HU b x t se td=some (se',td')->td'.length+HM se'<=td.length+HM se
 |[],se,se',td,td',hl,hn,h=>by
  simp only[HU,aJ,dS]at h;obtain⟨rfl,rfl⟩:=h;exact aF _
 |m::t,se,se',td,td',hl,hn,h=>by
  have hn':∀y∈t, -(N.n:Int)<=y:=fun y hy=>hn y (a_ _ hy)
  have hmN:=hn m bh;rw[HU]at h;split at h
  ·cases h
  ·split at h
   ·rename_i hc;have hlt:HM (ss se m)<HM se:=u_ gY hc.2.1;have i:=FR t (se:=ss se m) (by simp[ss,hl]) hn' h;rw[ai,aL]at i;omega
   ·exact FR t hl hn' h
structure Bw{S:Type}(b:Bd)(x:Int)(enc:List Bool->List gv->S)(f:S->Option (S⊕Bool))(N:Pl):Prop where
 nil:∀se,se.length=N.n->f (enc se [])=some (.inr false)
 step:∀{se:List Bool}{td:List gv}{u:gv},se.length=N.n->Nb N u->td.length+HM se<=N.n->f (enc se (td++[u]))=some (match HU b x u se td with|none=>.inr true|some q=>.inl (enc q.1 q.2))
def Lk(b:Bd)(x:Int)(se:List Bool)(u:gv):Prop:=x∉u/\∀y∈u,y<0->bg b y≠[]->sn se y=true
structure LI(a:gv)(N:Pl)(b:Bd)(σ:Sb)(x:Int)(t0:gv)(se:List Bool)(td:List gv):Prop where
 len:se.length=N.n
 bd:∀u∈td,Nb N u/\(x∈sub σ u->x∈sub σ t0)
 hi:td.length+HM se<=N.n+1
 mkd:∀m,m<0-> -(N.n:Int)<=m->sn se m=true->bg b m≠[]/\(bg b m∈td\/Lk b x se (bg b m))
 t0:t0∈td\/Lk b x se t0
theorem Oy{a:gv}{N:Pl}{b:Bd}{σ:Sb}{r:Int->Nat}(h:Bn a N b σ r){x:Int}(hx:x<0)(hbx:bg b x=[]){se:List Bool}(hm:∀m,m<0-> -(N.n:Int)<=m->sn se m=true->bg b m≠[]/\Lk b x se (bg b m)):∀(n:Nat){m:Int},m<0-> -(N.n:Int)<=m->sn se m=true->r m<n->x∉σ m
 |0,m,_,_,_,hr=>by omega
 |n+1,m,h0,hN,hs,hr=>by
  obtain⟨hb,l1,l2⟩:=hm m h0 hN hs;obtain⟨w1,w2⟩:=h.tm m h0 hb;rw[h.val m h0 hb];intro hin;obtain⟨y,hy,⟨hy0,hxy⟩|⟨hy0,rfl⟩⟩:=nO.1 hin
  ·by_cases hby:bg b y=[]
   ·rw[h.MV y hy0 hby]at hxy;exact l1 (by rw[aX.1 hxy];exact hy)
   ·exact Oy h hx hbx hm n hy0 (w2 y hy) (l2 y hy hy0 hby) (by have:=h.rk m h0 hb y hy hy0 hby;omega) hxy
  ·exact l1 hy
theorem Bw.good{S:Type}{a:gv}{N:Pl}{b:Bd}{σ:Sb}{r:Int->Nat}{enc:List Bool->List gv->S}{f:S->Option (S⊕Bool)}(h:Bn a N b σ r){x:Int}(hx:x<0)(hbx:bg b x=[])(hf:Bw b x enc f N){t0:gv}(ht0:∀y∈t0, -(N.n:Int)<=y)(U M:Nat){se:List Bool}{td:List gv}(hU:HM se<=U)(hM:td.length<=M)(hI:LI a N b σ x t0 se td):
 ∃res,iw f (enc se td)=some res/\(res=true<->x∈sub σ t0):=by
 rcases fy td with rfl|⟨td',u,rfl⟩
 ·refine⟨false,iz (hf.nil se hI.len),⟨fun e=>(by cases e),fun hin=>?_⟩⟩;have hm:∀m,m<0-> -(N.n:Int)<=m->sn se m=true->bg b m≠[]/\Lk b x se (bg b m):=fun m h0 hN hs=>⟨(hI.mkd m h0 hN hs).1,(hI.mkd m h0 hN hs).2.resolve_left (by simp)⟩
  obtain⟨l1,l2⟩:=hI.t0.resolve_left (by simp);obtain⟨y,hy,⟨hy0,hxy⟩|⟨hy0,rfl⟩⟩:=nO.1 hin
  ·by_cases hby:bg b y=[]
   ·rw[h.MV y hy0 hby]at hxy;exact absurd (by rw[aX.1 hxy];exact hy) l1
   ·exact absurd hxy (Oy h hx hbx hm (r y+1) hy0 (ht0 y hy) (l2 y hy hy0 hby) (dw _))
  ·exact absurd hy l1
 ·rw[dV]at hM hI⊢;obtain⟨hu,hsu⟩:=hI.bd u (by simp);have hhi:=hI.hi;rw[ai,aL]at hhi;have e:=hf.step (td:=td') (u:=u) hI.len hu gY;obtain⟨q1,q2⟩:=Jl (b:=b) (x:=x) (N:=N) u (td:=td') hI.len hu;cases hq:HU b x u se td' with
  |none=>
   rw[hq]at e;refine⟨true,iz e,⟨fun _=>hsu ?_,fun _=>rfl⟩⟩;exact nO.2 ⟨x,q1 hq,.inl ⟨hx,by rw[h.MV x hx hbx];exact aX.2 rfl⟩⟩
  |some p=>
   obtain⟨se',td2⟩:=p;rw[hq]at e;obtain⟨k1,k2,k3,k4,k5,k6,k7,k8⟩:=q2 se' td2 hq;have mono:∀{w:gv},Lk b x se w->(∀y∈w, -(N.n:Int)<=y)->Lk b x se' w:=fun{w} hw hwN=>⟨hw.1,fun y hy hy0 hby=>k4 y hy0 (hwN y hy) (hw.2 y hy hy0 hby)⟩
   have hI':LI a N b σ x t0 se' td2:=by
    refine⟨k3,fun w hw=>?_,by have:=FR (N:=N) u hI.len hu.le hq;omega,fun m h0 hN hs=>?_,?_⟩
    ·rcases k7 w hw with c|⟨y,hy,hy0,hby,rfl⟩
     ·exact hI.bd w (bk _ c)
     ·refine⟨(h.tm y hy0 hby).2,fun hin=>hsu ?_⟩;exact nO.2 ⟨y,hy,.inl ⟨hy0,by rw[h.val y hy0 hby];exact hin⟩⟩
    ·rcases k5 m h0 hN hs with c|⟨c1,c2⟩
     ·obtain⟨b1,b2⟩:=hI.mkd m h0 hN c;refine⟨b1,?_⟩;rcases b2 with b2|b2
      ·rcases aN.1 b2 with b2|b2
       ·exact .inl (k6 _ b2)
       ·rw[aX.1 b2];exact .inr ⟨k1,k2⟩
      ·exact .inr (mono b2 (h.tm m h0 b1).2)
     ·exact⟨c1,.inl c2⟩
    ·rcases hI.t0 with c|c
     ·rcases aN.1 c with c|c
      ·exact .inl (k6 _ c)
      ·rw[aX.1 c];exact .inr ⟨k1,k2⟩
     ·exact .inr (mono c ht0)
   rcases k8 with hlt|⟨rfl,rfl⟩
   ·have hd:HM se'<U:=by omega
    obtain⟨res,e2,R⟩:=Bw.good h hx hbx hf ht0 (HM se') td2.length (aF _) (aF _) hI';exact⟨res,(iI e).trans e2,R⟩
   ·have hd:td2.length<M:=by simp at hM;omega
    obtain⟨res,e2,R⟩:=Bw.good h hx hbx hf ht0 U td2.length hU (aF _) hI';exact⟨res,(iI e).trans e2,R⟩
termination_by (U,M)
end Un
