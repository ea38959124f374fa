/- A part of the proof about FnAcNormal and about FnAcSteps (ThA, PA, XL, KG, PB, PC, AA, AB, AD, AE, AF, AG, AH, AI, AJ, BA, BB, BC, BD, BE, BF, BG, BH, BI, BJ, BK, BL, BM, BN, BO, BP). -/
import Derived.Test.YthdnkoejpdcnpaaGreatNaa
import Derived.Test.YthdnkoejpdcnpaaGreatNae
import Derived.Test.YthdnkoejpdcnpaaGreatNag
import Derived.Test.YthdnkoejpdcnpaaGreatNah
set_option linter.all false
namespace Tm
def od(a:fP)(x:Int):Nat:=if x<0 then 0 else(a.getD x.toNat 0).toNat
def yD(a:fP)(x:Int):Prop:= -24<=x/\x<a.length
instance(a:fP)(x:Int):Decidable (yD a x):=by unfold yD;infer_instance
def skip(a:fP):fP->Nat->Option fP
 |t,0=>some t
 |[],_+1=>none
 |x::t,k+1=>if yD a x then skip a t (k+od a x)else none
def Wf(a:fP)(k:Nat)(t:fP):Prop:=skip a t k=some []
instance(a:fP)(k:Nat)(t:fP):Decidable (Wf a k t):=by unfold Wf;infer_instance
theorem tr(a t:fP):skip a t 0=some t:=by cases t<;>simp[skip]
theorem uH(a t:fP)(x:Int)(k:Nat):skip a (x::t) (k+1)=if yD a x then skip a t (k+od a x)else none:=by simp[skip]
theorem HD(a:fP)(k:Nat):skip a [] (k+1)=none:=by simp[skip]
theorem HC{a:fP}(s:fP):∀{t r:fP}{k:Nat},skip a t k=some r->skip a (t++s) k=some (r++s)
 |t,r,0,h=>by rw[tr]at h⊢;cases h;rfl
 |[],r,k+1,h=>by simp[skip]at h
 |x::t,r,k+1,h=>by
  rw[cg];rw[uH]at h⊢;split at h
  ·rename_i hx;rw[ah hx];exact HC s h
  ·cases h
theorem DY{a:fP}(j:Nat):∀{t:fP}{k:Nat},skip a t (k+j)=(skip a t k).bind fun r=>skip a r j
 |t,0=>by simp[tr]
 |[],k+1=>by rw[show k+1+j=(k+j)+1 by omega];simp[skip]
 |x::t,k+1=>by
  rw[show k+1+j=(k+j)+1 by omega,uH,uH];split
  ·rw[show k+j+od a x=(k+od a x)+j by omega];exact DY j
  ·rfl
theorem Au{a:fP}:∀{t r:fP}{k:Nat},skip a t k=some r->∃u,t=u++r/\Wf a k u
 |t,r,0,h=>by rw[tr]at h;cases h;exact⟨[],rfl,tr _ _⟩
 |[],r,k+1,h=>by simp[skip]at h
 |x::t,r,k+1,h=>by
  rw[uH]at h;split at h
  ·rename_i hx;obtain⟨u,rfl,h2⟩:=Au h;exact⟨x::u,rfl,by unfold Wf;rw[uH,ah hx];exact h2⟩
  ·cases h
theorem Wf.skip{a u:fP}{k:Nat}(h:Wf a k u)(s:fP):skip a (u++s) k=some s:=HC s h
theorem Wf.app{a u v:fP}{k j:Nat}(h:Wf a k u)(h':Wf a j v):Wf a (k+j) (u++v):=by unfold Wf;rw[DY,h.skip];exact h'
theorem Wf.nil{a:fP}:Wf a 0 []:=tr _ _
theorem Wf.zero{a t:fP}(h:Wf a 0 t):t=[]:=by unfold Wf at h;rw[tr]at h;exact en h
theorem Wf.jZ{a t:fP}{x:Int}{k:Nat}:Wf a (k+1) (x::t)<->yD a x/\Wf a (k+od a x) t:=by
 unfold Wf;rw[uH];split<;>simp_all
theorem Wf.pos{a t:fP}{k:Nat}(h:Wf a (k+1) t):∃x r,t=x::r/\yD a x/\Wf a (k+od a x) r:=by
 cases t with
 |nil=>simp[Wf,Tm.skip]at h
 |cons x r=>exact⟨x,r,rfl,Wf.jZ.1 h⟩
theorem Wf.split{a t:fP}{k j:Nat}(h:Wf a (k+j) t):∃u v,t=u++v/\Wf a k u/\Wf a j v:=by
 unfold Wf at h;rw[DY]at h;obtain⟨r,h1,h2⟩:=aC.1 h;obtain⟨u,rfl,h3⟩:=Au h1;exact⟨u,r,rfl,h3,h2⟩
theorem Wf.uniq{a u u' v v':fP}{k:Nat}(h:Wf a k u)(h':Wf a k u')(e:u++v=u'++v'):u=u'/\v=v':=by
 have h1:=h.skip v;have h2:=h'.skip v';rw[e,h2]at h1;cases en h1;exact⟨List.append_cancel_right e,rfl⟩
theorem Wf.all{a:fP}:∀{t:fP}{k:Nat},Wf a k t->∀x∈t,yD a x
 |[],_,_=>by simp
 |y::t,0,h=>by have:=h.zero;cases this
 |y::t,k+1,h=>by
  obtain⟨h1,h2⟩:=Wf.jZ.1 h;intro x hx;rcases bu.1 hx with rfl|hx
  ·exact h1
  ·exact h2.all x hx
theorem Wf.len{a:fP}:∀{t:fP}{k:Nat},Wf a k t->k<=t.length
 |t,0,_=>by omega
 |[],k+1,h=>by simp[Wf,Tm.skip]at h
 |y::t,k+1,h=>by
  obtain⟨h1,h2⟩:=Wf.jZ.1 h;have:=h2.len;simp;omega
theorem Wf.place{a:fP}:∀{t:fP}{k i:Nat},Wf a k t->i<t.length->∃p u s,t=p++(u++s)/\p.length=i/\Wf a 1 u
 |[],_,_,_,hi=>by simp at hi
 |y::t,0,_,h,_=>by have:=h.zero;cases this
 |y::t,k+1,0,h,_=>by
  rw[show k+1=1+k by omega]at h;obtain⟨u,v,e,h1,_⟩:=h.split;exact⟨[],u,v,e,rfl,h1⟩
 |y::t,k+1,i+1,h,hi=>by
  obtain⟨p,u,s,rfl,h2,h3⟩:=(Wf.jZ.1 h).2.place (i:=i) (by simpa using hi);exact⟨y::p,u,s,rfl,by simp[h2],h3⟩
theorem Wf.put{a u v s:fP}(hu:Wf a 1 u)(hv:Wf a 1 v):∀{p:fP}{k:Nat},Wf a k (p++(u++s))->Wf a k (p++(v++s))
 |[],0,h=>by
  have:=h.zero;have:=hu.len
  simp_all
 |[],k+1,h=>by
  rw[bw]at h⊢;rw[show k+1=1+k by omega]at h⊢;obtain⟨u',v',e,h1,h2⟩:=h.split;obtain⟨rfl,rfl⟩:=hu.uniq h1 e;exact hv.app h2
 |y::p,0,h=>by have:=h.zero;cases this
 |y::p,k+1,h=>by
  rw[cg]at h⊢;obtain⟨h1,h2⟩:=Wf.jZ.1 h;exact Wf.jZ.2 ⟨h1,Wf.put hu hv h2⟩
def sub(σ:Int->fP)(t:fP):fP:=t.flatMap fun x=>if x<0 then σ x else [x]
theorem RE(σ:Int->fP):sub σ []=[]:=rfl
theorem vh(σ:Int->fP)(x:Int)(t:fP):sub σ (x::t)=(if x<0 then σ x else [x])++sub σ t:=by simp[sub]
theorem CU(σ:Int->fP)(s t:fP):sub σ (s++t)=sub σ s++sub σ t:=by simp[sub]
theorem sub_congr{σ τ:Int->fP}{t:fP}(h:∀x∈t,x<0->σ x=τ x):sub σ t=sub τ t:=by
 induction t with
 |nil=>rfl
 |cons x t ih=>
  rw[vh,vh,ih fun y hy=>h y (by simp[hy])];by_cases hx:x<0
  ·rw[ah hx,ah hx,h x (by simp) hx]
  ·rw[az hx,az hx]
theorem Wf.sub{a:fP}{σ:Int->fP}:∀{t:fP}{k:Nat},Wf a k t->(∀x∈t,x<0->Wf a 1 (σ x))->Wf a k (Tm.sub σ t)
 |[],k,h,_=>by simpa[Tm.sub]using h
 |y::t,0,h,_=>by have:=h.zero;cases this
 |y::t,k+1,h,hs=>by
  obtain⟨h1,h2⟩:=Wf.jZ.1 h;rw[vh];have ih:=h2.sub fun x hx=>hs x (by simp[hx])
  by_cases hy:y<0
  ·rw[ah hy,show k+1=1+k by omega];refine(hs y (by simp) hy).app ?_;simpa[od,hy]using ih
  ·rw[az hy];exact Wf.jZ.2 ⟨h1,ih⟩
abbrev Bd:=List fP
def gZ(b:Bd)(n:Int):fP:=b.getD (-1-n).toNat []
def gM(b:Bd)(n:Int)(u:fP):Bd:=b.set (-1-n).toNat u
def BZ(a:fP):fP->fP->Bd->Option Bd
 |[],_,b=>some b
 |n::p,t,b=>
  if n<0 then match skip a t 1 with
   |none=>none
   |some r=>
    let u:=t.take (t.length-r.length)
    if gZ b n=[]then BZ a p r (gM b n u)else if gZ b n=u then BZ a p r b else none
  else match t with
   |[]=>none
   |y::t=>if y=n then BZ a p t b else none
theorem FF(a t:fP)(b:Bd):BZ a [] t b=some b:=by simp[BZ]
theorem Wf.ne{a u:fP}(h:Wf a 1 u):u≠[]:=by have:=h.len;intro e;subst e;simp at this
theorem Ki{a p t:fP}{n y:Int}{b:Bd}(hn:¬n<0):BZ a (n::p) (y::t) b=if y=n then BZ a p t b else none:=by simp[BZ,hn]
theorem Kj{a p u r:fP}{n:Int}{b:Bd}(hn:n<0)(hu:Wf a 1 u):BZ a (n::p) (u++r) b=
 if gZ b n=[]then BZ a p r (gM b n u)else if gZ b n=u then BZ a p r b else none:=by
 simp[BZ,hn,hu.skip]
theorem qg{b:Bd}{n m:Int}{u:fP}(hn:n<0)(hl: -1-n<b.length)(hm:m<0):gZ (gM b n u) m=if m=n then u else gZ b m:=by
 unfold gZ gM;rw[av,av,cO];by_cases h:m=n
 ·subst h;rw[ah rfl,ah rfl,ah gB];rfl
 ·rw[az h,az gB]
theorem zO{a:fP}:∀{p t:fP}{b b':Bd}{k:Nat},Wf a k p->Wf a k t->b.length=24->BZ a p t b=some b'->
 t=sub (gZ b') p/\b'.length=24/\(∀n,n<0->gZ b n≠[]->gZ b' n=gZ b n)/\(∀n∈p,n<0->Wf a 1 (gZ b' n)\/gZ b n=gZ b' n/\gZ b n≠[])/\
 (∀n,n<0->n∉p->gZ b' n=gZ b n)
 |[],t,b,b',k,hp,ht,hb,h=>by
  rw[FF]at h;cases h;cases k with
  |zero=>have:=ht.zero;subst this;exact⟨rfl,hb,fun _ _ _=>rfl,by simp,fun _ _ _=>rfl⟩
  |succ k=>simp[Wf,Tm.skip]at hp
 |n::p,t,b,b',0,hp,ht,hb,h=>by have:=hp.zero;cases this
 |n::p,t,b,b',k+1,hp,ht,hb,h=>by
  obtain⟨hx,hp⟩:=Wf.jZ.1 hp;by_cases hn:n<0
  ·rw[show k+1=1+k by omega]at ht;obtain⟨u,r,rfl,hu,hr⟩:=ht.split;rw[Kj hn hu]at h;have ha:od a n=0:=by simp[od,hn]
   rw[ha,de]at hp;have hl: -1-n<b.length:=by have:=hx.1;omega
   split at h
   ·rename_i h0;obtain⟨h1,h2,h3,h4,h5⟩:=zO hp hr (by simpa[gM]using hb) h;have hbn:gZ b' n=u:=by rw[h3 n hn (by rw[qg hn hl hn,ah rfl];exact hu.ne),qg hn hl hn,ah rfl]
    refine⟨by rw[vh,ah hn,hbn,<-h1],h2,fun m hm hne=>?_,fun m hm hm0=>?_,fun m hm hmp=>?_⟩
    ·by_cases hmn:m=n
     ·subst hmn;exact absurd h0 hne
     ·have:=qg (u:=u) hn hl hm;rw[az hmn]at this;rw[h3 m hm (by rw[this];exact hne),this]
    ·by_cases hmn:m=n
     ·subst hmn;rw[hbn];exact .inl hu
     ·have:=qg (u:=u) hn hl hm0;rw[az hmn]at this;rcases bu.1 hm with e|hm
      ·exact absurd e hmn
      ·rw[<-this];exact h4 m hm hm0
    ·have hmn:m≠n:=fun e=>hmp (by simp[e])
     have:=qg (u:=u) hn hl hm;rw[az hmn]at this;rw[h5 m hm fun hx=>hmp (by simp[hx]),this]
   ·rename_i h0;split at h
    ·rename_i h00;obtain⟨h1,h2,h3,h4,h5⟩:=zO hp hr hb h;have hbn:gZ b' n=u:=by rw[h3 n hn h0,h00]
     refine⟨by rw[vh,ah hn,hbn,<-h1],h2,h3,fun m hm hm0=>?_,fun m hm hmp=>?_⟩
     ·by_cases hmn:m=n
      ·subst hmn;rw[hbn];exact .inl hu
      ·rcases bu.1 hm with e|hm
       ·exact absurd e hmn
       ·exact h4 m hm hm0
     ·exact h5 m hm fun hx=>hmp (by simp[hx])
    ·cases h
  ·obtain⟨y,t,rfl,hy,ht⟩:=ht.pos;rw[Ki hn]at h;split at h
   ·rename_i e;subst e;obtain⟨h1,h2,h3,h4,h5⟩:=zO hp ht hb h;refine⟨by rw[vh,az hn,cm,<-h1],h2,h3,fun m hm hm0=>?_,fun m hm hmp=>?_⟩
    ·rcases bu.1 hm with e|hm
     ·omega
     ·exact h4 m hm hm0
    ·exact h5 m hm fun hx=>hmp (by simp[hx])
   ·cases h
abbrev Fm:=Int×fP
def VS(n:Int):fP->fP->Int
 |c::cs,v::vs=>VS (n+c*v) cs vs
 |_,_=>n
def vals(a:fP)(ps:List Fm)(ρ:Int->Int):fP->fP
 |[]=>[]
 |x::t=>if x<0 then ρ x::vals a ps ρ t else
  let p:=ps.getD x.toNat default
  VS p.1 p.2 ((vals a ps ρ t).take (od a x))::(vals a ps ρ t).drop (od a x)
def AI(ps:List Fm):Prop:=∀p∈ps,0<=p.1/\∀c∈p.2,1<=c
def sN:Bd:=List.replicate 24 []
theorem KT(n:Int):gZ sN n=[]:=by
 unfold gZ sN;rw[av,dU];split<;>rfl
def jV(a t:fP)(i:Nat):fP:=match skip a (t.drop i) 1 with
 |some r=>(t.drop i).take ((t.drop i).length-r.length)
 |none=>[]
theorem RZ{a p u s:fP}(hu:Wf a 1 u):jV a (p++(u++s)) p.length=u:=by
 unfold jV;rw[ck,hu.skip];simp
def Jl(a t:fP)(i:Nat)(v:fP):fP:=t.take i++(v++t.drop (i+(jV a t i).length))
theorem CR{a p u s v:fP}(hu:Wf a 1 u):Jl a (p++(u++s)) p.length v=p++(v++s):=by
 unfold Jl;rw[RZ hu,eZ,<-List.drop_drop,ck,ck]
def sig(b:Bd)(n:Int):fP:=if gZ b n=[]then [n]else gZ b n
def O5(a l r t:fP)(i:Nat):Option fP:=(BZ a l (jV a t i) sN).bind fun b=>
 if(sub (sig b) r).length<=60/\(Jl a t i (sub (sig b) r)).length<=60 then some (Jl a t i (sub (sig b) r))else none
end Tm
namespace Go.Proofs.YthdnkoejpdcnpaaGreat
open Go kI Tm
theorem jE{n:Int}(h1: -9223372036854775808<=n)(h2:n<9223372036854775808):IntKind.i64.wrap n=n:=by rw[wrap_i64 h1 h2]
theorem gO{α:Type}[Inhabited α]{xs:List α}{i:Nat}(h:i<xs.length):xs.getD i default=xs[i]:=by simp[av,aB h]
theorem nY{α:Type}[Inhabited α]{xs:List α}{i:Nat}(h:i<xs.length):xs.getD i default∈xs:=by rw[gO h];exact aA h
theorem rR{α:Type}[Inhabited α]{xs:List α}{p:α->Bool}{f:Int->Option fT}
 (h:∀(i:Nat)(x:α),i<xs.length->(i:Int)<xs.length->x∈xs->xs.getD i default=x->f i=some (if p x=true then .inl ((i:Int)+1)else .inr false)) (he:f xs.length=some (.inr true)):gK f 0=some (xs.all p):=by
 have key:∀k i:Nat,i+k=xs.length->gK f (i:Int)=some ((xs.drop i).all p):=by
  intro k;induction k with
  |zero=>
   intro i hi;obtain rfl:i=xs.length:=by omega
   rw[ij he];simp
  |succ k ih=>
   intro i hi;have hlt:i<xs.length:=by omega
   have e:=h i _ hlt gB (aA hlt) (gO hlt);rw[aK hlt,List.all_cons];cases hp:p xs[i]with
   |true=>
    rw[hp,ah rfl]at e;rw[kX e];have:=ih (i+1) gB;rw[show((i:Int)+1)=((i+1:Nat):Int) by omega,this];simp
   |false=>
    rw[hp]at e;simp only[au,aG]at e;rw[ij e];simp
 simpa using key xs.length 0 gB
theorem DM{α β:Type}[Inhabited α]{xs:List α}{p:α->Bool}{f:Int->Option (Int⊕β)}{y n:β}
 (h:∀(i:Nat)(x:α),i<xs.length->(i:Int)<xs.length->x∈xs->xs.getD i default=x->f i=some (if p x=true then .inr y else .inl ((i:Int)+1))) (he:f xs.length=some (.inr n)):
 gK f 0=some (if xs.any p=true then y else n):=by
 have key:∀k i:Nat,i+k=xs.length->gK f (i:Int)=some (if(xs.drop i).any p=true then y else n):=by
  intro k;induction k with
  |zero=>
   intro i hi;obtain rfl:i=xs.length:=by omega
   rw[ij he];simp
  |succ k ih=>
   intro i hi;have hlt:i<xs.length:=by omega
   have e:=h i _ hlt gB (aA hlt) (gO hlt);rw[aK hlt,List.any_cons];cases hp:p xs[i]with
   |false=>
    rw[hp]at e;simp only[au,aG]at e;rw[kX e];have:=ih (i+1) gB;rw[show((i:Int)+1)=((i+1:Nat):Int) by omega,this];simp
   |true=>
    rw[hp,ah rfl]at e;rw[ij e];simp
 simpa using key xs.length 0 gB
abbrev Small{α:Type}(xs:List α):Prop:=xs.length<1099511627776
def P6(n:Int):Bool:=decide (0<=n)&&decide (n<=3)
def iJ(a:fP):Bool:=decide (1<=a.length)&&decide (a.length<=8)&&a.all P6
theorem ow{a:fP}:iJ a=true<->1<=a.length/\a.length<=8/\∀n∈a,0<=n/\n<=3:=by simp[iJ,P6,and_assoc]
theorem oT(x lo hi:Int):mR x lo hi=some (decide (lo<=x)&&decide (x<=hi)):=by
 unfold mR;by_cases h1:lo<=x<;>by_cases h2:x<=hi<;>simp[h1,h2]
theorem vi(a:fP):pJ a=some (iJ a):=by
 unfold pJ;by_cases h1:(a.length:Int)<1
 ·have:¬1<=a.length:=by omega
  simp[h1,iJ,this]
 ·by_cases h2:8<(a.length:Int)
  ·have:¬a.length<=8:=by omega
   simp[h1,h2,iJ,this]
  ·have e1:1<=a.length:=by omega
   have e2:a.length<=8:=by omega
   simp only[h1,h2,aZ,au,aG,iJ,e1,e2,aW,bV];refine rR (fun i x hi hi' _ hx=>?_) (by simp[se]);have hw:IntKind.i64.wrap ((i:Int)+1)=i+1:=jE gB gB;simp only[se,hi',aW,aH,aq,hw,show(0:Int)<=i by omega,bT,P6,hx];by_cases c1:x<0
   ·simp[c1,show ¬0<=x by omega]
   ·by_cases c2:3<x
    ·simp[c1,c2,show ¬x<=3 by omega]
    ·simp[c1,c2,show 0<=x by omega,show x<=3 by omega]
theorem sj(a:fP):oz a=some (iJ a):=by
 unfold oz;simp only[oT,aa];by_cases h:1<=a.length/\a.length<=8
 ·have e1:(1:Int)<=a.length:=by omega
  have e2:(a.length:Int)<=8:=by omega
  simp only[e1,e2,aW,fo,aH,iJ,h.1,h.2,bV];refine rR (fun i x hi hi' _ hx=>?_) (by simp[sk]);have hw:IntKind.i64.wrap ((i:Int)+1)=i+1:=jE gB gB;simp only[sk,hi',aW,aH,aq,hw,show(0:Int)<=i by omega,bT,P6,hx,oT,aa];by_cases h3:0<=x<;>by_cases h4:x<=3<;>simp[h3,h4]
 ·have:(decide ((1:Int)<=a.length)&&decide ((a.length:Int)<=8))=false:=by simp;omega
  rw[this];have:iJ a=false:=by
   cases hs:iJ a with
   |false=>rfl
   |true=>have:=ow.1 hs;omega
  simp[this]
theorem yx{x:fP}(h0:0<x.length)(hs:Small x):gG True (jR x) fun m=>∀b,b<=m<->∀y∈x,b<=y:=by
 unfold jR;have h1:¬(x.length:Int)<1:=by omega
 have h2:(0:Int)<x.length:=by omega
 simp only[h1,h2,aZ,au,aG,dB,bT,aH];refine gG.loop (fun s:Int×Int=>∃i:Nat,s.2=(i:Int)/\1<=i/\i<=x.length/\∀b,b<=s.1<->∀y∈x.take i,b<=y) (fun s:Int×Int=>x.length-s.2.toNat) ⟨1,rfl,ay _,gB,fun b=>?_⟩ ?_
 ·cases x with
  |nil=>simp at h0
  |cons y x=>simp
 ·rintro⟨m,i'⟩ ⟨i,rfl,h3,h4,h5⟩;simp only[ny]at h5⊢;by_cases hi:i<x.length
  ·have hi':(i:Int)<x.length:=by omega
   have hw:IntKind.i64.wrap ((i:Int)+1)=i+1:=jE gB gB;simp only[hi',aW,aH,show(0:Int)<=i by omega,bT,aq,gO hi,hw];refine .some ⟨⟨i+1,by simp,gB,gB,fun b=>?_⟩,by simp;omega⟩;rw[dI,aB hi];have:=h5 b;simp only[aI,Option.toList_some,bh];split
   ·constructor
    ·rintro hb y (hy|rfl)
     ·exact(h5 b).1 gB y hy
     ·exact hb
    ·intro hb;exact hb _ (.inr rfl)
   ·constructor
    ·rintro hb y (hy|rfl)
     ·exact(h5 b).1 hb y hy
     ·omega
    ·intro hb;exact(h5 b).2 fun y hy=>hb y (.inl hy)
  ·have hi':¬(i:Int)<x.length:=by omega
   simp only[hi',aZ,au,aG,aT];refine .some fun b=>?_
   rw[h5 b,bO gB]
theorem yL{a:fP}(ha:iJ a=true)(x:Int):od a x<=3:=by
 have:=(ow.1 ha).2.2;unfold od;split
 ·omega
 ·rw[av];cases h:a[x.toNat]? with
  |none=>simp
  |some y=>have:=this y (bQ h);simp;omega
theorem wF{a:fP}(ha:iJ a=true){x:Int}(hx:x<a.length):oN a x=some (od a x:Int):=by
 unfold oN od;by_cases h:x<0
 ·simp[h]
 ·have h2:0<=x:=by omega
  simp only[h,aZ,au,aG,h2,hx,bT,aH];have hl:x.toNat<a.length:=by omega
  have:=(ow.1 ha).2.2 _ (nY hl);rw[show a.getD x.toNat 0=a.getD x.toNat default from rfl];rw[show((a.getD x.toNat default).toNat:Int)=a.getD x.toNat default by omega]
theorem yA{a t:fP}(ha:iJ a=true)(hs:Small t){i:Nat}(hi:i<=t.length):nP a t i=
 some (match t.drop i with|[]=>(-1,(i:Int))|x::_=>if x<a.length then((od a x:Int),(i:Int)+1)else(-1,i)):=by
 unfold nP;by_cases h:i<t.length
 ·have h1:¬(t.length:Int)<=i:=by omega
  have h2:(i:Int)<t.length:=by omega
  have hw:IntKind.i64.wrap ((i:Int)+1)=i+1:=jE gB gB;have hw2:IntKind.i64.wrap ((i:Int)+1-1)=i:=by rw[jE gB gB];omega
  rw[aK h];simp only[h1,h2,aZ,au,aG,show(0:Int)<=i by omega,bT,aH,aq,gO h,hw,hw2];by_cases h3:t[i]<a.length
  ·have h4:¬(a.length:Int)<=t[i]:=by omega
   simp[h3,h4,wF ha h3]
  ·have h4:(a.length:Int)<=t[i]:=by omega
   simp[h3,h4]
 ·have h1:(t.length:Int)<=i:=by omega
  rw[bt gB];simp[h1]
theorem E2{a t:fP}{i k:Nat}(h:i<t.length):Tm.skip a (t.drop i) (k+1)=if yD a (t[i])then Tm.skip a (t.drop (i+1)) (k+od a t[i])else none:=by rw[aK h,uH]
def Di(a t:fP)(i:Nat):Int:=match Tm.skip a (t.drop i) 1 with|some r=>(t.length:Int)-r.length|none=> -1
theorem OZ{a:fP}:∀{t r:fP}{k:Nat},Tm.skip a t k=some r->r.length+k<=t.length:=by
 intro t r k h;obtain⟨u,rfl,hu⟩:=Au h;have:=hu.len;simp;omega
theorem si{a t:fP}(ha:iJ a=true)(hs:Small t)(hm:∀x∈t, -24<=x){i:Nat}(hi:i<=t.length):ox a t i=some (Di a t i):=by
 have key:gG True (nQ a t i) fun r=>match Tm.skip a (t.drop i) 1 with|some q=>r=(true,(t.length:Int)-q.length)|none=>r.1=false:=by
  unfold nQ;refine gG.loop (fun s=>∃(k c:Nat),s=((k:Int),(c:Int))/\c<=t.length/\k<=1+3*c/\Tm.skip a (t.drop c) k=Tm.skip a (t.drop i) 1) (fun s=>t.length-s.2.toNat) ⟨1,i,rfl,hi,gB,rfl⟩ ?_;rintro _ ⟨k,c,rfl,h1,h2,h3⟩;simp only[qj];cases k with
  |zero=>
   simp only[show ¬(0:Int)<((0:Nat):Int) by omega,aZ,au,aG,aT];refine .some ?_;simp only[tC];rw[<-h3,tr];simp;omega
  |succ k=>
   simp only[show(0:Int)<((k+1:Nat):Int) by omega,aW,aH,yA ha hs h1,aa];by_cases hc:c<t.length
   ·rw[aK hc];rw[E2 hc]at h3;simp only;have hx:=hm _ (aA hc);by_cases hlt:t[c]<a.length
    ·have ho:yD a t[c]:=⟨hx,hlt⟩;rw[ah ho]at h3;have hle:=yL ha t[c];simp only[hlt,aH,show ¬((od a t[c]:Nat):Int)<0 by omega,aZ,au,aG];have hw1:IntKind.i64.wrap (((k+1:Nat):Int)+(od a t[c]:Int))=(k+1:Nat)+od a t[c]:=jE gB gB;rw[hw1,jE gB gB];refine .some ⟨⟨k+od a t[c],c+1,by simp;omega,gB,gB,h3⟩,by simp;omega⟩
    ·have ho:¬yD a t[c]:=fun h=>hlt h.2
     rw[az ho]at h3;simp only[hlt,aG,show(-1:Int)<0 by omega,aW,aH,aT];refine .some ?_;simp only[tC];rw[<-h3];trivial
   ·rw[bt gB,HD]at h3;rw[bt gB];simp only[show(-1:Int)<0 by omega,aW,aH,aT];refine .some ?_;simp only[tC];rw[<-h3];trivial
 unfold ox;obtain⟨r,h1,h2⟩:=key.get;rw[h1,aa];unfold Di;cases h:Tm.skip a (t.drop i) 1 with
 |none=>rw[h]at h2;simp only at h2;simp[h2]
 |some q=>rw[h]at h2;simp only at h2;simp[h2]
def lS(a t:fP):Bool:=iJ a&&(decide (1<=t.length)&&decide (t.length<=60))&&decide (Wf a 1 t)
theorem jr{a t:fP}:lS a t=true<->iJ a=true/\1<=t.length/\t.length<=60/\Wf a 1 t:=by simp[lS,and_assoc]
theorem CL{a t:fP}:Di a t 0=(t.length:Int)<->Wf a 1 t:=by
 unfold Di Wf;rw[bP];cases h:Tm.skip a t 1 with
 |none=>
  simp only[reduceCtorEq,iff_false];try omega
 |some q=>
  simp only[aR];constructor
  ·intro h;exact bY.1 gB
  ·rintro rfl;simp
theorem uj(a t:fP):oF a t=some (lS a t):=by
 unfold oF lS;rw[vi,aa];cases ha:iJ a with
 |false=>simp
 |true=>
  simp only[aH,bV];by_cases h1:1<=t.length
  ·by_cases h2:t.length<=60
   ·have e1:(0:Int)<t.length:=by omega
    have e2:(t.length:Int)<=60:=by omega
    simp only[e1,e2,h1,h2,aW,aH,fo,bV];obtain⟨m,h3,h4⟩:=(yx (x:=t) gB (show t.length<_ by omega)).get;rw[h3,aa];by_cases h5: -24<=m
    ·simp only[h5,aW,aH];have:=si ha (show t.length<_ by omega) ((h4 _).1 h5) (i:=0) gB;rw[show((0:Nat):Int)=0 by rfl]at this;rw[this,aa];by_cases hw:Wf a 1 t
     ·simp[hw,CL.2 hw]
     ·have:=mt CL.1 hw;simp[hw,this]
    ·have hw:¬Wf a 1 t:=fun hw=>h5 ((h4 _).2 fun y hy=>(hw.all y hy).1)
     simp[h5,hw]
   ·have e2:¬(t.length:Int)<=60:=by omega
    have e1:(0:Int)<t.length:=by omega
    simp[e1,e2,h2]
  ·have e1:¬(0:Int)<t.length:=by omega
   simp only[e1,h1,aZ,au,aG,Bool.false_and]
theorem wG{a:fP}(ha:iJ a=true)(x:Int):oQ a x=some (if yD a x then(od a x:Int)else -1):=by
 have hl:=(ow.1 ha).2.1;unfold oQ;simp only[oT,aa,jE (n:=(a.length:Int)-1) gB gB];by_cases h1: -24<=x
 ·by_cases h2:x<= -1
  ·simp[h1,h2,yD,od,show x<0 by omega,show x<(a.length:Int) by omega]
  ·by_cases h3:x<a.length
   ·have hx:x.toNat<a.length:=by omega
    have:=(ow.1 ha).2.2 _ (nY hx);simp only[h1,h2,h3,yD,show 0<=x by omega,show x<=(a.length:Int)-1 by omega,aW,aZ,Bool.and_false,fo,au,aG,bT,aH,od,show ¬x<0 by omega];rw[show a.getD x.toNat 0=a.getD x.toNat default from rfl];rw[show((a.getD x.toNat default).toNat:Int)=a.getD x.toNat default by omega]
   ·simp[h1,h2,h3,yD,show ¬x<=(a.length:Int)-1 by omega]
 ·simp[h1,yD,show ¬0<=x by omega]
theorem sn{a t:fP}(ha:iJ a=true)(hs:Small t){i:Nat}(hi:i<=t.length):nA a t i=some (Di a t i):=by
 have key:gG True (nA a t i) (·=Di a t i):=by
  unfold nA;refine gG.loop (fun s:Int×Int=>∃(k c:Nat),s=(((k+1:Nat):Int),(c:Int))/\c<=t.length/\k<=3*c/\Tm.skip a (t.drop c) (k+1)=Tm.skip a (t.drop i) 1) (fun s:Int×Int=>t.length-s.2.toNat) ⟨0,i,rfl,hi,gB,rfl⟩ ?_;rintro _ ⟨k,c,rfl,h1,h2,h3⟩;simp only[vm];by_cases hc:c<t.length
  ·rw[E2 hc]at h3;have hc':(c:Int)<t.length:=by omega
   simp only[hc',aW,aH,show(0:Int)<=c by omega,bT,aq,gO hc,wG ha,aa];have hle:=yL ha t[c];by_cases ho:yD a t[c]
   ·rw[ah ho]at h3;simp only[ho,aH,show ¬((od a t[c]:Nat):Int)<0 by omega,aZ,au,aG];rw[jE (n:=((k+1:Nat):Int)+(od a t[c]:Int)) gB gB,jE (n:=((k+1:Nat):Int)+(od a t[c]:Int)-1) gB gB,jE (n:=(c:Int)+1) gB gB];cases hk:k+od a t[c]with
    |zero=>
     rw[hk,tr]at h3;have:(((k+1:Nat):Int)+(od a t[c]:Int)-1==0)=true:=by simp;omega
     simp only[this,aH,aT];refine .some ?_;simp only[tC,Di];rw[<-h3];simp;omega
    |succ q=>
     have:¬(((k+1:Nat):Int)+(od a t[c]:Int)-1==0)=true:=by simp;omega
     simp only[this,aG];refine .some ⟨⟨q,c+1,by simp;omega,gB,gB,by rw[<-hk];exact h3⟩,by simp;omega⟩
   ·rw[az ho]at h3;simp only[ho,aG,show(-1:Int)<0 by omega,aW,aH,aT];refine .some ?_;simp only[tC,Di];rw[<-h3]
  ·have hc':¬(c:Int)<t.length:=by omega
   rw[bt gB,HD]at h3;simp only[hc',aZ,au,aG,aT];refine .some ?_;simp only[tC,Di];rw[<-h3]
 exact key.eq
theorem qT(a t:fP):nF a t=some (lS a t):=by
 unfold nF lS;rw[sj,aa];cases ha:iJ a with
 |false=>simp
 |true=>
  simp only[aH,bV,oT,aa];have e:(decide ((1:Int)<=t.length)&&decide ((t.length:Int)<=60))=(decide (1<=t.length)&&decide (t.length<=60)):=by
   congr 1<;>exact dz.2 gB
  rw[e];by_cases h:1<=t.length/\t.length<=60
  ·simp only[h.1,h.2,aW,fo,aH,bV];have:=sn ha (show Small t by show t.length<_;omega) (i:=0) gB;rw[show((0:Nat):Int)=0 by rfl]at this;rw[this,aa];by_cases hw:Wf a 1 t
   ·simp[hw,CL.2 hw]
   ·have:=mt CL.1 hw;simp[hw,this]
  ·have:(decide (1<=t.length)&&decide (t.length<=60))=false:=by simp;omega
   simp[this]
theorem uJ{s:fP}(hs:Small s)(v:Int):iZ s v=some (decide (v∈s)):=by
 have key:gG True (kC s v) fun r=>0<=r<->v∈s:=by
  unfold kC;refine gG.loop (fun i':Int=>∃i:Nat,i'=i/\i<=s.length/\v∉s.take i) (fun i':Int=>s.length-i'.toNat) ⟨0,rfl,gB,by simp⟩ ?_;rintro _ ⟨i,rfl,h1,h2⟩;simp only[mP];by_cases hi:i<s.length
  ·have hi':(i:Int)<s.length:=by omega
   simp only[hi',aW,aH,show(0:Int)<=i by omega,bT,aq,gO hi,jE (n:=(i:Int)+1) gB gB];by_cases hv:v=s[i]
   ·simp only[hv,cU,aH,aT];refine .some ?_;simp only[tC];exact⟨fun _=>aA hi,fun _=>by omega⟩
   ·have:¬(v==s[i])=true:=by simpa using hv
    simp only[this,aG];refine .some ⟨⟨i+1,by simp,gB,?_⟩,by simp;omega⟩;rw[dI,aB hi,aI];rintro(h|h)
    ·exact h2 h
    ·exact hv (by simpa using h)
  ·have hi':¬(i:Int)<s.length:=by omega
   simp only[hi',aZ,au,aG,aT];refine .some ?_;rw[bO gB]at h2;simp only[tC];exact⟨fun h=>by omega,fun h=>absurd h h2⟩
 unfold iZ;obtain⟨r,h1,h2⟩:=key.get;rw[h1,aa];congr 1;exact dz.2 h2
theorem mX{s:fP}(hs:Small s)(v:Int):kK s v=some (decide (v∈s)):=by
 unfold kK;rw[DM (xs:=s) (p:=fun x=>x==v) (y:=true) (n:=false) (fun i x hi hi' _ hx=>?_) (by simp[sw])]
 ·congr 1;by_cases h:v∈s
  ·have:s.any (fun x=>x==v)=true:=fJ.2 ⟨v,h,by simp⟩;simp[this,h]
  ·have:s.any (fun x=>x==v)=false:=by
    rw[fG];intro x hx he;have:x=v:=by simpa using he
    subst this;exact h hx
   simp[this,h]
 ·simp only[sw,hi',aW,aH,aq,show(0:Int)<=i by omega,bT,hx,jE (n:=(i:Int)+1) (by have:=hs;omega) (by have:=hs;omega)];by_cases h:(x==v)=true
  ·simp[h]
  ·simp[h]
def KK(l:fP)(x:Int):Bool:=decide (x<0->x∈l)
def xh(a:fP)(r:fP×fP):Bool:=lS a r.1&&(lS a r.2&&(decide (0<=r.1.headD 0)&&r.2.all (KK r.1)))
def ru(s:fP×List fR):Bool:=iJ s.1&&(decide (s.2.length<=12)&&s.2.all (xh s.1))
theorem Dz{l:fP}(h:0<l.length):l.getD 0 default=l.headD 0:=by cases l with|nil=>simp at h|cons x l=>rfl
theorem By(a:fP)(r:fP×fP):rK a r=some (xh a r):=by
 unfold rK xh;rw[uj,uj,aa];cases h1:lS a r.1 with
 |false=>simp
 |true=>
  rw[aa];cases h2:lS a r.2 with
  |false=>simp
  |true=>
   have e1:=jr.1 h1;have e2:=jr.1 h2;have e3:(0:Int)<r.1.length:=by omega
   simp only[aH,dB,e3,bT,bV,and_true];rw[Dz gB];by_cases h3:r.1.headD 0<0
   ·simp[-List.headD_eq_head?_getD,h3,show ¬0<=r.1.headD 0 by omega]
   ·simp only[h3,aZ,au,aG,show 0<=r.1.headD 0 by omega,aW,bV];refine rR (fun i x hi hi' _ hx=>?_) (by simp[qP]);simp only[qP,hi',aW,aH,aq,show(0:Int)<=i by omega,bT,hx,jE (n:=(i:Int)+1) gB gB,KK,
     uJ (show Small r.1 by show r.1.length<_;omega),aa]
    by_cases h4:x<0<;>by_cases h5:x∈r.1<;>simp[h4,h5]
theorem Bz(a:fP)(r:fP×fP):rM a r=some (xh a r):=by
 unfold rM xh;rw[qT,qT,aa];cases h1:lS a r.1 with
 |false=>simp
 |true=>
  rw[aa];cases h2:lS a r.2 with
  |false=>simp
  |true=>
   have e1:=jr.1 h1;have e2:=jr.1 h2;have e3:(0:Int)<r.1.length:=by omega
   simp only[aH,dB,e3,bT,bV,and_true];rw[Dz gB];by_cases h3:r.1.headD 0<0
   ·simp[-List.headD_eq_head?_getD,h3,show ¬0<=r.1.headD 0 by omega]
   ·simp only[h3,aZ,au,aG,show 0<=r.1.headD 0 by omega,aW,bV];refine rR (fun i x hi hi' _ hx=>?_) (by simp[qR]);simp only[qR,hi',aW,aH,aq,show(0:Int)<=i by omega,bT,hx,jE (n:=(i:Int)+1) gB gB,KK,
     mX (show Small r.1 by show r.1.length<_;omega),aa]
    by_cases h4:x<0<;>by_cases h5:x∈r.1<;>simp[h4,h5]
theorem sA(s:fP×List fR):oo s=some (ru s):=by
 unfold oo ru;rw[vi,aa];cases h1:iJ s.1 with
 |false=>simp
 |true=>
  by_cases h2:12<(s.2.length:Int)
  ·simp[h2,show ¬s.2.length<=12 by omega]
  ·simp only[aH,h2,aZ,au,aG,bV,show s.2.length<=12 by omega,aW];refine rR (fun i x hi hi' _ hx=>?_) (by simp[pK]);simp only[pK,hi',aW,aH,aq,show(0:Int)<=i by omega,bT,hx,jE (n:=(i:Int)+1) gB gB,By,aa];cases xh s.1 x<;>simp
theorem pO(s:fP×List fR):mu s=some (ru s):=by
 unfold mu ru;rw[sj,aa];cases h1:iJ s.1 with
 |false=>simp
 |true=>
  by_cases h2:12<(s.2.length:Int)
  ·simp[h2,show ¬s.2.length<=12 by omega]
  ·simp only[aH,h2,aZ,au,aG,bV,show s.2.length<=12 by omega,aW];refine rR (fun i x hi hi' _ hx=>?_) (by simp[pP]);simp only[pP,hi',aW,aH,aq,show(0:Int)<=i by omega,bT,hx,jE (n:=(i:Int)+1) gB gB,Bz,aa];cases xh s.1 x<;>simp
theorem NF{s t:fP}(hl:s.length=t.length):(s==t)=decide (∀i<s.length,s.getD i default=t.getD i default):=by
 have:(s==t)=decide (s=t):=by by_cases h:s=t<;>simp[h]
 rw[this];refine dz.2 ⟨fun h=>by subst h;simp,fun h=>?_⟩;refine dA hl fun i h1 h2=>?_
 have:=h i h1;rwa [gO h1,gO h2]at this
theorem Kh{s t:fP}(hs:Small s)(hl:s.length=t.length){f:Int->Option fT}
 (h:∀i:Nat,i<s.length->f i=some (if s.getD i default=t.getD i default then .inl ((i:Int)+1)else .inr false)) (he:f s.length=some (.inr true)):gK f 0=some (s==t):=by
 have key:gG True (gK f 0) fun r=>r=decide (∀i<s.length,s.getD i default=t.getD i default):=by
  refine gG.loop (fun i':Int=>∃i:Nat,i'=i/\i<=s.length/\∀j<i,s.getD j default=t.getD j default) (fun i':Int=>s.length-i'.toNat) ⟨0,rfl,gB,gB⟩ ?_;rintro _ ⟨i,rfl,h1,h2⟩;by_cases hi:i<s.length
  ·rw[h i hi];by_cases e:s.getD i default=t.getD i default
   ·rw[ah e];refine .some ⟨⟨i+1,by simp,gB,fun j hj=>?_⟩,by simp;omega⟩;rcases cB j i with h3|h3
    ·exact h2 j h3
    ·obtain rfl:j=i:=by omega
     exact e
   ·rw[az e];refine .some ?_;simp only[tC];exact(ek fun h=>e (h i hi)).symm
  ·obtain rfl:i=s.length:=by omega
   rw[he];refine .some ?_;simp only[tC];exact(decide_eq_true h2).symm
 rw[NF hl];obtain⟨r,h1,h2⟩:=key.get;rw[h1,h2]
theorem mU{s t:fP}(hs:Small s):ig s t=some (s==t):=by
 unfold ig;by_cases hl:s.length=t.length
 ·have:¬((s.length:Int) != (t.length:Int))=true:=by simp;omega
  rw[az this];refine Kh hs hl (fun i hi=>?_) (by simp[kS]);simp only[kS,show(i:Int)<s.length by omega,show(i:Int)<t.length by omega,aW,aH,show(0:Int)<=i by omega,bT,aq,
   jE (n:=(i:Int)+1) (by have:=hs;omega) (by have:=hs;omega)]
  by_cases e:s.getD i default=t.getD i default
  ·simp only[e,dW,au,aG,aH]
  ·have:(s.getD i default != t.getD i default)=true:=by simpa using e
   simp only[this,e,aH,aG,aT]
 ·have:((s.length:Int) != (t.length:Int))=true:=by simp;omega
  rw[ah this];congr 1;symm;rw[dO];rintro rfl;exact hl rfl
theorem lE{s t:fP}(hs:Small s):jM s t=some (s==t):=by
 unfold jM;by_cases hl:s.length=t.length
 ·have:¬((s.length:Int) != (t.length:Int))=true:=by simp;omega
  rw[az this];refine Kh hs hl (fun i hi=>?_) (by simp[pN]);simp only[pN,show(i:Int)<s.length by omega,show(i:Int)<t.length by omega,aW,aH,show(0:Int)<=i by omega,bT,aq,
   jE (n:=(i:Int)+1) (by have:=hs;omega) (by have:=hs;omega)]
  by_cases e:s.getD i default=t.getD i default
  ·simp only[e,dW,au,aG,aH]
  ·have:(s.getD i default != t.getD i default)=true:=by simpa using e
   simp only[this,e,aH,aG,aT]
 ·have:((s.length:Int) != (t.length:Int))=true:=by simp;omega
  rw[ah this];congr 1;symm;rw[dO];rintro rfl;exact hl rfl
theorem qU{l:fP}(hs:Small l):nG l=some l:=by unfold nG;rw[ah (by have:=hs;omega)]
theorem AB{l:fP}(hs:Small l):kB l=some l:=by
 unfold kB;refine(gG.T5 (t:=True) (P:=(·=l)) ?_ fun h=>?_).eq
 ·rw[ah (by have:=hs;omega)];exact .some rfl
 ·subst h;simp
theorem xB{a t u r:fP}{i:Nat}(h:t.drop i=u++r)(hu:Wf a 1 u):Di a t i=(t.length:Int)-r.length:=by unfold Di;rw[h,hu.skip]
theorem HR{t u r:fP}{i:Nat}(h:t.drop i=u++r)(hi:i<=t.length):(t.take (t.length-r.length)).drop i=u:=by
 have hl:=aO List.length h;simp at hl;rw[List.drop_take,h,cw gB,bO gB]
theorem p_{a t u r:fP}(ha:iJ a=true)(hs:Small t)(hm:∀x∈t, -24<=x){i:Nat}(h:t.drop i=u++r)(hu:Wf a 1 u):nr a t i=some u:=by
 have hl:=aO List.length h;have hul:=hu.len;simp at hl;have hi:i<=t.length:=by omega
 unfold nr;rw[si ha hs hm hi,aa,xB h hu,ah gB,show((t.length:Int)-r.length).toNat=t.length-r.length by omega,aq,HR h hi]
theorem mz{a t u r:fP}(ha:iJ a=true)(hs:Small t){i:Nat}(h:t.drop i=u++r)(hu:Wf a 1 u):jX a t i=some u:=by
 have hl:=aO List.length h;have hul:=hu.len;simp at hl;have hi:i<=t.length:=by omega
 unfold jX;rw[sn ha hs hi,aa,xB h hu,ah gB,show((t.length:Int)-r.length).toNat=t.length-r.length by omega,aq,HR h hi,
  qU (by show u.length<_;have:=hs;omega)]
 rfl
structure T3(a p t:fP)(b0 b:Bd)(i c:Nat):Prop where
 hi:i<=p.length
 hc:c<=t.length
 hb:b.length=24
 Kc:∀u∈b,u.length<=60
 k:∃k,Wf a k (p.drop i)/\Wf a k (t.drop c)
 m:BZ a (p.drop i) (t.drop c) b=BZ a p t b0
theorem T3.var{a p t:fP}{b0 b:Bd}{i c:Nat}(h:T3 a p t b0 b i c)(hi:i<p.length)(hn:p[i]<0):∃u r,t.drop c=u++r/\Wf a 1 u/\c+u.length<=t.length/\yD a p[i]/\
 BZ a p t b0=(if gZ b p[i]=[]then BZ a (p.drop (i+1)) (t.drop (c+u.length)) (gM b p[i] u)else if gZ b p[i]=u then BZ a (p.drop (i+1)) (t.drop (c+u.length)) b else none)/\
 ∃k,Wf a k (p.drop (i+1))/\Wf a k (t.drop (c+u.length)):=by
 obtain⟨k,h1,h2⟩:=h.k;rw[aK hi]at h1;cases k with
 |zero=>have:=h1.zero;cases this
 |succ k=>
  obtain⟨ho,h1⟩:=Wf.jZ.1 h1;rw[show k+1=1+k by omega]at h2;obtain⟨u,r,e,hu,hr⟩:=h2.split;have hr':t.drop (c+u.length)=r:=by rw[<-List.drop_drop,e,ck]
  have hl:=aO List.length e;simp at hl;have:=hu.len;refine⟨u,r,e,hu,gB,ho,?_,k,?_,by rw[hr'];exact hr⟩
  ·rw[<-h.m,aK hi,e,Kj hn hu,hr']
  ·have ha:od a p[i]=0:=by simp[od,hn]
   rwa [ha,de]at h1
theorem T3.sym{a p t:fP}{b0 b:Bd}{i c:Nat}(h:T3 a p t b0 b i c)(hi:i<p.length)(hn:¬p[i]<0):∃hc:c<t.length,yD a p[i]/\BZ a p t b0=(if t[c]=p[i]then BZ a (p.drop (i+1)) (t.drop (c+1)) b else none)/\
 (t[c]=p[i]->∃k,Wf a k (p.drop (i+1))/\Wf a k (t.drop (c+1))):=by
 obtain⟨k,h1,h2⟩:=h.k;rw[aK hi]at h1;cases k with
 |zero=>have:=h1.zero;cases this
 |succ k=>
  obtain⟨ho,h1⟩:=Wf.jZ.1 h1;have hc:c<t.length:=by
   rcases cB c t.length with h|h
   ·exact h
   ·rw[bt h]at h2;have:=h2.len;simp at this
  rw[aK hc]at h2;obtain⟨ho',h2⟩:=Wf.jZ.1 h2;refine⟨hc,ho,?_,fun e=>⟨k+od a p[i],h1,by rw[<-e];exact h2⟩⟩;rw[<-h.m,aK hi,aK hc,Ki hn]
theorem T3.VT{a p t:fP}{b0 b:Bd}{i c:Nat}(h:T3 a p t b0 b i c)(hi:i<p.length):c<t.length:=by
 obtain⟨k,h1,h2⟩:=h.k;rw[aK hi]at h1;cases k with
 |zero=>have:=h1.zero;cases this
 |succ k=>
  rcases cB c t.length with h|h
  ·exact h
  ·rw[bt h]at h2;have:=h2.len;simp at this
theorem Dc{b:Bd}{n:Int}{u:fP}(hs:∀u∈b,u.length<=60)(hu:u.length<=60):∀v∈gM b n u,v.length<=60:=fun v hv=>by
 rcases eC hv with h|h
 ·exact hs v h
 ·subst h;exact hu
theorem C6{b:Bd}{n:Int}(hs:∀u∈b,u.length<=60):(gZ b n).length<=60:=by
 unfold gZ;rw[av];cases h:b[(-1-n).toNat]? with
 |none=>simp
 |some u=>exact hs u (bQ h)
def j_(s:Bd)(i:Nat):fP:=if s.getD i []=[]\/s.getD i []=[-1-(i:Int)]then []else s.getD i []
theorem B3{s o:Bd}(h:∀i,o.getD i []=j_ s i){n:Int}(hn:n<0):Tm.sig o n=Tm.sig s n:=by
 unfold Tm.sig gZ;rw[h];unfold j_;rw[show -1-((-1-n).toNat:Int)=n by omega];by_cases h1:s.getD (-1-n).toNat []=[]
 ·simp only[h1,true_or,aH]
 ·by_cases h2:s.getD (-1-n).toNat []=[n]
  ·simp only[h2,or_true,aH];simp
  ·simp only[h1,h2,or_self,aG]
theorem yV{s:Bd}{u:fP}{i:Nat}:(s++[u]).getD i []=if i<s.length then s.getD i []else if i=s.length then u else []:=by
 rw[av];by_cases h:i<s.length
 ·rw[ah h,aU h,av]
 ·rw[az h,bK gB];by_cases h2:i=s.length
  ·subst h2;simp
  ·rw[az h2,bI (by simp;omega)];rfl
theorem uZ{s:Bd}{i:Nat}(h:s.length<=i):s.getD i []=[]:=by rw[av,bI h];rfl
structure PSt(s:Bd)(o:Bd)(i:Nat):Prop where
 hi:i<=s.length
 hl:o.length<=i
 he:∀j<i,o.getD j []=j_ s j
theorem CB{s:Bd}(hl:s.length<=24)(hs:∀u∈s,u.length<=60):gG True (tG s) fun o=>o.length<=24/\∀i,o.getD i []=j_ s i:=by
 unfold tG;refine gG.loop (fun q:Int×Bd=>∃i:Nat,q.1=i/\PSt s q.2 i) (fun q:Int×Bd=>s.length-q.1.toNat) ⟨0,rfl,gB,by simp,gB⟩ ?_;rintro⟨_,o⟩ ⟨i,rfl,h⟩;simp only at h;simp only[vk];by_cases hi:i<s.length
 ·have hu:=hs _ (aA hi);have hg:s.getD i []=s[i]:=gO hi;simp only[show(i:Int)<s.length by omega,aW,aH,show(0:Int)<=i by omega,bT,aq,gO hi,jE (n:=(i:Int)+1) gB gB];have skip:j_ s i=[]->gG True (some (Sum.inl ((i:Int)+1,o)):Option ((Int×Bd)⊕Bd)) (tC (fun q:Int×Bd=>∃i:Nat,q.1=i/\PSt s q.2 i) (fun q:Int×Bd=>s.length-q.1.toNat) (fun o=>o.length<=24/\∀i,o.getD i []=j_ s i) (s.length-i)):=fun hp=>
   .some ⟨⟨i+1,by simp,gB,Nat.le_succ_of_le h.hl,fun j hj=>by
    rcases cB j i with h3|h3
    ·exact h.he j h3
    ·obtain rfl:j=i:=by omega
     rw[hp,uZ h.hl]⟩,by simp;omega⟩
  by_cases h0:s[i]=[]
  ·simp only[h0,bB,fK,cU,aH];exact skip (by unfold j_;rw[hg,ah (.inl h0)])
  ·have hne:¬(((s[i]).length:Int)==0)=true:=by
    have:=bM.2 h0;simp only[cN];omega
   simp only[hne,aG,lz,aa,jE (n:= -1-(i:Int)) gB gB,mU (show Small s[i] by show List.length _<_;omega)];by_cases h1:s[i]=[-1-(i:Int)]
   ·simp only[h1,cU,aH];exact skip (by unfold j_;rw[hg,ah (.inr h1)])
   ·have:¬(s[i]==[-1-(i:Int)])=true:=by simpa using h1
    simp only[this,aG];have hp:j_ s i=s[i]:=by unfold j_;rw[hg,az (by simp[h0,h1])]
    refine gG.loop (fun o':Bd=>o'.length<=i/\∀j<i,o'.getD j []=j_ s j) (fun o':Bd=>i-o'.length) ⟨h.hl,h.he⟩ ?_;rintro o' ⟨h3,h4⟩;simp only[vl];by_cases h5:o'.length<i
    ·simp only[show(o'.length:Int)<i by omega,aW,aH,show(o'.length+1)*24<=140737488355328 by omega];refine .some ⟨⟨by simp;omega,fun j hj=>?_⟩,by simp;omega⟩;rw[yV];split
     ·exact h4 j hj
     ·have:=h4 j hj;rw[uZ gB]at this;simp[<-this]
    ·simp only[show ¬(o'.length:Int)<i by omega,aZ,au,aG,show(o'.length+1)*24<=140737488355328 by omega,aH];rw[aq,gO hi,AB (show Small s[i] by show List.length _<_;omega),aa,aT];refine .some ?_;refine⟨⟨i+1,by simp[jE (n:=(i:Int)+1) gB gB],gB,by simp;omega,fun j hj=>?_⟩,by simp[jE (n:=(i:Int)+1) gB gB];omega⟩;rw[yV];split
     ·exact h4 j gB
     ·obtain rfl:j=i:=by omega
      rw[ah gB,hp]
 ·simp only[show ¬(i:Int)<s.length by omega,aZ,au,aG,aT];refine .some ⟨by have:=h.hl;have:=h.hi;omega,fun j=>?_⟩;by_cases hj:j<i
  ·exact h.he j hj
  ·rw[uZ (by have:=h.hl;omega)];unfold j_;rw[uZ (s:=s) gB];simp
def xo(o:Option Bd)(r:Bd×Bool):Prop:=match o with
 |some b=>r.2=true/\r.1.length<=24/\∀i,r.1.getD i []=j_ b i
 |none=>r.2=false
theorem zN{a:fP}:∀{p t:fP}{b b':Bd},BZ a p t b=some b'->(∀u∈b,u.length<=60)->t.length<=60->b.length=24->b'.length=24/\∀u∈b',u.length<=60
 |[],t,b,b',h,hs,_,hb=>by rw[FF]at h;cases h;exact⟨hb,hs⟩
 |n::p,t,b,b',h,hs,ht,hb=>by
  unfold BZ at h;split at h
  ·split at h
   ·cases h
   ·rename_i r hr;have:=OZ hr;simp only at h;split at h
    ·exact zN (b:=Tm.gM b n _) h (Dc hs (by simp;omega)) gB (by simpa[Tm.gM]using hb)
    ·split at h
     ·exact zN h hs gB hb
     ·cases h
  ·split at h
   ·cases h
   ·split at h
    ·exact zN h hs (by simp at ht;omega) hb
    ·cases h
theorem wH{s:Bd}(hs:∀u∈s,u.length<=60)(hl:s.length<=24){i:Nat}(hi:i<=24):pe s i=some (if s.getD i []=[]then [-1-(i:Int)]else s.getD i []):=by
 unfold pe;rw[jE (n:= -1-(i:Int)) gB gB];by_cases h:i<s.length
 ·have hu:=hs _ (aA h);have hg:s.getD i []=s[i]:=gO h;simp only[show(i:Int)<s.length by omega,aW,aH,show(0:Int)<=i by omega,bT,aq,gO h,hg];by_cases h0:s[i]=[]
  ·simp[h0]
  ·have:=bM.2 h0;simp only[h0,aG,show(0:Int)<s[i].length by omega,aW,aH,qU (show Small s[i] by show List.length _<_;omega),aa]
 ·simp only[show ¬(i:Int)<s.length by omega,aZ,au,aG,uZ (s:=s) (i:=i) gB,aH]
theorem wI{s:Bd}(hl:s.length<=24)(hs:∀u∈s,u.length<=60):gG True (pg s) fun o=>o.length<=24/\∀i,o.getD i []=j_ s i:=by
 unfold pg;refine gG.loop (fun q:Int×Bd=>∃i:Nat,q.1=i/\i<=s.length/\q.2.length=i/\∀j<i,q.2.getD j []=j_ s j) (fun q:Int×Bd=>s.length-q.1.toNat) ⟨0,rfl,gB,rfl,gB⟩ ?_;rintro⟨_,o⟩ ⟨i,rfl,h1,h2,h3⟩;simp only at h2 h3;simp only[tN];by_cases hi:i<s.length
 ·have hw:IntKind.i64.wrap ((i:Int)+1)=i+1:=jE gB gB;have hw2:IntKind.i64.wrap (-1-(i:Int))= -1-i:=jE gB gB;have hm:(o.length+1)*24<=140737488355328:=by omega
  have hg:s.getD i []=s[i]:=gO hi;have step:∀u:fP,j_ s i=u->gG True (some (Sum.inl ((i:Int)+1,o++[u])):Option ((Int×Bd)⊕Bd)) (tC (fun q:Int×Bd=>∃i:Nat,q.1=i/\i<=s.length/\q.2.length=i/\∀j<i,q.2.getD j []=j_ s j) (fun q:Int×Bd=>s.length-q.1.toNat) (fun o=>o.length<=24/\∀i,o.getD i []=j_ s i) (s.length-i)):=fun u hu=>
   .some ⟨⟨i+1,by simp,gB,by simp[h2],fun j hj=>by
    rw[yV];split
    ·exact h3 j gB
    ·rw[ah gB,show j=i by omega,hu]⟩,by simp;omega⟩
  simp only[show(i:Int)<s.length by omega,aW,aH,wH hs hl (i:=i) gB,aa,hm,hw,hw2];by_cases h0:s[i]=[]
  ·simp only[hg,h0,aH,bG,Int.natCast_one,cU,dB,show(0:Int)<1 by omega,bT,bC];exact step [] (by unfold j_;rw[hg,ah (.inl h0)])
  ·simp only[hg,h0,aG];by_cases hlen:s[i].length=1
   ·obtain⟨x,hx⟩:=List.length_eq_one_iff.1 hlen;simp only[hx,bG,Int.natCast_one,cU,aH,dB,show(0:Int)<1 by omega,bT,bC];by_cases e:x= -1-(i:Int)
    ·simp only[e,cU,aH];exact step [] (by unfold j_;rw[hg,ah (.inr (by rw[hx,e]))])
    ·have:¬(x== -1-(i:Int))=true:=by simpa using e
     simp only[this,aG];exact step [x] (by unfold j_;rw[hg,hx,az (by simp[e])])
   ·have:¬((s[i].length:Int)==1)=true:=by simp only[cN];omega
    simp only[this,aG];refine step s[i] ?_;unfold j_;rw[hg,az];rintro(h|h)
    ·exact h0 h
    ·exact hlen (by rw[h];rfl)
 ·simp only[show ¬(i:Int)<s.length by omega,aZ,au,aG];have hall:∀j,o.getD j []=j_ s j:=fun j=>by
   by_cases hj:j<i
   ·exact h3 j hj
   ·rw[uZ gB];unfold j_;rw[uZ (s:=s) gB];simp
  refine gG.inr ?_;simp only[tC];refine gG.loop (fun o':Bd=>o'.length<=24/\∀j,o'.getD j []=j_ s j) (fun o':Bd=>o'.length) ⟨gB,hall⟩ ?_;rintro o' ⟨h4,h5⟩;simp only[tO];by_cases h6:0<o'.length
  ·have hw:IntKind.i64.wrap ((o'.length:Int)-1)=o'.length-1:=jE gB gB;have ht:((o'.length:Int)-1).toNat=o'.length-1:=by omega
   have hlt:o'.length-1<o'.length:=by omega
   simp only[show(0:Int)<o'.length by omega,aW,aH,hw,show 0<=(o'.length:Int)-1 by omega,show(o'.length:Int)-1<o'.length by omega,show(o'.length:Int)-1<=o'.length by omega,bT,ht,gO hlt];by_cases h7:o'[o'.length-1]=[]
   ·simp only[h7,bB,fK,cU,aH];refine .some ⟨⟨by simp;omega,fun j=>?_⟩,by simp;omega⟩;rw[<-h5 j,av,av,bX];split
    ·rfl
    ·by_cases hj:j=o'.length-1
     ·subst hj;rw[aB hlt,h7];rfl
     ·rw[bI gB]
   ·have:=bM.2 h7;have:¬((o'[o'.length-1].length:Int)==0)=true:=by simp only[cN];omega
    simp only[this,aG,aT];exact .some ⟨h4,h5⟩
  ·simp only[show ¬(0:Int)<o'.length by omega,aZ,au,aG,aT];exact .some ⟨h4,h5⟩
theorem O9{σ:Int->fP}{t:fP}{i:Nat}(hi:i<t.length):sub σ (t.take (i+1))=sub σ (t.take i)++(if t[i]<0 then σ t[i]else [t[i]]):=by
 rw[dI,aB hi,CU];simp[sub]
theorem HO{σ:Int->fP}{t:fP}{i:Nat}:(sub σ (t.take i)).length<=(sub σ t).length:=by
 have:sub σ t=sub σ (t.take i)++sub σ (t.drop i):=by rw[<-CU,bL]
 rw[this];simp
def rQ(σ:Int->fP)(t:fP):Option fP:=if(sub σ t).length<=60 then some (sub σ t)else none
def ud(o:Option fP):fP×Bool:=match o with|some x=>(x,true)|none=>([],false)
theorem CA{s:Bd}(hl:s.length<=24){i:Nat}(hi:i<=24):nM s i=some (s.getD i []):=by
 unfold nM;by_cases h:i<s.length
 ·have hg:s.getD i []=s[i]:=gO h;simp only[show ¬(s.length:Int)<=i by omega,aZ,au,aG,show(0:Int)<=i by omega,show(i:Int)<s.length by omega,bT,aH,aq,gO h,hg];by_cases h0:s[i]=[]
  ·simp[h0]
  ·have:=bM.2 h0;have h2:¬((s[i].length:Int)==0)=true:=by simp only[cN];omega
   simp only[h2,au,aG,this,aH]
 ·simp only[show(s.length:Int)<=i by omega,aW,aH,uZ (s:=s) (i:=i) gB]
theorem EL{σ:Int->fP}{t:fP}{i:Nat}(hi:i<t.length){out u:fP}(ho:out=sub σ (t.take i))(hu:u=if t[i]<0 then σ t[i]else [t[i]]):
 (60<(out++u).length->rQ σ t=none)/\out++u=sub σ (t.take (i+1)):=by
 have e:out++u=sub σ (t.take (i+1)):=by rw[O9 hi,ho,hu]
 refine⟨fun h=>?_,e⟩;rw[e]at h;unfold rQ;rw[az];have:=HO (σ:=σ) (t:=t) (i:=i+1);omega
theorem CW{s:Bd}{t:fP}(hl:s.length<=24)(hs:∀i,(s.getD i []).length<=60)(ht:t.length<=1000)(hx:∀x∈t, -24<=x):qx s t=some (ud (rQ (Tm.sig s) t)):=by
 have key:gG True (qx s t) (·=ud (rQ (Tm.sig s) t)):=by
  unfold qx;simp only[oK,aa,show 0<=(t.length:Int)/\8*(t.length:Int)<=281474976710656 by omega,bT,aH];refine gG.loop (fun q:fP×Int=>∃i:Nat,q.2=i/\i<=t.length/\q.1=sub (Tm.sig s) (t.take i)/\q.1.length<=60) (fun q:fP×Int=>t.length-q.2.toNat) ⟨0,rfl,gB,by simp[sub],by simp⟩ ?_;rintro⟨out,_⟩ ⟨i,rfl,h1,h2,h3⟩;simp only at h2 h3;simp only[vU];by_cases hi:i<t.length
  ·have hxi:=hx _ (aA hi);simp only[show(i:Int)<t.length by omega,aW,aH,show(0:Int)<=i by omega,bT,aq,gO hi,jE (n:=(i:Int)+1) gB gB];have fin:∀u:fP,u.length<=60->u=(if t[i]<0 then Tm.sig s t[i]else [t[i]])->gG True (if decide (60<((out++u).length:Int))=true then Option.map Sum.inr (some (([]:fP),false))else some (Sum.inl (out++u,(i:Int)+1)))
    (tC (fun q:fP×Int=>∃i:Nat,q.2=i/\i<=t.length/\q.1=sub (Tm.sig s) (t.take i)/\q.1.length<=60) (fun q:fP×Int=>t.length-q.2.toNat) (·=ud (rQ (Tm.sig s) t)) (t.length-i)):=fun u hu e=>by
    obtain⟨h4,h5⟩:=EL hi h2 e;by_cases h6:60<(out++u).length
    ·simp only[show(60:Int)<((out++u).length:Int) by omega,aW,aH,aT];refine .some ?_;simp only[tC,h4 h6,ud]
    ·simp only[show ¬(60:Int)<((out++u).length:Int) by omega,aZ,au,aG];exact .some ⟨⟨i+1,by simp,gB,h5,by simp only;omega⟩,by simp;omega⟩
   unfold oa;by_cases hn:t[i]<0
   ·have hi24:((-1-t[i]).toNat:Int)= -1-t[i]:=by omega
    simp only[show ¬0<=t[i] by omega,aZ,au,aG,jE (n:= -1-t[i]) gB gB];rw[<-hi24,CA hl gB,aa,aa];have hb:s.getD (-1-t[i]).toNat []=gZ s t[i]:=rfl;rw[hb];have hbl:(gZ s t[i]).length<=60:=hs _;by_cases h0:gZ s t[i]=[]
    ·simp only[h0,List.isEmpty_nil,aH,show(out.length+1)*8<=140737488355328 by omega];exact fin [t[i]] (by simp) (by rw[ah hn];unfold Tm.sig;rw[ah h0])
    ·have:¬(gZ s t[i]).isEmpty=true:=by simpa using h0
     simp only[this,aG,show(out.length+(gZ s t[i]).length)*8<=140737488355328 by omega,aH];exact fin (gZ s t[i]) hbl (by rw[ah hn];unfold Tm.sig;rw[az h0])
   ·simp only[show 0<=t[i] by omega,aW,aH,aa,List.isEmpty_nil,show(out.length+1)*8<=140737488355328 by omega];exact fin [t[i]] (by simp) (by rw[az hn])
  ·simp only[show ¬(i:Int)<t.length by omega,aZ,au,aG,aT];refine .some ?_;rw[bO gB]at h2;simp only[tC,rQ,<-h2,h3,aH,ud]
 exact key.eq
theorem sI{s:Bd}{t:fP}(hl:s.length<=24)(hs:∀u∈s,u.length<=60)(ht:t.length<=1000)(hx:∀x∈t, -24<=x):lC s t=some (ud (rQ (Tm.sig s) t)):=by
 have key:gG True (lC s t) (·=ud (rQ (Tm.sig s) t)):=by
  unfold lC;refine gG.loop (fun q:fP×Int=>∃i:Nat,q.2=i/\i<=t.length/\q.1=sub (Tm.sig s) (t.take i)/\q.1.length<=60) (fun q:fP×Int=>t.length-q.2.toNat) ⟨0,rfl,gB,by simp[sub],by simp⟩ ?_;rintro⟨out,_⟩ ⟨i,rfl,h1,h2,h3⟩;simp only at h2 h3;simp only[sJ];by_cases hi:i<t.length
  ·have hxi:=hx _ (aA hi);simp only[show(i:Int)<t.length by omega,aW,aH,show(0:Int)<=i by omega,bT,aq,gO hi,jE (n:=(i:Int)+1) gB gB];have fin:∀u:fP,u.length<=60->u=(if t[i]<0 then Tm.sig s t[i]else [t[i]])->gG True (if decide (60<((out++u).length:Int))=true then Option.map Sum.inr (some (([]:fP),false))else some (Sum.inl (out++u,(i:Int)+1)))
    (tC (fun q:fP×Int=>∃i:Nat,q.2=i/\i<=t.length/\q.1=sub (Tm.sig s) (t.take i)/\q.1.length<=60) (fun q:fP×Int=>t.length-q.2.toNat) (·=ud (rQ (Tm.sig s) t)) (t.length-i)):=fun u hu e=>by
    obtain⟨h4,h5⟩:=EL hi h2 e;by_cases h6:60<(out++u).length
    ·simp only[show(60:Int)<((out++u).length:Int) by omega,aW,aH,aT];refine .some ?_;simp only[tC,h4 h6,ud]
    ·simp only[show ¬(60:Int)<((out++u).length:Int) by omega,aZ,au,aG];exact .some ⟨⟨i+1,by simp,gB,h5,by simp only;omega⟩,by simp;omega⟩
   by_cases hn:t[i]<0
   ·have hi24:((-1-t[i]).toNat:Int)= -1-t[i]:=by omega
    simp only[hn,aW,aH,jE (n:= -1-t[i]) gB gB];rw[<-hi24,wH hs hl gB,aa,hi24];have hb:s.getD (-1-t[i]).toNat []=gZ s t[i]:=rfl;rw[hb];have hbl:(gZ s t[i]).length<=60:=C6 hs;by_cases h0:gZ s t[i]=[]
    ·simp only[h0,aH,bG,show(out.length+1)*8<=140737488355328 by omega,show -1-(-1-t[i])=t[i] by omega];exact fin [t[i]] (by simp) (by rw[ah hn];unfold Tm.sig;rw[ah h0])
    ·simp only[h0,aG,show(out.length+(gZ s t[i]).length)*8<=140737488355328 by omega,aH];exact fin (gZ s t[i]) hbl (by rw[ah hn];unfold Tm.sig;rw[az h0])
   ·simp only[hn,aZ,au,aG,show(out.length+1)*8<=140737488355328 by omega,aH];exact fin [t[i]] (by simp) (by rw[az hn])
  ·simp only[show ¬(i:Int)<t.length by omega,aZ,au,aG,aT];refine .some ?_;rw[bO gB]at h2;simp only[tC,rQ,<-h2,h3,aH,ud]
 exact key.eq
theorem sB{xs:List fP}(hl:xs.length<=3)(hs:∀u∈xs,u.length<=60):ic xs=some xs.flatten:=by
 have hfl:∀i,i<=xs.length->(xs.take i).flatten.length<=60*i:=fun i=>by
  induction i with
  |zero=>simp
  |succ i ih=>
   intro hi;have h1:i<xs.length:=by omega
   rw[dI,aB h1,bU,aj];have:=ih gB;have:=hs _ (aA h1);simp only[Option.toList_some,aS,bW,bg];omega
 have tk:∀i (h1:i<xs.length),(xs.take (i+1)).flatten=(xs.take i).flatten++xs[i]:=fun i h1=>by rw[dI,aB h1,bU];simp
 have key:gG True (ic xs) (·=xs.flatten):=by
  unfold ic;refine gG.loop (fun q:Int×Int=>∃i:Nat,q.2=i/\i<=xs.length/\q.1=((xs.take i).flatten.length:Int)) (fun q:Int×Int=>xs.length-q.2.toNat) ⟨0,rfl,gB,by simp⟩ ?_;rintro⟨_,_⟩ ⟨i,rfl,h1,rfl⟩;simp only[mF];have hb:=hfl i h1;by_cases hi:i<xs.length
  ·have hu:=hs _ (aA hi);simp only[show(i:Int)<xs.length by omega,aW,aH,show(0:Int)<=i by omega,bT,aq,gO hi,jE (n:=(i:Int)+1) gB gB,
    jE (n:=((xs.take i).flatten.length:Int)+(xs[i].length:Int)) gB gB,show ¬((xs.take i).flatten.length:Int)+(xs[i].length:Int)<0 by omega,aZ,au,aG]
   exact .some ⟨⟨i+1,by simp,gB,by rw[tk i hi];simp⟩,by simp;omega⟩
  ·simp only[show ¬(i:Int)<xs.length by omega,aZ,au,aG,om,show 0<=((xs.take i).flatten.length:Int)/\((xs.take i).flatten.length:Int)*8<=140737488355328 by omega,bT,aH,aa];refine gG.inr ?_;simp only[tC];refine gG.loop (fun q:fP×Int=>∃i:Nat,q.2=i/\i<=xs.length/\q.1=(xs.take i).flatten) (fun q:fP×Int=>xs.length-q.2.toNat) ⟨0,rfl,gB,by simp⟩ ?_;rintro⟨_,_⟩ ⟨j,rfl,h2,rfl⟩;simp only[mG];have hb:=hfl j h2;by_cases hj:j<xs.length
   ·have hu:=hs _ (aA hj);simp only[show(j:Int)<xs.length by omega,aW,aH,show(0:Int)<=j by omega,bT,aq,gO hj,jE (n:=(j:Int)+1) gB gB,
     show((xs.take j).flatten.length+xs[j].length)*8<=140737488355328 by omega]
    exact .some ⟨⟨j+1,by simp,gB,by rw[tk j hj]⟩,by simp;omega⟩
   ·simp only[show ¬(j:Int)<xs.length by omega,aZ,au,aG,aT];refine .some ?_;simp only[tC];rw[bO gB]
 exact key.eq
def Ht(a t:fP)(i:Nat)(v:fP):Option fP:=if(Jl a t i v).length<=60 then some (Jl a t i v)else none
theorem Ei{a p u s v:fP}(ha:iJ a=true)(hu:Wf a 1 u)(hm:∀x∈p++(u++s), -24<=x)(hl:(p++(u++s)).length<=60)(hv:v.length<=60):
 uo a (p++(u++s)) (p.length:Int) v=some (ud (Ht a (p++(u++s)) p.length v)):=by
 have hd:(p++(u++s)).drop p.length=u++s:=ck;have hl':=hl;simp only[aj]at hl';unfold uo;rw[ah (by simp only[aj];omega),si ha (by show List.length _<_;omega) hm (by simp),aa,xB hd hu];have e1:((p++(u++s)).length:Int)-s.length=((p.length+u.length:Nat):Int):=by simp;omega
 rw[e1,ah (by simp;omega),aq,aq,eZ,<-List.drop_drop,hd,ck];rw[sB (by simp) (by intro w hw;simp at hw;rcases hw with rfl|rfl|rfl<;>omega),aa];unfold Ht;rw[CR hu];have e2:[p,v,s].flatten=p++(v++s):=by simp
 rw[e2];by_cases h:(p++(v++s)).length<=60
 ·simp only[show ¬(60:Int)<((p++(v++s)).length:Int) by omega,aZ,au,aG,h,aH,ud]
 ·simp only[show(60:Int)<((p++(v++s)).length:Int) by omega,aW,aH,h,aG,ud]
theorem vo{a p u s v:fP}(ha:iJ a=true)(hu:Wf a 1 u)(hl:(p++(u++s)).length<=60)(hv:v.length<=60):
 oD a (p++(u++s)) (p.length:Int) v=some (ud (Ht a (p++(u++s)) p.length v)):=by
 have hd:(p++(u++s)).drop p.length=u++s:=ck;have hl':=hl;simp only[aj]at hl';unfold oD;rw[ah (by simp only[aj];omega),aq,eZ,qU (by show List.length _<_;omega),aa,ah gB,sn ha (by show List.length _<_;omega) (by simp),aa,xB hd hu];have e1:((p++(u++s)).length:Int)-s.length=((p.length+u.length:Nat):Int):=by simp;omega
 rw[e1,ah (by simp;omega),aq,<-List.drop_drop,hd,ck,ah (by simp;omega),aL];unfold Ht;rw[CR hu];by_cases h:(p++(v++s)).length<=60
 ·simp only[show ¬(60:Int)<((p++(v++s)).length:Int) by omega,aZ,au,aG,h,aH,ud]
 ·simp only[show(60:Int)<((p++(v++s)).length:Int) by omega,aW,aH,h,aG,ud]
abbrev Sys:=fP×List fR
theorem vS{s:Sys}:ru s=true<->iJ s.1=true/\s.2.length<=12/\∀r∈s.2,xh s.1 r=true:=by simp[ru]
theorem yp{a:fP}{r:fP×fP}:xh a r=true<->lS a r.1=true/\lS a r.2=true/\0<=r.1.headD 0/\∀x∈r.2,x<0->x∈r.1:=by simp only[xh,KK,bF,ak,cH]
def E5(s:Sys)(t:fP)(i rule:Nat):Option fP:=O5 s.1 (s.2.getD rule default).1 (s.2.getD rule default).2 t i
theorem Cv{b o:Bd}(hb:∀u∈b,u.length<=60)(h:∀i,o.getD i []=j_ b i):(∀i,(o.getD i []).length<=60)/\∀u∈o,u.length<=60:=by
 have h1:∀i,(o.getD i []).length<=60:=fun i=>by
  rw[h];unfold j_;split
  ·simp
  ·rw[av];cases hx:b[i]? with
   |none=>simp
   |some u=>exact hb u (bQ hx)
 refine⟨h1,fun u hu=>?_⟩;obtain⟨i,hi,rfl⟩:=cn hu;have:=h1 i;rwa [show o.getD i []=o[i]from gO hi]at this
theorem IS{b o:Bd}(h:∀i,o.getD i []=j_ b i)(t:fP):rQ (Tm.sig o) t=rQ (Tm.sig b) t:=by
 unfold rQ;rw[sub_congr fun x _ hx=>B3 h hx]
theorem HM{a l r p u s:fP}(hu:Wf a 1 u):O5 a l r (p++(u++s)) p.length=(BZ a l u sN).bind fun b=>(rQ (Tm.sig b) r).bind fun v=>Ht a (p++(u++s)) p.length v:=by
 unfold O5;rw[RZ hu];congr 1;funext b;unfold rQ Ht;by_cases h1:(sub (Tm.sig b) r).length<=60
 ·rw[ah h1,aa];by_cases h2:(Jl a (p++(u++s)) p.length (sub (Tm.sig b) r)).length<=60
  ·rw[ah ⟨h1,h2⟩,ah h2]
  ·rw[az (fun h=>h2 h.2),az h2]
 ·rw[az (fun h=>h1 h.1),az h1];rfl
abbrev YP:=Int×Int×Bool×fP
abbrev T2:=fP×List YP
abbrev Eqq:=fP×fP
def inB(eqs:List Eqq)(t:fP)(m:YP):Prop:=(0<=m.1/\m.1<eqs.length)/\(0<=m.2.1/\m.2.1<t.length)/\m.2.1<m.2.2.2.length
instance(eqs:List Eqq)(t:fP)(m:YP):Decidable (inB eqs t m):=by unfold inB;infer_instance
def xG(s:Int):List fP->fP
 |[]=>[]
 |u::us=>s::xG (s+u.length) us
theorem rV:∀(us:List fP)(s:Int),(xG s us).length=us.length
 |[],_=>rfl
 |u::us,s=>by simp[xG,rV us]
theorem B4:∀(us:List fP)(s:Int)(j:Nat)(_:j<us.length),xG s (us.take (j+1))=xG s (us.take j)++[s+((us.take j).flatten.length:Int)]
 |[],_,_,h=>by simp at h
 |u::us,s,0,_=>by simp[xG]
 |u::us,s,j+1,h=>by
  simp only[dP,xG];rw[B4 us _ j (by simpa using h)];simp;omega
theorem tZ:∀(us:List fP)(s:Int)(j:Nat)(_:j<us.length),(xG s us).getD j default=s+((us.take j).flatten.length:Int)
 |[],_,_,h=>by simp at h
 |u::us,s,0,_=>by simp[xG]
 |u::us,s,j+1,h=>by
  simp only[xG,er,dP];rw[tZ us _ j (by simpa using h)];simp;omega
theorem Dm{us:List fP}{j:Nat}(h:j<us.length):(us.take (j+1)).flatten=(us.take j).flatten++us[j]:=by rw[dI,aB h,bU];simp
theorem VX{x:Int}{us:List fP}{j:Nat}(hj:j<us.length):(x::us.flatten).drop (1+(us.take j).flatten.length)=us[j]++(us.drop (j+1)).flatten:=by
 rw[Nat.add_comm 1,List.drop_succ_cons];have e:us.flatten=(us.take j).flatten++(us[j]++(us.drop (j+1)).flatten):=by
  conv=>lhs;rw[<-bL j us,aK hj]
  rw[bU,aS]
 rw[e,ck]
theorem lP{a:fP}:∀{k:Nat}{r:fP},Wf a k r->∃us:List fP,us.length=k/\r=us.flatten/\∀u∈us,Wf a 1 u
 |0,r,h=>⟨[],rfl,by rw[h.zero];rfl,by simp⟩
 |k+1,r,h=>by
  rw[show k+1=1+k by omega]at h;obtain⟨u,v,rfl,h1,h2⟩:=h.split;obtain⟨us,h3,rfl,h4⟩:=lP h2;exact⟨u::us,by simp[h3],rfl,by simpa using⟨h1,h4⟩⟩
theorem lD{us:List fP}{u:fP}(h:u∈us):u.length<=us.flatten.length:=by
 induction us with
 |nil=>cases h
 |cons v us ih=>
  rw[aS,aj];rcases bu.1 h with rfl|h
  ·omega
  ·have:=ih h;omega
def Dl{α:Type}(p:α->Bool)(xs:List α):Int:=match xs.findIdx? p with|some j=>(j:Int)|none=> -1
theorem DN{α:Type}[Inhabited α]{xs:List α}{p:α->Bool}{f:Int->Option (Int⊕Int)}
 (h:∀(i:Nat)(x:α),i<xs.length->x∈xs->xs.getD i default=x->f (i:Int)=some (if p x=true then .inr (i:Int)else .inl ((i:Int)+1)))
 (he:f xs.length=some (.inr (-1))):gK f 0=some (Dl p xs):=by
 have key:∀(k i:Nat),i+k=xs.length->gK f (i:Int)=some (match(xs.drop i).findIdx? p with|some j=>((i+j:Nat):Int)|none=> -1):=by
  intro k;induction k with
  |zero=>
   intro i hi;obtain rfl:i=xs.length:=by omega
   rw[ij he,eN];rfl
  |succ k ih=>
   intro i hi;have hlt:i<xs.length:=by omega
   have e:=h i _ hlt (aA hlt) (gO hlt);rw[aK hlt,List.findIdx?_cons];cases hp:p (xs[i])with
   |true=>rw[hp]at e;rw[ij e];simp
   |false=>
    rw[hp]at e;rw[kX e,show((i:Int)+1)=((i+1:Nat):Int) by omega,ih (i+1) gB];cases hf:(xs.drop (i+1)).findIdx? p with
    |none=>simp
    |some j=>
     simp only[au,aG,aT];show some (((i+1+j:Nat):Int))=some (((i+(j+1):Nat):Int));rw[show i+1+j=i+(j+1) by omega]
 have:=key xs.length 0 gB;simp only[bP,bk]at this;exact this
theorem Ck{α:Type}{p:α->Bool}{xs:List α}(h:∀x∈xs,p x=false):Dl p xs= -1:=by
 unfold Dl;rw[List.findIdx?_eq_none_iff.2 h]
theorem EM{α:Type}{p:α->Bool}{xs:List α}{x:α}(hx:x∈xs)(hp:p x=true):0<=Dl p xs:=by
 unfold Dl;cases h:xs.findIdx? p with
 |none=>have:=List.findIdx?_eq_none_iff.1 h x hx;rw[hp]at this;cases this
 |some j=>simp only;omega
end Go.Proofs.YthdnkoejpdcnpaaGreat
namespace Go.Proofs.YthdnkoejpdcnpaaGreat
open Go Tm
theorem Vr{a:fP}{P:fP->Prop}(hv:∀x,x<0->yD a x->P [x])
 (hf:∀(x:Int)(us:List fP),0<=x->yD a x->us.length=od a x->(∀u∈us,Wf a 1 u)->(∀u∈us,P u)->P (x::us.flatten)):∀(n:Nat)(t:fP),t.length<=n->Wf a 1 t->P t
 |0,t,hl,h=>by have:=h.len;omega
 |n+1,t,hl,h=>by
  obtain⟨x,r,rfl,ho,hr⟩:=Wf.pos h;rw[bk]at hr;by_cases hx:x<0
  ·have:od a x=0:=by unfold od;rw[ah hx]
   rw[this]at hr;have:=hr.zero;subst this;exact hv x hx ho
  ·obtain⟨us,h1,rfl,h2⟩:=lP hr;refine hf x us gB ho h1 h2 fun u hu=>Vr hv hf n u ?_ (h2 u hu)
   have:=lD hu;simp only[ai]at hl;omega
def IG(a r:fP):fP×fP:=match Tm.skip a r 1 with
 |some s=>(r.take (r.length-s.length),s)
 |none=>(r,[])
theorem AR{a u v:fP}(hu:Wf a 1 u):IG a (u++v)=(u,v):=by
 unfold IG;rw[hu.skip v];simp
def prt(a:fP):Nat->fP->List fP
 |0,_=>[]
 |k+1,r=>(IG a r).1::prt a k (IG a r).2
theorem ym{a:fP}:∀{us:List fP},(∀u∈us,Wf a 1 u)->prt a us.length us.flatten=us
 |[],_=>rfl
 |u::us,h=>by rw[ai,prt,aS,AR (h u (by simp)),ym fun v hv=>h v (by simp[hv])]
def pts(a:fP)(f:Int):Nat->fP->List fP
 |0,t=>[t]
 |_+1,[]=>[[]]
 |n+1,x::r=>if x=f then pts a f n (IG a r).1++pts a f n (IG a r).2 else [x::r]
theorem DP{a:fP}{f x:Int}{r:fP}(h:x≠f):∀n,pts a f n (x::r)=[x::r]
 |0=>rfl
 |n+1=>by rw[pts,az h]
theorem DQ{a:fP}{f:Int}{n:Nat}{u v:fP}(hu:Wf a 1 u):pts a f (n+1) (f::(u++v))=pts a f n u++pts a f n v:=by rw[pts,ah rfl,AR hu]
def tA(a ac:fP):Prop:=∀f∈ac,0<=f/\od a f=2
theorem qN{us:List fP}(h:us.length=2):∃u v,us=[u,v]:=by
 match us,h with
 |[u,v],_=>exact⟨u,v,rfl⟩
theorem Bi{a:fP}{f:Int}(h2:od a f=2):∀(N:Nat){t:fP},t.length<=N->Wf a 1 t->∀n m,t.length<=n->t.length<=m->pts a f n t=pts a f m t
 |0,t,hl,h=>by have:=h.len;omega
 |N+1,t,hl,h=>by
  intro n m hn hm;obtain⟨x,r,rfl,ho,hr⟩:=Wf.pos h;by_cases hx:x=f
  ·subst hx;rw[bk,h2]at hr;obtain⟨us,h1,rfl,h3⟩:=lP hr;obtain⟨u,v,rfl⟩:=qN h1;simp only[aS,bW,bg,ai,aj]at hl hn hm⊢;obtain⟨n,rfl⟩:∃q,n=q+1:=⟨n-1,gB⟩;obtain⟨m,rfl⟩:∃q,m=q+1:=⟨m-1,gB⟩;have hu:=h3 u (by simp);have hv:=h3 v (by simp);rw[DQ hu,DQ hu,Bi h2 N gB hu n m gB gB,Bi h2 N gB hv n m gB gB]
  ·rw[DP hx,DP hx]
def parts(a:fP)(f:Int)(t:fP):List fP:=pts a f t.length t
theorem lJ{a:fP}{f x:Int}{r:fP}(h:x≠f):parts a f (x::r)=[x::r]:=DP h _
theorem nZ{a:fP}{f:Int}(h2:od a f=2){u v:fP}(hu:Wf a 1 u)(hv:Wf a 1 v):parts a f (f::(u++v))=parts a f u++parts a f v:=by
 unfold parts;rw[ai,DQ hu,Bi h2 _ (ay _) hu _ u.length (by simp) (ay _),Bi h2 _ (ay _) hv _ v.length (by simp) (ay _)]
theorem jD{a:fP}{f:Int}(h2:od a f=2)(h0:0<=f):∀(N:Nat){t:fP},t.length<=N->Wf a 1 t->
 parts a f t≠[]/\(∀u∈parts a f t,Wf a 1 u/\u.headD 0≠f/\u.length<=t.length)/\(parts a f t).length+(parts a f t).flatten.length=t.length+1
 |0,t,hl,h=>by have:=h.len;omega
 |N+1,t,hl,h=>by
  obtain⟨x,r,rfl,ho,hr⟩:=Wf.pos h;by_cases hx:x=f
  ·subst hx;rw[bk,h2]at hr;obtain⟨us,h1,rfl,h3⟩:=lP hr;obtain⟨u,v,rfl⟩:=qN h1;simp only[aS,bW,bg,ai,aj]at hl⊢;have hu:=h3 u (by simp);have hv:=h3 v (by simp);obtain⟨a1,a2,a3⟩:=jD h2 h0 N (t:=u) gB hu;obtain⟨b1,b2,b3⟩:=jD h2 h0 N (t:=v) gB hv;rw[nZ h2 hu hv];refine⟨by simp[a1],fun w hw=>?_,by simp only[aj,bU];omega⟩;rcases aI.1 hw with hw|hw
   ·exact⟨(a2 w hw).1,(a2 w hw).2.1,by have:=(a2 w hw).2.2;omega⟩
   ·exact⟨(b2 w hw).1,(b2 w hw).2.1,by have:=(b2 w hw).2.2;omega⟩
  ·rw[lJ hx];refine⟨by simp,fun w hw=>?_,by simp;omega⟩;rw[bh]at hw;subst hw;exact⟨h,by simpa using hx,ay _⟩
def xU(f:Int):List fP->fP
 |[]=>[]
 |[u]=>u
 |u::v::r=>f::(u++xU f (v::r))
theorem Fe{a:fP}{f:Int}(h2:od a f=2)(hf:yD a f):∀{us:List fP},us≠[]->(∀u∈us,Wf a 1 u)->Wf a 1 (xU f us)
 |[],h,_=>absurd rfl h
 |[u],_,h=>h u (by simp)
 |u::v::r,_,h=>by
  rw[xU,Wf.jZ (k:=0),h2];exact⟨hf,Wf.app (k:=1) (j:=1) (h u (by simp)) (Fe h2 hf (by simp) fun w hw=>h w (by simp[hw]))⟩
theorem CH{f:Int}:∀{us:List fP},us≠[]->(xU f us).length+1=us.length+us.flatten.length
 |[],h=>absurd rfl h
 |[u],_=>by simp[xU];omega
 |u::v::r,_=>by
  have:=CH (f:=f) (us:=v::r) (by simp);simp only[xU,ai,aj,aS]at this⊢;omega
theorem B0{a:fP}{f:Int}(h2:od a f=2)(hf:yD a f):∀{us:List fP},us≠[]->(∀u∈us,Wf a 1 u/\u.headD 0≠f)->parts a f (xU f us)=us
 |[],h,_=>absurd rfl h
 |[u],_,h=>by
  obtain⟨h1,h3⟩:=h u (by simp);obtain⟨x,r,rfl,_⟩:=Wf.pos h1;exact lJ (by simpa using h3)
 |u::v::r,_,h=>by
  obtain⟨h1,h3⟩:=h u (by simp);have hw:Wf a 1 (xU f (v::r)):=Fe h2 hf (by simp) fun w hw=>(h w (by simp[hw])).1
  rw[xU,nZ h2 h1 hw,B0 h2 hf (by simp) fun w hw=>h w (by simp[hw])];obtain⟨x,q,rfl,_⟩:=Wf.pos h1;rw[lJ (by simpa using h3)];rfl
theorem oE{a:fP}{f:Int}(h2:od a f=2)(h0:0<=f){t:fP}(h:Wf a 1 t)(hh:t.headD 0=f):(∀w∈parts a f t,w.length<t.length)/\2<=(parts a f t).length:=by
 obtain⟨x,r,rfl,ho,hr⟩:=Wf.pos h;have hx:x=f:=by simpa using hh
 subst hx;rw[bk,h2]at hr;obtain⟨us,h1,rfl,h3⟩:=lP hr;obtain⟨u,v,rfl⟩:=qN h1;have hu:=h3 u (by simp);have hv:=h3 v (by simp);simp only[aS,bW,bg,ai,aj];obtain⟨a1,a2,_⟩:=jD h2 h0 _ (ay _) hu;obtain⟨b1,b2,_⟩:=jD h2 h0 _ (ay _) hv;rw[nZ h2 hu hv];have l1:0<(parts a x u).length:=bM.2 a1;have l2:0<(parts a x v).length:=bM.2 b1;refine⟨fun w hw=>?_,by simp only[aj];omega⟩;rcases aI.1 hw with hw|hw
 ·have:=(a2 w hw).2.2;omega
 ·have:=(b2 w hw).2.2;omega
def Nw(a ac:fP):Nat->fP->fP
 |0,t=>t
 |_+1,[]=>[]
 |n+1,x::r=>if x∈ac then xU x (jK ((parts a x (x::r)).map (Nw a ac n)))else x::((prt a (od a x) r).map (Nw a ac n)).flatten
theorem A2{a ac:fP}(hac:tA a ac):∀(N:Nat){t:fP},t.length<=N->Wf a 1 t->∀n m,t.length<=n->t.length<=m->Nw a ac n t=Nw a ac m t
 |0,t,hl,h=>by have:=h.len;omega
 |N+1,t,hl,h=>by
  intro n m hn hm;obtain⟨x,r,rfl,ho,hr⟩:=Wf.pos h;rw[bk]at hr;obtain⟨n,rfl⟩:∃q,n=q+1:=⟨n-1,by simp only[ai]at hn;omega⟩;obtain⟨m,rfl⟩:∃q,m=q+1:=⟨m-1,by simp only[ai]at hm;omega⟩;by_cases hx:x∈ac
  ·obtain⟨h0,h2⟩:=hac x hx;rw[Nw,Nw,ah hx,ah hx];congr 2;refine b_ fun w hw=>?_
   have h4:=(jD h2 h0 _ (ay _) h).2.1 w hw;have h5:=(oE h2 h0 h rfl).1 w hw;exact A2 hac N gB h4.1 n m gB gB
  ·rw[Nw,Nw,az hx,az hx];obtain⟨us,h1,rfl,h3⟩:=lP hr;congr 2;rw[<-h1,ym h3];refine b_ fun w hw=>?_
   have:=lD hw;simp only[ai]at hl hn hm;exact A2 hac N gB (h3 w hw) n m gB gB
def form(a ac t:fP):fP:=Nw a ac t.length t
section
variable{a ac:fP}(hac:tA a ac)
include hac
theorem qZ{x:Int}{r:fP}(hx:x∈ac)(h:Wf a 1 (x::r)):form a ac (x::r)=xU x (jK ((parts a x (x::r)).map (form a ac))):=by
 obtain⟨h0,h2⟩:=hac x hx;rw[form,ai,Nw,ah hx];congr 2;refine b_ fun w hw=>?_
 have h4:=(jD h2 h0 _ (ay _) h).2.1 w hw;have h5:=(oE h2 h0 h rfl).1 w hw;simp only[ai]at h5;exact A2 hac _ (ay _) h4.1 _ _ gB (ay _)
theorem q_{x:Int}{us:List fP}(hx:x∉ac)(hl:us.length=od a x)(h:∀u∈us,Wf a 1 u):form a ac (x::us.flatten)=x::(us.map (form a ac)).flatten:=by
 rw[form,ai,Nw,az hx,<-hl,ym h];congr 2;refine b_ fun w hw=>?_
 have:=lD hw;exact A2 hac _ (ay _) (h w hw) _ _ gB (ay _)
end
theorem qY{l:List fP}{g:fP->fP}(h:∀u∈l,(g u).length=u.length):(l.map g).flatten.length=l.flatten.length:=by
 induction l with
 |nil=>rfl
 |cons u l ih=>simp only[aX,aS,aj,h u (by simp),ih fun v hv=>h v (by simp[hv])]
theorem Bw{a:fP}:∀{us:List fP},(∀u∈us,Wf a 1 u)->Wf a us.length us.flatten
 |[],_=>Wf.nil
 |u::us,h=>by
  rw[ai,aS,Nat.add_comm];exact Wf.app (h u (by simp)) (Bw fun v hv=>h v (by simp[hv]))
theorem xl{l:List fP}:(jK l).flatten.length=l.flatten.length:=by
 have:=(iO l).flatten.length_eq;exact this
theorem ku{a ac:fP}(hac:tA a ac):∀(N:Nat){t:fP},t.length<=N->Wf a 1 t->Wf a 1 (form a ac t)/\(form a ac t).length=t.length/\(form a ac t).headD 0=t.headD 0
 |0,t,hl,h=>by have:=h.len;omega
 |N+1,t,hl,h=>by
  obtain⟨x,r,rfl,ho,hr⟩:=Wf.pos h;rw[bk]at hr;by_cases hx:x∈ac
  ·obtain⟨h0,h2⟩:=hac x hx;obtain⟨p1,p2,p3⟩:=jD h2 h0 _ (ay _) h;obtain⟨q1,q2⟩:=oE h2 h0 h rfl;have ih:∀w∈parts a x (x::r),Wf a 1 (form a ac w)/\(form a ac w).length=w.length/\(form a ac w).headD 0=w.headD 0:=fun w hw=>
    ku hac N (by have:=q1 w hw;omega) (p2 w hw).1
   rw[qZ hac hx h];have hs:∀u∈jK ((parts a x (x::r)).map (form a ac)),Wf a 1 u:=fun u hu=>by
    obtain⟨w,hw,rfl⟩:=a_.1 ((iO _).mem_iff.1 hu);exact(ih w hw).1
   have hl2:(jK ((parts a x (x::r)).map (form a ac))).length=(parts a x (x::r)).length:=by rw[pF,aM]
   have hne:jK ((parts a x (x::r)).map (form a ac))≠[]:=by intro e;rw[e]at hl2;simp at hl2;omega
   refine⟨Fe h2 ho hne hs,?_,?_⟩
   ·have:=CH (f:=x) hne;rw[xl,hl2,qY fun u hu=>(ih u hu).2.1]at this;omega
   ·revert hl2;generalize jK ((parts a x (x::r)).map (form a ac))=l;intro hl2
    match l,hl2 with
    |[],e=>simp at e;omega
    |[_],e=>simp at e;omega
    |_::_::_,_=>rfl
  ·obtain⟨us,h1,rfl,h3⟩:=lP hr;rw[q_ hac hx h1 h3];have ih:∀w∈us,Wf a 1 (form a ac w)/\(form a ac w).length=w.length/\(form a ac w).headD 0=w.headD 0:=fun w hw=>
    ku hac N (by have:=lD hw;simp only[ai]at hl;omega) (h3 w hw)
   refine⟨?_,?_,rfl⟩
   ·rw[Wf.jZ (k:=0),bk];refine⟨ho,?_⟩;have:=Bw (us:=us.map (form a ac)) fun u hu=>by
     obtain⟨w,hw,rfl⟩:=a_.1 hu;exact(ih w hw).1
    rwa [aM,h1]at this
   ·simp only[ai];rw[qY fun u hu=>(ih u hu).2.1]
theorem uE{a ac:fP}(hac:tA a ac){x:Int}{r:fP}(hx:x∈ac)(h:Wf a 1 (x::r)):parts a x (form a ac (x::r))=jK ((parts a x (x::r)).map (form a ac)):=by
 obtain⟨h0,h2⟩:=hac x hx;have ho:=(Wf.jZ (k:=0).1 h).1;obtain⟨p1,p2,p3⟩:=jD h2 h0 _ (ay _) h;rw[qZ hac hx h];refine B0 h2 ho ?_ fun u hu=>?_
 ·intro e;have:=pF (xs:=(parts a x (x::r)).map (form a ac));rw[e,aM]at this;exact p1 (bZ this.symm)
 ·obtain⟨w,hw,rfl⟩:=a_.1 ((iO _).mem_iff.1 hu);have:=ku hac _ (ay _) (p2 w hw).1;exact⟨this.1,by rw[this.2.2];exact(p2 w hw).2.1⟩
theorem yt{l:List fP}(h:l.Pairwise fun a b=>lR a b<=0):jK l=l:=nL (iO _) (jw _) h
theorem zH{a ac:fP}(hac:tA a ac):∀(N:Nat){t:fP},t.length<=N->Wf a 1 t->form a ac (form a ac t)=form a ac t
 |0,t,hl,h=>by have:=h.len;omega
 |N+1,t,hl,h=>by
  obtain⟨x,r,rfl,ho,hr⟩:=Wf.pos h;rw[bk]at hr;by_cases hx:x∈ac
  ·obtain⟨h0,h2⟩:=hac x hx;obtain⟨p1,p2,p3⟩:=jD h2 h0 _ (ay _) h;obtain⟨q1,q2⟩:=oE h2 h0 h rfl;obtain⟨f1,f2,f3⟩:=ku hac _ (ay _) h;obtain⟨y,q,e,_⟩:=Wf.pos f1;have hy:y=x:=by rw[e]at f3;simpa using f3
   subst hy;have hp:=uE hac hx h;rw[e]at f1 hp⊢;rw[qZ hac hx f1,hp,<-e,qZ hac hx h];congr 1;have:(jK ((parts a y (y::r)).map (form a ac))).map (form a ac)=jK ((parts a y (y::r)).map (form a ac)):=by
    refine(b_ fun w hw=>?_).trans (List.map_id _);obtain⟨v,hv,rfl⟩:=a_.1 ((iO _).mem_iff.1 hw);exact zH hac N (by have:=q1 v hv;omega) (p2 v hv).1
   rw[this,yt (jw _)]
  ·obtain⟨us,h1,rfl,h3⟩:=lP hr;rw[q_ hac hx h1 h3];have hw:∀u∈us.map (form a ac),Wf a 1 u:=fun u hu=>by
    obtain⟨w,hw,rfl⟩:=a_.1 hu;exact(ku hac _ (ay _) (h3 w hw)).1
   rw[q_ hac hx (by rw[aM,h1]) hw,dh];congr 2;refine b_ fun w hw=>?_
   exact zH hac N (by have:=lD hw;simp only[ai]at hl;omega) (h3 w hw)
def Sf(a ac u:fP):Prop:=Wf a 1 u/\form a ac u=u
theorem Sf.ne{a ac u:fP}(h:Sf a ac u):u≠[]:=h.1.ne
theorem ri{a ac t:fP}(hac:tA a ac)(h:Wf a 1 t):Sf a ac (form a ac t):=⟨(ku hac _ (ay _) h).1,zH hac _ (ay _) h⟩
theorem va{l:List fP}{g:fP->fP}(h:∀u∈l,g u=u):l.map g=l:=(b_ h).trans (List.map_id _)
theorem qM{a ac:fP}(hac:tA a ac){f:Int}(hf:f∈ac){u:fP}(h:Sf a ac u):
 (∀w∈parts a f u,Sf a ac w/\w.headD 0≠f)/\(parts a f u).Pairwise (fun a b=>lR a b<=0)/\parts a f u≠[]/\xU f (parts a f u)=u:=by
 obtain⟨h0,h2⟩:=hac f hf;obtain⟨hw,he⟩:=h;obtain⟨x,r,rfl,ho,hr⟩:=Wf.pos hw;by_cases hx:x=f
 ·subst hx;have hp:=uE hac hf hw;rw[he]at hp;obtain⟨p1,p2,_⟩:=jD h2 h0 _ (ay _) hw;refine⟨fun w hq=>⟨?_,(p2 w hq).2.1⟩,by rw[hp];exact jw _,p1,?_⟩
  ·rw[hp]at hq;obtain⟨v,hv,rfl⟩:=a_.1 ((iO _).mem_iff.1 hq);exact ri hac (p2 v hv).1
  ·rw[hp,<-qZ hac hf hw,he]
 ·rw[lJ hx];refine⟨fun w hq=>?_,by simp,by simp,rfl⟩;rw[bh]at hq;subst hq;exact⟨⟨hw,he⟩,by simpa using hx⟩
theorem Vf{a ac:fP}(hac:tA a ac){f:Int}(hf:f∈ac)(ho:yD a f){S:List fP}(hne:S≠[])(hs:S.Pairwise fun a b=>lR a b<=0)(h:∀w∈S,Sf a ac w/\w.headD 0≠f):
 Sf a ac (xU f S)/\parts a f (xU f S)=S:=by
 obtain⟨h0,h2⟩:=hac f hf;have hp:=B0 h2 ho hne fun w hw=>⟨(h w hw).1.1,(h w hw).2⟩
 have hw:=Fe h2 ho hne fun w hw=>(h w hw).1.1
 refine⟨⟨hw,?_⟩,hp⟩
 match S,hne,hp,hw,h with
 |[u],_,_,_,h=>exact(h u (by simp)).1.2
 |u::v::r,_,hp,hw,h=>
  rw[xU]at hp hw⊢;rw[qZ hac hf hw,hp,va fun w hq=>(h w hq).1.2,yt hs,xU]
theorem sub_one{σ:Int->fP}{x:Int}(hx:x<0):Tm.sub σ [x]=σ x:=by rw[vh,ah hx,RE,bg]
theorem rj{σ:Int->fP}{x:Int}{r:fP}(hx:¬x<0):Tm.sub σ (x::r)=x::Tm.sub σ r:=by rw[vh,az hx];rfl
theorem Bq{σ:Int->fP}:∀us:List fP,Tm.sub σ us.flatten=(us.map (Tm.sub σ)).flatten
 |[]=>rfl
 |u::us=>by rw[aS,CU,Bq us];rfl
theorem vQ{a:fP}{f:Int}(h2:od a f=2)(h0:0<=f){σ:Int->fP}:∀(N:Nat){p:fP},p.length<=N->Wf a 1 p->(∀x∈p,x<0->Wf a 1 (σ x))->
 parts a f (Tm.sub σ p)=(parts a f p).flatMap fun q=>parts a f (Tm.sub σ q)
 |0,p,hl,h,_=>by have:=h.len;omega
 |N+1,p,hl,h,hσ=>by
  obtain⟨x,r,rfl,ho,hr⟩:=Wf.pos h;by_cases hx:x=f
  ·subst hx;rw[bk,h2]at hr;obtain⟨us,h1,rfl,h3⟩:=lP hr;obtain⟨u,v,rfl⟩:=qN h1;have hu:=h3 u (by simp);have hv:=h3 v (by simp);simp only[aS,bW,bg,ai,aj]at hl hσ⊢;have su:∀y∈u,y<0->Wf a 1 (σ y):=fun y hy=>hσ y (by simp[hy])
   have sv:∀y∈v,y<0->Wf a 1 (σ y):=fun y hy=>hσ y (by simp[hy])
   rw[rj gB,CU,nZ h2 (hu.sub su) (hv.sub sv),nZ h2 hu hv,List.flatMap_append,vQ h2 h0 N gB hu su,vQ h2 h0 N gB hv sv]
  ·rw[lJ hx,bJ,eM,bg]
theorem If{g g':Bd}(hl:g.length=g'.length)(h:∀x:Int,x<0->gZ g x=gZ g' x):g=g':=by
 refine dA hl fun i h1 h2=>?_
 have:=h (-1-(i:Int)) gB;unfold gZ at this;rw[show(-1-(-1-(i:Int))).toNat=i by omega]at this;simpa[av,h1,h2]using this
theorem AN{g:Bd}{x:Int}{u:fP}:(gM g x u).length=g.length:=by simp[gM]
def AF(a ac:fP)(g:Bd):Prop:=g.length=24/\∀x,x<0->gZ g x≠[]->Sf a ac (gZ g x)
structure Ext(a ac:fP)(g g':Bd)(vs:fP):Prop where
 len:g'.length=g.length
 keep:∀x,x<0->gZ g x≠[]->gZ g' x=gZ g x
 out:∀x,x<0->x∉vs->gZ g' x=gZ g x
 sf:∀x∈vs,x<0->Sf a ac (gZ g' x)
theorem Ext.ok{a ac:fP}{g g':Bd}{vs:fP}(h:Ext a ac g g' vs)(hg:AF a ac g):AF a ac g':=
 ⟨h.len.trans hg.1,fun x hx hn=>by
  by_cases hv:x∈vs
  ·exact h.sf x hv hx
  ·rw[h.out x hx hv]at hn⊢;exact hg.2 x hx hn⟩
theorem Ext.wf{a ac:fP}{g g':Bd}{vs:fP}(h:Ext a ac g g' vs):∀x∈vs,x<0->Wf a 1 (gZ g' x):=fun x hv hx=>(h.sf x hv hx).1
theorem Ext.mem{a ac:fP}{g g':Bd}{vs ws:fP}(h:Ext a ac g g' vs)(hm:∀x,x<0->(x∈vs<->x∈ws)):Ext a ac g g' ws:=
 ⟨h.len,h.keep,fun x hx hv=>h.out x hx fun hw=>hv ((hm x hx).1 hw),fun x hv hx=>h.sf x ((hm x hx).2 hv) hx⟩
def LQ(g g'':Bd)(vs:fP):Bd:=(List.range g.length).map fun i:Nat=>if(-1-(i:Int))∈vs then g''.getD i []else g.getD i []
theorem OG{g g'':Bd}(hl:g''.length=g.length){vs:fP}{x:Int}(hx:x<0):gZ (LQ g g'' vs) x=if x∈vs then gZ g'' x else gZ g x:=by
 unfold gZ LQ;by_cases hi:(-1-x).toNat<g.length
 ·rw[av,bq,dy hi];simp only[aT,Option.getD_some];rw[show(-1-(((-1-x).toNat:Nat):Int))=x by omega]
 ·have e:∀b:Bd,b.length=g.length->b.getD (-1-x).toNat []=[]:=fun b hb=>by rw[av,bI gB];rfl
  rw[e _ (by simp),e _ hl,e _ rfl];split<;>rfl
theorem Ext.split{a ac:fP}{g g'':Bd}{vs ws:fP}(hg:AF a ac g):Ext a ac g g'' (vs++ws)<->∃g',Ext a ac g g' vs/\Ext a ac g' g'' ws:=by
 constructor
 ·intro h;have e:∀x,x<0->gZ (LQ g g'' vs) x=if x∈vs then gZ g'' x else gZ g x:=fun x hx=>OG h.len hx
  have l:(LQ g g'' vs).length=g.length:=by simp[LQ]
  refine⟨LQ g g'' vs,⟨l,fun x hx hn=>?_,fun x hx hv=>by rw[e x hx,az hv],fun x hv hx=>?_⟩,⟨h.len.trans l.symm,fun x hx hn=>?_,fun x hx hv=>?_,fun x hv hx=>h.sf x (cT _ hv) hx⟩⟩
  ·rw[e x hx];split
   ·exact h.keep x hx hn
   ·rfl
  ·rw[e x hx,ah hv];exact h.sf x (bz _ hv) hx
  ·rw[e x hx]at hn⊢;by_cases hv:x∈vs
   ·rw[ah hv]
   ·rw[az hv]at hn⊢;exact h.keep x hx hn
  ·rw[e x hx];by_cases hv2:x∈vs
   ·rw[ah hv2]
   ·rw[az hv2];exact h.out x hx (by simp[hv,hv2])
 ·rintro⟨g',h1,h2⟩;refine⟨h2.len.trans h1.len,fun x hx hn=>?_,fun x hx hv=>?_,fun x hv hx=>?_⟩
  ·rw[h2.keep x hx (by rw[h1.keep x hx hn];exact hn),h1.keep x hx hn]
  ·rw[h2.out x hx fun h=>hv (cT _ h),h1.out x hx fun h=>hv (bz _ h)]
  ·by_cases hw:x∈ws
   ·exact h2.sf x hw hx
   ·have hv':x∈vs:=(aI.1 hv).resolve_right hw;rw[h2.out x hx hw];exact h1.sf x hv' hx
theorem Ext.nil{a ac:fP}{g g':Bd}:Ext a ac g g' []<->g'=g:=by
 constructor
 ·intro h;exact If h.len fun x hx=>h.out x hx (by simp)
 ·rintro rfl;exact⟨rfl,fun _ _ _=>rfl,fun _ _ _=>rfl,fun x hv=>by cases hv⟩
theorem Ext.same{a ac:fP}{g g' g'':Bd}{vs ws:fP}(h1:Ext a ac g g' vs)(h2:Ext a ac g' g'' ws){p:fP}(hp:∀x∈p,x<0->x∈vs):Tm.sub (gZ g'') p=Tm.sub (gZ g') p:=
 sub_congr fun x hx h0=>h2.keep x h0 (h1.sf x (hp x hx h0) h0).ne
def RM(a ac p t:fP)(g g':Bd):Prop:=Ext a ac g g' p/\form a ac (Tm.sub (gZ g') p)=t
def RA(a ac:fP)(ps ts:List fP)(g g':Bd):Prop:=Ext a ac g g' ps.flatten/\ps.map (fun p=>form a ac (Tm.sub (gZ g') p))=ts
def RS(a ac:fP)(f:Int)(ps ts:List fP)(g g':Bd):Prop:=Ext a ac g g' ps.flatten/\((ps.flatMap fun q=>parts a f (Tm.sub (gZ g') q)).map (form a ac)).Perm ts
section
variable{a ac:fP}(hac:tA a ac)
include hac
theorem zG{g g':Bd}(hg:AF a ac g){x:Int}(hx:x<0)(h24: -24<=x):Ext a ac g g' [x]<->(gZ g x=[]/\∃u,Sf a ac u/\g'=gM g x u)\/(gZ g x≠[]/\g'=g):=by
 have hb:∀u m,m<0->gZ (gM g x u) m=if m=x then u else gZ g m:=fun u m hm=>qg hx (by rw[hg.1];omega) hm
 constructor
 ·intro h;by_cases he:gZ g x=[]
  ·refine .inl ⟨he,gZ g' x,h.sf x (by simp) hx,If (by rw[AN];exact h.len) fun m hm=>?_⟩;rw[hb _ m hm];split
   ·rename_i e;rw[e]
   ·rename_i e;exact h.out m hm (by simpa using e)
  ·refine .inr ⟨he,If h.len fun m hm=>?_⟩;by_cases e:m=x
   ·rw[e];exact h.keep x hx he
   ·exact h.out m hm (by simpa using e)
 ·rintro(⟨he,u,hu,rfl⟩|⟨he,rfl⟩)
  ·refine⟨AN,fun m hm hn=>?_,fun m hm hv=>?_,fun m hv hm=>?_⟩
   ·rw[hb _ m hm,az (fun e=>hn (by rw[e];exact he))]
   ·rw[hb _ m hm,az (by simpa using hv)]
   ·rw[hb _ m hm,ah (by simpa using hv)];exact hu
  ·exact⟨rfl,fun _ _ _=>rfl,fun _ _ _=>rfl,fun m hv hm=>by
    have:m=x:=by simpa using hv
    subst this;exact hg.2 m hm he⟩
theorem xI{g g':Bd}(hg:AF a ac g){x:Int}(hx:x<0)(h24: -24<=x){t:fP}(ht:Sf a ac t)(he:gZ g x=[]):RM a ac [x] t g g'<->g'=gM g x t:=by
 have hb:∀u,gZ (gM g x u) x=u:=fun u=>by rw[qg hx (by rw[hg.1];omega) hx,ah rfl]
 unfold RM;rw[zG hac hg hx h24,sub_one hx];constructor
 ·rintro⟨⟨_,u,hu,rfl⟩|⟨h,_⟩,h2⟩
  ·rw[hb,hu.2]at h2;rw[h2]
  ·exact absurd he h
 ·rintro rfl;exact⟨.inl ⟨he,t,ht,rfl⟩,by rw[hb,ht.2]⟩
theorem As{g g':Bd}(hg:AF a ac g){x:Int}(hx:x<0)(h24: -24<=x){t:fP}(he:gZ g x≠[]):RM a ac [x] t g g'<->gZ g x=t/\g'=g:=by
 unfold RM;rw[zG hac hg hx h24,sub_one hx];constructor
 ·rintro⟨⟨h,_⟩|⟨_,rfl⟩,h2⟩
  ·exact absurd h he
  ·rw[(hg.2 x hx he).2]at h2;exact⟨h2,rfl⟩
 ·rintro⟨h2,rfl⟩;exact⟨.inr ⟨he,rfl⟩,by rw[(hg.2 x hx he).2];exact h2⟩
end
theorem Dn{a:fP}{us vs:List fP}(hl:us.length=vs.length)(hu:∀u∈us,Wf a 1 u)(hv:∀u∈vs,Wf a 1 u)(h:us.flatten=vs.flatten):us=vs:=by rw[<-ym hu,<-ym hv,h,hl]
theorem uF{a:fP}{f:Int}(h2:od a f=2)(h0:0<=f):∀(N:Nat){p:fP},p.length<=N->Wf a 1 p->∀x:Int,x<0->(x∈p<->x∈(parts a f p).flatten)
 |0,p,hl,h=>by have:=h.len;omega
 |N+1,p,hl,h=>by
  intro z hz;obtain⟨x,r,rfl,ho,hr⟩:=Wf.pos h;by_cases hx:x=f
  ·subst hx;rw[bk,h2]at hr;obtain⟨us,h1,rfl,h3⟩:=lP hr;obtain⟨u,v,rfl⟩:=qN h1;have hu:=h3 u (by simp);have hv:=h3 v (by simp);simp only[aS,bW,bg,ai,aj]at hl⊢;rw[nZ h2 hu hv,bU,aI,bu,aI,uF h2 h0 N gB hu z hz,uF h2 h0 N gB hv z hz];constructor
   ·rintro(h|h)
    ·omega
    ·exact h
   ·exact .inr
  ·rw[lJ hx];simp
theorem OB{a:fP}{f:Int}(h2:od a f=2)(h0:0<=f){p:fP}(h:Wf a 1 p):∀u∈parts a f p,Wf a 1 u/\u.headD 0≠f:=fun u hu=>
 ⟨((jD h2 h0 _ (ay _) h).2.1 u hu).1,((jD h2 h0 _ (ay _) h).2.1 u hu).2.1⟩
section
variable{a ac:fP}(hac:tA a ac)
include hac
theorem Kr{y:Int}{r t:fP}{g g':Bd}(hp:Wf a 1 (y::r))(hy:0<=y)(h:RM a ac (y::r) t g g'):t.headD 0=y:=by
 have hw:Wf a 1 (Tm.sub (gZ g') (y::r)):=hp.sub h.1.wf;rw[<-h.2,(ku hac _ (ay _) hw).2.2,rj gB];rfl
theorem OK{x:Int}{ps ts:List fP}{g g':Bd}(hx:x∉ac)(h0:0<=x)(hl:ps.length=od a x)(hp:∀p∈ps,Wf a 1 p)(hl':ts.length=od a x)(ht:∀t∈ts,Wf a 1 t):
 RM a ac (x::ps.flatten) (x::ts.flatten) g g'<->RA a ac ps ts g g':=by
 have hm:∀z:Int,z<0->(z∈x::ps.flatten<->z∈ps.flatten):=fun z hz=>by rw[bu];exact⟨fun h=>h.resolve_left gB,.inr⟩
 have key:Ext a ac g g' ps.flatten->form a ac (Tm.sub (gZ g') (x::ps.flatten))=x::(ps.map fun p=>form a ac (Tm.sub (gZ g') p)).flatten/\∀u∈ps.map (fun p=>form a ac (Tm.sub (gZ g') p)),Wf a 1 u:=fun h=>by
  have hs:∀p∈ps,Wf a 1 (Tm.sub (gZ g') p):=fun p hq=>(hp p hq).sub fun z hz h0=>h.wf z (cc.2 ⟨p,hq,hz⟩) h0
  refine⟨?_,fun u hu=>?_⟩
  ·rw[rj gB,Bq,q_ hac hx (by rw[aM,hl]) fun u hu=>?_,dh]
   ·rfl
   ·obtain⟨p,hq,rfl⟩:=a_.1 hu;exact hs p hq
  ·obtain⟨p,hq,rfl⟩:=a_.1 hu;exact(ku hac _ (ay _) (hs p hq)).1
 constructor
 ·rintro⟨h1,h2⟩;have h1:=h1.mem hm;obtain⟨k1,k2⟩:=key h1;rw[k1]at h2;exact⟨h1,Dn (by rw[aM,hl,hl']) k2 ht (by simpa using h2)⟩
 ·rintro⟨h1,h2⟩;obtain⟨k1,k2⟩:=key h1;exact⟨h1.mem fun z hz=>(hm z hz).symm,by rw[k1,h2]⟩
theorem OJ{x:Int}{r t:fP}{g g':Bd}(hx:x∈ac)(hp:Wf a 1 (x::r))(ht:Sf a ac t)(hh:t.headD 0=x):RM a ac (x::r) t g g'<->RS a ac x (parts a x (x::r)) (parts a x t) g g':=by
 obtain⟨h0,h2⟩:=hac x hx;have hm:=uF h2 h0 _ (ay _) hp;obtain⟨s1,s2,s3,s4⟩:=qM hac hx ht;have key:Ext a ac g g' (x::r)->(form a ac (Tm.sub (gZ g') (x::r))=t<->(((parts a x (x::r)).flatMap fun q=>parts a x (Tm.sub (gZ g') q)).map (form a ac)).Perm (parts a x t)):=fun h=>by
  have hw:Wf a 1 (Tm.sub (gZ g') (x::r)):=hp.sub h.wf;have e:=vQ h2 h0 _ (ay _) hp h.wf;rw[rj gB]at hw e⊢;have hf:=uE hac hx hw;rw[<-e];constructor
  ·intro h3;rw[h3]at hf;rw[hf];exact(iO _).symm
  ·intro h3;have h4:jK ((parts a x (x::Tm.sub (gZ g') r)).map (form a ac))=parts a x t:=nL ((iO _).trans h3) (jw _) s2;rw[qZ hac hx hw,h4,s4]
 constructor
 ·rintro⟨h1,h3⟩;exact⟨h1.mem hm,(key h1).1 h3⟩
 ·rintro⟨h1,h3⟩;have h1':=h1.mem fun z hz=>(hm z hz).symm
  exact⟨h1',(key h1').2 h3⟩
theorem Jm{ts:List fP}{g g':Bd}:RA a ac [] ts g g'<->ts=[]/\g'=g:=by
 unfold RA;rw[bW,Ext.nil,dg];exact⟨fun h=>⟨h.2.symm,h.1⟩,fun h=>⟨h.2,h.1.symm⟩⟩
theorem Kp{p t:fP}{ps ts:List fP}{g g'':Bd}(hg:AF a ac g):RA a ac (p::ps) (t::ts) g g''<->∃g',RM a ac p t g g'/\RA a ac ps ts g' g'':=by
 unfold RA RM;rw[aS,Ext.split hg];constructor
 ·rintro⟨⟨g',h1,h2⟩,h3⟩;simp only[aX,dQ]at h3;rw[h1.same h2 fun x hx _=>hx]at h3;exact⟨g',⟨h1,h3.1⟩,h2,h3.2⟩
 ·rintro⟨g',⟨h1,h3⟩,h2,h4⟩;refine⟨⟨g',h1,h2⟩,?_⟩;simp only[aX,dQ];rw[h1.same h2 fun x hx _=>hx];exact⟨h3,h4⟩
theorem DS{f:Int}{ts:List fP}{g g':Bd}:RS a ac f [] ts g g'<->ts=[]/\g'=g:=by
 unfold RS;rw[bW,Ext.nil,eM,dg,List.nil_perm];exact⟨fun h=>⟨h.2,h.1⟩,fun h=>⟨h.2,h.1⟩⟩
theorem sy{f:Int}{ps ps' ts ts':List fP}{g g':Bd}(hp:ps.Perm ps')(ht:ts.Perm ts')(h:RS a ac f ps ts g g'):RS a ac f ps' ts' g g':=
 ⟨h.1.mem fun x _=>hp.flatten.mem_iff,(((hp.flatMap_right _).map _).symm.trans h.2).trans ht⟩
theorem FR{f:Int}{p:fP}{ps ts:List fP}{g g'':Bd}(hg:AF a ac g):
 RS a ac f (p::ps) ts g g''<->∃g',Ext a ac g g' p/\∃rest,((parts a f (Tm.sub (gZ g') p)).map (form a ac)++rest).Perm ts/\RS a ac f ps rest g' g'':=by
 unfold RS;rw[aS,Ext.split hg];constructor
 ·rintro⟨⟨g',h1,h2⟩,h3⟩;rw[bJ,aQ,h1.same h2 fun x hx _=>hx]at h3;exact⟨g',h1,_,h3,h2,.refl _⟩
 ·rintro⟨g',h1,rest,h3,h2,h4⟩;refine⟨⟨g',h1,h2⟩,?_⟩;rw[bJ,aQ,h1.same h2 fun x hx _=>hx];exact(h4.append_left _).trans h3
theorem B5{f y:Int}{r:fP}{ps ts:List fP}{g g'':Bd}(hg:AF a ac g)(hy:0<=y)(hf:y≠f):
 RS a ac f ((y::r)::ps) ts g g''<->∃t∈ts,∃g',RM a ac (y::r) t g g'/\RS a ac f ps (ts.erase t) g' g'':=by
 rw[FR hac hg];have e:∀g':Bd,parts a f (Tm.sub (gZ g') (y::r))=[Tm.sub (gZ g') (y::r)]:=fun g'=>by rw[rj gB];exact lJ hf
 constructor
 ·rintro⟨g',h1,rest,h3,h4⟩;rw[e]at h3;refine⟨form a ac (Tm.sub (gZ g') (y::r)),h3.mem_iff.1 (by simp),g',⟨h1,rfl⟩,sy hac (.refl _) ?_ h4⟩;have h5:=(dn (h3.mem_iff.1 (show form a ac (Tm.sub (gZ g') (y::r))∈_ by simp)));exact(e_ _).1 (h3.trans h5)
 ·rintro⟨t,ht,g',⟨h1,rfl⟩,h4⟩;exact⟨g',h1,_,by rw[e];exact(dn ht).symm,h4⟩
theorem DT{f x:Int}{ps ts:List fP}{g g'':Bd}(hf:f∈ac)(hg:AF a ac g)(hx:x<0)(h24: -24<=x)(he:gZ g x=[]):
 RS a ac f ([x]::ps) ts g g''<->∃u,Sf a ac u/\∃rest,(parts a f u++rest).Perm ts/\RS a ac f ps rest (gM g x u) g'':=by
 have hb:∀u,gZ (gM g x u) x=u:=fun u=>by rw[qg hx (by rw[hg.1];omega) hx,ah rfl]
 rw[FR hac hg];constructor
 ·rintro⟨g',h1,rest,h3,h4⟩;rcases(zG hac hg hx h24).1 h1 with⟨_,u,hu,rfl⟩|⟨h,_⟩
  ·rw[sub_one hx,hb,va fun w hw=>((qM hac hf hu).1 w hw).1.2]at h3;exact⟨u,hu,rest,h3,h4⟩
  ·exact absurd he h
 ·rintro⟨u,hu,rest,h3,h4⟩;refine⟨_,(zG hac hg hx h24).2 (.inl ⟨he,u,hu,rfl⟩),rest,?_,h4⟩;rw[sub_one hx,hb,va fun w hw=>((qM hac hf hu).1 w hw).1.2];exact h3
theorem FT{f x:Int}{ps ts:List fP}{g g'':Bd}(hf:f∈ac)(hg:AF a ac g)(hx:x<0)(h24: -24<=x)(he:gZ g x≠[]):
 RS a ac f ([x]::ps) ts g g''<->∃rest,(parts a f (gZ g x)++rest).Perm ts/\RS a ac f ps rest g g'':=by
 have hu:=hg.2 x hx he;rw[FR hac hg];constructor
 ·rintro⟨g',h1,rest,h3,h4⟩;rcases(zG hac hg hx h24).1 h1 with⟨h,_⟩|⟨_,rfl⟩
  ·exact absurd h he
  ·rw[sub_one hx,va fun w hw=>((qM hac hf hu).1 w hw).1.2]at h3;exact⟨rest,h3,h4⟩
 ·rintro⟨rest,h3,h4⟩;refine⟨g,(zG hac hg hx h24).2 (.inr ⟨he,rfl⟩),rest,?_,h4⟩;rw[sub_one hx,va fun w hw=>((qM hac hf hu).1 w hw).1.2];exact h3
theorem OM{f:Int}(hf:f∈ac){g':Bd}:∀{ps ts:List fP}{g:Bd},(∀p∈ps,Wf a 1 p)->RS a ac f ps ts g g'->ps.length<=ts.length:=fun{ps ts g} hp h=>by
 rw[<-h.2.length_eq,aM];obtain⟨h0,h2⟩:=hac f hf;have:∀qs:List fP,(∀q∈qs,q∈ps)->qs.length<=(qs.flatMap fun q=>parts a f (Tm.sub (gZ g') q)).length:=fun qs=>by
  induction qs with
  |nil=>intro _;simp
  |cons q qs ih=>
   intro hq;rw[bJ,aj,ai];have h1:=ih fun r hr=>hq r (by simp[hr])
   have hw:Wf a 1 (Tm.sub (gZ g') q):=(hp q (hq q (by simp))).sub fun z hz h0=>h.1.wf z (cc.2 ⟨q,hq q (by simp),hz⟩) h0
   have h3:=bM.2 (jD h2 h0 _ (ay _) hw).1;omega
 exact this ps fun q h=>h
end
end Go.Proofs.YthdnkoejpdcnpaaGreat
namespace Go.Proofs.YthdnkoejpdcnpaaGreat
open Go kI Tm
theorem qi{t r:fP}{x:Int}{us:List fP}{i j:Nat}(ht:t.drop i=(x::us.flatten)++r)(hj:j<us.length):
 t.drop (i+1+(us.take j).flatten.length)=us[j]++((us.drop (j+1)).flatten++r):=by
 have hd:=VX (x:=x) hj;have hle:1+(us.take j).flatten.length<=(x::us.flatten).length:=by
  have:us.flatten=(us.take j).flatten++(us.drop j).flatten:=by rw[<-bU,bL]
  rw[ai,this,aj];omega
 rw[cV,<-List.drop_drop,ht,cz hle,hd,aL]
theorem Fo{t s:fP}{x:Int}{i:Nat}(ht:t.drop i=x::s):i<t.length/\t.getD i default=x:=by
 have h1:i<t.length:=by
  by_cases h:i<t.length
  ·exact h
  ·rw[bt gB]at ht;cases ht
 rw[aK h1]at ht;exact⟨h1,by simpa[av,h1]using(List.cons.inj ht).1⟩
theorem zU{a t r:fP}{x:Int}{us:List fP}{i:Nat}(ha:iJ a=true)(hs:t.length<=60)(ht:t.drop i=(x::us.flatten)++r)(ho:yD a x)(hl:us.length=od a x)
 (hu:∀u∈us,Wf a 1 u):mJ a t i=some (xG (i+1) us):=by
 have h3:=yL ha x;obtain⟨hi,hx⟩:=Fo ht;have hlen:=aO List.length ht;simp only[bR,aj,ai]at hlen;have key:gG True (mJ a t i) (·=xG (i+1) us):=by
  unfold mJ;rw[ah gB];simp only[aq];rw[hx,wG ha,ah ho,aa,jE (n:=(i:Int)+1) gB gB];refine gG.loop (fun q:fP×Int×Int=>∃j:Nat,j<=us.length/\q.1=xG (i+1) (us.take j)/\q.2.1=i+1+((us.take j).flatten.length:Int)/\q.2.2=(us.length:Int)-j) (fun q:fP×Int×Int=>q.2.2.toNat)
   ⟨0,gB,by simp[xG],by simp,by simp[hl]⟩ ?_
  rintro⟨_,_,_⟩ ⟨j,h4,rfl,rfl,rfl⟩;simp only[ur];by_cases hj:j<us.length
  ·have hd:=qi ht hj;have hw:=hu _ (aA hj);have hpl:=rV (us.take j) ((i:Int)+1);rw[aY]at hpl;have hdl:=aO List.length hd;have hwl:=hw.len;simp only[bR,aj]at hdl;have he:=sn ha (show Small t by show List.length _<_;omega) (i:=i+1+(us.take j).flatten.length) gB;rw[xB hd hw]at he;rw[show((i+1+(us.take j).flatten.length:Nat):Int)=i+1+((us.take j).flatten.length:Int) by omega]at he;simp only[show(0:Int)<(us.length:Int)-j by omega,aW,aH,show((xG ((i:Int)+1) (us.take j)).length+1)*8<=140737488355328 by omega,he,aa,jE (n:=(us.length:Int)-j-1) gB gB];refine .some ⟨⟨j+1,gB,(B4 us _ j hj).symm,?_,by simp only;omega⟩,by simp only;omega⟩;simp only[Dm hj,aj];omega
  ·obtain rfl:j=us.length:=by omega
   simp only[show ¬(0:Int)<(us.length:Int)-(us.length:Int) by omega,aZ,au,aG,aT];refine .some ?_;simp only[tC,bp]
 exact key.eq
theorem BV{a t r:fP}{x:Int}{us:List fP}{i:Nat}(ha:iJ a=true)(hs:t.length<=60)(hm:∀y∈t, -24<=y)(ht:t.drop i=(x::us.flatten)++r)(ho:yD a x)(hl:us.length=od a x)
 (hu:∀u∈us,Wf a 1 u):nE a t i=some (xG (i+1) us):=by
 have h3:=yL ha x;obtain⟨hi,hx⟩:=Fo ht;have hlen:=aO List.length ht;simp only[bR,aj,ai]at hlen;have key:gG True (nE a t i) (·=xG (i+1) us):=by
  unfold nE;rw[ah gB];simp only[aq];rw[hx,wF ha ho.2,aa,jE (n:=(i:Int)+1) gB gB];refine gG.loop (fun q:fP×Int×Int=>∃j:Nat,j<=us.length/\q.1=xG (i+1) (us.take j)/\q.2.1=i+1+((us.take j).flatten.length:Int)/\q.2.2=(us.length:Int)-j) (fun q:fP×Int×Int=>q.2.2.toNat)
   ⟨0,gB,by simp[xG],by simp,by simp[hl]⟩ ?_
  rintro⟨_,_,_⟩ ⟨j,h4,rfl,rfl,rfl⟩;simp only[uk];by_cases hj:j<us.length
  ·have hd:=qi ht hj;have hw:=hu _ (aA hj);have hpl:=rV (us.take j) ((i:Int)+1);rw[aY]at hpl;have hdl:=aO List.length hd;have hwl:=hw.len;simp only[bR,aj]at hdl;have he:=si ha (show Small t by show List.length _<_;omega) hm (i:=i+1+(us.take j).flatten.length) gB;rw[xB hd hw]at he;rw[show((i+1+(us.take j).flatten.length:Nat):Int)=i+1+((us.take j).flatten.length:Int) by omega]at he;simp only[show(0:Int)<(us.length:Int)-j by omega,aW,aH,show((xG ((i:Int)+1) (us.take j)).length+1)*8<=140737488355328 by omega,he,aa,jE (n:=(us.length:Int)-j-1) gB gB];refine .some ⟨⟨j+1,gB,(B4 us _ j hj).symm,?_,by simp only;omega⟩,by simp only;omega⟩;simp only[Dm hj,aj];omega
  ·obtain rfl:j=us.length:=by omega
   simp only[show ¬(0:Int)<(us.length:Int)-(us.length:Int) by omega,aZ,au,aG,aT];refine .some ?_;simp only[tC,bp]
 exact key.eq
theorem Gx{f:Int}:∀(us:List fP)(u:fP),xU f (us++[u])=(us.map (f::·)).flatten++u
 |[],u=>rfl
 |[v],u=>by simp[xU]
 |v::w::r,u=>by
  have:=Gx (f:=f) (w::r) u;simp only[cg]at this⊢;rw[xU,this];simp
theorem Hs{f:Int}{us:List fP}{j:Nat}(h:j<us.length):((us.take (j+1)).map (f::·)).flatten=(((us.take j).map (f::·)).flatten++[f])++us[j]:=by
 rw[aN h,aQ,bU];simp only[aX,dg,aS,bW,bg,aL,cm]
theorem FP{f:Int}:∀us:List fP,((us.map (f::·)).flatten).length=us.length+us.flatten.length
 |[]=>rfl
 |u::us=>by
  have:=FP (f:=f) us;simp only[aX,aS,aj,ai]at this⊢;omega
theorem vI{us:List fP}{j:Nat}:(us.take j).flatten.length<=us.flatten.length:=by
 have:us.flatten=(us.take j).flatten++(us.drop j).flatten:=by rw[<-bU,bL]
 rw[this,aj];omega
theorem Gw{f:Int}{us:List fP}{j:Nat}(h:j+1=us.length):xU f us=((us.take j).map (f::·)).flatten++us[j]:=by
 conv=>lhs;rw[<-bp (l:=us),<-h,aN gB]
 exact Gx _ _
theorem DA{f:Int}{us:List fP}(h:us.length+us.flatten.length<=1000):tE f us=some (xU f us):=by
 refine gG.eq (gG.loop (fun q:fP×Int=>∃j:Nat,j<=us.length/\q.2=j/\q.1=if j<us.length then((us.take j).map (f::·)).flatten else xU f us) (fun q:fP×Int=>us.length-q.2.toNat) ⟨0,gB,rfl,?_⟩ ?_)
 ·cases us with
  |nil=>simp[xU]
  |cons u us=>simp
 rintro⟨_,_⟩ ⟨j,h1,rfl,rfl⟩;simp only[vj];by_cases hj:j<us.length
 ·have hu:us[j].length<=us.flatten.length:=lD (aA hj);have hp:=FP (f:=f) (us.take j);have ht:=vI (us:=us) (j:=j);have hl:(us.take j).length=j:=by rw[aY];omega
  rw[ah (by simpa using hj),ah gB,jE (n:=(us.length:Int)-1) gB gB,jE (n:=(j:Int)+1) gB gB];simp only[aq,gO hj,ah hj];by_cases hk:j+1<us.length
  ·rw[ah (by simp only[ak];omega),ah gB,ah (by simp only[aj,bG];omega)];refine .some ⟨⟨j+1,gB,by simp,?_⟩,by simp only;omega⟩;rw[ah hk,Hs hj]
  ·rw[az (by simp only[ak];omega),ah gB];refine .some ⟨⟨j+1,gB,by simp,?_⟩,by simp only;omega⟩;rw[az hk,Gw (us:=us) (j:=j) gB]
 ·obtain rfl:j=us.length:=by omega
  rw[az (by simp)];simp only[Nat.lt_irrefl,aG,aT];exact .some rfl
theorem D2{f:Int}{us:List fP}(h:us.length+us.flatten.length<=1000):qb f us=some (xU f us):=by
 refine gG.eq (gG.loop (fun q:fP×Int=>∃j:Nat,j<=us.length/\q.2=j/\q.1=if j<us.length then((us.take j).map (f::·)).flatten else xU f us) (fun q:fP×Int=>us.length-q.2.toNat) ⟨0,gB,rfl,?_⟩ ?_)
 ·cases us with
  |nil=>simp[xU]
  |cons u us=>simp
 rintro⟨_,_⟩ ⟨j,h1,rfl,rfl⟩;simp only[sF];by_cases hj:j<us.length
 ·have hu:us[j].length<=us.flatten.length:=lD (aA hj);have hp:=FP (f:=f) (us.take j);have ht:=vI (us:=us) (j:=j);have hl:(us.take j).length=j:=by rw[aY];omega
  rw[ah (by simpa using hj),jE (n:=(j:Int)+1) gB gB];simp only[aq,gO hj,ah hj];by_cases hk:j+1<us.length
  ·rw[ah (by simp only[ak];omega),ah gB,ah gB,ah (by simp only[aj,bG];omega)];refine .some ⟨⟨j+1,gB,by simp,?_⟩,by simp only;omega⟩;rw[ah hk,Hs hj]
  ·rw[az (by simp only[ak];omega),ah gB,ah gB];refine .some ⟨⟨j+1,gB,by simp,?_⟩,by simp only;omega⟩;rw[az hk,Gw (us:=us) (j:=j) gB]
 ·obtain rfl:j=us.length:=by omega
  rw[az (by simp)];simp only[Nat.lt_irrefl,aG,aT];exact .some rfl
theorem Cq{a:fP}{x:Int}{us:List fP}(ha:iJ a=true)(hs:(x::us.flatten).length<=60)(hw:Wf a 1 (x::us.flatten))(hl:us.length=od a x)(hu:∀u∈us,Wf a 1 u):
 qf a (x::us.flatten)=some us:=by
 have hm:∀y∈x::us.flatten, -24<=y:=fun y hy=>(hw.all y hy).1
 have ho:=(Wf.jZ (k:=0).1 hw).1;have h3:=yL ha x;have e:=BV (r:=[]) (i:=0) ha hs hm (by simp) ho hl hu;unfold qf;rw[show((0:Nat):Int)=0 from rfl]at e;rw[e,aa];refine gG.eq (gG.loop (fun q:List fP×Int=>∃j:Nat,j<=us.length/\q.2=j/\q.1=us.take j) (fun q:List fP×Int=>us.length-q.2.toNat) ⟨0,gB,rfl,by simp⟩ ?_);rintro⟨_,_⟩ ⟨j,h1,rfl,rfl⟩;simp only[um];have hpl:=rV us (0+1);by_cases hj:j<us.length
 ·have hd:=qi (t:=x::us.flatten) (r:=[]) (x:=x) (i:=0) (by simp) hj;have hg:=tZ us ((0:Int)+1) j hj;have hsub:=p_ ha (show Small (x::us.flatten) by show List.length _<_;omega) hm hd (hu _ (aA hj));rw[ah (by simp only[ak,hpl];omega),ah (by rw[hpl];omega)];simp only[aq];rw[hg,show(0:Int)+1+((us.take j).flatten.length:Int)=((0+1+(us.take j).flatten.length:Nat):Int) by omega,hsub,aa,ah (by rw[aY];omega),jE (n:=(j:Int)+1) gB gB];refine .some ⟨⟨j+1,gB,by simp,?_⟩,by simp only;omega⟩;rw[aN hj]
 ·obtain rfl:j=us.length:=by omega
  rw[az (by simp only[ak,hpl];omega)];simp only[aT];refine .some ?_;simp only[tC,bp]
theorem nK{a:fP}{f:Int}(h2:od a f=2)(h0:0<=f){t:fP}(h:Wf a 1 t):(parts a f t).length<=t.length/\(parts a f t).flatten.length<=t.length:=by
 obtain⟨h1,h3,h4⟩:=jD h2 h0 _ (ay _) h;have h5:(parts a f t).length<=(parts a f t).flatten.length:=by
  have:∀l:List fP,(∀u∈l,1<=u.length)->l.length<=l.flatten.length:=fun l=>by
   induction l with
   |nil=>intro _;simp
   |cons u l ih=>intro hl;have:=ih fun v hv=>hl v (by simp[hv]);have:=hl u (by simp);simp only[ai,aS,aj];omega
  exact this _ fun u hu=>(h3 u hu).1.len
 have h6:=bM.2 h1;omega
theorem DB{a ac:fP}(ha:iJ a=true){f:Int}(h2:od a f=2)(h0:0<=f):∀(n:Nat){t:fP},Wf a 1 t->t.length<=60->t.headD 0=f->gG (t.length<=n) (jU n (a,ac) t) (·=parts a f t)
 |0,t,h,hl,hh=>⟨fun _ e=>by simp[jU]at e,fun e=>by have:=h.len;omega⟩
 |n+1,t,h,hl,hh=>by
  obtain⟨x,r,rfl,ho,hr⟩:=Wf.pos h;have hx:x=f:=by simpa using hh
  subst hx;rw[bk,h2]at hr;obtain⟨us,h1,rfl,hu⟩:=lP hr;have hm:∀y∈x::us.flatten, -24<=y:=fun y hy=>(h.all y hy).1
  have e:=BV (r:=[]) (i:=0) ha hl hm (by simp) ho (by rw[h1,h2]) hu;have hpl:=rV us ((0:Int)+1);have hres:parts a x (x::us.flatten)=us.flatMap (parts a x):=by
   obtain⟨u,v,rfl⟩:=qN h1;simp only[aS,bW,bg,bJ,eM];exact nZ h2 (hu u (by simp)) (hu v (by simp))
  unfold jU;rw[show((0:Nat):Int)=0 from rfl]at e;simp only[e,aa];refine gG.loop (fun q:List fP×Int=>∃j:Nat,j<=us.length/\q.2=j/\q.1=(us.take j).flatMap (parts a x)) (fun q:List fP×Int=>us.length-q.2.toNat) ⟨0,gB,rfl,by simp⟩ ?_;rintro⟨_,_⟩ ⟨j,h3,rfl,rfl⟩;simp only[pL];by_cases hj:j<us.length
  ·have hd:=qi (t:=x::us.flatten) (r:=[]) (x:=x) (i:=0) (by simp) hj;have hg:=tZ us ((0:Int)+1) j hj;have hw:=hu _ (aA hj);have hsub:=p_ ha (show Small (x::us.flatten) by show List.length _<_;omega) hm hd hw;have hle:us[j].length<=us.flatten.length:=lD (aA hj);simp only[ai]at hl;have hc:((us.take j).flatMap (parts a x)).length<=120:=by
    obtain⟨u,v,rfl⟩:=qN h1
    match j,hj with
    |0,_=>simp
    |1,_=>
     have:=(nK h2 h0 (hu u (by simp))).1;have:=hu u (by simp);have h9:u.length<=[u,v].flatten.length:=lD (by simp);simp only[dP,eY,bJ,eM,bg];omega
   have hc2:=(nK h2 h0 hw).1;obtain⟨y,q,hy,_⟩:=Wf.pos hw;rw[ah (by simp only[ak,hpl];omega),ah (by rw[hpl];omega)];simp only[aq];rw[hg,show(0:Int)+1+((us.take j).flatten.length:Int)=((0+1+(us.take j).flatten.length:Nat):Int) by omega,hsub,aa,ah ⟨gB,by rw[hy];simp only[ai];omega⟩,ah ⟨gB,by simp only[ai];omega⟩,jE (n:=(j:Int)+1) gB gB];have hnext:(us.take j).flatMap (parts a x)++parts a x us[j]=(us.take (j+1)).flatMap (parts a x):=by rw[aN hj,List.flatMap_append];simp
   refine gG.ite (fun hc=>?_) fun hc=>?_
   ·have hxy:us[j].headD 0=x:=by
     rw[hy]at hc⊢;simpa using hc
    have ih:=DB (ac:=ac) ha h2 h0 n hw gB hxy;refine gG.bind (ih.weak fun hn=>by simp only[ai]at hn;omega) ?_;rintro _ rfl;refine gG.need gB (.some ⟨⟨j+1,gB,by simp,hnext⟩,by simp only;omega⟩)
   ·have hxy:y≠x:=by
     rw[hy]at hc;simpa using hc
    have hp:parts a x us[j]=[us[j]]:=by rw[hy];exact lJ hxy
    rw[hp]at hnext;refine gG.need gB (.some ⟨⟨j+1,gB,by simp,hnext⟩,by simp only;omega⟩)
  ·obtain rfl:j=us.length:=by omega
   rw[az (by simp only[ak,hpl];omega)];simp only[aT];refine .some ?_;simp only[tC,bp];exact hres.symm
theorem tU{a ac:fP}(ha:iJ a=true){f:Int}(h2:od a f=2)(h0:0<=f){t:fP}(h:Wf a 1 t)(hl:t.length<=60)(hh:t.headD 0=f):ki (a,ac) t=some (parts a f t):=
 gG.eq (gG.lim t.length fun n=>DB ha h2 h0 n h hl hh)
theorem yu{a:fP}(ha:iJ a=true){f:Int}(h2:od a f=2)(h0:0<=f){t:fP}(hl:t.length<=60):∀(n:Nat){i:Nat}{u r:fP},t.drop i=u++r->Wf a 1 u->gG (u.length<=n) (kF n a f t i) (·=parts a f u)
 |0,i,u,r,ht,h=>⟨fun _ e=>by simp[kF]at e,fun e=>by have:=h.len;omega⟩
 |n+1,i,u,r,ht,h=>by
  obtain⟨x,q,rfl,ho,hr⟩:=Wf.pos h;obtain⟨hi,hx⟩:=Fo (s:=q++r) ht;have hlen:=aO List.length ht;simp only[bR,aj,ai]at hlen;unfold kF;rw[ah gB];simp only[aq,hx];refine gG.ite (fun hc=>?_) fun hc=>?_
  ·have hxf:x≠f:=by simpa using hc
   rw[mz ha (show Small t by show List.length _<_;omega) ht h,aa,lJ hxf];exact .some rfl
  ·have hxf:x=f:=by simpa using hc
   subst hxf;rw[bk,h2]at hr;obtain⟨us,h1,rfl,hu⟩:=lP hr;have e:=zU (r:=r) ha hl ht ho (by rw[h1,h2]) hu;have hpl:=rV us ((i:Int)+1);have d0:=qi ht (j:=0) gB;have d1:=qi ht (j:=1) gB;have g0:=tZ us ((i:Int)+1) 0 gB;have g1:=tZ us ((i:Int)+1) 1 gB;rw[e,aa,ah (by rw[hpl,h1];decide)];have w0:=hu us[0] (aA gB);have w1:=hu us[1] (aA gB);have l0:us[0].length<=us.flatten.length:=lD (aA gB);have l1:us[1].length<=us.flatten.length:=lD (aA gB);have ih0:=yu ha h2 h0 hl n d0 w0;have ih1:=yu ha h2 h0 hl n d1 w1;rw[g0,show(i:Int)+1+((us.take 0).flatten.length:Int)=((i+1+(us.take 0).flatten.length:Nat):Int) by omega];refine gG.bind (ih0.weak fun hn=>by simp only[ai]at hn;omega) ?_;rintro _ rfl;rw[ah (by rw[hpl,h1];decide),g1,show(i:Int)+1+((us.take 1).flatten.length:Int)=((i+1+(us.take 1).flatten.length:Nat):Int) by omega];refine gG.bind (ih1.weak fun hn=>by simp only[ai]at hn;omega) ?_;rintro _ rfl;have c0:=(nK h2 h0 w0).1;have c1:=(nK h2 h0 w1).1;refine gG.need gB (.some ?_);obtain⟨u,v,rfl⟩:=qN h1;simp only[aS,bW,bg];exact(nZ h2 (hu u (by simp)) (hu v (by simp))).symm
theorem wo{a:fP}(ha:iJ a=true){f:Int}(h2:od a f=2)(h0:0<=f){t:fP}(hl:t.length<=60)(h:Wf a 1 t):kQ a f t 0=some (parts a f t):=
 gG.eq (gG.lim t.length fun n=>yu (i:=0) (r:=[]) ha h2 h0 hl n (by simp) h)
theorem zL{a ac:fP}(hs:Small ac)(n:Int):kA (a,ac) n=some (decide (n∈ac)):=by
 unfold kA;rw[uJ hs,aa]
theorem Ag{xs:List fP}(h1:xs.length<=1000)(h2:∀x∈xs,x.length<=1000):xR xs=some ():=by
 unfold xR;rw[ah ⟨gB,fun x hx=>by have:=h2 x hx;omega⟩]
theorem Er{a ac:fP}(hac:tA a ac)(ha:iJ a=true){f:Int}(hf:f∈ac){t:fP}(h:Wf a 1 t)(hl:t.length<=60)(hh:t.headD 0=f){T:Prop}
 {rec:fR->fP->Option fP} (hr:∀u∈parts a f t,gG T (rec (a,ac) u) (·=form a ac u)):
 gG T (nR rec (a,ac) t) (·=jK ((parts a f t).map (form a ac))):=by
 obtain⟨h0,h2⟩:=hac f hf;obtain⟨c1,c2⟩:=nK h2 h0 h;have hpo:=(jD h2 h0 _ (ay _) h).2.1;unfold nR nu;rw[tU ha h2 h0 h hl hh,aa];refine gG.bind (P:=(·=jK ((parts a f t).map (form a ac)))) ?_ fun _ e=>.some e
 generalize hus:parts a f t=us at *;refine gG.loop (fun q:Int×List fP=>∃j:Nat,j<=us.length/\q.1=j/\q.2=(us.take j).map (form a ac)) (fun q:Int×List fP=>us.length-q.1.toNat) ⟨0,gB,rfl,by simp⟩ ?_;rintro⟨_,_⟩ ⟨j,h3,rfl,rfl⟩;simp only[oh];by_cases hj:j<us.length
 ·rw[ah (by simpa using hj),ah gB];simp only[aq,gO hj];refine gG.bind (hr _ (aA hj)) ?_;rintro _ rfl;refine gG.need (by rw[aM,aY];omega) (.some ⟨⟨j+1,gB,jE gB gB,?_⟩,?_⟩)
  ·simp only[];rw[aN hj,aQ];rfl
  ·simp only[];rw[jE (n:=(j:Int)+1) gB gB];omega
 ·obtain rfl:j=us.length:=by omega
  rw[az (by simp),bp,Ag (by rw[aM];omega) (fun x hx=>by
   obtain⟨w,hw,rfl⟩:=a_.1 hx;have:=hpo w hw;rw[(ku hac _ (ay _) this.1).2.1];omega)]
  exact .some rfl
theorem yX{a ac:fP}(hac:tA a ac)(hs:Small ac)(ha:iJ a=true):∀(n:Nat){t:fP},Wf a 1 t->t.length<=60->gG (t.length<=n) (iR n (a,ac) t) (·=form a ac t)
 |0,t,h,hl=>⟨fun _ e=>by simp[iR]at e,fun e=>by have:=h.len;omega⟩
 |n+1,t,h,hl=>by
  obtain⟨x,r,rfl,ho,hr⟩:=Wf.pos h;rw[bk]at hr;unfold iR;rw[ah (by simp only[ai];omega)];simp only[bC,zL hs,aa];refine gG.ite (fun hc=>?_) fun hc=>?_
  ·have hx:x∈ac:=by simpa using hc
   obtain⟨h0,h2⟩:=hac x hx;rw[ah (by simp only[ai];omega)];have hpo:=(jD h2 h0 _ (ay _) h).2.1;have hlt:=(oE h2 h0 h rfl).1;obtain⟨c1,c2⟩:=nK h2 h0 h;refine gG.bind (Er hac ha hx h hl rfl (T:=(x::r).length<=n+1) (rec:=iR n) fun u hu=>?_) ?_
   ·exact(yX hac hs ha n (hpo u hu).1 (by have:=(hpo u hu).2.2;omega)).weak fun hn=>by have:=hlt u hu;omega
   ·rintro _ rfl;rw[DA (by rw[pF,xl,aM,qY fun u hu=>(ku hac _ (ay _) (hpo u hu).1).2.1];omega),aa];exact .some (qZ hac hx h).symm
  ·have hx:x∉ac:=by simpa using hc
   obtain⟨us,h1,rfl,hu⟩:=lP hr;have h33:=yL ha x;have hm:∀y∈x::us.flatten, -24<=y:=fun y hy=>(h.all y hy).1
   have e:=BV (r:=[]) (i:=0) ha hl hm (by simp) ho h1 hu;have hpl:=rV us ((0:Int)+1);rw[show((0:Nat):Int)=0 from rfl]at e;rw[ah (by simp only[ai];omega)];simp only[e,aa];refine gG.loop (fun q:fP×Int=>∃j:Nat,j<=us.length/\q.2=j/\q.1=x::((us.take j).map (form a ac)).flatten) (fun q:fP×Int=>us.length-q.2.toNat) ⟨0,gB,rfl,by simp⟩ ?_;rintro⟨_,_⟩ ⟨j,h3,rfl,rfl⟩;simp only[oP];by_cases hj:j<us.length
   ·have hd:=qi (t:=x::us.flatten) (r:=[]) (x:=x) (i:=0) (by simp) hj;have hg:=tZ us ((0:Int)+1) j hj;have hw:=hu _ (aA hj);have hsub:=p_ ha (show Small (x::us.flatten) by show List.length _<_;omega) hm hd hw;have hle:us[j].length<=us.flatten.length:=lD (aA hj);have hfl:((us.take j).map (form a ac)).flatten.length<=us.flatten.length:=by
     rw[qY fun u hu2=>(ku hac _ (ay _) (hu u (bE hu2))).2.1];exact vI
    simp only[ai]at hl;rw[ah (by simp only[ak,hpl];omega),ah (by rw[hpl];omega)];simp only[aq];rw[hg,show(0:Int)+1+((us.take j).flatten.length:Int)=((0+1+(us.take j).flatten.length:Nat):Int) by omega,hsub,aa];refine gG.bind ((yX hac hs ha n hw gB).weak fun hn=>by simp only[ai]at hn;omega) ?_;rintro _ rfl;have hf2:=(ku hac _ (ay _) hw).2.1;refine gG.need (by simp only[ai];omega) (.some ⟨⟨j+1,gB,jE gB gB,?_⟩,?_⟩)
    ·simp only[];rw[aN hj,aQ,bU];simp
    ·simp only[];rw[jE (n:=(j:Int)+1) gB gB];omega
   ·obtain rfl:j=us.length:=by omega
    rw[az (by simp only[ak,hpl];omega)];simp only[aT];refine .some ?_;simp only[tC,bp];exact(q_ hac hx h1 hu).symm
theorem mZ{a ac:fP}(hac:tA a ac)(hs:Small ac)(ha:iJ a=true){t:fP}(h:Wf a 1 t)(hl:t.length<=60):iu (a,ac) t=some (form a ac t):=
 gG.eq (gG.lim t.length fun n=>yX hac hs ha n h hl)
theorem B_{s t:fP}(hs:Small s)(ht:Small t):mW s t=some (decide (lR s t<0)):=by
 unfold mW lR;by_cases hl:s.length=t.length
 ·rw[az (by simp[hl]),ah hl];refine gG.eq (gG.loop (fun q:Int=>∃j:Nat,j<=s.length/\q=j/\qm s t=qm (s.drop j) (t.drop j)) (fun q:Int=>s.length-q.toNat) ⟨0,gB,rfl,by simp⟩ ?_);rintro _ ⟨j,h1,rfl,h2⟩;simp only[sC];by_cases hj:j<s.length
  ·have hj':j<t.length:=by omega
   rw[ah (by simpa using hj),ah gB,ah gB];simp only[aq,gO hj,gO hj'];rw[aK hj,aK hj',qm]at h2;refine gG.ite (fun hc=>?_) fun hc=>?_
   ·have hne:s[j]≠t[j]:=by simpa using hc
    rw[ah gB,ah gB];refine .some ?_;simp only[tC];by_cases hlt:s[j]<t[j]
    ·rw[ah hlt]at h2;rw[h2];simp[hlt]
    ·rw[az hlt,ah gB]at h2;rw[h2];simp[hlt]
   ·have he:s[j]=t[j]:=by simpa using hc
    rw[az gB,az gB]at h2;refine .some ⟨⟨j+1,gB,jE gB gB,h2⟩,?_⟩;rw[jE (n:=(j:Int)+1) gB gB];simp only[];omega
  ·obtain rfl:j=s.length:=by omega
   rw[az (by simp)];refine .some ?_;simp only[tC];rw[h2,eN,bt gB];simp[qm]
 ·rw[ah (by simp only[bne_iff_ne,ne_eq];omega),az hl];congr 1;exact dz.2 gB
theorem Cx{l:List fP}{t:fP}(hl:l.length<=1000000)(hs:∀u∈l,Small u)(ht:Small t)(ho:l.Pairwise fun a b=>lR a b<=0):mH l t=some (jK (t::l)):=by
 unfold mH;refine gG.eq (gG.loop (fun q:Int=>∃j:Nat,j<=l.length/\q=j/\∀u∈l.drop j,lR t u<=0) (fun q:Int=>q.toNat) ⟨l.length,gB,rfl,by simp⟩ ?_);have fin:∀j:Nat,j<=l.length->(∀u∈l.drop j,lR t u<=0)->(∀u∈l.take j,lR u t<=0)->(l.take j++[t])++l.drop j=jK (t::l):=fun j h1 h2 h3=>by
  refine nL ?_ ?_ (jw _)
  ·refine List.Perm.trans ?_ (iO _).symm;rw[aL];refine(dY (l₁:=l.take j)).trans ?_;rw[aL];refine(dY (l₁:=l.drop j)).append_left [t] |>.trans ?_;rw[bL];exact .refl _
  ·rw[aL,ff];refine⟨ho.sublist (List.take_sublist _ _),?_,fun u hu v hv=>?_⟩
   ·rw[cm,fB];exact⟨fun u hu=>h2 u hu,ho.sublist (eG _ _)⟩
   ·rcases aI.1 hv with hv|hv
    ·rw[bh]at hv;subst hv;exact h3 u hu
    ·rw[<-bL j l,ff]at ho;exact ho.2.2 u hu v hv
 rintro _ ⟨j,h1,rfl,h2⟩;simp only[rB];have hres:∀(h3:∀u∈l.take j,lR u t<=0),gG True (Option.map Sum.inr (if 0<=(j:Int)/\(j:Int)<=(l.length:Int)then
  if(0+(l.take (j:Int).toNat).length)*24<=140737488355328 then
   if((l.take (j:Int).toNat).length+1)*24<=140737488355328 then
    if 0<=(j:Int)/\(j:Int)<=(l.length:Int)then
     if(((l.take (j:Int).toNat)++[t]).length+(l.drop (j:Int).toNat).length)*24<=140737488355328 then
      some (((l.take (j:Int).toNat)++[t])++(l.drop (j:Int).toNat))
     else none
    else none
   else none
  else none
  else none)) (tC (fun q:Int=>∃j:Nat,j<=l.length/\q=j/\∀u∈l.drop j,lR t u<=0) (fun q:Int=>q.toNat) (·=jK (t::l)) (j:Int).toNat):=fun h3=>by
  have e1:(l.take j).length=j:=by rw[aY];omega
  simp only[aq];rw[ah gB,ah gB,ah gB,ah gB,ah (by simp only[aj,bR,e1,bG];omega)];exact .some (fin j h1 h2 h3)
 by_cases hj:0<j
 ·rw[ah (by simpa using hj),jE (n:=(j:Int)-1) gB gB,ah gB];have hk:j-1<l.length:=by omega
  rw[show((j:Int)-1).toNat=j-1 by omega,gO hk,B_ ht (hs _ (aA hk)),aa];refine gG.ite (fun hc=>?_) fun hc=>?_
  ·have hc:lR t l[j-1]<0:=by simpa using hc
   refine .some ⟨⟨j-1,gB,gB,fun u hu=>?_⟩,by simp only[];omega⟩;rw[aK hk,show j-1+1=j by omega]at hu;rcases bu.1 hu with rfl|hu
   ·omega
   ·exact h2 u hu
  ·have hc:¬lR t l[j-1]<0:=by simpa using hc
   refine hres fun u hu=>?_
   have hn:=uW t l[j-1];have h9:lR l[j-1] t<=0:=by omega
   obtain⟨i,hi,rfl⟩:=cn hu;rw[eF];have hil:i<j:=by rw[aY]at hi;omega
   by_cases he:i=j-1
   ·subst he;exact h9
   ·exact(vX (dc.1 ho i (j-1) gB hk gB) h9).1
 ·obtain rfl:j=0:=by omega
  rw[az (by simp)];exact hres fun u hu=>by simp at hu
theorem D0{l:List fP}{t:fP}:jK (t::jK l)=jK (t::l):=
 nL ((iO _).trans (((iO l).cons t).trans (iO _).symm)) (jw _) (jw _)
theorem D1{l:List fP}{t:fP}:jK (l++[t])=jK (t::l):=
 nL ((iO _).trans ((dY (l₁:=l)).trans (iO (t::l)).symm)) (jw _) (jw _)
theorem HL{a ac:fP}{us:List fP}(hl:us.length<=1000)(hs:∀u∈us,(form a ac u).length<=1000){T:Prop}
 {rec:fP->fP->fP->Option fP} (hr:∀u∈us,gG T (rec a ac u) (·=form a ac u)):
 gG T (o_ rec a ac us) (·=jK (us.map (form a ac))):=by
 unfold o_;refine gG.loop (fun q:List fP×Int=>∃j:Nat,j<=us.length/\q.2=j/\q.1=jK ((us.take j).map (form a ac))) (fun q:List fP×Int=>us.length-q.2.toNat) ⟨0,gB,rfl,by simp[jK]⟩ ?_;rintro⟨_,_⟩ ⟨j,h3,rfl,rfl⟩;simp only[rE];by_cases hj:j<us.length
 ·rw[ah (by simpa using hj),ah gB];simp only[aq,gO hj];refine gG.bind (hr _ (aA hj)) ?_;rintro _ rfl;rw[Cx (by rw[pF,aM,aY];omega) (fun u hu=>by
   obtain⟨w,hw,rfl⟩:=a_.1 ((iO _).mem_iff.1 hu);have:=hs w (bE hw);show List.length _<_;omega) (by have:=hs _ (aA hj);show List.length _<_;omega) (jw _),aa]
  refine .some ⟨⟨j+1,gB,jE gB gB,?_⟩,?_⟩
  ·simp only[];rw[aN hj,aQ,aX,dg,D1,D0]
  ·simp only[];rw[jE (n:=(j:Int)+1) gB gB];omega
 ·obtain rfl:j=us.length:=by omega
  rw[az (by simp),bp];exact .some rfl
theorem B9{a ac:fP}(hac:tA a ac)(hs:Small ac)(ha:iJ a=true):∀(n:Nat){t:fP},Wf a 1 t->t.length<=60->gG (t.length<=n) (lp n a ac t) (·=form a ac t)
 |0,t,h,hl=>⟨fun _ e=>by simp[lp]at e,fun e=>by have:=h.len;omega⟩
 |n+1,t,h,hl=>by
  obtain⟨x,r,rfl,ho,hr⟩:=Wf.pos h;rw[bk]at hr;unfold lp;rw[ah (by simp only[ai];omega)];simp only[bC,mX hs,aa];refine gG.ite (fun hc=>?_) fun hc=>?_
  ·have hx:x∈ac:=by simpa using hc
   obtain⟨h0,h2⟩:=hac x hx;rw[ah (by simp only[ai];omega),ah (by simp only[ai];omega),wo ha h2 h0 hl h,aa];have hpo:=(jD h2 h0 _ (ay _) h).2.1;have hlt:=(oE h2 h0 h rfl).1;obtain⟨c1,c2⟩:=nK h2 h0 h;refine gG.bind (HL (a:=a) (ac:=ac) (T:=(x::r).length<=n+1) (rec:=lp n) gB (fun u hu=>?_) fun u hu=>?_) ?_
   ·have:=(ku hac _ (ay _) (hpo u hu).1).2.1;have:=(hpo u hu).2.2;omega
   ·exact(B9 hac hs ha n (hpo u hu).1 (by have:=(hpo u hu).2.2;omega)).weak fun hn=>by have:=hlt u hu;omega
   ·rintro _ rfl;rw[D2 (by rw[pF,xl,aM,qY fun u hu=>(ku hac _ (ay _) (hpo u hu).1).2.1];omega),aa];exact .some (qZ hac hx h).symm
  ·have hx:x∉ac:=by simpa using hc
   obtain⟨us,h1,rfl,hu⟩:=lP hr;have h33:=yL ha x;have e:=zU (r:=[]) (i:=0) ha hl (by simp) ho h1 hu;have hpl:=rV us ((0:Int)+1);rw[show((0:Nat):Int)=0 from rfl]at e;rw[ah (by simp only[ai];omega)];simp only[e,aa];refine gG.loop (fun q:fP×Int=>∃j:Nat,j<=us.length/\q.2=j/\q.1=x::((us.take j).map (form a ac)).flatten) (fun q:fP×Int=>us.length-q.2.toNat) ⟨0,gB,rfl,by simp⟩ ?_;rintro⟨_,_⟩ ⟨j,h3,rfl,rfl⟩;simp only[tJ];by_cases hj:j<us.length
   ·have hd:=qi (t:=x::us.flatten) (r:=[]) (x:=x) (i:=0) (by simp) hj;have hg:=tZ us ((0:Int)+1) j hj;have hw:=hu _ (aA hj);have hsub:=mz ha (show Small (x::us.flatten) by show List.length _<_;omega) hd hw;have hle:us[j].length<=us.flatten.length:=lD (aA hj);have hfl:((us.take j).map (form a ac)).flatten.length<=us.flatten.length:=by
     rw[qY fun u hu2=>(ku hac _ (ay _) (hu u (bE hu2))).2.1];exact vI
    simp only[ai]at hl;rw[ah (by simp only[ak,hpl];omega),ah (by rw[hpl];omega)];simp only[aq];rw[hg,show(0:Int)+1+((us.take j).flatten.length:Int)=((0+1+(us.take j).flatten.length:Nat):Int) by omega,hsub,aa];refine gG.bind ((B9 hac hs ha n hw gB).weak fun hn=>by simp only[ai]at hn;omega) ?_;rintro _ rfl;have hf2:=(ku hac _ (ay _) hw).2.1;refine gG.need (by simp only[ai];omega) (.some ⟨⟨j+1,gB,jE gB gB,?_⟩,?_⟩)
    ·simp only[];rw[aN hj,aQ,bU];simp
    ·simp only[];rw[jE (n:=(j:Int)+1) gB gB];omega
   ·obtain rfl:j=us.length:=by omega
    rw[az (by simp only[ak,hpl];omega)];simp only[aT];refine .some ?_;simp only[tC,bp];exact(q_ hac hx h1 hu).symm
theorem rY{a ac:fP}(hac:tA a ac)(hs:Small ac)(ha:iJ a=true){t:fP}(h:Wf a 1 t)(hl:t.length<=60):jq a ac t=some (form a ac t):=
 gG.eq (gG.lim t.length fun n=>B9 hac hs ha n h hl)
theorem Ig{m j:Nat}(hm:m<4611686018427387904)(hj:j<=60):zW .i64 (Bn .i64 m j) 1=((m.testBit j).toNat:Int):=by
 have h1:Bn .i64 (m:Int) (j:Int)=((m/2^j:Nat):Int):=by
  unfold Bn;rw[aq,show min j (IntKind.i64.bits)=j from fM (by show j<=64;omega)];rw[Int.fdiv_eq_ediv_of_nonneg _ (by exact ey (Int.pow_pos (by decide)))];simp
 have h2:m/2^j<4611686018427387904:=Nat.lt_of_le_of_lt (Nat.div_le_self _ _) hm;rw[h1];unfold zW;have h3:(BitVec.ofInt IntKind.i64.bits ((m/2^j:Nat):Int) &&& BitVec.ofInt IntKind.i64.bits 1).toNat=m/2^j%2:=by
  show(BitVec.ofInt 64 ((m/2^j:Nat):Int) &&& BitVec.ofInt 64 1).toNat=_;rw[BitVec.toNat_and,BitVec.ofInt_natCast,BitVec.toNat_ofNat,Nat.mod_eq_of_lt gB];rw[show(BitVec.ofInt 64 1).toNat=1 by decide,Nat.and_one_is_mod]
 rw[h3,Nat.testBit_eq_decide_div_mod_eq];have h4:m/2^j%2<2:=Nat.mod_lt _ (by decide);have h5:m/2^j%2=0\/m/2^j%2=1:=by omega
 rcases h5 with h5|h5<;>rw[h5]<;>decide
def kj(b:Bool)(m:Nat)(ts:List fP)(n:Nat):List fP:=((List.range n).filter fun j=>m.testBit j==b).map fun j=>ts.getD j default
theorem ux{b:Bool}{m n:Nat}{ts:List fP}:kj b m ts (n+1)=kj b m ts n++if(m.testBit n==b)=true then [ts.getD n default]else []:=by
 unfold kj;rw[List.range_succ,List.filter_append,aQ,ec,List.filter_nil];split<;>rfl
theorem zz{b:Bool}{m n:Nat}{ts:List fP}:(kj b m ts n).length<=n:=by
 unfold kj;rw[aM];exact bN (eS _ _) (by simp)
def okB(m:Nat)(ts:List fP)(n:Nat):Prop:=∀j,0<j->j<n->m.testBit j=true->m.testBit (j-1)=false->ts.getD (j-1) default≠ts.getD j default
theorem FC{ts:List fP}{m:Nat}(hm:m<4611686018427387904)(hl:ts.length<=60)(hs:∀t∈ts,Small t):
 gG True (qw ts m) fun r=>(okB m ts ts.length/\r=(kj true m ts ts.length,kj false m ts ts.length,true))\/(¬okB m ts ts.length/\r=([],[],false)):=by
 unfold qw;refine gG.loop (fun q:List fP×List fP×Int=>∃j:Nat,j<=ts.length/\q=(kj true m ts j,kj false m ts j,(j:Int))/\okB m ts j) (fun q:List fP×List fP×Int=>ts.length-q.2.2.toNat)
  ⟨0,gB,rfl,fun j _ h=>by omega⟩ ?_
 rintro⟨_,_,_⟩ ⟨j,h1,he,h2⟩;cases he;simp only[tF];have l1:=zz (b:=true) (m:=m) (n:=j) (ts:=ts);have l2:=zz (b:=false) (m:=m) (n:=j) (ts:=ts);by_cases hj:j<ts.length
 ·rw[ah (by simpa using hj),ah gB,ah gB,Ig hm gB,jE (n:=(j:Int)+1) gB gB];simp only[aq];have stepT:m.testBit j=true->okB m ts (j+1)->gG True (if((kj true m ts j).length+1)*24<=140737488355328 then some (Sum.inl (kj true m ts j++[ts.getD j default],kj false m ts j,(j:Int)+1))else none:Option ((List fP×List fP×Int)⊕(List fP×List fP×Bool)))
   (tC (fun q:List fP×List fP×Int=>∃j:Nat,j<=ts.length/\q=(kj true m ts j,kj false m ts j,(j:Int))/\okB m ts j) (fun q:List fP×List fP×Int=>ts.length-q.2.2.toNat) (fun r=>(okB m ts ts.length/\r=(kj true m ts ts.length,kj false m ts ts.length,true))\/(¬okB m ts ts.length/\r=([],[],false))) (ts.length-j)):=fun hb ho=>by
   refine gG.need gB (.some ⟨⟨j+1,gB,?_,ho⟩,by simp only[];omega⟩);rw[ux,ux,hb];simp
  have okS:(m.testBit j=true->0<j->m.testBit (j-1)=false->ts.getD (j-1) default≠ts.getD j default)->okB m ts (j+1):=fun h i hi hl2 hb hb2=>by
   by_cases e:i=j
   ·subst e;exact h hb hi hb2
   ·exact h2 i hi gB hb hb2
  refine gG.ite (fun hc=>?_) fun hc=>?_
  ·have hb:m.testBit j=false:=by
    cases hq:m.testBit j with
    |false=>rfl
    |true=>rw[hq]at hc;simp at hc
   refine gG.need gB (.some ⟨⟨j+1,gB,?_,okS fun h=>by rw[hb]at h;cases h⟩,by simp only[];omega⟩);rw[ux,ux,hb];simp
  ·have hb:m.testBit j=true:=by
    cases hq:m.testBit j with
    |true=>rfl
    |false=>rw[hq]at hc;simp at hc
   by_cases h0:0<j
   ·rw[ah (by simpa using h0),jE (n:=(j:Int)-1) gB gB,ah gB,show((j:Int)-1)=((j-1:Nat):Int) by omega,Ig hm gB];simp only[aq];refine gG.ite (fun hc2=>?_) fun hc2=>?_
    ·have hb2:m.testBit (j-1)=false:=by
      cases hq:m.testBit (j-1)with
      |false=>rfl
      |true=>rw[hq]at hc2;simp at hc2
     rw[ah gB,mU (hs _ (nY gB)),aa];refine gG.ite (fun hc3=>?_) fun hc3=>?_
     ·have hq:ts.getD (j-1) default=ts.getD j default:=by simpa using hc3
      refine .some (.inr ⟨fun hk=>hk j h0 hj hb hb2 hq,rfl⟩)
     ·have hq:ts.getD (j-1) default≠ts.getD j default:=by simpa using hc3
      exact stepT hb (okS fun _ _ _=>hq)
    ·have hb2:m.testBit (j-1)=true:=by
      cases hq:m.testBit (j-1)with
      |true=>rfl
      |false=>rw[hq]at hc2;simp at hc2
     exact stepT hb (okS fun _ _ h=>by rw[hb2]at h;cases h)
   ·rw[az (by simpa using h0)];exact stepT hb (okS fun _ h=>absurd h h0)
 ·obtain rfl:j=ts.length:=by omega
  rw[az (by simp)];exact .some (.inl ⟨h2,rfl⟩)
theorem yZ{ts:List fP}:(List.range ts.length).map (fun j=>ts.getD j default)=ts:=by
 refine dA (by simp) fun i h1 h2=>?_
 simp only[List.getElem_map,List.getElem_range];exact gO h2
theorem vW{m:Nat}{ts:List fP}:(kj true m ts ts.length++kj false m ts ts.length).Perm ts:=by
 unfold kj;rw[<-aQ];conv=>rhs;rw[<-yZ (ts:=ts)]
 refine List.Perm.map _ ?_;have:=List.filter_append_perm (fun j=>m.testBit j==true) (List.range ts.length);have e:(fun j=>m.testBit j==false)=fun j=>!(m.testBit j==true):=by funext j;cases m.testBit j<;>rfl
 rw[e];exact this
theorem qh{b:Bool}{m:Nat}{ts:List fP}:(kj b m ts ts.length).Sublist ts:=by
 unfold kj;conv=>rhs;rw[<-yZ (ts:=ts)]
 exact List.Sublist.map _ List.filter_sublist
theorem C8{b:Bool}{m:Nat}{t:fP}{ts:List fP}{n:Nat}:kj b m (t::ts) (n+1)=(if(m.testBit 0==b)=true then [t]else [])++kj b (m/2) ts n:=by
 unfold kj;rw[List.range_succ_eq_map,ec,List.filter_map];have e:((fun j=>m.testBit j==b)∘Nat.succ)=fun j=>(m/2).testBit j==b:=by funext j;simp only[Function.comp,Nat.succ_eq_add_one,Nat.testBit_succ]
 rw[e];split
 ·rw[aX,dh];rfl
 ·rw[dh];rfl
def rF:List fP->List fP->Nat
 |[],_=>0
 |t::ts,S=>if t∈S then 2*rF ts (S.erase t)+1 else 2*rF ts S
theorem CK:∀(ts S:List fP),rF ts S<2^ts.length
 |[],_=>by simp[rF]
 |t::ts,S=>by
  have h1:=CK ts (S.erase t);have h2:=CK ts S;rw[rF,ai,Nat.pow_succ];split<;>omega
theorem xz:∀{ts S R:List fP},(S++R).Perm ts->(kj true (rF ts S) ts ts.length).Perm S
 |[],S,R,h=>by
  have:S=[]:=(List.append_eq_nil_iff.1 (List.perm_nil.1 h)).1;subst this;exact .refl _
 |t::ts,S,R,h=>by
  rw[ai,C8,rF];by_cases ht:t∈S
  ·rw[ah ht,show(2*rF ts (S.erase t)+1)/2=rF ts (S.erase t) by omega];have h0:(2*rF ts (S.erase t)+1).testBit 0=true:=by rw[d_];simp
   rw[h0];have h1:=dn ht;have h2:(S.erase t++R).Perm ts:=by
    have:=(h1.append_right R).symm.trans h;rw[cg]at this;exact(e_ t).1 this
   simp only[cU,aH,cm];exact((xz h2).cons t).trans h1.symm
  ·rw[az ht,show(2*rF ts S)/2=rF ts S by omega];have h0:(2*rF ts S).testBit 0=false:=by rw[d_];simp
   rw[h0];have hr:t∈R:=by
    have:t∈S++R:=h.symm.mem_iff.1 (by simp);exact(aI.1 this).resolve_left ht
   have h1:=dn hr;have h2:(S++R.erase t).Perm ts:=by
    have h3:(t::(S++R.erase t)).Perm (t::ts):=(List.perm_middle.symm.trans ((h1.append_left S).symm)).trans h;exact(e_ t).1 h3
   simp only[show(false==true)=false from rfl,au,aG,bw];exact xz h2
theorem J2:∀(ts S:List fP),okB (rF ts S) ts ts.length
 |[],S=>fun j h1 h2=>by simp at h2
 |[t],S=>fun j h1 h2=>by simp only[ai,bB]at h2;omega
 |t::u::ts,S=>fun j h1 h2 hb hb2=>by
  obtain⟨i,rfl⟩:∃i,j=i+1:=⟨j-1,gB⟩;rw[Nat.add_sub_cancel]at hb2⊢;have key:∀S',(rF (t::u::ts) S)/2=rF (u::ts) S'->(0<i->(t::u::ts).getD i default≠(t::u::ts).getD (i+1) default):=fun S' he hi=>by
   have ih:=J2 (u::ts) S' i hi (by simp only[ai]at h2⊢;omega) (by rw[<-he,<-Nat.testBit_succ];exact hb) (by
    rw[<-he,<-Nat.testBit_succ,show(i-1).succ=i by omega];exact hb2)
   obtain⟨k,rfl⟩:∃k,i=k+1:=⟨i-1,gB⟩;simpa using ih
  by_cases ht:t∈S
  ·have he:(rF (t::u::ts) S)/2=rF (u::ts) (S.erase t):=by rw[rF,ah ht];omega
   by_cases hi:0<i
   ·exact key _ he hi
   ·obtain rfl:i=0:=by omega
    rw[rF,ah ht,d_]at hb2;simp at hb2
  ·have he:(rF (t::u::ts) S)/2=rF (u::ts) S:=by rw[rF,az ht];omega
   by_cases hi:0<i
   ·exact key _ he hi
   ·obtain rfl:i=0:=by omega
    have hb':(rF (u::ts) S).testBit 0=true:=by rw[<-he,<-Nat.testBit_succ];exact hb
    have hu:u∈S:=by
     by_cases hu:u∈S
     ·exact hu
     ·rw[rF,az hu,d_]at hb';simp at hb'
    intro e;have:t=u:=by simpa using e
    subst this;exact ht hu
theorem FD{ps:List fP}(hl:ps.length<=1000)(hn:∀p∈ps,0<p.length):gG True (kZ ps) (fun qs=>qs.Perm ps):=by
 unfold kZ;refine gG.loop (fun q:List fP×List fP×Int=>∃j:Nat,j<=ps.length/\q.2.2=j/\(q.1++q.2.1).Perm (ps.take j)) (fun q:List fP×List fP×Int=>ps.length-q.2.2.toNat) ⟨0,gB,rfl,by simp⟩ ?_;rintro⟨xs,ys,_⟩ ⟨j,h1,rfl,h2⟩;have hlen:=h2.length_eq;simp only[aj,aY]at hlen;simp only[nq];by_cases hj:j<ps.length
 ·have hp:0<(ps.getD j default).length:=hn _ (nY hj);rw[ah (by simpa using hj),ah gB];simp only[aq];rw[ah gB,jE (n:=(j:Int)+1) gB gB];have e:ps.take (j+1)=ps.take j++[ps.getD j default]:=by rw[aN hj,gO hj]
  refine gG.ite (fun _=>?_) fun _=>?_
  ·refine gG.need gB (.some ⟨⟨j+1,gB,by simp,?_⟩,by simp only[];omega⟩);simp only[];rw[e,<-aL];exact h2.append_right _
  ·refine gG.need gB (.some ⟨⟨j+1,gB,by simp,?_⟩,by simp only[];omega⟩);simp only[];rw[e,aL];refine(dY (l₁:=[ps.getD j default]) (l₂:=ys)).append_left xs |>.trans ?_;rw[<-aL];exact h2.append_right _
 ·obtain rfl:j=ps.length:=by omega
  rw[az (by simp)];refine gG.inr (gG.need gB (.some ?_));simp only[tC];rw[bp]at h2;exact h2
theorem G6{x y:List fP}(hx:x.length<=1000)(hy:y.length<=1000):jB [x,y]=some (x++y):=by
 unfold jB;have w0:IntKind.i64.wrap ((0:Int)+(x.length:Int))=(x.length:Int):=by rw[jE gB gB];omega
 have w1:IntKind.i64.wrap ((x.length:Int)+(y.length:Int))=(x.length:Int)+(y.length:Int):=jE gB gB;have v1:IntKind.i64.wrap ((0:Int)+1)=1:=by decide
 have v2:IntKind.i64.wrap ((1:Int)+1)=2:=by decide
 rw[kX (s':=((x.length:Int),(1:Int))) (by
  rw[jb,ah (by simp),ah ⟨by decide,by simp⟩];simp only[Int.toNat_zero,bC];rw[w0,v1,az (by simp only[ak];omega)])]
 rw[kX (s':=((x.length:Int)+(y.length:Int),(2:Int))) (by
  rw[jb,ah (by simp),ah ⟨by decide,by simp⟩];simp only[show(1:Int).toNat=1 from rfl,er,bC];rw[w1,v2,az (by simp only[ak];omega)])]
 refine ij ?_;rw[jb,az (by simp)];unfold tH;rw[ah ⟨gB,gB⟩,aa];rw[kX (s':=(x,(1:Int))) (by
  rw[jd,ah (by simp),ah ⟨by decide,by simp⟩];simp only[Int.toNat_zero,bC];rw[ah (by simp only[bB];omega),v1];rfl)]
 rw[kX (s':=(x++y,(2:Int))) (by
  rw[jd,ah (by simp),ah ⟨by decide,by simp⟩];simp only[show(1:Int).toNat=1 from rfl,er,bC];rw[ah gB,v2])]
 rw[ij (b:=x++y) (by rw[jd,az (by simp)];rfl)];rfl
theorem HN{S R L:List fP}(hs:S.Pairwise fun a b=>lR a b<=0)(hL:L.Pairwise fun a b=>lR a b<=0)(h:(S++R).Perm L):S.Sublist L:=by
 have h1:=xz h;have h2:=qh (b:=true) (m:=rF L S) (ts:=L);have h3:kj true (rF L S) L L.length=S:=nL h1 (hL.sublist h2) hs;rw[h3]at h2;exact h2
inductive Vl(a ac:fP):fP->fP->Prop
 |refl (t:fP):Vl a ac t t
 |arg {x:Int} {us:List fP} {u w:fP} (hx:x∉ac) (hl:us.length=od a x) (hw:∀v∈us,Wf a 1 v) (hu:u∈us) (h:Vl a ac u w):Vl a ac (x::us.flatten) w
 |sub {f:Int} {t:fP} {S:List fP} (hf:f∈ac) (hh:t.headD 0=f) (hne:S≠[]) (hs:S.Sublist (parts a f t)):Vl a ac t (xU f S)
 |part {f:Int} {t u w:fP} (hf:f∈ac) (hh:t.headD 0=f) (hu:u∈parts a f t) (h:Vl a ac u w):Vl a ac t w
theorem JE{a ac:fP}(hac:tA a ac){σ:Int->fP}:∀(N:Nat){p:fP},p.length<=N->Wf a 1 p->(∀x∈p,x<0->Sf a ac (σ x))->∀x∈p,x<0->Vl a ac (form a ac (Tm.sub σ p)) (σ x)
 |0,p,hl,h,_=>by have:=h.len;omega
 |N+1,p,hl,h,hσ=>by
  intro z hz h0;obtain⟨y,r,rfl,ho,hr⟩:=Wf.pos h;rw[bk]at hr;by_cases hy:y<0
  ·have:od a y=0:=by unfold od;rw[ah hy]
   rw[this]at hr;have:=hr.zero;subst this;have:z=y:=by simpa using hz
   subst this;rw[sub_one hy,(hσ z (by simp) hy).2];exact .refl _
  ·have hwσ:∀x∈y::r,x<0->Wf a 1 (σ x):=fun x hx hx0=>(hσ x hx hx0).1
   have hzr:z∈r:=(bu.1 hz).resolve_left gB;by_cases hac':y∈ac
   ·obtain⟨k0,k2⟩:=hac y hac';have hw:Wf a 1 (Tm.sub σ (y::r)):=h.sub hwσ;have e:=vQ k2 k0 _ (ay _) h hwσ;rw[rj hy]at hw e⊢;have hpf:=uE hac hac' hw;have hhd:=(ku hac _ (ay _) hw).2.2;have hL:(parts a y (form a ac (y::Tm.sub σ r))).Pairwise fun a b=>lR a b<=0:=by rw[hpf];exact jw _
    rw[e]at hpf;have hperm:(((parts a y (y::r)).flatMap fun q=>parts a y (Tm.sub σ q)).map (form a ac)).Perm (parts a y (form a ac (y::Tm.sub σ r))):=by rw[hpf];exact(iO _).symm
    obtain⟨q,hq,hzq⟩:=cc.1 ((uF k2 k0 _ (ay _) h z h0).1 hz);have hpo:=(jD k2 k0 _ (ay _) h).2.1 q hq;have hlt:=(oE k2 k0 h rfl).1 q hq;have hσq:∀x∈q,x<0->Sf a ac (σ x):=fun x hx hx0=>hσ x ((uF k2 k0 _ (ay _) h x hx0).2 (cc.2 ⟨q,hq,hx⟩)) hx0
    obtain⟨A,B,hAB⟩:=List.append_of_mem hq;have hsplit:((parts a y (Tm.sub σ q)).map (form a ac)++((A++B).flatMap fun q=>parts a y (Tm.sub σ q)).map (form a ac)).Perm (parts a y (form a ac (y::Tm.sub σ r))):=by
     refine List.Perm.trans ?_ hperm;have e9:parts a y (Tm.sub σ q)++(A++B).flatMap (fun q=>parts a y (Tm.sub σ q))=(q::(A++B)).flatMap (fun q=>parts a y (Tm.sub σ q)):=by rw[bJ]
     rw[hAB,<-aQ,e9];exact((List.perm_middle).symm.flatMap_right _).map _
    by_cases hqv:q.headD 0<0
    ·obtain⟨v,s,rfl,_,hs⟩:=Wf.pos hpo.1;have hv:v<0:=by simpa using hqv
     have:od a v=0:=by unfold od;rw[ah hv]
     rw[bk,this]at hs;have:=hs.zero;subst this;have:z=v:=by simpa using hzq
     subst this;have hsf:=hσq z (by simp) h0;obtain⟨s1,s2,s3,s4⟩:=qM hac hac' hsf;rw[sub_one hv,va fun w hw=>(s1 w hw).1.2]at hsplit;rw[<-s4];exact .sub hac' (by rw[hhd];rfl) s3 (HN s2 hL hsplit)
    ·obtain⟨v,s,rfl,_,hs⟩:=Wf.pos hpo.1;have hv:¬v<0:=by simpa using hqv
     have hvf:v≠y:=by simpa using hpo.2.1
     have ep:parts a y (Tm.sub σ (v::s))=[Tm.sub σ (v::s)]:=by rw[rj hv];exact lJ hvf
     rw[ep]at hsplit;exact .part hac' (by rw[hhd];rfl) (hsplit.mem_iff.1 (by simp)) (JE hac N (by simp only[ai]at hl hlt⊢;omega) hpo.1 hσq z hzq h0)
   ·obtain⟨us,h1,rfl,hu⟩:=lP hr;obtain⟨u,huu,hzu⟩:=cc.1 hzr;have hlu:=lD huu;have hσu:∀v∈us,∀x∈v,x<0->Sf a ac (σ x):=fun v hv x hx hx0=>hσ x (by simp only[bu,cc];exact .inr ⟨v,hv,hx⟩) hx0
    have e:form a ac (Tm.sub σ (y::us.flatten))=y::(us.map fun v=>form a ac (Tm.sub σ v)).flatten:=by
     rw[rj hy,Bq,q_ hac hac' (by rw[aM,h1]) fun v hv=>?_,dh]
     ·rfl
     ·obtain⟨w,hw,rfl⟩:=a_.1 hv;exact(hu w hw).sub fun x hx hx0=>(hσu w hw x hx hx0).1
    rw[e];exact .arg hac' (by rw[aM,h1]) (fun v hv=>by
     obtain⟨w,hw,rfl⟩:=a_.1 hv;exact(ku hac _ (ay _) ((hu w hw).sub fun x hx hx0=>(hσu w hw x hx hx0).1)).1) (a_.2 ⟨u,huu,rfl⟩) (JE hac N (by simp only[ai]at hl;omega) (hu u huu) (hσu u huu) z hzu h0)
def HP{α:Type}:List α->List (List α)
 |[]=>[[]]
 |x::l=>HP l++(HP l).map (x::·)
theorem HQ{α:Type}:∀l:List α,(HP l).length=2^l.length
 |[]=>rfl
 |x::l=>by rw[HP,aj,aM,HQ l,ai,Nat.pow_succ];omega
theorem Ea{α:Type}:∀{l s:List α},s.Sublist l->s∈HP l
 |[],s,h=>by rw[List.sublist_nil.1 h];simp[HP]
 |x::l,s,h=>by
  rw[HP,aI];cases h with
  |cons _ h=>exact .inl (Ea h)
  |cons_cons _ h=>exact .inr (a_.2 ⟨_,Ea h,rfl⟩)
def PV(a ac:fP):Nat->fP->List fP
 |0,t=>[t]
 |n+1,[]=>[[]]
 |n+1,x::r=>(x::r)::if x∈ac then(HP (parts a x (x::r))).map (xU x)++(parts a x (x::r)).flatMap (PV a ac n)else(prt a (od a x) r).flatMap (PV a ac n)
theorem F0{a ac:fP}(hac:tA a ac):∀(n:Nat){t u:fP},Wf a 1 t->t.length<=n->Vl a ac t u->u∈PV a ac n t
 |0,t,u,h,hl,_=>by have:=h.len;omega
 |n+1,t,u,h,hl,hv=>by
  obtain⟨x,r,rfl,ho,hr⟩:=Wf.pos h;rw[bk]at hr;rw[PV,bu];cases hv with
  |refl=>exact .inl rfl
  |arg hx hk hw hu hv=>
   rename_i us v;refine .inr ?_;rw[az hx,<-hk,ym hw];have hle:=lD hu;simp only[ai]at hl;exact dM.2 ⟨v,hu,F0 hac n (hw v hu) gB hv⟩
  |sub hf hh hne hs=>
   rename_i f S;have hx:x=f:=by simpa using hh
   subst hx;refine .inr ?_;rw[ah hf,aI];exact .inl (a_.2 ⟨_,Ea hs,rfl⟩)
  |part hf hh hu hv=>
   rename_i f v;have hx:x=f:=by simpa using hh
   subst hx;obtain⟨h0,h2⟩:=hac x hf;refine .inr ?_;rw[ah hf,aI];have h3:=(jD h2 h0 _ (ay _) h).2.1 v hu;have h4:=(oE h2 h0 h rfl).1 v hu;exact .inr (dM.2 ⟨v,hu,F0 hac n h3.1 gB hv⟩)
inductive Fw(a ac:fP):fP->Prop
 |ac {x:Int} {r:fP} (hx:x∈ac) (h6:(parts a x (x::r)).length<=6) (h:∀u∈parts a x (x::r),Fw a ac u):Fw a ac (x::r)
 |na {x:Int} {r:fP} (hx:x∉ac) (h:∀u∈prt a (od a x) r,Fw a ac u):Fw a ac (x::r)
theorem GU{α:Type}{l:List fP}{g:fP->List α}{c:Nat}(h:∀u∈l,(g u).length<=c*u.length):(l.flatMap g).length<=c*l.flatten.length:=by
 induction l with
 |nil=>simp
 |cons u l ih=>
  rw[bJ,aj,aS,aj,Nat.mul_add];have:=h u (by simp);have:=ih fun v hv=>h v (by simp[hv])
  omega
theorem Rm{k:Nat}(h2:2<=k)(h6:k<=6):1+2^k+13<=13*k:=by
 match k,h2,h6 with
 |2,_,_=>decide
 |3,_,_=>decide
 |4,_,_=>decide
 |5,_,_=>decide
 |6,_,_=>decide
theorem FZ{a ac:fP}(hac:tA a ac):∀(n:Nat){t:fP},Wf a 1 t->t.length<=n->Fw a ac t->(PV a ac n t).length<=13*t.length
 |0,t,h,hl,_=>by have:=h.len;omega
 |n+1,t,h,hl,hf=>by
  obtain⟨x,r,rfl,ho,hr⟩:=Wf.pos h;rw[bk]at hr;rw[PV,ai];cases hf with
  |ac hx h6 hp=>
   obtain⟨h0,h2⟩:=hac x hx;obtain⟨q1,q2⟩:=oE h2 h0 h rfl;obtain⟨p1,p2,p3⟩:=jD h2 h0 _ (ay _) h;rw[ah hx,aj,aM,HQ];have h7:=GU (l:=parts a x (x::r)) (g:=PV a ac n) (c:=13) fun u hu=>FZ hac n (p2 u hu).1 (by have:=q1 u hu;omega) (hp u hu)
   have h8:=Rm q2 h6;simp only[ai]at p3⊢;omega
  |na hx hp=>
   obtain⟨us,h1,rfl,hu⟩:=lP hr;rw[<-h1,ym hu]at hp;rw[az hx,<-h1,ym hu];have h7:=GU (l:=us) (g:=PV a ac n) (c:=13) fun u hq=>FZ hac n (hu u hq) (by have:=lD hq;simp only[ai]at hl;omega) (hp u hq)
   simp only[ai];omega
theorem zc{α:Type}[DecidableEq α]:∀{l U:List α},l.Nodup->(∀x∈l,x∈U)->l.length<=U.length
 |[],_,_,_=>dS _
 |x::l,U,h,hs=>by
  rw[cQ]at h;have hx:=hs x (by simp);have h1:=zc (U:=U.erase x) h.2 fun y hy=>(List.mem_erase_of_ne (fun e=>h.1 (by rw[<-e];exact hy))).2 (hs y (by simp[hy]))
  have h2:=List.length_erase_of_mem hx;have h3:=List.length_pos_of_mem hx;rw[ai];omega
theorem yP{α β:Type}{l:List α}{g:α->List β}{c:Nat}(h:∀x∈l,(g x).length=c):(l.flatMap g).length=l.length*c:=by
 induction l with
 |nil=>simp
 |cons x l ih=>
  rw[bJ,aj,h x (by simp),ih fun y hy=>h y (by simp[hy]),ai,bH];omega
def Vm(vals:List fP):List Bd:=
 ([]::vals).flatMap fun v0=>([]::vals).flatMap fun v1=>([]::vals).flatMap fun v2=>([]::vals).map fun v3=>v0::v1::v2::v3::List.replicate 20 []
theorem RI(vals:List fP):(Vm vals).length=(vals.length+1)*((vals.length+1)*((vals.length+1)*(vals.length+1))):=by
 unfold Vm;rw[yP (c:=(vals.length+1)*((vals.length+1)*(vals.length+1))) fun v0 _=>?_,ai];rw[yP (c:=(vals.length+1)*(vals.length+1)) fun v1 _=>?_,ai];rw[yP (c:=(vals.length+1)) fun v2 _=>?_,ai];rw[aM,ai]
theorem RJ{vals:List fP}{g:Bd}(hl:g.length=24)(h4:∀x:Int,x< -4->gZ g x=[])(hv:∀x:Int,x<0->gZ g x≠[]->gZ g x∈vals):g∈Vm vals:=by
 have hg:∀i:Nat,gZ g (-1-(i:Int))=g.getD i []:=fun i=>by unfold gZ;rw[show(-1-(-1-(i:Int))).toNat=i by omega]
 have ho:∀i:Nat,g.getD i []∈[]::vals:=fun i=>by
  by_cases e:g.getD i []=[]
  ·rw[e];simp
  ·rw[<-hg];exact dr _ (hv _ gB (by rw[hg];exact e))
 have hz:∀i:Nat,4<=i->g.getD i []=[]:=fun i hi=>by rw[<-hg];exact h4 _ gB
 unfold Vm;refine dM.2 ⟨_,ho 0,dM.2 ⟨_,ho 1,dM.2 ⟨_,ho 2,a_.2 ⟨_,ho 3,?_⟩⟩⟩⟩;have e:∀(l:Bd)(i:Nat)(h:i<l.length),l[i]=l.getD i []:=fun l i h=>by simp[av,h]
 refine dA (by simp[hl]) fun i h1 h2=>?_
 rw[e _ _ h1,e _ _ h2];clear h1 h2;rcases cB i 4 with h|h
 ·rcases(by omega:i=0\/i=1\/i=2\/i=3)with rfl|rfl|rfl|rfl<;>rfl
 ·obtain⟨k,rfl⟩:∃k,i=k+4:=⟨i-4,gB⟩;rw[hz (k+4) h];simp only[er];rw[av,dU];split<;>rfl
theorem E7{vals:List fP}(h:vals.length<=780):(Vm vals).length<=400000000000:=by
 rw[RI];have h1:vals.length+1<=781:=by omega
 have h2:=ez h1 h1;have h3:=ez h1 h2;have h4:=ez h1 h3;omega
def yF(g:Bd):Bd:=(List.range 24).map fun i=>if g.getD i []=[]then [-1-(i:Int)]else g.getD i []
def Out(a ac:fP):Kt->Bd->Bd->Prop
 |.rc,g,o=>o=yF g
 |.al ps ts k,g,o=>∃g',RA a ac (ps.drop 1) (ts.drop 1) g g'/\Out a ac k g' o
 |.s1 f ps ts j k,g,o=>∃g',RS a ac f (ps.drop 1) (ts.eraseIdx j.toNat) g g'/\Out a ac k g' o
 |.s2 f ps ts k,g,o=>∃g',RS a ac f (ps.drop 1) ts g g'/\Out a ac k g' o
structure xq(Q:Bd->Prop)(fd fd':List Bd):Prop where
 pre:∃ext,fd'=fd++ext/\∀o∈ext,Q o
 nodup:fd.Nodup->fd'.Nodup
 all:fd'.length<=20->∀o,Q o->o∈fd'
theorem xq.E1{Q:Bd->Prop}{fd:List Bd}(h:20<fd.length):xq Q fd fd:=⟨⟨[],by simp,fun o ho=>by cases ho⟩,id,fun hl=>by omega⟩
theorem xq.vR{Q:Bd->Prop}{fd:List Bd}(h:∀o,¬Q o):xq Q fd fd:=⟨⟨[],by simp,fun o ho=>by cases ho⟩,id,fun _ o ho=>absurd ho (h o)⟩
theorem xq.le{Q:Bd->Prop}{fd fd':List Bd}(h:xq Q fd fd'):fd.length<=fd'.length:=by
 obtain⟨ext,rfl,_⟩:=h.pre;simp
theorem xq.trans{Q1 Q2:Bd->Prop}{fd fd1 fd2:List Bd}(h1:xq Q1 fd fd1)(h2:xq Q2 fd1 fd2):xq (fun o=>Q1 o\/Q2 o) fd fd2:=by
 have hl:=h2.le;obtain⟨e1,rfl,q1⟩:=h1.pre;obtain⟨e2,rfl,q2⟩:=h2.pre;refine⟨⟨e1++e2,by rw[aL],fun o ho=>(aI.1 ho).imp (q1 o) (q2 o)⟩,fun h=>h2.nodup (h1.nodup h),fun hs o ho=>?_⟩;rcases ho with ho|ho
 ·exact bz _ (h1.all gB o ho)
 ·exact h2.all hs o ho
theorem xq.iff{Q Q':Bd->Prop}{fd fd':List Bd}(h:xq Q fd fd')(he:∀o,Q o<->Q' o):xq Q' fd fd':=by
 have:Q=Q':=funext fun o=>propext (he o)
 rw[<-this];exact h
def Ay(ps:List fP):Nat:=ps.flatten.length
def wK:Kt->Nat
 |.rc=>1
 |.al ps _ k=>1+3*Ay (ps.drop 1)+wK k
 |.s1 _ ps _ _ k=>1+3*Ay (ps.drop 1)+wK k
 |.s2 _ ps _ k=>1+3*Ay (ps.drop 1)+wK k
def AI(a:fP)(ps:List fP):Prop:=(∀p∈ps,Wf a 1 p)/\Ay ps<=60
def CC(a ac:fP)(f:Int)(ts:List fP):Prop:=(∀t∈ts,Sf a ac t/\t.headD 0≠f)/\ts.Pairwise (fun a b=>lR a b<=0)/\Ay ts<=60
def Mx(a ac:fP):Kt->Prop
 |.rc=>True
 |.al ps ts k=>AI a ps/\(∀t∈ts,Sf a ac t)/\Ay ts<=60/\ps.length=ts.length/\0<ps.length/\Mx a ac k
 |.s1 f ps ts j k=>f∈ac/\yD a f/\AI a ps/\(∀p∈ps,p.headD 0≠f)/\CC a ac f ts/\0<ps.length/\0<=j/\j<ts.length/\Mx a ac k
 |.s2 f ps ts k=>f∈ac/\yD a f/\AI a ps/\(∀p∈ps,p.headD 0≠f)/\CC a ac f ts/\0<ps.length/\Mx a ac k
theorem Ln{s t:List fP}(hs:s.length<=1000)(hu:∀u∈s,Small u):oO s t=some (s==t):=by
 unfold oO iQ;by_cases hl:s.length=t.length
 ·rw[az (by simp[hl])];have key:gK (iK s t) 0=some (s==t):=by
   refine gG.eq (gG.loop (fun q:Int=>∃j:Nat,j<=s.length/\q=j/\s.take j=t.take j) (fun q:Int=>s.length-q.toNat) ⟨0,gB,rfl,by simp⟩ ?_);rintro _ ⟨j,h1,rfl,h2⟩;simp only[iK];by_cases hj:j<s.length
   ·have hj':j<t.length:=by omega
    rw[ah (by simpa using hj),ah gB,ah gB,jE (n:=(j:Int)+1) gB gB];simp only[aq,gO hj,gO hj'];rw[mU (hu _ (aA hj)),aa];refine gG.ite (fun hc=>?_) fun hc=>?_
    ·have he:s[j]=t[j]:=by simpa using hc
     refine .some ⟨⟨j+1,gB,by simp,?_⟩,by simp only[];omega⟩;rw[aN hj,aN hj',h2,he]
    ·have he:s[j]≠t[j]:=by simpa using hc
     refine .some ?_;simp only[tC];have:s≠t:=fun e=>he (by subst e;rfl)
     simpa using this.symm∘Eq.symm
   ·obtain rfl:j=s.length:=by omega
    rw[az (by simp)];refine .some ?_;simp only[tC];rw[bp,hl,bp]at h2;simp[h2]
  rw[key,aa]
 ·rw[ah (by simp only[bne_iff_ne,ne_eq];omega),aa];have:s≠t:=fun e=>hl (by rw[e])
  simp[this]
theorem Et{fd:List Bd}{o:Bd}(hl:fd.length<=400000000000)(hs:∀g∈fd,g.length<=24/\∀u∈g,Small u):je fd o=some (decide (o∈fd)):=by
 unfold je kJ;have key:=DN (xs:=fd) (p:=fun g=>g==o) (f:=jf fd o) (fun i x hi hx he=>by
  rw[jf,ah (by simpa using hi),ah gB];simp only[aq,he];unfold mB;have h9:=hs x hx;rw[Ln gB h9.2,aa,aa,jE (n:=(i:Int)+1) gB gB];split<;>rfl) (by rw[jf,az (by simp)];rfl)
 rw[key,aa];congr 1;refine dz.2 ⟨fun h=>?_,fun h=>EM h (by simp)⟩;by_cases h2:o∈fd
 ·exact h2
 ·have:=Ck (p:=fun g=>g==o) (xs:=fd) fun x hx=>by
   simp only[dO,ne_eq];exact fun e=>h2 (by rw[<-e];exact hx)
  omega
theorem CP{g:Bd}{i:Nat}(h:i<24):(yF g).getD i default=if g.getD i []=[]then [-1-(i:Int)]else g.getD i []:=by
 unfold yF;rw[av,bq,dy h];rfl
theorem CQ{g:Bd}:(yF g).length=24:=by simp[yF]
theorem G7{m0 m1:fP}{fd:List Bd}{g:Bd}(hg:g.length=24)(hl:fd.length<=400000000000)(hs:∀g∈fd,g.length<=24/\∀u∈g,Small u):
 jA m0 m1 fd g=some (if yF g∈fd then fd else fd++[yF g]):=by
 unfold jA;refine gG.eq (gG.loop (fun q:Int×List fP=>∃j:Nat,j<=24/\q.1=j/\q.2.length=24/\∀i,i<j->q.2.getD i default=(yF g).getD i default) (fun q:Int×List fP=>24-q.1.toNat) ⟨0,gB,rfl,by simp,fun i h=>by omega⟩ ?_);rintro⟨_,l5⟩ ⟨j,h1,rfl,h2,h3⟩;simp only at h2 h3;simp only[nN];by_cases hj:j<24
 ·have hgd:g.getD j default=g.getD j []:=rfl;have step:∀u,u=(yF g).getD j default->gG True (if 0<=(j:Int)/\(j:Int)<(24:Int)/\(j:Int)<(l5.length:Int)then some (.inl ((IntKind.i64.wrap ((j:Int)+1)),(l5.set (j:Int).toNat u)))else none:Option ((Int×List fP)⊕List Bd))
   (tC (fun q:Int×List fP=>∃j:Nat,j<=24/\q.1=j/\q.2.length=24/\∀i,i<j->q.2.getD i default=(yF g).getD i default) (fun q:Int×List fP=>24-q.1.toNat) (·=if yF g∈fd then fd else fd++[yF g]) (24-(j:Int).toNat)):=fun u hu=>by
   rw[jE (n:=(j:Int)+1) gB gB];refine gG.need ⟨gB,gB,gB⟩ (.some ⟨⟨j+1,gB,by simp,by simp[h2],fun i hi=>?_⟩,by simp only[];omega⟩);simp only[aq];rw[av,cO];by_cases e:j=i
   ·subst e;rw[ah rfl,ah gB];exact hu
   ·rw[az e,<-av];exact h3 i gB
  rw[ah (by simp only[ak];omega),ah ⟨gB,gB,gB⟩];simp only[aq]at step⊢;refine gG.ite (fun hc=>?_) fun hc=>?_
  ·unfold lz;rw[aa,jE (n:=(-1:Int)-(j:Int)) gB gB];refine step _ ?_;rw[CP hj,ah (show g.getD j []=[]from List.isEmpty_iff.1 hc)]
  ·refine step _ ?_;rw[CP hj,az (fun e=>by rw[hgd,e]at hc;cases hc)];rfl
 ·obtain rfl:j=24:=by omega
  have he:l5=yF g:=by
   refine dA (by rw[h2,CQ]) fun i k1 k2=>?_
   have:=h3 i gB;rwa [gO k1,gO k2]at this
  subst he;rw[az (by decide)];refine gG.inr (gG.need h2 ?_);rw[Et hl hs,aa];refine gG.ite (fun hc=>?_) fun hc=>?_
  ·refine .some ?_;simp only[tC];rw[ah (by simpa using hc)]
  ·refine gG.need gB (.some ?_);simp only[tC];rw[az (by simpa using hc)]
structure UOk(U:List Bd):Prop where
 len:U.length<=400000000000
 small:∀g∈U,g.length<=24/\∀u∈g,Small u
def yJ(a ac:fP)(U:List Bd)(T:Prop)(recR:RT)(k:Kt):Prop:=∀g fd,AF a ac g->(∀u∈g,Small u)->fd.Nodup->(∀o∈fd,o∈U)->(∀o,Out a ac k g o->o∈U)->
 gG T (recR k a ac fd g) fun r=>r.2=g/\xq (Out a ac k g) fd r.1
theorem xq.mem{Q:Bd->Prop}{U fd fd':List Bd}(h:xq Q fd fd')(h1:∀o∈fd,o∈U)(h2:∀o,Q o->o∈U):∀o∈fd',o∈U:=by
 obtain⟨ext,rfl,q⟩:=h.pre;intro o ho;rcases aI.1 ho with ho|ho
 ·exact h1 o ho
 ·exact h2 o (q o ho)
theorem GY{a ac:fP}{g:Bd}(hg:AF a ac g){x:Int}(hx:x<0)(h24: -24<=x){t:fP}(ht:Sf a ac t):AF a ac (gM g x t):=
 ⟨by rw[AN];exact hg.1,fun m hm hn=>by
  rw[qg hx (by rw[hg.1];omega) hm]at hn⊢;split
  ·exact ht
  ·rename_i e;rw[az e]at hn;exact hg.2 m hm hn⟩
theorem KV{g:Bd}{x:Int}{t:fP}(h:gZ g x=[])(hl:(-1-x).toNat<g.length):(gM g x t).set (-1-x).toNat []=g:=by
 unfold gZ at h;unfold Tm.gM;rw[List.set_set];refine dA (by simp) fun i h1 h2=>?_
 rw[List.getElem_set];split
 ·rename_i e;subst e;rw[av,aB h2]at h;exact h.symm
 ·rfl
theorem Jq{g:Bd}{x:Int}{t:fP}(hg:∀u∈g,Small u)(ht:Small t):∀u∈gM g x t,Small u:=fun u hu=>by
 unfold Tm.gM at hu;rcases eC hu with h|rfl
 ·exact hg u h
 ·exact ht
theorem ET{a ac:fP}(hac:tA a ac){U:List Bd}{T:Prop}{recR:RT}{recM:MT}{k:Kt}(hk:yJ a ac U T recR k){x:Int}(hx:x<0)(h24: -24<=x){t:fP}(ht:Sf a ac t)(hl:t.length<=120)
 {g:Bd} {fd:List Bd} (hg:AF a ac g) (hgs:∀u∈g,Small u) (hn:fd.Nodup) (hU:∀o∈fd,o∈U) (hQ:∀o,(∃g',RM a ac [x] t g g'/\Out a ac k g' o)->o∈U):
 gG T (kW recR recM (-1-x) t k a ac fd g) fun r=>r.2=g/\xq (fun o=>∃g',RM a ac [x] t g g'/\Out a ac k g' o) fd r.1:=by
 have hi:(-1-x).toNat<g.length:=by rw[hg.1];omega
 have hlen:=hg.1;have htn:0<t.length:=by have:=ht.1.len;omega
 unfold kW;rw[ah gB];have hgd:g.getD (-1-x).toNat default=gZ g x:=rfl;rw[hgd];refine gG.ite (fun hc=>?_) fun hc=>?_
 ·have he:gZ g x=[]:=List.isEmpty_iff.1 hc;have hQ':∀o,Out a ac k (gM g x t) o<->∃g',RM a ac [x] t g g'/\Out a ac k g' o:=fun o=>
   ⟨fun h=>⟨_,(xI hac hg hx h24 ht he).2 rfl,h⟩,fun⟨g',h1,h2⟩=>by rw[<-(xI hac hg hx h24 ht he).1 h1];exact h2⟩
  refine gG.need htn ?_;refine gG.bind (hk (gM g x t) fd (GY hg hx h24 ht) (Jq hgs (show t.length<1099511627776 by omega)) hn hU fun o ho=>hQ o ((hQ' o).1 ho)) ?_;rintro⟨r1,r2⟩ ⟨e,hr⟩;simp only at e;subst e;refine gG.need ⟨gB,gB,by rw[AN];omega⟩ (.some ⟨KV he hi,hr.iff hQ'⟩)
 ·have he:gZ g x≠[]:=fun e=>by rw[e]at hc;cases hc
  rw[mU (hgs _ (by unfold gZ;exact nY hi)),aa];refine gG.ite (fun hc2=>?_) fun hc2=>?_
  ·have e:gZ g x=t:=by simpa using hc2
   have hQ':∀o,Out a ac k g o<->∃g',RM a ac [x] t g g'/\Out a ac k g' o:=fun o=>
    ⟨fun h=>⟨_,(As hac hg hx h24 he).2 ⟨e,rfl⟩,h⟩,fun⟨g',h1,h2⟩=>by rw[<-((As hac hg hx h24 he).1 h1).2];exact h2⟩
   refine gG.bind (hk g fd hg hgs hn hU fun o ho=>hQ o ((hQ' o).1 ho)) ?_;rintro⟨r1,r2⟩ ⟨e2,hr⟩;exact .some ⟨e2,hr.iff hQ'⟩
  ·have e:gZ g x≠t:=by simpa using hc2
   exact .some ⟨rfl,xq.vR fun o ⟨g',h1,_⟩=>e ((As hac hg hx h24 he).1 h1).1⟩
def AJ(a ac:fP)(U:List Bd)(T:Prop)(recM:MT)(p t:fP)(k:Kt):Prop:=∀g fd,AF a ac g->(∀u∈g,Small u)->fd.Nodup->(∀o∈fd,o∈U)->(∀o,(∃g',RM a ac p t g g'/\Out a ac k g' o)->o∈U)->
 gG T (recM p t k a ac fd g) fun r=>r.2=g/\xq (fun o=>∃g',RM a ac p t g g'/\Out a ac k g' o) fd r.1
theorem NL{a ac:fP}(hac:tA a ac){U:List Bd}{T:Prop}{recR:RT}{recM:MT}{k:Kt}{ps ts:List fP}(hl:ps.length=ts.length)
 (hk:ps=[]->yJ a ac U T recR k) (hm:0<ps.length->AJ a ac U T recM (ps.getD 0 default) (ts.getD 0 default) (.al ps ts k))
 {g:Bd} {fd:List Bd} (hg:AF a ac g) (hgs:∀u∈g,Small u) (hn:fd.Nodup) (hU:∀o∈fd,o∈U) (hQ:∀o,(∃g',RA a ac ps ts g g'/\Out a ac k g' o)->o∈U):
 gG T (kz recR recM ps ts k a ac fd g) fun r=>r.2=g/\xq (fun o=>∃g',RA a ac ps ts g g'/\Out a ac k g' o) fd r.1:=by
 unfold kz
 match ps,ts,hl with
 |[],[],_=>
  have hQ':∀o,Out a ac k g o<->∃g',RA a ac [] [] g g'/\Out a ac k g' o:=fun o=>
   ⟨fun h=>⟨g,(Jm hac).2 ⟨rfl,rfl⟩,h⟩,fun⟨g',h1,h2⟩=>by rw[<-((Jm hac).1 h1).2];exact h2⟩
  rw[ah (by decide)];refine gG.bind (hk rfl g fd hg hgs hn hU fun o ho=>hQ o ((hQ' o).1 ho)) ?_;rintro⟨r1,r2⟩ ⟨e,hr⟩;exact .some ⟨e,hr.iff hQ'⟩
 |p::ps,t::ts,hl=>
  have hQ':∀o,(∃g',RM a ac p t g g'/\Out a ac (.al (p::ps) (t::ts) k) g' o)<->∃g',RA a ac (p::ps) (t::ts) g g'/\Out a ac k g' o:=fun o=>by
   constructor
   ·rintro⟨g',h1,g'',h2,h3⟩;exact⟨g'',(Kp hac hg).2 ⟨g',h1,h2⟩,h3⟩
   ·rintro⟨g'',h1,h3⟩;obtain⟨g',h4,h5⟩:=(Kp hac hg).1 h1;exact⟨g',h4,g'',h5,h3⟩
  rw[az (by simp;omega),ah (by simp only[ai];omega),ah (by simp only[ai];omega)];refine gG.bind (hm (by simp) g fd hg hgs hn hU fun o ho=>hQ o ((hQ' o).1 ho)) ?_;rintro⟨r1,r2⟩ ⟨e,hr⟩;exact .some ⟨e,hr.iff hQ'⟩
theorem mg{ts:List fP}{i:Nat}(h:i<ts.length):(ts.eraseIdx i).Perm (ts.erase ts[i]):=by
 refine(e_ ts[i]).1 (List.Perm.trans ?_ (dn (aA h)));rw[dX];refine(List.perm_middle).symm.trans ?_;rw[<-aK h,bL]
theorem FU{a ac:fP}(hac:tA a ac){f y:Int}{r:fP}{ps ts:List fP}{k:Kt}{g:Bd}(hg:AF a ac g)(hy:0<=y)(hf:y≠f)(o:Bd):
 (∃i,∃h:i<ts.length,∃g',RM a ac (y::r) ts[i] g g'/\Out a ac (.s1 f ((y::r)::ps) ts (i:Nat) k) g' o)<->∃g'',RS a ac f ((y::r)::ps) ts g g''/\Out a ac k g'' o:=by
 constructor
 ·rintro⟨i,h,g',h1,g'',h2,h3⟩;refine⟨g'',(B5 hac hg hy hf).2 ⟨ts[i],aA h,g',h1,?_⟩,h3⟩;rw[aq]at h2;exact sy hac (.refl _) (mg h) h2
 ·rintro⟨g'',h1,h3⟩;obtain⟨t,ht,g',h4,h5⟩:=(B5 hac hg hy hf).1 h1;obtain⟨i,h,rfl⟩:=cn ht;refine⟨i,h,g',h4,g'',?_,h3⟩;rw[aq];exact sy hac (.refl _) (mg h).symm h5
def Sh(a ac:fP)(f:Int)(p:fP)(ps ts:List fP)(k:Kt)(g:Bd)(i:Nat)(o:Bd):Prop:=∃h:i<ts.length,∃g',RM a ac p ts[i] g g'/\Out a ac (.s1 f (p::ps) ts (i:Nat) k) g' o
theorem YA{a ac:fP}(hac:tA a ac){f:Int}{p:fP}{ps ts:List fP}{k:Kt}{g:Bd}{i j:Nat}{o:Bd}(hi:i<ts.length)(hj:j<ts.length)(he:ts[i]=ts[j])(h:Sh a ac f p ps ts k g j o):Sh a ac f p ps ts k g i o:=by
 obtain⟨_,g',h1,g'',h2,h3⟩:=h;refine⟨hi,g',by rw[he];exact h1,g'',?_,h3⟩;rw[aq]at h2⊢;have e1:=mg hi;have e2:=mg hj;rw[he]at e1;exact sy hac (.refl _) (e2.trans e1.symm) h2
theorem L0{a ac:fP}(hac:tA a ac){U:List Bd}{T:Prop}{recR:RT}{recM:MT}{k:Kt}{f:Int}{p:fP}{ps ts:List fP}(hl:ts.length<=1000)(hs:∀t∈ts,Small t)
 (hm:∀(j:Nat)(h:j<ts.length),AJ a ac U T recM p ts[j] (.s1 f (p::ps) ts (j:Nat) k))
 {g:Bd} {fd:List Bd} (hg:AF a ac g) (hgs:∀u∈g,Small u) (hn:fd.Nodup) (hU:∀o∈fd,o∈U) (hQ:∀i o,Sh a ac f p ps ts k g i o->o∈U):
 gG T (gK (lW recR recM f (p::ps) ts k a ac) (0,g,fd)) fun r=>r.2=g/\xq (fun o=>∃i,Sh a ac f p ps ts k g i o) fd r.1:=by
 refine gG.loop (fun q:Int×Bd×List Bd=>∃j:Nat,j<=ts.length/\q.1=j/\q.2.1=g/\xq (fun o=>∃i,i<j/\Sh a ac f p ps ts k g i o) fd q.2.2) (fun q:Int×Bd×List Bd=>ts.length-q.1.toNat)
  ⟨0,gB,rfl,rfl,xq.vR fun o ⟨i,h,_⟩=>by omega⟩ ?_
 rintro⟨_,g2,fj⟩ ⟨j,h1,rfl,e0,h2⟩;simp only at e0 h2;have e1:=e0.symm;clear e0;subst e1;simp only[lW];by_cases hj:j<ts.length
 ·have run:gG T ((recM ((p::ps).getD 0 default) (ts.getD (j:Int).toNat default) (Kt.s1 f (p::ps) ts j k) a ac fj g).bind fun r_6=>some (Sum.inl (IntKind.i64.wrap ((j:Int)+1),r_6.2,r_6.1)):Option ((Int×Bd×List Bd)⊕(List Bd×Bd)))
   (tC (fun q:Int×Bd×List Bd=>∃j:Nat,j<=ts.length/\q.1=j/\q.2.1=g/\xq (fun o=>∃i,i<j/\Sh a ac f p ps ts k g i o) fd q.2.2) (fun q:Int×Bd×List Bd=>ts.length-q.1.toNat) (fun r=>r.2=g/\xq (fun o=>∃i,Sh a ac f p ps ts k g i o) fd r.1) (ts.length-(j:Int).toNat)):=by
   rw[aq,gO hj,bC,jE (n:=(j:Int)+1) gB gB];refine gG.bind (hm j hj g fj hg hgs (h2.nodup hn) (h2.mem hU fun o ⟨i,_,h⟩=>hQ i o h) fun o ho=>hQ j o ⟨hj,ho⟩) ?_;rintro⟨r1,r2⟩ ⟨e,hr⟩;refine .some ⟨⟨j+1,gB,by simp,e,(h2.trans hr).iff fun o=>?_⟩,by simp only[];omega⟩;constructor
   ·rintro(⟨i,hi,h⟩|h)
    ·exact⟨i,gB,h⟩
    ·exact⟨j,gB,hj,h⟩
   ·rintro⟨i,hi,h⟩;by_cases e:i=j
    ·subst e;obtain⟨_,h⟩:=h;exact .inr h
    ·exact .inl ⟨i,gB,h⟩
  rw[ah (by simpa using hj),ah gB];refine gG.ite (fun hc=>?_) fun hc=>?_
  ·have h0:0<j:=by simpa using hc
   rw[jE (n:=(j:Int)-1) gB gB,ah gB,show((j:Int)-1).toNat=j-1 by omega,aq,mU (hs _ (nY gB)),aa];refine gG.ite (fun hc2=>?_) fun hc2=>?_
   ·have he:ts[j-1]=ts[j]:=by
     have:ts.getD (j-1) default=ts.getD j default:=by simpa using hc2
     rwa [gO hj,gO (show j-1<ts.length by omega)]at this
    rw[jE (n:=(j:Int)+1) gB gB];refine .some ⟨⟨j+1,gB,by simp,rfl,h2.iff fun o=>?_⟩,by simp only[];omega⟩;constructor
    ·rintro⟨i,hi,h⟩;exact⟨i,gB,h⟩
    ·rintro⟨i,hi,h⟩;by_cases e:i=j
     ·subst e;exact⟨i-1,gB,YA hac gB hj he h⟩
     ·exact⟨i,gB,h⟩
   ·simpa only[aq]using run
  ·exact run
 ·obtain rfl:j=ts.length:=by omega
  rw[az (by simp)];refine .some ⟨rfl,h2.iff fun o=>?_⟩;exact⟨fun⟨i,_,h⟩=>⟨i,h⟩,fun⟨i,h⟩=>⟨i,h.1,h⟩⟩
end Go.Proofs.YthdnkoejpdcnpaaGreat
