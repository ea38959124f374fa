/- A part of the proof about FnExactTwoProof (VA, VB, VC, VD, VE). -/
import Derived.Test.YtjgbnaihpicpgabGreatTe
import Derived.Test.YtjgbnaihpicpgabGreatTg
import Derived.Test.YtjgbnaihpicpgabGreatTh
import Derived.Test.YtjgbnaihpicpgabGreatTi
set_option linter.all false
namespace Go.Proofs.YtjgbnaihpicpgabGreat
open Go oq Tm Un
structure UC(a:gI)(N:Pl):Prop where
 sg:kL a=true
 KO:N.n=48
 sm:∀t∈N.P,t.length<=60
theorem UC.small{a t:gI}{N:Pl}(hc:UC a N)(h:Nb N t):t.length<=60:=hc.sm _ h.mem
theorem HL{a:gI}{N:Pl}(hc:UC a N){n:Int}(h0:n<0)(h1: -(N.n:Int)<=n):IntKind.i64.wrap ((-1)-n)= -1-n/\0<= -1-n/\ -1-n<48:=by
 have:=hc.KO;exact⟨kM iA iA,iA,iA⟩
theorem MH{σ β:Type}{f g:σ->Option (σ⊕β)}(hfg:∀s x,f s=some x->g s=some x){s:σ}{b:β}(h:iL f s=some b):iL g s=some b:=by
 obtain⟨n,hn⟩:=tP h
 suffices hs:∀n s,wY f n s b->wY g n s b from(hs n s hn).iL
 intro n;induction n with
 |zero=>intro s h;exact h
 |succ n ih=>
  intro s h;rcases h with h|⟨s',h,h'⟩
  ·exact .inl (hfg _ _ h)
  ·exact .inr ⟨s',hfg _ _ h,ih s' h'⟩
section
variable{a:gI}{N:Pl}{b:List gI}{σ:Sb}{r:Int->Nat}
theorem Dy(hc:UC a N)(h:Bn a N b σ r){t u:gI}(hu:Hd b t u):Wv a 1 t->Nb N t->iL (mH b) t=some u:=by
 induction hu with
 |@stop t hs=>
  intro w n;refine iK ?_;obtain⟨x,p,rfl,_,_⟩:=w.pos;have hs':x<0->bg b x=[]:=hs;unfold mH;rw[ah ⟨iA,by simp only[aN];omega⟩,show(x::p).getD 0 default=x from rfl];by_cases hx:x<0
  ·obtain⟨e1,e2,e3⟩:=HL hc hx (n x bf);rw[ah (by simpa using hx),e1,ah ⟨e2,e3,by rw[h.len,hc.KO];exact e3⟩];have e4:b.getD (-1-x).toNat default=[]:=hs' hx;rw[e4];rfl
  ·rw[aj (by simpa using hx)];rfl
 |@go t u hx hb hu ih=>
  intro w n;obtain⟨x,p,rfl,_,_⟩:=w.pos;have hx':x<0:=hx;have hb':b.getD (-1-x).toNat default≠[]:=hb;obtain⟨t1,t2⟩:=h.tm _ hx hb;refine(iZ ?_).trans (ih t1 t2);unfold mH;obtain⟨e1,e2,e3⟩:=HL hc hx' (n x bf);rw[ah ⟨iA,by simp only[aN];omega⟩,show(x::p).getD 0 default=x from rfl,ah (by simpa using hx'),e1,ah ⟨e2,e3,by rw[h.len,hc.KO];exact e3⟩,aj (by simpa using hb')];rfl
theorem DY(hc:UC a N)(h:Bn a N b σ r){t u:gI}(hu:Hd b t u):Wv a 1 t->Nb N t->iL (ql b) t=some u:=by
 induction hu with
 |@stop t hs=>
  intro w n;refine iK ?_;obtain⟨x,p,rfl,_,_⟩:=w.pos;have hs':x<0->bg b x=[]:=hs;unfold ql;rw[ah ⟨iA,by simp only[aN];omega⟩,show(x::p).getD 0 default=x from rfl];by_cases hx:x<0
  ·obtain⟨e1,e2,e3⟩:=HL hc hx (n x bf);rw[ah (by simpa using hx),e1,ah ⟨e2,e3,by rw[h.len,hc.KO];exact e3⟩];have e4:b.getD (-1-x).toNat default=[]:=hs' hx;rw[e4];rfl
  ·rw[aj (by simpa using hx)];rfl
 |@go t u hx hb hu ih=>
  intro w n;obtain⟨x,p,rfl,_,_⟩:=w.pos;have hx':x<0:=hx;have hb':b.getD (-1-x).toNat default≠[]:=hb;obtain⟨t1,t2⟩:=h.tm _ hx hb;refine(iZ ?_).trans (ih t1 t2);unfold ql;obtain⟨e1,e2,e3⟩:=HL hc hx' (n x bf);have hl:0<(b.getD (-1-x).toNat default).length:=cw.2 hb';rw[ah ⟨iA,by simp only[aN];omega⟩,show(x::p).getD 0 default=x from rfl,ah (by simpa using hx'),e1,ah ⟨e2,e3,by rw[h.len,hc.KO];exact e3⟩,ah (by simp only[au];omega)];rfl
theorem yL{b:List gI}{x:Int}:∀(f:Nat)(t:gI)(seen:List Bool){q:Bool×List Bool},zn b x f t seen=some q->∀{g:Nat},f<=g->zn b x g t seen=some q
 |0,_,_,q,h,g,hg=>by simp[zn]at h
 |f+1,[],seen,q,h,g,hg=>by
  obtain⟨g,rfl⟩:∃k,g=k+1:=⟨g-1,iA⟩;simpa[zn]using h
 |f+1,m::t,seen,q,h,g,hg=>by
  obtain⟨g,rfl⟩:∃k,g=k+1:=⟨g-1,iA⟩;rw[zn]at h⊢;split at h
  ·rename_i h1;rw[ah h1];exact h
  ·rename_i h1;rw[aj h1];split at h
   ·rename_i h2;rw[ah h2];exact yL (f+1) t seen h hg
   ·rename_i h2;rw[aj h2];split at h
    ·rename_i h3;rw[ah h3];exact yL (f+1) t _ h hg
    ·rename_i h3;rw[aj h3];obtain⟨p,hp,h⟩:=av.1 h;rw[yL f _ _ hp iA,aa];split at h
     ·rename_i h4;rw[ah h4];exact h
     ·rename_i h4;rw[aj h4];exact yL (f+1) t _ h hg
termination_by f t _=>(f,t.length)
theorem BC(hc:UC a N)(hb:b.length=N.n)(htm:∀x,x<0->bg b x≠[]->Nb N (bg b x))(n:Int)(u0:gI):∀(f:Nat){t:gI}{seen:List Bool},t.length<=60->(∀y∈t, -(N.n:Int)<=y)->seen.length=N.n->
 jL f n t u0 b seen=zn b n f t seen
 |0,t,seen,_,_,_=>by simp[zn,jL]
 |f+1,t,seen,hl,hn,hs=>by
  have key:∀(q:gI){i:Nat}{seen:List Bool},t.drop i=q->seen.length=N.n->iL (kg (jL f) n t u0 b) ((i:Int),seen)=zn b n (f+1) q seen:=by
   intro q;induction q with
   |nil=>
    intro i seen hq hs;have hi:t.length<=i:=by simpa using hq
    rw[zn];refine iK ?_;rw[kg,aj (by simp only[au];omega)];rfl
   |cons m q ih=>
    intro i seen hq hs;have hi:i<t.length:=by
     refine dg fun c=>?_
     rw[eH iA]at hq;cases hq
    have hm:t.getD i default=m:=by
     rw[ay hi]at hq;rw[jb hi];exact(cG hq).1
    have hq':t.drop (i+1)=q:=by
     rw[ay hi]at hq;exact(cG hq).2
    have hmt:m∈t:=by rw[<-hm];exact jP hi
    have hw:IntKind.i64.wrap ((i:Int)+1)=((i+1:Nat):Int):=by rw[kM iA iA];rfl
    have e0:kg (jL f) n t u0 b ((i:Int),seen)=(if m=n then some (.inr (true,seen))else if 0<=m\/sn seen m=true then some (.inl (((i+1:Nat):Int),seen))else if bg b m=[]then some (.inl (((i+1:Nat):Int),ss seen m))else(jL f n (bg b m) u0 b (ss seen m)).bind fun p=>if p.1=true then some (.inr (true,p.2))else some (.inl (((i+1:Nat):Int),p.2))):=by
     rw[kg,ah (by simp only[au];omega),ah ⟨iA,iA⟩,ai,hm];by_cases h1:m=n
     ·rw[ah (by simpa using h1),ah h1];rfl
     ·rw[aj (by simpa using h1),aj h1];by_cases h2:0<=m
      ·rw[ah (by simpa using h2),ah (.inl h2),hw]
      ·have h0:m<0:=by omega
       obtain⟨e1,e2,e3⟩:=HL hc h0 (hn m hmt);rw[aj (by simpa using h2),e1,ah ⟨e2,e3,by rw[hs,hc.KO];exact e3⟩];by_cases h3:sn seen m=true
       ·have h3':seen.getD (-1-m).toNat default=true:=h3;rw[ah h3',ah (.inr h3),hw]
       ·have h3':¬seen.getD (-1-m).toNat default=true:=h3;rw[aj h3',aj (fun c:0<=m\/sn seen m=true=>c.elim h2 h3),ah ⟨e2,e3,by rw[hb,hc.KO];exact e3⟩];by_cases h4:bg b m=[]
        ·have h4':b.getD (-1-m).toNat default=[]:=h4;rw[h4',ah (show([]:gI).isEmpty=true from rfl),ah h4,hw];rfl
        ·have h4':¬(b.getD (-1-m).toNat default).isEmpty=true:=by rw[List.isEmpty_iff];exact h4
         rw[aj h4',aj h4];rw[hw];rfl
    rw[zn];by_cases h1:m=n
    ·rw[ah h1]at e0⊢;exact iK e0
    ·rw[aj h1]at e0⊢;by_cases h2:0<=m\/sn seen m=true
     ·rw[ah h2]at e0⊢;exact(iZ e0).trans (ih hq' hs)
     ·rw[aj h2]at e0⊢;by_cases h3:bg b m=[]
      ·rw[ah h3]at e0⊢;exact(iZ e0).trans (ih hq' (by simpa[ss]using hs))
      ·rw[aj h3]at e0⊢;have hm0:m<0:=by omega
       have hnb:=htm m hm0 h3;rw[BC hc hb htm n u0 f (hc.small hnb) hnb.le (by simpa[ss]using hs)]at e0;cases hp:zn b n f (bg b m) (ss seen m)with
       |none=>
        rw[hp]at e0;rw[gq]at e0⊢;cases hx:iL (kg (jL f) n t u0 b) ((i:Int),seen)with
        |none=>rfl
        |some z=>
         obtain⟨k,hk⟩:=tP hx;cases k with
         |zero=>exact hk.elim
         |succ k=>
          rcases hk with hk|⟨s',hk,_⟩
          ·rw[e0]at hk;cases hk
          ·rw[e0]at hk;cases hk
       |some p=>
        rw[hp]at e0;rw[aa]at e0⊢;by_cases h5:p.1=true
        ·rw[ah h5]at e0⊢;exact iK e0
        ·rw[aj h5]at e0⊢;exact(iZ e0).trans (ih hq' (by rw[Av f _ _ hp];simpa[ss]using hs))
  have:=key t (i:=0) rfl hs;exact this
end
end Go.Proofs.YtjgbnaihpicpgabGreat
namespace Go.Proofs.YtjgbnaihpicpgabGreat
open Go oq Tm
open Un hiding Bd
theorem Ua{a t:gI}{i k:Nat}(h:i<t.length):BS a (t.drop i) (k+1)=if t[i]<a.length then BS a (t.drop (i+1)) (k+mV a t[i])else none:=by rw[ay h,zh]
theorem Xs(a:gI)(k:Nat):BS a [] (k+1)=none:=by simp[BS]
theorem uX{a t u r:gI}(ha:kL a=true)(hs:Small t){i:Nat}(hd:t.drop i=u++r)(hu:Wv a 1 u):mF a t i=some ((t.length:Int)-r.length):=by
 have hl:=bP List.length hd;have hul:=hu.len;simp at hl;have hi:i<=t.length:=by omega
 have h0:BS a (t.drop i) 1=some r:=by rw[hd];exact hu.skip r
 have key:pS True (lV a t i) fun q=>q=(true,(t.length:Int)-r.length):=by
  unfold lV;refine pS.loop (fun s=>∃(k c:Nat),s=((k:Int),(c:Int))/\c<=t.length/\k<=1+3*c/\BS a (t.drop c) k=some r) (fun s=>t.length-s.2.toNat) ⟨1,i,rfl,hi,iA,h0⟩ ?_;rintro _ ⟨k,c,rfl,h1,h2,h3⟩;simp only[pO];cases k with
  |zero=>
   simp only[show ¬(0:Int)<((0:Nat):Int) by omega,aS,aq,aE,aH];refine .some ?_;simp only[Cn];rw[zi]at h3;cases h3;simp;omega
  |succ k=>
   simp only[show(0:Int)<((k+1:Nat):Int) by omega,aL,aA,wV ha hs h1,aa];by_cases hc:c<t.length
   ·rw[ay hc];rw[Ua hc]at h3;simp only;by_cases hlt:t[c]<a.length
    ·rw[ah hlt]at h3;have hle:=wC ha t[c];simp only[hlt,aA,show ¬((mV a t[c]:Nat):Int)<0 by omega,aS,aq,aE];have hw1:IntKind.i64.wrap (((k+1:Nat):Int)+(mV a t[c]:Int))=(k+1:Nat)+mV a t[c]:=kM iA iA;rw[hw1,kM iA iA];refine .some ⟨⟨k+mV a t[c],c+1,by simp;omega,iA,iA,h3⟩,by simp;omega⟩
    ·rw[aj hlt]at h3;cases h3
   ·rw[bE iA,Xs]at h3;cases h3
 unfold mF;rw[key.eq,aa];rfl
theorem zR{a t u r:gI}(ha:kL a=true)(hs:Small t){i:Nat}(h:t.drop i=u++r)(hu:Wv a 1 u):kX a t i=some u:=by
 have hl:=bP List.length h;have hul:=hu.len;simp at hl;unfold kX;rw[uX ha hs h hu,aa,ah iA,show((t.length:Int)-r.length).toNat=t.length-r.length by omega,ai,BX h iA]
def wU:Nat->List gI->gI
 |_,[]=>[]
 |i,u::us=>(i:Int)::wU (i+u.length) us
theorem zf:∀(i:Nat)(us:List gI),(wU i us).length=us.length
 |_,[]=>rfl
 |i,u::us=>by rw[wU,aN,aN,zf]
theorem GV{t:gI}:∀{us:List gI}{i k:Nat},t.drop i=us.flatten->k<us.length->∃(j:Nat)(r:gI),(wU i us).getD k default=(j:Int)/\t.drop j=us.getD k default++r
 |[],i,k,h,hk=>by simp at hk
 |u::us,i,0,h,hk=>⟨i,us.flatten,rfl,by rw[h,cg];rfl⟩
 |u::us,i,k+1,h,hk=>by
  have h':t.drop (i+u.length)=us.flatten:=by rw[<-List.drop_drop,h,cg,bS]
  obtain⟨j,r,e1,e2⟩:=GV h' (k:=k) (by simpa using hk);exact⟨j,r,by rw[wU,fN];exact e1,by rw[fN];exact e2⟩
theorem BB{a t:gI}(ha:kL a=true)(hl:t.length<=60){x:Int}{p:gI}(ht:t=x::p)(hx:¬x<0)(hw:Wv a 1 t):mD a t 0=some (wU 1 (qD a (mV a x) p)):=by
 have hlt:x<a.length/\Wv a (mV a x) p:=by
  have:=hw;rw[ht]at this;have:=Wv.jS.1 this;rw[bU]at this;exact this
 have hs:Small t:=by show t.length<_;omega
 have h3:=wC ha x;unfold mD;rw[ah ⟨iA,by rw[ht,aN];omega⟩,show t.getD (0:Int).toNat default=x by rw[ht];rfl,sY ha hlt.1,aa,show IntKind.i64.wrap (0+1)=((1:Nat):Int) by rw[kM iA iA];rfl];have key:∀(k:Nat){q o:gI}{i:Nat},Wv a k q->t.drop i=q->k+o.length<=3->iL (kV a t) (o,(i:Int),(k:Int))=some (o++wU i (qD a k q)):=by
  intro k;induction k with
  |zero=>
   intro q o i hq hd ho;refine iK ?_;rw[kV,aj (by simp),qD,wU,aT];rfl
  |succ k ih=>
   intro q o i hq hd ho;rw[cP]at hq;obtain⟨u,v,rfl,w1,w2⟩:=hq.split;have hll:=bP List.length hd;have:=w1.len;rw[cV,ak]at hll;have hd':t.drop (i+u.length)=v:=by rw[<-List.drop_drop,hd,bS]
   have e:BS a (u++v) 1=some v:=w1.skip v;have e2:(u++v).take ((u++v).length-v.length)=u:=by rw[ak,dB];simp
   have e3:qD a (k+1) (u++v)=u::qD a k v:=by rw[qD,e];simp only;rw[e2]
   refine(iZ ?_).trans (b:=iL (kV a t) (o++[(i:Int)],((i+u.length:Nat):Int),(k:Int))) ?_
   ·rw[kV,ah (by simp only[au];omega),ah iA,uX ha hs hd w1,aa];have e5:IntKind.i64.wrap (((k+1:Nat):Int)-1)=(k:Int):=by rw[kM iA iA];omega
    rw[e5,show(t.length:Int)-v.length=((i+u.length:Nat):Int) by omega]
   ·rw[ih w2 hd' (by rw[ak,aU];omega),e3,wU,aF];rfl
 have:=key (mV a x) (q:=p) (o:=[]) (i:=1) hlt.2 (by rw[ht];rfl) (by simpa using h3);rw[aZ]at this;exact this
def toR(o:Option (Bd⊕Bd)):Option (Bd×Bool):=o.map (Sum.elim (fun b=>(b,true)) fun b=>(b,false))
noncomputable def EQ(a:gI)(f:Nat)(b:Bd)(s t:gI):Option (Bd×Bool):=toR (jt f s t a b)
theorem Ap(u0:gI):∀(f:Nat){s t:gI}{b:Bd}{q:Bd⊕Bd},jt f s t u0 b=some q->∀{g:Nat},f<=g->jt g s t u0 b=some q:=by
 intro f;induction f with
 |zero=>intro s t b q h;simp[jt]at h
 |succ f ih=>
  intro s t b q h g hg;obtain⟨g,rfl⟩:∃k,g=k+1:=⟨g-1,iA⟩;rw[jt]at h⊢;obtain⟨r,hr,h⟩:=av.1 h;obtain⟨r',hr',h⟩:=av.1 h;rw[hr,aa,hr',aa];split at h
  ·rename_i h1;rw[ah h1];split at h
   ·rename_i h2;rw[ah h2];split at h
    ·rename_i h3;rw[ah h3];split at h
     ·rename_i h4;rw[ah h4];exact h
     ·rename_i h4;rw[aj h4];obtain⟨o,ho,h⟩:=av.1 h;obtain⟨o',ho',h⟩:=av.1 h;rw[ho,aa,ho',aa];refine MH (fun st x hx=>?_) h;obtain⟨i,bb⟩:=st;rw[kf]at hx⊢;split at hx
      ·rename_i k1;rw[ah k1];split at hx
       ·rename_i k2;rw[ah k2];obtain⟨z,hz,hx⟩:=av.1 hx;rw[hz,aa];split at hx
        ·rename_i k3;rw[ah k3];obtain⟨z',hz',hx⟩:=av.1 hx;obtain⟨y,hy,hx⟩:=av.1 hx;rw[hz',aa,ih hy iA,aa];exact hx
        ·cases hx
       ·cases hx
      ·rename_i k1;rw[aj k1];exact hx
    ·rename_i h3;rw[aj h3];exact h
   ·cases h
  ·cases h
section
variable{a:gI}{N:Pl}{b:List gI}{σ:Sb}{r:Int->Nat}
theorem MI{σ β:Type}{f:σ->Option (σ⊕β)}{s:σ}(h:f s=none):iL f s=none:=by
 cases hx:iL f s with
 |none=>rfl
 |some z=>
  obtain⟨k,hk⟩:=tP hx;cases k with
  |zero=>exact hk.elim
  |succ k=>
   rcases hk with hk|⟨s',hk,_⟩
   ·rw[h]at hk;cases hk
   ·rw[h]at hk;cases hk
theorem Ud(m:Int):sn (List.replicate 48 false) m=false:=by
 unfold sn;rw[List.getD_eq_getElem?_getD,dn];split<;>rfl
theorem A6(hc:UC a N)(h:Bn a N b σ r)(u0:gI){n:Int}(hn:n<0)(hb:bg b n=[]){t:gI}(ht:Nb N t):
 ∃q,mZ n t u0 b (List.replicate 48 false)=some q/\(q.1=true<->n∈sub σ t):=by
 obtain⟨M,hM⟩:=BL r t;have hl:(List.replicate 48 false).length=N.n:=by rw[eJ,hc.KO]
 have he:=BC (b:=b) hc h.len (fun x hx hbx=>(h.tm x hx hbx).2) n u0;obtain⟨q,e,q1,q2⟩:=DI h hn hb (M+1) t (List.replicate 48 false) (R:=M) (dw _) hl ht.le (fun y hy _ _=>hM y hy) (fun m _ _ hs=>by rw[Ud]at hs;cases hs);refine⟨q,?_,q1,fun hin=>?_⟩
 ·refine Oe (M+1) (by rw[he _ (hc.small ht) ht.le hl];exact e) fun m q' hq'=>?_
  rw[he _ (hc.small ht) ht.le hl]at hq';have k1:=yL _ _ _ hq' (Nat.le_max_left m (M+1));have k2:=yL _ _ _ e (Nat.le_max_right m (M+1));rw[k1]at k2;exact dG k2
 ·cases hq:q.1 with
  |true=>rfl
  |false=>exact absurd hin (q2 hq).1
theorem Kl(ha:kL a=true){u v:gI}{P Q:List gI}(hu:Small u)(hv:Small v){iu iv:Nat}(eu:u.drop iu=P.flatten)(ev:v.drop iv=Q.flatten)
 (wP:∀t∈P,Wv a 1 t) (wQ:∀t∈Q,Wv a 1 t) (hPQ:P.length=Q.length) (h3:P.length<=3) (f:Nat):
 ∀(n i:Nat){b:List gI},i+n=P.length->toR (iL (kf (jt f) a u v (wU iu P) (wU iv Q)) ((i:Int),b))=eqL (EQ a f) b ((P.drop i).zip (Q.drop i)):=by
 intro n;induction n with
 |zero=>
  intro i b hi;rw[iK (b:=.inl b) (by rw[kf,aj (by rw[zf];simp only[au];omega)];rfl),bE iA];rfl
 |succ n ih=>
  intro i b hi;have hiP:i<P.length:=by omega
  have hiQ:i<Q.length:=by omega
  obtain⟨j1,r1,p1,p2⟩:=GV eu hiP;obtain⟨j2,r2,q1,q2⟩:=GV ev hiQ;have s1:=zR ha hu p2 (wP _ (jP hiP));have s2:=zR ha hv q2 (wQ _ (jP hiQ));have hw:IntKind.i64.wrap ((i:Int)+1)=((i+1:Nat):Int):=by rw[kM iA iA];rfl
  have e0:kf (jt f) a u v (wU iu P) (wU iv Q) ((i:Int),b)=
   (jt f (P.getD i default) (Q.getD i default) a b).bind (Sum.elim (fun rt_3=>some (.inl (((i+1:Nat):Int),rt_3))) (fun rf_3=>Option.map Sum.inr (some (.inr rf_3)))):=by
   rw[kf,ah (by rw[zf];simp only[au];omega),ah ⟨iA,by rw[zf];omega⟩,ai,p1,s1,aa,
    ah ⟨iA,by rw[zf];omega⟩,q1,s2,aa,hw]
  rw[ay hiP,ay hiQ,fV,eqL,<-jb hiP,<-jb hiQ];simp only;rw[EQ];cases hq:jt f (P.getD i default) (Q.getD i default) a b with
  |none=>rw[hq]at e0;rw[MI (by rw[e0];rfl)];rfl
  |some z=>
   rw[hq]at e0;cases z with
   |inl b'=>rw[iZ (s':=(((i+1:Nat):Int),b')) (by rw[e0];rfl),ih (i+1) iA];rfl
   |inr b'=>rw[iK (b:=.inr b') (by rw[e0];rfl)];rfl
theorem Kz(hc:UC a N):Un.Ei a N (EQ a):=⟨fun{b σ r s t} h ws wt ns nt=>by
 obtain⟨u,hu⟩:=Hd.ex h (r (s.headD 0)+1) ws (dw _);obtain⟨v,hv⟩:=Hd.ex h (r (t.headD 0)+1) wt (dw _);refine⟨u,v,hu,hv,fun f=>?_⟩;obtain⟨w1,n1,f1,g1⟩:=hu.ok h ws ns;obtain⟨w2,n2,f2,g2⟩:=hv.ok h wt nt;have e1:mS s a b=some u:=Dy hc h hu ws ns;have e2:mS t a b=some v:=Dy hc h hv wt nt;obtain⟨x,p,eu,hx,wp⟩:=w1.pos;obtain⟨y,q,ev,hy,wq⟩:=w2.pos;have l1:=hc.small n1;have l2:=hc.small n2;have hux:u.getD (0:Int).toNat default=x:=by rw[eu];rfl
 have hvy:v.getD (0:Int).toNat default=y:=by rw[ev];rfl
 have hux':u.headD 0=x:=by rw[eu];rfl
 have hvy':v.headD 0=y:=by rw[ev];rfl
 have bl:b.length=48:=by rw[h.len,hc.KO]
 have pu:0<u.length:=by rw[eu];simp
 have pv:0<v.length:=by rw[ev];simp
 have hxN: -(N.n:Int)<=x:=n1 x (by rw[eu];simp);have hyN: -(N.n:Int)<=y:=n2 y (by rw[ev];simp);unfold EQ Un.one;rw[jt,e1,aa,e2,aa,ah ⟨iA,iA⟩,ah ⟨iA,iA⟩];rw[show u.getD 0 default=x from hux,show v.getD 0 default=y from hvy,hux',hvy'];rw[hux']at f1;rw[hvy']at f2;by_cases hxy:x=y
 ·rw[ah (by simpa using hxy)];by_cases h0:x<0
  ·rw[ah (by simpa using h0),ah ⟨hxy,h0⟩];rfl
  ·rw[aj (by simpa using h0),aj (fun c=>h0 c.2),aj iA,aj (fun c=>c hxy)];rw[bU]at wp wq;have i1:=wN wp;have i2:=wN wq;rw[BB hc.sg l1 eu h0 w1,aa,BB hc.sg l2 ev iA w2,aa];have:=Kl (a:=a) hc.sg (u:=u) (v:=v) (P:=qD a (mV a x) p) (Q:=qD a (mV a y) q) (by show u.length<_;omega) (by show v.length<_;omega) (iu:=1) (iv:=1) (by rw[eu,i1.1];rfl) (by rw[ev,i2.1];rfl) i1.2.2 i2.2.2
    (by rw[i1.2.1,i2.2.1,hxy]) (by rw[i1.2.1];exact wC hc.sg x) f (qD a (mV a x) p).length 0 (b:=b) iA
   rw[bN,bN]at this;have et:u.tail=p:=by rw[eu];rfl
   have et':v.tail=q:=by rw[ev];rfl
   rw[et,et'];rw[<-hxy]at this⊢;exact this
 ·rw[aj (show ¬(x==y)=true by simpa using hxy),aj (show ¬(x=y/\x<0)from fun c=>hxy c.1)];have setb:∀{n:Int}{w:gI},n<0-> -(N.n:Int)<=n->0<w.length->(if 0<=(IntKind.i64.wrap ((-1)-n))/\(IntKind.i64.wrap ((-1)-n))<48/\(IntKind.i64.wrap ((-1)-n))<(b.length:Int)then
   (if 0<w.length then some (Sum.inl (b.set (IntKind.i64.wrap ((-1)-n)).toNat w))else none)else(none:Option (List gI⊕List gI)))=some (.inl (bs b n w)):=fun{n w} k1 k2 k3=>by
   obtain⟨d1,d2,d3⟩:=HL hc k1 k2;rw[d1,ah ⟨d2,d3,by rw[bl];exact d3⟩,ah k3];rfl
  by_cases hy0:y<0
  ·rw[ah (show decide (y<0)=true by simpa using hy0),ah (show x<0\/y<0 from .inr hy0)];by_cases hx0:0<=x
   ·have hw:way u v=(y,u):=by unfold way;rw[hux',hvy',ah ⟨hy0,.inl hx0⟩]
    obtain⟨q',o1,o2⟩:=A6 hc h a hy0 (f2 hy0) n1;rw[ah (show decide (0<=x)=true by simpa using hx0),o1,aa,hw];simp only;rw[hux'];by_cases hin:y∈sub σ u
    ·rw[ah (o2.2 hin),ah (show 0<=x/\y∈sub σ u from⟨hx0,hin⟩)];rfl
    ·rw[aj (fun c=>hin (o2.1 c)),aj (show ¬(0<=x/\y∈sub σ u)from fun c=>hin c.2),setb hy0 hyN pu];rfl
   ·rw[aj (show ¬decide (0<=x)=true by simpa using hx0)];by_cases hlt:y<x
    ·have hw:way u v=(y,u):=by unfold way;rw[hux',hvy',ah ⟨hy0,.inr hlt⟩]
     rw[ah (show decide (y<x)=true by simpa using hlt),hw];simp only;rw[hux',aj (show ¬(0<=x/\y∈sub σ u)from fun c=>hx0 c.1),setb hy0 hyN pu];rfl
    ·have hw:way u v=(x,v):=by unfold way;rw[hux',hvy',aj (fun c=>c.2.elim hx0 hlt)]
     rw[aj (show ¬decide (y<x)=true by simpa using hlt),hw];simp only;rw[hvy',aj (show ¬(0<=y/\x∈sub σ v)from fun c=>by omega),setb iA hxN pv];rfl
  ·rw[aj (show ¬decide (y<0)=true by simpa using hy0)];by_cases hx0:x<0
   ·have hw:way u v=(x,v):=by unfold way;rw[hux',hvy',aj (fun c=>hy0 c.1)]
    obtain⟨q',o1,o2⟩:=A6 hc h a hx0 (f1 hx0) n2;rw[ah (show decide (x<0)=true by simpa using hx0),ah (show x<0\/y<0 from .inl hx0),o1,aa,hw];simp only;rw[hvy'];by_cases hin:x∈sub σ v
    ·rw[ah (o2.2 hin),ah (show 0<=y/\x∈sub σ v from⟨iA,hin⟩)];rfl
    ·rw[aj (fun c=>hin (o2.1 c)),aj (show ¬(0<=y/\x∈sub σ v)from fun c=>hin c.2),setb hx0 hxN pv];rfl
   ·rw[aj (show ¬decide (x<0)=true by simpa using hx0),aj (show ¬(x<0\/y<0) by omega),ah (show x≠y from hxy)];rfl⟩
end
section
variable{a:gI}{N:Pl}{b:List gI}{σ:Sb}{r:Int->Nat}
theorem Ja{α:Type}[Inhabited α]{td:List α}{u:α}(hl:(td++[u]).length<1099511627776):
 0<=IntKind.i64.wrap (((td++[u]).length:Int)-1)/\IntKind.i64.wrap (((td++[u]).length:Int)-1)<((td++[u]).length:Int)/\(IntKind.i64.wrap (((td++[u]).length:Int)-1)).toNat=td.length/\
 (td++[u]).getD td.length default=u/\(td++[u]).take td.length=td:=by
 rw[ak,aU]at hl⊢;rw[kM iA iA];refine⟨iA,iA,iA,?_,by rw[ef]⟩;rw[List.getD_eq_getElem?_getD,bJ (aC _)];simp
theorem QC(hc:UC a N)(hb:b.length=N.n){x:Int}{g:List gI}{u:gI}(hu:Nb N u)(hg:g.getD (IntKind.i64.wrap ((g.length:Int)-1)).toNat default=u):
 ∀(q:gI){i:Nat}{se:List Bool}{td:List gI},u.drop i=q->se.length=N.n->td.length+Lp se<=100->
  iL (mT x b g) ((i:Int),se,td)=some (match Lx b x q se td with|none=>.inr true|some p=>.inl (p.1,p.2)):=by
 intro q;have hl:=hc.small hu;induction q with
 |nil=>
  intro i se td hq hs hh;have hi:u.length<=i:=by simpa using hq
  rw[Lx];refine iK ?_;rw[mT,hg,aj (by simp only[au];omega)];rfl
 |cons m q ih=>
  intro i se td hq hs hh;have hi:i<u.length:=by
   refine dg fun c=>?_
   rw[eH iA]at hq;cases hq
  have hm:u.getD i default=m:=by
   rw[ay hi]at hq;rw[jb hi];exact(cG hq).1
  have hq':u.drop (i+1)=q:=by
   rw[ay hi]at hq;exact(cG hq).2
  have hmt:m∈u:=by rw[<-hm];exact jP hi
  have hw:IntKind.i64.wrap ((i:Int)+1)=((i+1:Nat):Int):=by rw[kM iA iA];rfl
  have e0:mT x b g ((i:Int),se,td)=(if m=x then some (.inr (.inr true))else if m<0/\sn se m=false/\bg b m≠[]then some (.inl (((i+1:Nat):Int),ss se m,td++[bg b m]))else some (.inl (((i+1:Nat):Int),se,td))):=by
   rw[mT,hg,ah (by simp only[au];omega),ah ⟨iA,iA⟩,ai,hm];by_cases h1:m=x
   ·rw[ah (show(m==x)=true by simpa using h1),ah h1];rfl
   ·rw[aj (show ¬(m==x)=true by simpa using h1),aj h1];by_cases h0:m<0
    ·obtain⟨e1,e2,e3⟩:=HL hc h0 (hu m hmt);rw[ah (show decide (m<0)=true by simpa using h0),e1,ah (show 0<= -1-m/\ -1-m<48/\ -1-m<(se.length:Int)from⟨e2,e3,by rw[hs,hc.KO];exact e3⟩)];by_cases h3:sn se m=true
     ·have h3':se.getD (-1-m).toNat default=true:=h3;rw[ah h3',aj (show ¬(m<0/\sn se m=false/\bg b m≠[])from fun c=>by rw[h3]at c;cases c.2.1),hw]
     ·have h3':¬se.getD (-1-m).toNat default=true:=h3;have h3f:sn se m=false:=by simpa using h3
      rw[aj h3',ah (show 0<= -1-m/\ -1-m<48/\ -1-m<(b.length:Int)from⟨e2,e3,by rw[hb,hc.KO];exact e3⟩)];by_cases h4:bg b m=[]
      ·have h4':b.getD (-1-m).toNat default=[]:=h4;rw[h4',aj (show ¬(m<0/\sn se m=false/\bg b m≠[])from fun c=>c.2.2 h4),hw];rfl
      ·have h4':0<(b.getD (-1-m).toNat default).length:=cw.2 h4;rw[ah (show decide (0<((b.getD (-1-m).toNat default).length:Int))=true by simp only[au];omega),ah iA,ah (show m<0/\sn se m=false/\bg b m≠[]from⟨h0,h3f,h4⟩),hw];rfl
    ·rw[aj (show ¬decide (m<0)=true by simpa using h0),aj (show ¬(m<0/\sn se m=false/\bg b m≠[])from fun c=>h0 c.1),hw]
  rw[Lx];by_cases h1:m=x
  ·rw[ah h1]at e0⊢;exact iK e0
  ·rw[aj h1]at e0⊢;by_cases h2:m<0/\sn se m=false/\bg b m≠[]
   ·rw[ah h2]at e0⊢;have hlt:Lp (ss se m)<Lp se:=yC (by have:=hu m hmt;omega) h2.2.1;exact(iZ e0).trans (ih hq' (by simpa[ss]using hs) (by rw[ak,aU];omega))
   ·rw[aj h2]at e0⊢;exact(iZ e0).trans (ih hq' hs hh)
theorem Lb(hc:UC a N)(hb:b.length=N.n)(x:Int):Eh b x (fun se td=>(se,td)) (ot x b) N:=by
 refine⟨fun se hs=>?_,fun{se td u} hs hu hh=>?_⟩
 ·rw[ot,aj (by simp)];rfl
 ·have hn:=hc.KO;obtain⟨k1,k2,k3,k4,k5⟩:=Ja (td:=td) (u:=u) (by rw[ak,aU];omega);rw[ot,ah (by simp only[au,ak,aU];omega),ah ⟨k1,k2⟩,ah ⟨k1,iA⟩,k3,k5];have:=QC hc hb (x:=x) (g:=td++[u]) hu (by rw[k3];exact k4) u (i:=0) (se:=se) (td:=td) rfl hs iA;refine Eq.trans this ?_;cases Lx b x u se td<;>rfl
theorem XJ:Lp (List.replicate 48 false)=48:=by decide
theorem wS(hc:UC a N)(h:Bn a N b σ r){x:Int}(hx:x<0)(hbx:bg b x=[]){t:gI}(ht:Nb N t):∃q,nA x t b=some q/\(q=true<->x∈sub σ t):=by
 have hl:(List.replicate 48 false).length=N.n:=by rw[eJ,hc.KO]
 refine Eh.good h hx hbx (Lb hc h.len x) ht.le _ _ (aC _) (aC _) (se:=List.replicate 48 false) (td:=[t]) ⟨hl,fun u hu=>?_,?_,fun m _ _ hs=>?_,.inl (by simp)⟩
 ·rw[aR.1 hu];exact⟨ht,id⟩
 ·rw[XJ,hc.KO];simp
 ·rw[Ud]at hs;cases hs
theorem LN{a:gI}(ha:kL a=true){x:Int}(h0:¬x<0)(hx:x<a.length):a.getD x.toNat default=(mV a x:Int):=by
 have:=sY ha hx;unfold oV at this;rw[aj (by simpa using h0),ah iA]at this;exact dG this
theorem HT{a t q:gI}(ha:kL a=true)(hl:t.length<=60):∀(w:gI){k j:Nat},t.drop j=w++q->Wv a k w->j<=t.length->k<=1+3*j->iL (rz a t) ((j:Int),(k:Int))=some ((t.length:Int)-q.length):=by
 intro w;induction w with
 |nil=>
  intro k j hd hw hj hk;have hk0:k=0:=by have:=hw.len;simpa using this
  subst hk0;have hll:=bP List.length hd;simp at hll;refine iK ?_;rw[rz,aj (by simp)];rw[aH,show(j:Int)=(t.length:Int)-q.length by omega]
 |cons x w ih=>
  intro k j hd hw hj hk;have hll:=bP List.length hd;simp at hll;have hjl:j<t.length:=by omega
  have hx:t.getD j default=x:=by
   rw[ay hjl]at hd;rw[jb hjl];exact(cG hd).1
  have hd':t.drop (j+1)=w++q:=by
   rw[ay hjl]at hd;exact(cG hd).2
  cases k with
  |zero=>have:=hw.zero;cases this
  |succ k=>
   obtain⟨c1,c2⟩:=Wv.jS.1 hw;have h3:=wC ha x;have hw1:IntKind.i64.wrap ((j:Int)+1)=((j+1:Nat):Int):=by rw[kM iA iA];rfl
   refine(iZ (s':=(((j+1:Nat):Int),((k+mV a x:Nat):Int))) ?_).trans (ih hd' c2 iA iA);rw[rz,ah (by simp only[au];omega),ah iA,ai,hx,hw1];by_cases h0:x<0
   ·rw[aj (by simpa using h0),kM iA iA,yB h0];rw[show((k+1:Nat):Int)-1=((k+0:Nat):Int) by omega]
   ·rw[ah (by simpa using h0),ah iA,LN ha h0 c1];rw[kM (n:=((k+1:Nat):Int)+(mV a x:Int)) iA iA,kM iA iA,show((k+1:Nat):Int)+(mV a x:Int)-1=((k+mV a x:Nat):Int) by omega]
theorem BU{a t u q:gI}(ha:kL a=true)(hl:t.length<=60){i:Nat}(hd:t.drop i=u++q)(hu:Wv a 1 u):sR a t i=some ((t.length:Int)-q.length):=by
 have hll:=bP List.length hd;have:=hu.len;simp at hll;exact HT ha hl u (k:=1) hd hu iA iA
theorem CB{a t:gI}(ha:kL a=true)(hl:t.length<=60){x:Int}{p:gI}(ht:t=x::p)(hx:¬x<0)(hw:Wv a 1 t):qa a t=some (qD a (mV a x) p):=by
 have hlt:x<a.length/\Wv a (mV a x) p:=by
  have:=hw;rw[ht]at this;have:=Wv.jS.1 this;rw[bU]at this;exact this
 have h3:=wC ha x;have h0:t.getD 0 default=x:=by rw[ht];rfl
 unfold qa;rw[ah ⟨iA,by rw[ht,aN];omega⟩,h0,aj (show ¬decide (x<0)=true by simpa using hx)];have key:∀(k:Nat){q:gI}{o:List gI}{i:Nat},Wv a k q->t.drop i=q->k+o.length=mV a x->iL (pG a t) (o,(i:Int),(o.length:Int))=some (o++qD a k q):=by
  intro k;induction k with
  |zero=>
   intro q o i hq hd ho;refine iK ?_;rw[pG,h0,ah iA,LN ha hx hlt.1,aj (by simp only[au];omega),qD,aT];rfl
  |succ k ih=>
   intro q o i hq hd ho;rw[cP]at hq;obtain⟨u,v,rfl,w1,w2⟩:=hq.split;have hll:=bP List.length hd;have:=w1.len;rw[cV,ak]at hll;have hd':t.drop (i+u.length)=v:=by rw[<-List.drop_drop,hd,bS]
   have e:BS a (u++v) 1=some v:=w1.skip v;have e2:(u++v).take ((u++v).length-v.length)=u:=by rw[ak,dB];simp
   have e3:qD a (k+1) (u++v)=u::qD a k v:=by rw[qD,e];simp only;rw[e2]
   have e6:(t.take (t.length-v.length)).drop i=u:=BX hd iA;have e7:((o++[u]).length:Int)=IntKind.i64.wrap ((o.length:Int)+1):=by rw[kM iA iA,ak,aU];omega
   refine(iZ (s':=(o++[u],((i+u.length:Nat):Int),((o++[u]).length:Int))) ?_).trans ?_
   ·rw[pG,h0,ah iA,LN ha hx hlt.1,ah (by simp only[au];omega),BU ha hl hd w1,aa,ah iA,ah iA,show((t.length:Int)-v.length).toNat=t.length-v.length by omega,
     ai,e6,e7,show(t.length:Int)-v.length=((i+u.length:Nat):Int) by omega]
   ·rw[ih w2 hd' (by rw[ak,aU];omega),e3,aF];rfl
 have:=key (mV a x) (q:=p) (o:=[]) (i:=1) hlt.2 (by rw[ht];rfl) (by simp);rw[aZ]at this;exact this
end
section
variable{a:gI}{N:Pl}{b:List gI}{σ:Sb}{r:Int->Nat}
theorem Lc(hc:UC a N)(hP:N.P.length<=200):CH a N (fun b l m=>(b,l,m)) (fun b z=>(z,b)) (oe a):=by
 refine⟨fun b=>?_,fun{b σ r l s t} h ws wt ns nt hl=>?_⟩
 ·rw[oe,aj (by simp)];rfl
 obtain⟨u,hu⟩:=Hd.ex h (r (s.headD 0)+1) ws (dw _);obtain⟨v,hv⟩:=Hd.ex h (r (t.headD 0)+1) wt (dw _);obtain⟨w1,n1,f1,g1⟩:=hu.ok h ws ns;obtain⟨w2,n2,f2,g2⟩:=hv.ok h wt nt;have e1:ry s b=some u:=DY hc h hu ws ns;have e2:ry t b=some v:=DY hc h hv wt nt;obtain⟨x,p,eu,hx,wp⟩:=w1.pos;obtain⟨y,q,ev,hy,wq⟩:=w2.pos;have l1:=hc.small n1;have l2:=hc.small n2;have hux:u.getD 0 default=x:=by rw[eu];rfl
 have hvy:v.getD 0 default=y:=by rw[ev];rfl
 have hux':u.headD 0=x:=by rw[eu];rfl
 have hvy':v.headD 0=y:=by rw[ev];rfl
 have bl:b.length=48:=by rw[h.len,hc.KO]
 have pu:0<u.length:=by rw[eu];simp
 have pv:0<v.length:=by rw[ev];simp
 have hxN: -(N.n:Int)<=x:=n1 x (by rw[eu];simp);have hyN: -(N.n:Int)<=y:=n2 y (by rw[ev];simp);obtain⟨k1,k2,k3,k4,k5⟩:=Ja (td:=l.map (·.1)) (u:=s) (by rw[ak,aU,aJ];omega);obtain⟨m1,m2,m3,m4,m5⟩:=Ja (td:=l.map (·.2)) (u:=t) (by rw[ak,aU,aJ];omega);have h3x:=wC hc.sg x;have h3y:=wC hc.sg y;have ix:∀{n:Int},n<0-> -(N.n:Int)<=n->IntKind.i64.wrap ((-1)-n)= -1-n/\(0<= -1-n/\ -1-n<48/\ -1-n<(b.length:Int)):=fun{n} c1 c2=>by
  obtain⟨d1,d2,d3⟩:=HL hc c1 c2;exact⟨d1,d2,d3,by rw[bl];exact d3⟩
 have e0:oe a (b,l.map (·.1)++[s],l.map (·.2)++[t])=
  (if(x==y)=true then
   if(decide (x<0))=true then some (.inl (b,l.map (·.1),l.map (·.2)))
   else some (.inl (b,l.map (·.1)++qD a (mV a x) p,l.map (·.2)++qD a (mV a y) q))
  else if(decide (x<0))=true then
   (nA x v b).bind fun z=>if z=true then some (.inr (false,b))else some (.inl (bs b x v,l.map (·.1),l.map (·.2)))
  else if(decide (y<0))=true then
   (nA y u b).bind fun z=>if z=true then some (.inr (false,b))else some (.inl (bs b y u,l.map (·.1),l.map (·.2)))
  else some (.inr (false,b))):=by
  rw[oe,ah (by simp only[au,ak,aU];omega),ah ⟨k1,k2⟩,k3,k4,k5,e1,aa,ah ⟨m1,m2⟩,m3,m4,m5,e2,aa,ah ⟨k1,iA⟩,ah ⟨m1,iA⟩,
   ah ⟨iA,iA⟩,ah ⟨iA,iA⟩,hux,hvy]
  by_cases hxy:x=y
  ·rw[ah (show(x==y)=true by simpa using hxy),ah (show(x==y)=true by simpa using hxy)];by_cases h0:x<0
   ·rw[ah (show decide (x<0)=true by simpa using h0),ah (show decide (x<0)=true by simpa using h0)]
   ·have i1:=(wN (a:=a) (k:=mV a x) (t:=p) (by rw[bU]at wp;exact wp)).2.1;have i2:=(wN (a:=a) (k:=mV a y) (t:=q) (by rw[bU]at wq;exact wq)).2.1;rw[aj (show ¬decide (x<0)=true by simpa using h0),aj (show ¬decide (x<0)=true by simpa using h0),CB hc.sg l1 eu h0 w1,aa,ah (by rw[aJ,i1];omega),
     CB hc.sg l2 ev iA w2,aa,ah (by rw[aJ,i2];omega)]
  ·rw[aj (show ¬(x==y)=true by simpa using hxy),aj (show ¬(x==y)=true by simpa using hxy)];by_cases h0:x<0
   ·obtain⟨d1,d2⟩:=ix h0 hxN;rw[ah (show decide (x<0)=true by simpa using h0),ah (show decide (x<0)=true by simpa using h0),d1];congr 1;funext z;rw[ah d2];rfl
   ·rw[aj (show ¬decide (x<0)=true by simpa using h0),aj (show ¬decide (x<0)=true by simpa using h0)];by_cases h1:y<0
    ·obtain⟨d1,d2⟩:=ix h1 hyN;rw[ah (show decide (y<0)=true by simpa using h1),ah (show decide (y<0)=true by simpa using h1),d1];congr 1;funext z;rw[ah d2];rfl
    ·rw[aj (show ¬decide (y<0)=true by simpa using h1),aj (show ¬decide (y<0)=true by simpa using h1)];rfl
 refine⟨u,v,hu,hv,?_⟩;rw[e0,hux',hvy'];rw[hux']at f1;rw[hvy']at f2;refine⟨fun c=>?_,fun c1 c2 c3=>⟨b,?_⟩,fun c1 c2 c3=>?_,fun c1 c2 c3=>⟨b,?_⟩,fun c1 c2 c3=>?_,fun c1 c2 c3=>⟨b,?_⟩,fun c1 c2=>?_⟩
 ·rw[ah (show(x==y)=true by simpa using c.1),ah (show decide (x<0)=true by simpa using c.2)]
 ·obtain⟨z,o1,o2⟩:=wS hc h c2 (f1 c2) n2;rw[aj (show ¬(x==y)=true by simpa using c1),ah (show decide (x<0)=true by simpa using c2),o1,aa,ah (o2.2 c3)]
 ·obtain⟨z,o1,o2⟩:=wS hc h c2 (f1 c2) n2;rw[aj (show ¬(x==y)=true by simpa using c1),ah (show decide (x<0)=true by simpa using c2),o1,aa,aj (fun c=>c3 (o2.1 c))]
 ·obtain⟨z,o1,o2⟩:=wS hc h c2 (f2 c2) n1;rw[aj (show ¬(x==y)=true by simp only[bC];omega),aj (show ¬decide (x<0)=true by simpa using c1),ah (show decide (y<0)=true by simpa using c2),o1,aa,ah (o2.2 c3)]
 ·obtain⟨z,o1,o2⟩:=wS hc h c2 (f2 c2) n1;rw[aj (show ¬(x==y)=true by simp only[bC];omega),aj (show ¬decide (x<0)=true by simpa using c1),ah (show decide (y<0)=true by simpa using c2),o1,aa,aj (fun c=>c3 (o2.1 c))]
 ·rw[aj (show ¬(x==y)=true by simpa using c3),aj (show ¬decide (x<0)=true by simpa using c1),aj (show ¬decide (y<0)=true by simpa using c2)]
 ·rw[ah (show(x==y)=true by simpa using c2),aj (show ¬decide (x<0)=true by simpa using c1),eu,ev,List.tail_cons,List.tail_cons,c2]
def hdT(a q:gI):gI:=match BS a q 1 with|some r=>q.take (q.length-r.length)|none=>[]
theorem aav{a q u r:gI}(h:q=u++r)(hu:Wv a 1 u):hdT a q=u:=by
 unfold hdT;rw[h,hu.skip r];simp
theorem Wj{a q:gI}(h:hdT a q≠[]):∃r,q=hdT a q++r:=by
 unfold hdT at h⊢;cases e:BS a q 1 with
 |none=>rw[e]at h;exact absurd rfl h
 |some r=>exact⟨q.drop (q.length-r.length),(bL _ _).symm⟩
def CC(a t:gI):List gI:=(List.range t.length).map fun i=>hdT a (t.drop i)
theorem IE(a t:gI):(CC a t).length=t.length:=by simp[CC]
theorem ET{a t u r:gI}{i:Nat}(h:t.drop i=u++r)(hu:Wv a 1 u):u∈CC a t:=by
 have hl:=bP List.length h;have:=hu.len;simp at hl;exact a_.2 ⟨i,cT.2 iA,aav h hu⟩
theorem ES{a t u:gI}(h:u∈CC a t)(hu:u≠[]):∃i r,t.drop i=u++r:=by
 obtain⟨i,_,e⟩:=a_.1 h;obtain⟨r,hr⟩:=Wj (a:=a) (q:=t.drop i) (by rw[e];exact hu);exact⟨i,r,by rw[e]at hr;exact hr⟩
def N0(a s t:gI):Pl:=⟨48,CC a s++CC a t⟩
theorem Li{a s u:gI}(hu:u∈CC a s)(w:Wv a 1 u)(hx:¬u.headD 0<0):∀p∈qD a (mV a (u.headD 0)) u.tail,p∈CC a s:=by
 obtain⟨x,q,rfl,_,wq⟩:=w.pos;rw[bU]at wq;obtain⟨i1,i2,i3⟩:=wN wq;obtain⟨i,r,e⟩:=ES hu (by simp);intro p hp;obtain⟨p1,p2,ep⟩:=pK hp;rw[show(x::q).tail=q from rfl,show(x::q).headD 0=x from rfl,i1]at ep;have e':s.drop (i+(1+p1.length))=p++(p2++r):=by rw[<-List.drop_drop,e,ep,cP 1,bz,fP,aF,aF,bS]
 exact ET e' (i3 p hp)
theorem ZF{a s t:gI}:Cl a (N0 a s t):=fun u hn w hx p hp=>by
 refine⟨fun y hy=>hn y ?_,?_⟩
 ·obtain⟨x,q,rfl,_,wq⟩:=w.pos;rw[bU]at wq;obtain⟨p1,p2,ep⟩:=pK hp;rw[show(x::q).tail=q from rfl,show(x::q).headD 0=x from rfl,(wN wq).1]at ep;rw[ep];simp[hy]
 ·rcases aG.1 hn.mem with c|c
  ·exact bp _ (Li c w hx p hp)
  ·exact bM _ (Li c w hx p hp)
structure Lt(a s:gI):Prop where
 wv:Wv a 1 s
 len:s.length<=60
 lo:∀y∈s, -48<=y
theorem Om{a s t:gI}(ha:kL a=true)(hs:Lt a s)(ht:Lt a t):UC a (N0 a s t):=by
 refine⟨ha,rfl,fun u hu=>?_⟩;by_cases h0:u=[]
 ·rw[h0];simp
 ·rcases aG.1 hu with c|c
  ·obtain⟨i,r,e⟩:=ES c h0;have hl:=bP List.length e;have:=hs.len;simp at hl;omega
  ·obtain⟨i,r,e⟩:=ES c h0;have hl:=bP List.length e;have:=ht.len;simp at hl;omega
theorem ae3{a s t:gI}(hs:Lt a s):Nb (N0 a s t) s:=⟨hs.lo,bp _ (ET (i:=0) (r:=[]) (by simp) hs.wv)⟩
theorem ae4{a s t:gI}(ht:Lt a t):Nb (N0 a s t) t:=⟨ht.lo,bM _ (ET (i:=0) (r:=[]) (by simp) ht.wv)⟩
theorem agJ{a s t:gI}(hs:Lt a s)(ht:Lt a t):(N0 a s t).P.length<=200:=by
 have h1:=hs.len;have h2:=ht.len;show(CC a s++CC a t).length<=200;rw[ak,IE,IE];omega
abbrev GS:List gI:=List.replicate 48 []
theorem Mq{a s t:gI}(ha:kL a=true)(hs:Lt a s)(ht:Lt a t):∃z,kR s t a GS=some z/\
 Cm a (N0 a s t) GS (fun τ=>sub τ s=sub τ t) (Sum.elim (fun b=>(b,true)) (fun b=>(b,false)) z):=by
 have hc:=Om ha hs ht;obtain⟨F,res,e,R⟩:=Un.Ei.good (Kz hc) ZF _ _ (Bn.none a (N0 a s t)) (aC _) (aC _) hs.wv ht.wv (ae3 hs) (ae4 ht);have e1:=e F (aC _);unfold EQ toR at e1;obtain⟨z,hz,ez⟩:=aB.1 e1;refine⟨z,Oe F hz fun m z' hz'=>?_,by rw[ez];exact R⟩;have q1:=Ap a _ hz' (Nat.le_max_left m F);have q2:=Ap a _ hz (Nat.le_max_right m F);exact dG (q1.symm.trans q2)
theorem M9{a s t:gI}(ha:kL a=true)(hs:Lt a s)(ht:Lt a t):∃res:Bool×List gI,nS a s t GS=some res/\
 Cm a (N0 a s t) GS (fun τ=>sub τ s=sub τ t) (res.2,res.1):=by
 have hc:=Om ha hs ht;obtain⟨res,e,R⟩:=CH.good (Lc hc (agJ hs ht)) ZF (wC ha) _ _ (l:=[(s,t)]) (Bn.none a (N0 a s t)) (aC _) (aC _) (fun pq hpq=>by
  rw[aR.1 hpq];exact⟨hs.wv,ht.wv,ae3 hs,ae4 ht⟩) (H:=[]) (.base (by simp))
 exact⟨(res.2,res.1),e,R.of fun τ _=>by simp[uG]⟩
end
end Go.Proofs.YtjgbnaihpicpgabGreat
