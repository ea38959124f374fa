/- A part of the proof about FnOneForm (VA, VB, VC, VD, VE). -/
import Derived.Test.YtjgbnaihpicpgaaGreatOh
import Derived.Test.YtjgbnaihpicpgaaGreatOi
import Derived.Test.YtjgbnaihpicpgaaGreatOn
import Derived.Test.YtjgbnaihpicpgaaGreatOo
set_option linter.all false
namespace Go.Proofs.YtjgbnaihpicpgaaGreat
open Go ng Tm Un
structure UC(a:gB)(N:Pl):Prop where
 sg:ku a=true
 GX:N.n=48
 sm:∀t∈N.P,t.length<=60
theorem UC.small{a t:gB}{N:Pl}(hc:UC a N)(h:Nb N t):t.length<=60:=hc.sm _ h.mem
theorem Eg{a:gB}{N:Pl}(hc:UC a N){n:Int}(h0:n<0)(h1: -(N.n:Int)<=n):IntKind.i64.wrap ((-1)-n)= -1-n/\0<= -1-n/\ -1-n<48:=by
 have:=hc.GX;exact⟨lz h_ h_,h_,h_⟩
theorem IQ{σ β:Type}{f g:σ->Option (σ⊕β)}(hfg:∀s x,f s=some x->g s=some x){s:σ}{b:β}(h:iB f s=some b):iB g s=some b:=by
 obtain⟨n,hn⟩:=qz h
 suffices hs:∀n s,tC f n s b->tC g n s b from(hs n s hn).iB
 intro n;induction n with
 |zero=>intro s h;exact h
 |succ n ih=>
  intro s h;rcases h with h|⟨s',h,h'⟩
  ·exact .inl (hfg _ _ h)
  ·exact .inr ⟨s',hfg _ _ h,ih s' h'⟩
section
variable{a:gB}{N:Pl}{b:List gB}{σ:Sb}{r:Int->Nat}
theorem AJ(hc:UC a N)(h:Bn a N b σ r){t u:gB}(hu:Hd b t u):Wv a 1 t->Nb N t->iB (lD b) t=some u:=by
 induction hu with
 |@stop t hs=>
  intro w n;refine iL ?_;obtain⟨x,p,rfl,_,_⟩:=w.pos;have hs':x<0->bg b x=[]:=hs;unfold lD;rw[ah ⟨h_,by simp only[aJ];omega⟩,show(x::p).getD 0 default=x from rfl];by_cases hx:x<0
  ·obtain⟨e1,e2,e3⟩:=Eg hc hx (n x aS);rw[ah (by simpa using hx),e1,ah ⟨e2,e3,by rw[h.len,hc.GX];exact e3⟩];have e4:b.getD (-1-x).toNat default=[]:=hs' hx;rw[e4];rfl
  ·rw[aj (by simpa using hx)];rfl
 |@go t u hx hb hu ih=>
  intro w n;obtain⟨x,p,rfl,_,_⟩:=w.pos;have hx':x<0:=hx;have hb':b.getD (-1-x).toNat default≠[]:=hb;obtain⟨t1,t2⟩:=h.tm _ hx hb;refine(iW ?_).trans (ih t1 t2);unfold lD;obtain⟨e1,e2,e3⟩:=Eg hc hx' (n x aS);rw[ah ⟨h_,by simp only[aJ];omega⟩,show(x::p).getD 0 default=x from rfl,ah (by simpa using hx'),e1,ah ⟨e2,e3,by rw[h.len,hc.GX];exact e3⟩,aj (by simpa using hb')];rfl
theorem A6(hc:UC a N)(h:Bn a N b σ r){t u:gB}(hu:Hd b t u):Wv a 1 t->Nb N t->iB (n_ b) t=some u:=by
 induction hu with
 |@stop t hs=>
  intro w n;refine iL ?_;obtain⟨x,p,rfl,_,_⟩:=w.pos;have hs':x<0->bg b x=[]:=hs;unfold n_;rw[ah ⟨h_,by simp only[aJ];omega⟩,show(x::p).getD 0 default=x from rfl];by_cases hx:x<0
  ·obtain⟨e1,e2,e3⟩:=Eg hc hx (n x aS);rw[ah (by simpa using hx),e1,ah ⟨e2,e3,by rw[h.len,hc.GX];exact e3⟩];have e4:b.getD (-1-x).toNat default=[]:=hs' hx;rw[e4];rfl
  ·rw[aj (by simpa using hx)];rfl
 |@go t u hx hb hu ih=>
  intro w n;obtain⟨x,p,rfl,_,_⟩:=w.pos;have hx':x<0:=hx;have hb':b.getD (-1-x).toNat default≠[]:=hb;obtain⟨t1,t2⟩:=h.tm _ hx hb;refine(iW ?_).trans (ih t1 t2);unfold n_;obtain⟨e1,e2,e3⟩:=Eg hc hx' (n x aS);have hl:0<(b.getD (-1-x).toNat default).length:=cc.2 hb';rw[ah ⟨h_,by simp only[aJ];omega⟩,show(x::p).getD 0 default=x from rfl,ah (by simpa using hx'),e1,ah ⟨e2,e3,by rw[h.len,hc.GX];exact e3⟩,ah (by simp only[av];omega)];rfl
theorem uZ{b:List gB}{x:Int}:∀(f:Nat)(t:gB)(seen:List Bool){q:Bool×List Bool},vF b x f t seen=some q->∀{g:Nat},f<=g->vF b x g t seen=some q
 |0,_,_,q,h,g,hg=>by simp[vF]at h
 |f+1,[],seen,q,h,g,hg=>by
  obtain⟨g,rfl⟩:∃k,g=k+1:=⟨g-1,h_⟩;simpa[vF]using h
 |f+1,m::t,seen,q,h,g,hg=>by
  obtain⟨g,rfl⟩:∃k,g=k+1:=⟨g-1,h_⟩;rw[vF]at h⊢;split at h
  ·rename_i h1;rw[ah h1];exact h
  ·rename_i h1;rw[aj h1];split at h
   ·rename_i h2;rw[ah h2];exact uZ (f+1) t seen h hg
   ·rename_i h2;rw[aj h2];split at h
    ·rename_i h3;rw[ah h3];exact uZ (f+1) t _ h hg
    ·rename_i h3;rw[aj h3];obtain⟨p,hp,h⟩:=aq.1 h;rw[uZ f _ _ hp h_,aa];split at h
     ·rename_i h4;rw[ah h4];exact h
     ·rename_i h4;rw[aj h4];exact uZ (f+1) t _ h hg
termination_by f t _=>(f,t.length)
theorem yx(hc:UC a N)(hb:b.length=N.n)(htm:∀x,x<0->bg b x≠[]->Nb N (bg b x))(n:Int)(u0:gB):∀(f:Nat){t:gB}{seen:List Bool},t.length<=60->(∀y∈t, -(N.n:Int)<=y)->seen.length=N.n->
 jo f n t u0 b seen=vF b n f t seen
 |0,t,seen,_,_,_=>by simp[vF,jo]
 |f+1,t,seen,hl,hn,hs=>by
  have key:∀(q:gB){i:Nat}{seen:List Bool},t.drop i=q->seen.length=N.n->iB (jT (jo f) n t u0 b) ((i:Int),seen)=vF b n (f+1) q seen:=by
   intro q;induction q with
   |nil=>
    intro i seen hq hs;have hi:t.length<=i:=by simpa using hq
    rw[vF];refine iL ?_;rw[jT,aj (by simp only[av];omega)];rfl
   |cons m q ih=>
    intro i seen hq hs;have hi:i<t.length:=by
     refine cY fun c=>?_
     rw[en h_]at hq;cases hq
    have hm:t.getD i default=m:=by
     rw[aE hi]at hq;rw[iI hi];exact(bk hq).1
    have hq':t.drop (i+1)=q:=by
     rw[aE hi]at hq;exact(bk hq).2
    have hmt:m∈t:=by rw[<-hm];exact jB hi
    have hw:IntKind.i64.wrap ((i:Int)+1)=((i+1:Nat):Int):=by rw[lz h_ h_];rfl
    have e0:jT (jo f) n t u0 b ((i:Int),seen)=(if m=n then some (.inr (true,seen))else if 0<=m\/sn seen m=true then some (.inl (((i+1:Nat):Int),seen))else if bg b m=[]then some (.inl (((i+1:Nat):Int),ss seen m))else(jo f n (bg b m) u0 b (ss seen m)).bind fun p=>if p.1=true then some (.inr (true,p.2))else some (.inl (((i+1:Nat):Int),p.2))):=by
     rw[jT,ah (by simp only[av];omega),ah ⟨h_,h_⟩,au,hm];by_cases h1:m=n
     ·rw[ah (by simpa using h1),ah h1];rfl
     ·rw[aj (by simpa using h1),aj h1];by_cases h2:0<=m
      ·rw[ah (by simpa using h2),ah (.inl h2),hw]
      ·have h0:m<0:=by omega
       obtain⟨e1,e2,e3⟩:=Eg hc h0 (hn m hmt);rw[aj (by simpa using h2),e1,ah ⟨e2,e3,by rw[hs,hc.GX];exact e3⟩];by_cases h3:sn seen m=true
       ·have h3':seen.getD (-1-m).toNat default=true:=h3;rw[ah h3',ah (.inr h3),hw]
       ·have h3':¬seen.getD (-1-m).toNat default=true:=h3;rw[aj h3',aj (fun c:0<=m\/sn seen m=true=>c.elim h2 h3),ah ⟨e2,e3,by rw[hb,hc.GX];exact e3⟩];by_cases h4:bg b m=[]
        ·have h4':b.getD (-1-m).toNat default=[]:=h4;rw[h4',ah (show([]:gB).isEmpty=true from rfl),ah h4,hw];rfl
        ·have h4':¬(b.getD (-1-m).toNat default).isEmpty=true:=by rw[List.isEmpty_iff];exact h4
         rw[aj h4',aj h4];rw[hw];rfl
    rw[vF];by_cases h1:m=n
    ·rw[ah h1]at e0⊢;exact iL e0
    ·rw[aj h1]at e0⊢;by_cases h2:0<=m\/sn seen m=true
     ·rw[ah h2]at e0⊢;exact(iW e0).trans (ih hq' hs)
     ·rw[aj h2]at e0⊢;by_cases h3:bg b m=[]
      ·rw[ah h3]at e0⊢;exact(iW e0).trans (ih hq' (by simpa[ss]using hs))
      ·rw[aj h3]at e0⊢;have hm0:m<0:=by omega
       have hnb:=htm m hm0 h3;rw[yx hc hb htm n u0 f (hc.small hnb) hnb.le (by simpa[ss]using hs)]at e0;cases hp:vF b n f (bg b m) (ss seen m)with
       |none=>
        rw[hp]at e0;rw[f_]at e0⊢;cases hx:iB (jT (jo f) n t u0 b) ((i:Int),seen)with
        |none=>rfl
        |some z=>
         obtain⟨k,hk⟩:=qz hx;cases k with
         |zero=>exact hk.elim
         |succ k=>
          rcases hk with hk|⟨s',hk,_⟩
          ·rw[e0]at hk;cases hk
          ·rw[e0]at hk;cases hk
       |some p=>
        rw[hp]at e0;rw[aa]at e0⊢;by_cases h5:p.1=true
        ·rw[ah h5]at e0⊢;exact iL e0
        ·rw[aj h5]at e0⊢;exact(iW e0).trans (ih hq' (by rw[wU f _ _ hp];simpa[ss]using hs))
  have:=key t (i:=0) rfl hs;exact this
end
end Go.Proofs.YtjgbnaihpicpgaaGreat
namespace Go.Proofs.YtjgbnaihpicpgaaGreat
open Go ng Tm
open Un hiding Bd
theorem O5{a t:gB}{i k:Nat}(h:i<t.length):xZ a (t.drop i) (k+1)=if t[i]<a.length then xZ a (t.drop (i+1)) (k+lA a t[i])else none:=by rw[aE h,vp]
theorem R6(a:gB)(k:Nat):xZ a [] (k+1)=none:=by simp[xZ]
theorem v_{a t u r:gB}(ha:ku a=true)(hs:Small t){i:Nat}(hd:t.drop i=u++r)(hu:Wv a 1 u):lY a t i=some ((t.length:Int)-r.length):=by
 have hl:=bS List.length hd;have hul:=hu.len;simp at hl;have hi:i<=t.length:=by omega
 have h0:xZ a (t.drop i) 1=some r:=by rw[hd];exact hu.skip r
 have key:jN True (kW a t i) fun q=>q=(true,(t.length:Int)-r.length):=by
  unfold kW;refine jN.loop (fun s=>∃(k c:Nat),s=((k:Int),(c:Int))/\c<=t.length/\k<=1+3*c/\xZ a (t.drop c) k=some r) (fun s=>t.length-s.2.toNat) ⟨1,i,rfl,hi,h_,h0⟩ ?_;rintro _ ⟨k,c,rfl,h1,h2,h3⟩;simp only[nK];cases k with
  |zero=>
   simp only[show ¬(0:Int)<((0:Nat):Int) by omega,aU,ak,aB,aM];refine .some ?_;simp only[yc];rw[vt]at h3;cases h3;simp;omega
  |succ k=>
   simp only[show(0:Int)<((k+1:Nat):Int) by omega,aQ,aC,tA ha hs h1,aa];by_cases hc:c<t.length
   ·rw[aE hc];rw[O5 hc]at h3;simp only;by_cases hlt:t[c]<a.length
    ·rw[ah hlt]at h3;have hle:=uz ha t[c];simp only[hlt,aC,show ¬((lA a t[c]:Nat):Int)<0 by omega,aU,ak,aB];have hw1:IntKind.i64.wrap (((k+1:Nat):Int)+(lA a t[c]:Int))=(k+1:Nat)+lA a t[c]:=lz h_ h_;rw[hw1,lz h_ h_];refine .some ⟨⟨k+lA a t[c],c+1,by simp;omega,h_,h_,h3⟩,by simp;omega⟩
    ·rw[aj hlt]at h3;cases h3
   ·rw[bM h_,R6]at h3;cases h3
 unfold lY;rw[key.eq,aa];rfl
theorem we{a t u r:gB}(ha:ku a=true)(hs:Small t){i:Nat}(h:t.drop i=u++r)(hu:Wv a 1 u):jX a t i=some u:=by
 have hl:=bS List.length h;have hul:=hu.len;simp at hl;unfold jX;rw[v_ ha hs h hu,aa,ah h_,show((t.length:Int)-r.length).toNat=t.length-r.length by omega,au,yR h h_]
def BL:Nat->List gB->gB
 |_,[]=>[]
 |i,u::us=>(i:Int)::BL (i+u.length) us
theorem vn:∀(i:Nat)(us:List gB),(BL i us).length=us.length
 |_,[]=>rfl
 |i,u::us=>by rw[BL,aJ,aJ,vn]
theorem yC{t:gB}:∀{us:List gB}{i k:Nat},t.drop i=us.flatten->k<us.length->∃(j:Nat)(r:gB),(BL i us).getD k default=(j:Int)/\t.drop j=us.getD k default++r
 |[],i,k,h,hk=>by simp at hk
 |u::us,i,0,h,hk=>⟨i,us.flatten,rfl,by rw[h,ct];rfl⟩
 |u::us,i,k+1,h,hk=>by
  have h':t.drop (i+u.length)=us.flatten:=by rw[<-List.drop_drop,h,ct,bT]
  obtain⟨j,r,e1,e2⟩:=yC h' (k:=k) (by simpa using hk);exact⟨j,r,by rw[BL,List.getD_cons_succ];exact e1,by rw[List.getD_cons_succ];exact e2⟩
theorem ta{a t:gB}(ha:ku a=true)(hl:t.length<=60){x:Int}{p:gB}(ht:t=x::p)(hx:¬x<0)(hw:Wv a 1 t):mU a t 0=some (BL 1 (oS a (lA a x) p)):=by
 have hlt:x<a.length/\Wv a (lA a x) p:=by
  have:=hw;rw[ht]at this;have:=Wv.je.1 this;rw[ck]at this;exact this
 have hs:Small t:=by show t.length<_;omega
 have h3:=uz ha x;unfold mU;rw[ah ⟨h_,by rw[ht,aJ];omega⟩,show t.getD (0:Int).toNat default=x by rw[ht];rfl,sJ ha hlt.1,aa,show IntKind.i64.wrap (0+1)=((1:Nat):Int) by rw[lz h_ h_];rfl];have key:∀(k:Nat){q o:gB}{i:Nat},Wv a k q->t.drop i=q->k+o.length<=3->iB (mY a t) (o,(i:Int),(k:Int))=some (o++BL i (oS a k q)):=by
  intro k;induction k with
  |zero=>
   intro q o i hq hd ho;refine iL ?_;rw[mY,aj (by simp),oS,BL,bh];rfl
  |succ k ih=>
   intro q o i hq hd ho;rw[cS]at hq;obtain⟨u,v,rfl,w1,w2⟩:=hq.split;have hll:=bS List.length hd;have:=w1.len;rw[cG,ai]at hll;have hd':t.drop (i+u.length)=v:=by rw[<-List.drop_drop,hd,bT]
   have e:xZ a (u++v) 1=some v:=w1.skip v;have e2:(u++v).take ((u++v).length-v.length)=u:=by rw[ai,d_];simp
   have e3:oS a (k+1) (u++v)=u::oS a k v:=by rw[oS,e];simp only;rw[e2]
   refine(iW ?_).trans (b:=iB (mY a t) (o++[(i:Int)],((i+u.length:Nat):Int),(k:Int))) ?_
   ·rw[mY,ah (by simp only[av];omega),ah h_,v_ ha hs hd w1,aa];have e5:IntKind.i64.wrap (((k+1:Nat):Int)-1)=(k:Int):=by rw[lz h_ h_];omega
    rw[e5,show(t.length:Int)-v.length=((i+u.length:Nat):Int) by omega]
   ·rw[ih w2 hd' (by rw[ai,aX];omega),e3,BL,aH];rfl
 have:=key (lA a x) (q:=p) (o:=[]) (i:=1) hlt.2 (by rw[ht];rfl) (by simpa using h3);rw[bA]at this;exact this
def toR(o:Option (Bd⊕Bd)):Option (Bd×Bool):=o.map (Sum.elim (fun b=>(b,true)) fun b=>(b,false))
noncomputable def EQ(a:gB)(f:Nat)(b:Bd)(s t:gB):Option (Bd×Bool):=toR (iN f s t a b)
theorem wN(u0:gB):∀(f:Nat){s t:gB}{b:Bd}{q:Bd⊕Bd},iN f s t u0 b=some q->∀{g:Nat},f<=g->iN g s t u0 b=some q:=by
 intro f;induction f with
 |zero=>intro s t b q h;simp[iN]at h
 |succ f ih=>
  intro s t b q h g hg;obtain⟨g,rfl⟩:∃k,g=k+1:=⟨g-1,h_⟩;rw[iN]at h⊢;obtain⟨r,hr,h⟩:=aq.1 h;obtain⟨r',hr',h⟩:=aq.1 h;rw[hr,aa,hr',aa];split at h
  ·rename_i h1;rw[ah h1];split at h
   ·rename_i h2;rw[ah h2];split at h
    ·rename_i h3;rw[ah h3];split at h
     ·rename_i h4;rw[ah h4];exact h
     ·rename_i h4;rw[aj h4];obtain⟨o,ho,h⟩:=aq.1 h;obtain⟨o',ho',h⟩:=aq.1 h;rw[ho,aa,ho',aa];refine IQ (fun st x hx=>?_) h;obtain⟨i,bb⟩:=st;rw[jS]at hx⊢;split at hx
      ·rename_i k1;rw[ah k1];split at hx
       ·rename_i k2;rw[ah k2];obtain⟨z,hz,hx⟩:=aq.1 hx;rw[hz,aa];split at hx
        ·rename_i k3;rw[ah k3];obtain⟨z',hz',hx⟩:=aq.1 hx;obtain⟨y,hy,hx⟩:=aq.1 hx;rw[hz',aa,ih hy h_,aa];exact hx
        ·cases hx
       ·cases hx
      ·rename_i k1;rw[aj k1];exact hx
    ·rename_i h3;rw[aj h3];exact h
   ·cases h
  ·cases h
section
variable{a:gB}{N:Pl}{b:List gB}{σ:Sb}{r:Int->Nat}
theorem IS{σ β:Type}{f:σ->Option (σ⊕β)}{s:σ}(h:f s=none):iB f s=none:=by
 cases hx:iB f s with
 |none=>rfl
 |some z=>
  obtain⟨k,hk⟩:=qz hx;cases k with
  |zero=>exact hk.elim
  |succ k=>
   rcases hk with hk|⟨s',hk,_⟩
   ·rw[h]at hk;cases hk
   ·rw[h]at hk;cases hk
theorem O8(m:Int):sn (List.replicate 48 false) m=false:=by
 unfold sn;rw[List.getD_eq_getElem?_getD,cP];split<;>rfl
theorem xS(hc:UC a N)(h:Bn a N b σ r)(u0:gB){n:Int}(hn:n<0)(hb:bg b n=[]){t:gB}(ht:Nb N t):
 ∃q,lO n t u0 b (List.replicate 48 false)=some q/\(q.1=true<->n∈sub σ t):=by
 obtain⟨M,hM⟩:=yG r t;have hl:(List.replicate 48 false).length=N.n:=by rw[er,hc.GX]
 have he:=yx (b:=b) hc h.len (fun x hx hbx=>(h.tm x hx hbx).2) n u0;obtain⟨q,e,q1,q2⟩:=AU h hn hb (M+1) t (List.replicate 48 false) (R:=M) (cZ _) hl ht.le (fun y hy _ _=>hM y hy) (fun m _ _ hs=>by rw[O8]at hs;cases hs);refine⟨q,?_,q1,fun hin=>?_⟩
 ·refine J1 (M+1) (by rw[he _ (hc.small ht) ht.le hl];exact e) fun m q' hq'=>?_
  rw[he _ (hc.small ht) ht.le hl]at hq';have k1:=uZ _ _ _ hq' (Nat.le_max_left m (M+1));have k2:=uZ _ _ _ e (Nat.le_max_right m (M+1));rw[k1]at k2;exact dw k2
 ·cases hq:q.1 with
  |true=>rfl
  |false=>exact absurd hin (q2 hq).1
theorem Gp(ha:ku a=true){u v:gB}{P Q:List gB}(hu:Small u)(hv:Small v){iu iv:Nat}(eu:u.drop iu=P.flatten)(ev:v.drop iv=Q.flatten)
 (wP:∀t∈P,Wv a 1 t) (wQ:∀t∈Q,Wv a 1 t) (hPQ:P.length=Q.length) (h3:P.length<=3) (f:Nat):
 ∀(n i:Nat){b:List gB},i+n=P.length->toR (iB (jS (iN f) a u v (BL iu P) (BL iv Q)) ((i:Int),b))=UJ (EQ a f) b ((P.drop i).zip (Q.drop i)):=by
 intro n;induction n with
 |zero=>
  intro i b hi;rw[iL (b:=.inl b) (by rw[jS,aj (by rw[vn];simp only[av];omega)];rfl),bM h_];rfl
 |succ n ih=>
  intro i b hi;have hiP:i<P.length:=by omega
  have hiQ:i<Q.length:=by omega
  obtain⟨j1,r1,p1,p2⟩:=yC eu hiP;obtain⟨j2,r2,q1,q2⟩:=yC ev hiQ;have s1:=we ha hu p2 (wP _ (jB hiP));have s2:=we ha hv q2 (wQ _ (jB hiQ));have hw:IntKind.i64.wrap ((i:Int)+1)=((i+1:Nat):Int):=by rw[lz h_ h_];rfl
  have e0:jS (iN f) a u v (BL iu P) (BL iv Q) ((i:Int),b)=
   (iN f (P.getD i default) (Q.getD i default) a b).bind (Sum.elim (fun rt_3=>some (.inl (((i+1:Nat):Int),rt_3))) (fun rf_3=>Option.map Sum.inr (some (.inr rf_3)))):=by
   rw[jS,ah (by rw[vn];simp only[av];omega),ah ⟨h_,by rw[vn];omega⟩,au,p1,s1,aa,
    ah ⟨h_,by rw[vn];omega⟩,q1,s2,aa,hw]
  rw[aE hiP,aE hiQ,ec,UJ,<-iI hiP,<-iI hiQ];simp only;rw[EQ];cases hq:iN f (P.getD i default) (Q.getD i default) a b with
  |none=>rw[hq]at e0;rw[IS (by rw[e0];rfl)];rfl
  |some z=>
   rw[hq]at e0;cases z with
   |inl b'=>rw[iW (s':=(((i+1:Nat):Int),b')) (by rw[e0];rfl),ih (i+1) h_];rfl
   |inr b'=>rw[iL (b:=.inr b') (by rw[e0];rfl)];rfl
theorem GF(hc:UC a N):Un.Bl a N (EQ a):=⟨fun{b σ r s t} h ws wt ns nt=>by
 obtain⟨u,hu⟩:=Hd.ex h (r (s.headD 0)+1) ws (cZ _);obtain⟨v,hv⟩:=Hd.ex h (r (t.headD 0)+1) wt (cZ _);refine⟨u,v,hu,hv,fun f=>?_⟩;obtain⟨w1,n1,f1,g1⟩:=hu.ok h ws ns;obtain⟨w2,n2,f2,g2⟩:=hv.ok h wt nt;have e1:lG s a b=some u:=AJ hc h hu ws ns;have e2:lG t a b=some v:=AJ hc h hv wt nt;obtain⟨x,p,eu,hx,wp⟩:=w1.pos;obtain⟨y,q,ev,hy,wq⟩:=w2.pos;have l1:=hc.small n1;have l2:=hc.small n2;have hux:u.getD (0:Int).toNat default=x:=by rw[eu];rfl
 have hvy:v.getD (0:Int).toNat default=y:=by rw[ev];rfl
 have hux':u.headD 0=x:=by rw[eu];rfl
 have hvy':v.headD 0=y:=by rw[ev];rfl
 have bl:b.length=48:=by rw[h.len,hc.GX]
 have pu:0<u.length:=by rw[eu];simp
 have pv:0<v.length:=by rw[ev];simp
 have hxN: -(N.n:Int)<=x:=n1 x (by rw[eu];simp);have hyN: -(N.n:Int)<=y:=n2 y (by rw[ev];simp);unfold EQ Un.one;rw[iN,e1,aa,e2,aa,ah ⟨h_,h_⟩,ah ⟨h_,h_⟩];rw[show u.getD 0 default=x from hux,show v.getD 0 default=y from hvy,hux',hvy'];rw[hux']at f1;rw[hvy']at f2;by_cases hxy:x=y
 ·rw[ah (by simpa using hxy)];by_cases h0:x<0
  ·rw[ah (by simpa using h0),ah ⟨hxy,h0⟩];rfl
  ·rw[aj (by simpa using h0),aj (fun c=>h0 c.2),aj h_,aj (fun c=>c hxy)];rw[ck]at wp wq;have i1:=uD wp;have i2:=uD wq;rw[ta hc.sg l1 eu h0 w1,aa,ta hc.sg l2 ev h_ w2,aa];have:=Gp (a:=a) hc.sg (u:=u) (v:=v) (P:=oS a (lA a x) p) (Q:=oS a (lA a y) q) (by show u.length<_;omega) (by show v.length<_;omega) (iu:=1) (iv:=1) (by rw[eu,i1.1];rfl) (by rw[ev,i2.1];rfl) i1.2.2 i2.2.2
    (by rw[i1.2.1,i2.2.1,hxy]) (by rw[i1.2.1];exact uz hc.sg x) f (oS a (lA a x) p).length 0 (b:=b) h_
   rw[bF,bF]at this;have et:u.tail=p:=by rw[eu];rfl
   have et':v.tail=q:=by rw[ev];rfl
   rw[et,et'];rw[<-hxy]at this⊢;exact this
 ·rw[aj (show ¬(x==y)=true by simpa using hxy),aj (show ¬(x=y/\x<0)from fun c=>hxy c.1)];have setb:∀{n:Int}{w:gB},n<0-> -(N.n:Int)<=n->0<w.length->(if 0<=(IntKind.i64.wrap ((-1)-n))/\(IntKind.i64.wrap ((-1)-n))<48/\(IntKind.i64.wrap ((-1)-n))<(b.length:Int)then
   (if 0<w.length then some (Sum.inl (b.set (IntKind.i64.wrap ((-1)-n)).toNat w))else none)else(none:Option (List gB⊕List gB)))=some (.inl (bs b n w)):=fun{n w} k1 k2 k3=>by
   obtain⟨d1,d2,d3⟩:=Eg hc k1 k2;rw[d1,ah ⟨d2,d3,by rw[bl];exact d3⟩,ah k3];rfl
  by_cases hy0:y<0
  ·rw[ah (show decide (y<0)=true by simpa using hy0),ah (show x<0\/y<0 from .inr hy0)];by_cases hx0:0<=x
   ·have hw:way u v=(y,u):=by unfold way;rw[hux',hvy',ah ⟨hy0,.inl hx0⟩]
    obtain⟨q',o1,o2⟩:=xS hc h a hy0 (f2 hy0) n1;rw[ah (show decide (0<=x)=true by simpa using hx0),o1,aa,hw];simp only;rw[hux'];by_cases hin:y∈sub σ u
    ·rw[ah (o2.2 hin),ah (show 0<=x/\y∈sub σ u from⟨hx0,hin⟩)];rfl
    ·rw[aj (fun c=>hin (o2.1 c)),aj (show ¬(0<=x/\y∈sub σ u)from fun c=>hin c.2),setb hy0 hyN pu];rfl
   ·rw[aj (show ¬decide (0<=x)=true by simpa using hx0)];by_cases hlt:y<x
    ·have hw:way u v=(y,u):=by unfold way;rw[hux',hvy',ah ⟨hy0,.inr hlt⟩]
     rw[ah (show decide (y<x)=true by simpa using hlt),hw];simp only;rw[hux',aj (show ¬(0<=x/\y∈sub σ u)from fun c=>hx0 c.1),setb hy0 hyN pu];rfl
    ·have hw:way u v=(x,v):=by unfold way;rw[hux',hvy',aj (fun c=>c.2.elim hx0 hlt)]
     rw[aj (show ¬decide (y<x)=true by simpa using hlt),hw];simp only;rw[hvy',aj (show ¬(0<=y/\x∈sub σ v)from fun c=>by omega),setb h_ hxN pv];rfl
  ·rw[aj (show ¬decide (y<0)=true by simpa using hy0)];by_cases hx0:x<0
   ·have hw:way u v=(x,v):=by unfold way;rw[hux',hvy',aj (fun c=>hy0 c.1)]
    obtain⟨q',o1,o2⟩:=xS hc h a hx0 (f1 hx0) n2;rw[ah (show decide (x<0)=true by simpa using hx0),ah (show x<0\/y<0 from .inl hx0),o1,aa,hw];simp only;rw[hvy'];by_cases hin:x∈sub σ v
    ·rw[ah (o2.2 hin),ah (show 0<=y/\x∈sub σ v from⟨h_,hin⟩)];rfl
    ·rw[aj (fun c=>hin (o2.1 c)),aj (show ¬(0<=y/\x∈sub σ v)from fun c=>hin c.2),setb hx0 hxN pv];rfl
   ·rw[aj (show ¬decide (x<0)=true by simpa using hx0),aj (show ¬(x<0\/y<0) by omega),ah (show x≠y from hxy)];rfl⟩
end
section
variable{a:gB}{N:Pl}{b:List gB}{σ:Sb}{r:Int->Nat}
theorem Fa{α:Type}[Inhabited α]{td:List α}{u:α}(hl:(td++[u]).length<1099511627776):
 0<=IntKind.i64.wrap (((td++[u]).length:Int)-1)/\IntKind.i64.wrap (((td++[u]).length:Int)-1)<((td++[u]).length:Int)/\(IntKind.i64.wrap (((td++[u]).length:Int)-1)).toNat=td.length/\
 (td++[u]).getD td.length default=u/\(td++[u]).take td.length=td:=by
 rw[ai,aX]at hl⊢;rw[lz h_ h_];refine⟨h_,h_,h_,?_,by rw[dS]⟩;rw[List.getD_eq_getElem?_getD,bK (aA _)];simp
theorem LZ(hc:UC a N)(hb:b.length=N.n){x:Int}{g:List gB}{u:gB}(hu:Nb N u)(hg:g.getD (IntKind.i64.wrap ((g.length:Int)-1)).toNat default=u):
 ∀(q:gB){i:Nat}{se:List Bool}{td:List gB},u.drop i=q->se.length=N.n->td.length+HA se<=100->
  iB (lH x b g) ((i:Int),se,td)=some (match HM b x q se td with|none=>.inr true|some p=>.inl (p.1,p.2)):=by
 intro q;have hl:=hc.small hu;induction q with
 |nil=>
  intro i se td hq hs hh;have hi:u.length<=i:=by simpa using hq
  rw[HM];refine iL ?_;rw[lH,hg,aj (by simp only[av];omega)];rfl
 |cons m q ih=>
  intro i se td hq hs hh;have hi:i<u.length:=by
   refine cY fun c=>?_
   rw[en h_]at hq;cases hq
  have hm:u.getD i default=m:=by
   rw[aE hi]at hq;rw[iI hi];exact(bk hq).1
  have hq':u.drop (i+1)=q:=by
   rw[aE hi]at hq;exact(bk hq).2
  have hmt:m∈u:=by rw[<-hm];exact jB hi
  have hw:IntKind.i64.wrap ((i:Int)+1)=((i+1:Nat):Int):=by rw[lz h_ h_];rfl
  have e0:lH x b g ((i:Int),se,td)=(if m=x then some (.inr (.inr true))else if m<0/\sn se m=false/\bg b m≠[]then some (.inl (((i+1:Nat):Int),ss se m,td++[bg b m]))else some (.inl (((i+1:Nat):Int),se,td))):=by
   rw[lH,hg,ah (by simp only[av];omega),ah ⟨h_,h_⟩,au,hm];by_cases h1:m=x
   ·rw[ah (show(m==x)=true by simpa using h1),ah h1];rfl
   ·rw[aj (show ¬(m==x)=true by simpa using h1),aj h1];by_cases h0:m<0
    ·obtain⟨e1,e2,e3⟩:=Eg hc h0 (hu m hmt);rw[ah (show decide (m<0)=true by simpa using h0),e1,ah (show 0<= -1-m/\ -1-m<48/\ -1-m<(se.length:Int)from⟨e2,e3,by rw[hs,hc.GX];exact e3⟩)];by_cases h3:sn se m=true
     ·have h3':se.getD (-1-m).toNat default=true:=h3;rw[ah h3',aj (show ¬(m<0/\sn se m=false/\bg b m≠[])from fun c=>by rw[h3]at c;cases c.2.1),hw]
     ·have h3':¬se.getD (-1-m).toNat default=true:=h3;have h3f:sn se m=false:=by simpa using h3
      rw[aj h3',ah (show 0<= -1-m/\ -1-m<48/\ -1-m<(b.length:Int)from⟨e2,e3,by rw[hb,hc.GX];exact e3⟩)];by_cases h4:bg b m=[]
      ·have h4':b.getD (-1-m).toNat default=[]:=h4;rw[h4',aj (show ¬(m<0/\sn se m=false/\bg b m≠[])from fun c=>c.2.2 h4),hw];rfl
      ·have h4':0<(b.getD (-1-m).toNat default).length:=cc.2 h4;rw[ah (show decide (0<((b.getD (-1-m).toNat default).length:Int))=true by simp only[av];omega),ah h_,ah (show m<0/\sn se m=false/\bg b m≠[]from⟨h0,h3f,h4⟩),hw];rfl
    ·rw[aj (show ¬decide (m<0)=true by simpa using h0),aj (show ¬(m<0/\sn se m=false/\bg b m≠[])from fun c=>h0 c.1),hw]
  rw[HM];by_cases h1:m=x
  ·rw[ah h1]at e0⊢;exact iL e0
  ·rw[aj h1]at e0⊢;by_cases h2:m<0/\sn se m=false/\bg b m≠[]
   ·rw[ah h2]at e0⊢;have hlt:HA (ss se m)<HA se:=uP (by have:=hu m hmt;omega) h2.2.1;exact(iW e0).trans (ih hq' (by simpa[ss]using hs) (by rw[ai,aX];omega))
   ·rw[aj h2]at e0⊢;exact(iW e0).trans (ih hq' hs hh)
theorem Hq(hc:UC a N)(hb:b.length=N.n)(x:Int):Bk b x (fun se td=>(se,td)) (mO x b) N:=by
 refine⟨fun se hs=>?_,fun{se td u} hs hu hh=>?_⟩
 ·rw[mO,aj (by simp)];rfl
 ·have hn:=hc.GX;obtain⟨k1,k2,k3,k4,k5⟩:=Fa (td:=td) (u:=u) (by rw[ai,aX];omega);rw[mO,ah (by simp only[av,ai,aX];omega),ah ⟨k1,k2⟩,ah ⟨k1,h_⟩,k3,k5];have:=LZ hc hb (x:=x) (g:=td++[u]) hu (by rw[k3];exact k4) u (i:=0) (se:=se) (td:=td) rfl hs h_;refine Eq.trans this ?_;cases HM b x u se td<;>rfl
theorem Sg:HA (List.replicate 48 false)=48:=by decide
theorem tu(hc:UC a N)(h:Bn a N b σ r){x:Int}(hx:x<0)(hbx:bg b x=[]){t:gB}(ht:Nb N t):∃q,lU x t b=some q/\(q=true<->x∈sub σ t):=by
 have hl:(List.replicate 48 false).length=N.n:=by rw[er,hc.GX]
 refine Bk.good h hx hbx (Hq hc h.len x) ht.le _ _ (aA _) (aA _) (se:=List.replicate 48 false) (td:=[t]) ⟨hl,fun u hu=>?_,?_,fun m _ _ hs=>?_,.inl (by simp)⟩
 ·rw[aK.1 hu];exact⟨ht,id⟩
 ·rw[Sg,hc.GX];simp
 ·rw[O8]at hs;cases hs
theorem HW{a:gB}(ha:ku a=true){x:Int}(h0:¬x<0)(hx:x<a.length):a.getD x.toNat default=(lA a x:Int):=by
 have:=sJ ha hx;unfold ni at this;rw[aj (by simpa using h0),ah h_]at this;exact dw this
theorem Ej{a t q:gB}(ha:ku a=true)(hl:t.length<=60):∀(w:gB){k j:Nat},t.drop j=w++q->Wv a k w->j<=t.length->k<=1+3*j->iB (oJ a t) ((j:Int),(k:Int))=some ((t.length:Int)-q.length):=by
 intro w;induction w with
 |nil=>
  intro k j hd hw hj hk;have hk0:k=0:=by have:=hw.len;simpa using this
  subst hk0;have hll:=bS List.length hd;simp at hll;refine iL ?_;rw[oJ,aj (by simp)];rw[aM,show(j:Int)=(t.length:Int)-q.length by omega]
 |cons x w ih=>
  intro k j hd hw hj hk;have hll:=bS List.length hd;simp at hll;have hjl:j<t.length:=by omega
  have hx:t.getD j default=x:=by
   rw[aE hjl]at hd;rw[iI hjl];exact(bk hd).1
  have hd':t.drop (j+1)=w++q:=by
   rw[aE hjl]at hd;exact(bk hd).2
  cases k with
  |zero=>have:=hw.zero;cases this
  |succ k=>
   obtain⟨c1,c2⟩:=Wv.je.1 hw;have h3:=uz ha x;have hw1:IntKind.i64.wrap ((j:Int)+1)=((j+1:Nat):Int):=by rw[lz h_ h_];rfl
   refine(iW (s':=(((j+1:Nat):Int),((k+lA a x:Nat):Int))) ?_).trans (ih hd' c2 h_ h_);rw[oJ,ah (by simp only[av];omega),ah h_,au,hx,hw1];by_cases h0:x<0
   ·rw[aj (by simpa using h0),lz h_ h_,uO h0];rw[show((k+1:Nat):Int)-1=((k+0:Nat):Int) by omega]
   ·rw[ah (by simpa using h0),ah h_,HW ha h0 c1];rw[lz (n:=((k+1:Nat):Int)+(lA a x:Int)) h_ h_,lz h_ h_,show((k+1:Nat):Int)+(lA a x:Int)-1=((k+lA a x:Nat):Int) by omega]
theorem yP{a t u q:gB}(ha:ku a=true)(hl:t.length<=60){i:Nat}(hd:t.drop i=u++q)(hu:Wv a 1 u):pZ a t i=some ((t.length:Int)-q.length):=by
 have hll:=bS List.length hd;have:=hu.len;simp at hll;exact Ej ha hl u (k:=1) hd hu h_ h_
theorem tZ{a t:gB}(ha:ku a=true)(hl:t.length<=60){x:Int}{p:gB}(ht:t=x::p)(hx:¬x<0)(hw:Wv a 1 t):lK a t=some (oS a (lA a x) p):=by
 have hlt:x<a.length/\Wv a (lA a x) p:=by
  have:=hw;rw[ht]at this;have:=Wv.je.1 this;rw[ck]at this;exact this
 have h3:=uz ha x;have h0:t.getD 0 default=x:=by rw[ht];rfl
 unfold lK;rw[ah ⟨h_,by rw[ht,aJ];omega⟩,h0,aj (show ¬decide (x<0)=true by simpa using hx)];have key:∀(k:Nat){q:gB}{o:List gB}{i:Nat},Wv a k q->t.drop i=q->k+o.length=lA a x->iB (nC a t) (o,(i:Int),(o.length:Int))=some (o++oS a k q):=by
  intro k;induction k with
  |zero=>
   intro q o i hq hd ho;refine iL ?_;rw[nC,h0,ah h_,HW ha hx hlt.1,aj (by simp only[av];omega),oS,bh];rfl
  |succ k ih=>
   intro q o i hq hd ho;rw[cS]at hq;obtain⟨u,v,rfl,w1,w2⟩:=hq.split;have hll:=bS List.length hd;have:=w1.len;rw[cG,ai]at hll;have hd':t.drop (i+u.length)=v:=by rw[<-List.drop_drop,hd,bT]
   have e:xZ a (u++v) 1=some v:=w1.skip v;have e2:(u++v).take ((u++v).length-v.length)=u:=by rw[ai,d_];simp
   have e3:oS a (k+1) (u++v)=u::oS a k v:=by rw[oS,e];simp only;rw[e2]
   have e6:(t.take (t.length-v.length)).drop i=u:=yR hd h_;have e7:((o++[u]).length:Int)=IntKind.i64.wrap ((o.length:Int)+1):=by rw[lz h_ h_,ai,aX];omega
   refine(iW (s':=(o++[u],((i+u.length:Nat):Int),((o++[u]).length:Int))) ?_).trans ?_
   ·rw[nC,h0,ah h_,HW ha hx hlt.1,ah (by simp only[av];omega),yP ha hl hd w1,aa,ah h_,ah h_,show((t.length:Int)-v.length).toNat=t.length-v.length by omega,
     au,e6,e7,show(t.length:Int)-v.length=((i+u.length:Nat):Int) by omega]
   ·rw[ih w2 hd' (by rw[ai,aX];omega),e3,aH];rfl
 have:=key (lA a x) (q:=p) (o:=[]) (i:=1) hlt.2 (by rw[ht];rfl) (by simp);rw[bA]at this;exact this
end
section
variable{a:gB}{N:Pl}{b:List gB}{σ:Sb}{r:Int->Nat}
theorem Hr(hc:UC a N)(hP:N.P.length<=200):zX a N (fun b l m=>(b,l,m)) (fun b z=>(z,b)) (mG a):=by
 refine⟨fun b=>?_,fun{b σ r l s t} h ws wt ns nt hl=>?_⟩
 ·rw[mG,aj (by simp)];rfl
 obtain⟨u,hu⟩:=Hd.ex h (r (s.headD 0)+1) ws (cZ _);obtain⟨v,hv⟩:=Hd.ex h (r (t.headD 0)+1) wt (cZ _);obtain⟨w1,n1,f1,g1⟩:=hu.ok h ws ns;obtain⟨w2,n2,f2,g2⟩:=hv.ok h wt nt;have e1:oI s b=some u:=A6 hc h hu ws ns;have e2:oI t b=some v:=A6 hc h hv wt nt;obtain⟨x,p,eu,hx,wp⟩:=w1.pos;obtain⟨y,q,ev,hy,wq⟩:=w2.pos;have l1:=hc.small n1;have l2:=hc.small n2;have hux:u.getD 0 default=x:=by rw[eu];rfl
 have hvy:v.getD 0 default=y:=by rw[ev];rfl
 have hux':u.headD 0=x:=by rw[eu];rfl
 have hvy':v.headD 0=y:=by rw[ev];rfl
 have bl:b.length=48:=by rw[h.len,hc.GX]
 have pu:0<u.length:=by rw[eu];simp
 have pv:0<v.length:=by rw[ev];simp
 have hxN: -(N.n:Int)<=x:=n1 x (by rw[eu];simp);have hyN: -(N.n:Int)<=y:=n2 y (by rw[ev];simp);obtain⟨k1,k2,k3,k4,k5⟩:=Fa (td:=l.map (·.1)) (u:=s) (by rw[ai,aX,aT];omega);obtain⟨m1,m2,m3,m4,m5⟩:=Fa (td:=l.map (·.2)) (u:=t) (by rw[ai,aX,aT];omega);have h3x:=uz hc.sg x;have h3y:=uz hc.sg y;have ix:∀{n:Int},n<0-> -(N.n:Int)<=n->IntKind.i64.wrap ((-1)-n)= -1-n/\(0<= -1-n/\ -1-n<48/\ -1-n<(b.length:Int)):=fun{n} c1 c2=>by
  obtain⟨d1,d2,d3⟩:=Eg hc c1 c2;exact⟨d1,d2,d3,by rw[bl];exact d3⟩
 have e0:mG a (b,l.map (·.1)++[s],l.map (·.2)++[t])=
  (if(x==y)=true then
   if(decide (x<0))=true then some (.inl (b,l.map (·.1),l.map (·.2)))
   else some (.inl (b,l.map (·.1)++oS a (lA a x) p,l.map (·.2)++oS a (lA a y) q))
  else if(decide (x<0))=true then
   (lU x v b).bind fun z=>if z=true then some (.inr (false,b))else some (.inl (bs b x v,l.map (·.1),l.map (·.2)))
  else if(decide (y<0))=true then
   (lU y u b).bind fun z=>if z=true then some (.inr (false,b))else some (.inl (bs b y u,l.map (·.1),l.map (·.2)))
  else some (.inr (false,b))):=by
  rw[mG,ah (by simp only[av,ai,aX];omega),ah ⟨k1,k2⟩,k3,k4,k5,e1,aa,ah ⟨m1,m2⟩,m3,m4,m5,e2,aa,ah ⟨k1,h_⟩,ah ⟨m1,h_⟩,
   ah ⟨h_,h_⟩,ah ⟨h_,h_⟩,hux,hvy]
  by_cases hxy:x=y
  ·rw[ah (show(x==y)=true by simpa using hxy),ah (show(x==y)=true by simpa using hxy)];by_cases h0:x<0
   ·rw[ah (show decide (x<0)=true by simpa using h0),ah (show decide (x<0)=true by simpa using h0)]
   ·have i1:=(uD (a:=a) (k:=lA a x) (t:=p) (by rw[ck]at wp;exact wp)).2.1;have i2:=(uD (a:=a) (k:=lA a y) (t:=q) (by rw[ck]at wq;exact wq)).2.1;rw[aj (show ¬decide (x<0)=true by simpa using h0),aj (show ¬decide (x<0)=true by simpa using h0),tZ hc.sg l1 eu h0 w1,aa,ah (by rw[aT,i1];omega),
     tZ hc.sg l2 ev h_ w2,aa,ah (by rw[aT,i2];omega)]
  ·rw[aj (show ¬(x==y)=true by simpa using hxy),aj (show ¬(x==y)=true by simpa using hxy)];by_cases h0:x<0
   ·obtain⟨d1,d2⟩:=ix h0 hxN;rw[ah (show decide (x<0)=true by simpa using h0),ah (show decide (x<0)=true by simpa using h0),d1];congr 1;funext z;rw[ah d2];rfl
   ·rw[aj (show ¬decide (x<0)=true by simpa using h0),aj (show ¬decide (x<0)=true by simpa using h0)];by_cases h1:y<0
    ·obtain⟨d1,d2⟩:=ix h1 hyN;rw[ah (show decide (y<0)=true by simpa using h1),ah (show decide (y<0)=true by simpa using h1),d1];congr 1;funext z;rw[ah d2];rfl
    ·rw[aj (show ¬decide (y<0)=true by simpa using h1),aj (show ¬decide (y<0)=true by simpa using h1)];rfl
 refine⟨u,v,hu,hv,?_⟩;rw[e0,hux',hvy'];rw[hux']at f1;rw[hvy']at f2;refine⟨fun c=>?_,fun c1 c2 c3=>⟨b,?_⟩,fun c1 c2 c3=>?_,fun c1 c2 c3=>⟨b,?_⟩,fun c1 c2 c3=>?_,fun c1 c2 c3=>⟨b,?_⟩,fun c1 c2=>?_⟩
 ·rw[ah (show(x==y)=true by simpa using c.1),ah (show decide (x<0)=true by simpa using c.2)]
 ·obtain⟨z,o1,o2⟩:=tu hc h c2 (f1 c2) n2;rw[aj (show ¬(x==y)=true by simpa using c1),ah (show decide (x<0)=true by simpa using c2),o1,aa,ah (o2.2 c3)]
 ·obtain⟨z,o1,o2⟩:=tu hc h c2 (f1 c2) n2;rw[aj (show ¬(x==y)=true by simpa using c1),ah (show decide (x<0)=true by simpa using c2),o1,aa,aj (fun c=>c3 (o2.1 c))]
 ·obtain⟨z,o1,o2⟩:=tu hc h c2 (f2 c2) n1;rw[aj (show ¬(x==y)=true by simp only[bw];omega),aj (show ¬decide (x<0)=true by simpa using c1),ah (show decide (y<0)=true by simpa using c2),o1,aa,ah (o2.2 c3)]
 ·obtain⟨z,o1,o2⟩:=tu hc h c2 (f2 c2) n1;rw[aj (show ¬(x==y)=true by simp only[bw];omega),aj (show ¬decide (x<0)=true by simpa using c1),ah (show decide (y<0)=true by simpa using c2),o1,aa,aj (fun c=>c3 (o2.1 c))]
 ·rw[aj (show ¬(x==y)=true by simpa using c3),aj (show ¬decide (x<0)=true by simpa using c1),aj (show ¬decide (y<0)=true by simpa using c2)]
 ·rw[ah (show(x==y)=true by simpa using c2),aj (show ¬decide (x<0)=true by simpa using c1),eu,ev,List.tail_cons,List.tail_cons,c2]
def VZ(a q:gB):gB:=match xZ a q 1 with|some r=>q.take (q.length-r.length)|none=>[]
theorem US{a q u r:gB}(h:q=u++r)(hu:Wv a 1 u):VZ a q=u:=by
 unfold VZ;rw[h,hu.skip r];simp
theorem QY{a q:gB}(h:VZ a q≠[]):∃r,q=VZ a q++r:=by
 unfold VZ at h⊢;cases e:xZ a q 1 with
 |none=>rw[e]at h;exact absurd rfl h
 |some r=>exact⟨q.drop (q.length-r.length),(cJ _ _).symm⟩
def zL(a t:gB):List gB:=(List.range t.length).map fun i=>VZ a (t.drop i)
theorem EO(a t:gB):(zL a t).length=t.length:=by simp[zL]
theorem BR{a t u r:gB}{i:Nat}(h:t.drop i=u++r)(hu:Wv a 1 u):u∈zL a t:=by
 have hl:=bS List.length h;have:=hu.len;simp at hl;exact bq.2 ⟨i,b_.2 h_,US h hu⟩
theorem BQ{a t u:gB}(h:u∈zL a t)(hu:u≠[]):∃i r,t.drop i=u++r:=by
 obtain⟨i,_,e⟩:=bq.1 h;obtain⟨r,hr⟩:=QY (a:=a) (q:=t.drop i) (by rw[e];exact hu);exact⟨i,r,by rw[e]at hr;exact hr⟩
def N0(a s t:gB):Pl:=⟨48,zL a s++zL a t⟩
theorem Hx{a s u:gB}(hu:u∈zL a s)(w:Wv a 1 u)(hx:¬u.headD 0<0):∀p∈oS a (lA a (u.headD 0)) u.tail,p∈zL a s:=by
 obtain⟨x,q,rfl,_,wq⟩:=w.pos;rw[ck]at wq;obtain⟨i1,i2,i3⟩:=uD wq;obtain⟨i,r,e⟩:=BQ hu (by simp);intro p hp;obtain⟨p1,p2,ep⟩:=nH hp;rw[show(x::q).tail=q from rfl,show(x::q).headD 0=x from rfl,i1]at ep;have e':s.drop (i+(1+p1.length))=p++(p2++r):=by rw[<-List.drop_drop,e,ep,cS 1,bC,List.drop_succ_cons,aH,aH,bT]
 exact BR e' (i3 p hp)
theorem TY{a s t:gB}:Cl a (N0 a s t):=fun u hn w hx p hp=>by
 refine⟨fun y hy=>hn y ?_,?_⟩
 ·obtain⟨x,q,rfl,_,wq⟩:=w.pos;rw[ck]at wq;obtain⟨p1,p2,ep⟩:=nH hp;rw[show(x::q).tail=q from rfl,show(x::q).headD 0=x from rfl,(uD wq).1]at ep;rw[ep];simp[hy]
 ·rcases aF.1 hn.mem with c|c
  ·exact aZ _ (Hx c w hx p hp)
  ·exact bp _ (Hx c w hx p hp)
structure HE(a s:gB):Prop where
 wv:Wv a 1 s
 len:s.length<=60
 lo:∀y∈s, -48<=y
theorem Ka{a s t:gB}(ha:ku a=true)(hs:HE a s)(ht:HE a t):UC a (N0 a s t):=by
 refine⟨ha,rfl,fun u hu=>?_⟩;by_cases h0:u=[]
 ·rw[h0];simp
 ·rcases aF.1 hu with c|c
  ·obtain⟨i,r,e⟩:=BQ c h0;have hl:=bS List.length e;have:=hs.len;simp at hl;omega
  ·obtain⟨i,r,e⟩:=BQ c h0;have hl:=bS List.length e;have:=ht.len;simp at hl;omega
theorem Yw{a s t:gB}(hs:HE a s):Nb (N0 a s t) s:=⟨hs.lo,aZ _ (BR (i:=0) (r:=[]) (by simp) hs.wv)⟩
theorem Yx{a s t:gB}(ht:HE a t):Nb (N0 a s t) t:=⟨ht.lo,bp _ (BR (i:=0) (r:=[]) (by simp) ht.wv)⟩
theorem aae{a s t:gB}(hs:HE a s)(ht:HE a t):(N0 a s t).P.length<=200:=by
 have h1:=hs.len;have h2:=ht.len;show(zL a s++zL a t).length<=200;rw[ai,EO,EO];omega
abbrev AS:List gB:=List.replicate 48 []
theorem Dm{a s t:gB}(ha:ku a=true)(hs:HE a s)(ht:HE a t):∃z,ki s t a AS=some z/\
 zq a (N0 a s t) AS (fun τ=>sub τ s=sub τ t) (Sum.elim (fun b=>(b,true)) (fun b=>(b,false)) z):=by
 have hc:=Ka ha hs ht;obtain⟨F,res,e,R⟩:=Un.Bl.good (GF hc) TY _ _ (Bn.none a (N0 a s t)) (aA _) (aA _) hs.wv ht.wv (Yw hs) (Yx ht);have e1:=e F (aA _);unfold EQ toR at e1;obtain⟨z,hz,ez⟩:=ay.1 e1;refine⟨z,J1 F hz fun m z' hz'=>?_,by rw[ez];exact R⟩;have q1:=wN a _ hz' (Nat.le_max_left m F);have q2:=wN a _ hz (Nat.le_max_right m F);exact dw (q1.symm.trans q2)
theorem Jb{a s t:gB}(ha:ku a=true)(hs:HE a s)(ht:HE a t):∃res:Bool×List gB,mo a s t AS=some res/\
 zq a (N0 a s t) AS (fun τ=>sub τ s=sub τ t) (res.2,res.1):=by
 have hc:=Ka ha hs ht;obtain⟨res,e,R⟩:=zX.good (Hr hc (aae hs ht)) TY (uz ha) _ _ (l:=[(s,t)]) (Bn.none a (N0 a s t)) (aA _) (aA _) (fun pq hpq=>by
  rw[aK.1 hpq];exact⟨hs.wv,ht.wv,Yw hs,Yx ht⟩) (H:=[]) (.base (by simp))
 exact⟨(res.2,res.1),e,R.of fun τ _=>by simp[ry]⟩
end
end Go.Proofs.YtjgbnaihpicpgaaGreat
