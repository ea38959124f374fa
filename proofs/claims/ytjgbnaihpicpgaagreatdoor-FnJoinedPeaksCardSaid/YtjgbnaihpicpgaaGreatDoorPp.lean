/- A part of the proof about FnJoinedPeaks (VA, VB, VC, VD, VE). -/
import Derived.Test.YtjgbnaihpicpgaaGreatDoorPg
import Derived.Test.YtjgbnaihpicpgaaGreatDoorPh
import Derived.Test.YtjgbnaihpicpgaaGreatDoorPn
import Derived.Test.YtjgbnaihpicpgaaGreatDoorPo
set_option linter.all false
namespace Go.Proofs.YtjgbnaihpicpgaaGreatDoor
open Go mm Tm Un
structure UC(a:gv)(N:Pl):Prop where
 sg:jR a=true
 Hg:N.n=48
 sm:∀t∈N.P,t.length<=60
theorem UC.small{a t:gv}{N:Pl}(hc:UC a N)(h:Nb N t):t.length<=60:=hc.sm _ h.mem
theorem Ep{a:gv}{N:Pl}(hc:UC a N){n:Int}(h0:n<0)(h1: -(N.n:Int)<=n):IntKind.i64.wrap ((-1)-n)= -1-n/\0<= -1-n/\ -1-n<48:=by
 have:=hc.Hg;exact⟨lg gY gY,gY,gY⟩
theorem I5{σ β:Type}{f g:σ->Option (σ⊕β)}(hfg:∀s x,f s=some x->g s=some x){s:σ}{b:β}(h:iw f s=some b):iw g s=some b:=by
 obtain⟨n,hn⟩:=qC h
 suffices hs:∀n s,tK f n s b->tK g n s b from(hs n s hn).iw
 intro n;induction n with
 |zero=>intro s h;exact h
 |succ n ih=>
  intro s h;rcases h with h|⟨s',h,h'⟩
  ·exact .inl (hfg _ _ h)
  ·exact .inr ⟨s',hfg _ _ h,ih s' h'⟩
section
variable{a:gv}{N:Pl}{b:List gv}{σ:Sb}{r:Int->Nat}
theorem AX(hc:UC a N)(h:Bn a N b σ r){t u:gv}(hu:Hd b t u):Wv a 1 t->Nb N t->iw (lB b) t=some u:=by
 induction hu with
 |@stop t hs=>
  intro w n;refine iz ?_;obtain⟨x,p,rfl,_,_⟩:=w.pos;have hs':x<0->bg b x=[]:=hs;unfold lB;rw[ah ⟨gY,by simp only[aQ];omega⟩,show(x::p).getD 0 default=x from rfl];by_cases hx:x<0
  ·obtain⟨e1,e2,e3⟩:=Ep hc hx (n x bh);rw[ah (by simpa using hx),e1,ah ⟨e2,e3,by rw[h.len,hc.Hg];exact e3⟩];have e4:b.getD (-1-x).toNat default=[]:=hs' hx;rw[e4];rfl
  ·rw[ak (by simpa using hx)];rfl
 |@go t u hx hb hu ih=>
  intro w n;obtain⟨x,p,rfl,_,_⟩:=w.pos;have hx':x<0:=hx;have hb':b.getD (-1-x).toNat default≠[]:=hb;obtain⟨t1,t2⟩:=h.tm _ hx hb;refine(iI ?_).trans (ih t1 t2);unfold lB;obtain⟨e1,e2,e3⟩:=Ep hc hx' (n x bh);rw[ah ⟨gY,by simp only[aQ];omega⟩,show(x::p).getD 0 default=x from rfl,ah (by simpa using hx'),e1,ah ⟨e2,e3,by rw[h.len,hc.Hg];exact e3⟩,ak (by simpa using hb')];rfl
theorem Bf(hc:UC a N)(h:Bn a N b σ r){t u:gv}(hu:Hd b t u):Wv a 1 t->Nb N t->iw (ow b) t=some u:=by
 induction hu with
 |@stop t hs=>
  intro w n;refine iz ?_;obtain⟨x,p,rfl,_,_⟩:=w.pos;have hs':x<0->bg b x=[]:=hs;unfold ow;rw[ah ⟨gY,by simp only[aQ];omega⟩,show(x::p).getD 0 default=x from rfl];by_cases hx:x<0
  ·obtain⟨e1,e2,e3⟩:=Ep hc hx (n x bh);rw[ah (by simpa using hx),e1,ah ⟨e2,e3,by rw[h.len,hc.Hg];exact e3⟩];have e4:b.getD (-1-x).toNat default=[]:=hs' hx;rw[e4];rfl
  ·rw[ak (by simpa using hx)];rfl
 |@go t u hx hb hu ih=>
  intro w n;obtain⟨x,p,rfl,_,_⟩:=w.pos;have hx':x<0:=hx;have hb':b.getD (-1-x).toNat default≠[]:=hb;obtain⟨t1,t2⟩:=h.tm _ hx hb;refine(iI ?_).trans (ih t1 t2);unfold ow;obtain⟨e1,e2,e3⟩:=Ep hc hx' (n x bh);have hl:0<(b.getD (-1-x).toNat default).length:=cq.2 hb';rw[ah ⟨gY,by simp only[aQ];omega⟩,show(x::p).getD 0 default=x from rfl,ah (by simpa using hx'),e1,ah ⟨e2,e3,by rw[h.len,hc.Hg];exact e3⟩,ah (by simp only[av];omega)];rfl
theorem vm{b:List gv}{x:Int}:∀(f:Nat)(t:gv)(seen:List Bool){q:Bool×List Bool},vT b x f t seen=some q->∀{g:Nat},f<=g->vT b x g t seen=some q
 |0,_,_,q,h,g,hg=>by simp[vT]at h
 |f+1,[],seen,q,h,g,hg=>by
  obtain⟨g,rfl⟩:∃k,g=k+1:=⟨g-1,gY⟩;simpa[vT]using h
 |f+1,m::t,seen,q,h,g,hg=>by
  obtain⟨g,rfl⟩:∃k,g=k+1:=⟨g-1,gY⟩;rw[vT]at h⊢;split at h
  ·rename_i h1;rw[ah h1];exact h
  ·rename_i h1;rw[ak h1];split at h
   ·rename_i h2;rw[ah h2];exact vm (f+1) t seen h hg
   ·rename_i h2;rw[ak h2];split at h
    ·rename_i h3;rw[ah h3];exact vm (f+1) t _ h hg
    ·rename_i h3;rw[ak h3];obtain⟨p,hp,h⟩:=au.1 h;rw[vm f _ _ hp gY,aa];split at h
     ·rename_i h4;rw[ah h4];exact h
     ·rename_i h4;rw[ak h4];exact vm (f+1) t _ h hg
termination_by f t _=>(f,t.length)
theorem yS(hc:UC a N)(hb:b.length=N.n)(htm:∀x,x<0->bg b x≠[]->Nb N (bg b x))(n:Int)(u0:gv):∀(f:Nat){t:gv}{seen:List Bool},t.length<=60->(∀y∈t, -(N.n:Int)<=y)->seen.length=N.n->
 ji f n t u0 b seen=vT b n f t seen
 |0,t,seen,_,_,_=>by simp[vT,ji]
 |f+1,t,seen,hl,hn,hs=>by
  have key:∀(q:gv){i:Nat}{seen:List Bool},t.drop i=q->seen.length=N.n->iw (jF (ji f) n t u0 b) ((i:Int),seen)=vT b n (f+1) q seen:=by
   intro q;induction q with
   |nil=>
    intro i seen hq hs;have hi:t.length<=i:=by simpa using hq
    rw[vT];refine iz ?_;rw[jF,ak (by simp only[av];omega)];rfl
   |cons m q ih=>
    intro i seen hq hs;have hi:i<t.length:=by
     refine de fun c=>?_
     rw[eC gY]at hq;cases hq
    have hm:t.getD i default=m:=by
     rw[aA hi]at hq;rw[iG hi];exact(cQ hq).1
    have hq':t.drop (i+1)=q:=by
     rw[aA hi]at hq;exact(cQ hq).2
    have hmt:m∈t:=by rw[<-hm];exact jM hi
    have hw:IntKind.i64.wrap ((i:Int)+1)=((i+1:Nat):Int):=by rw[lg gY gY];rfl
    have e0:jF (ji f) n t u0 b ((i:Int),seen)=(if m=n then some (.inr (true,seen))else if 0<=m\/sn seen m=true then some (.inl (((i+1:Nat):Int),seen))else if bg b m=[]then some (.inl (((i+1:Nat):Int),ss seen m))else(ji f n (bg b m) u0 b (ss seen m)).bind fun p=>if p.1=true then some (.inr (true,p.2))else some (.inl (((i+1:Nat):Int),p.2))):=by
     rw[jF,ah (by simp only[av];omega),ah ⟨gY,gY⟩,aq,hm];by_cases h1:m=n
     ·rw[ah (by simpa using h1),ah h1];rfl
     ·rw[ak (by simpa using h1),ak h1];by_cases h2:0<=m
      ·rw[ah (by simpa using h2),ah (.inl h2),hw]
      ·have h0:m<0:=by omega
       obtain⟨e1,e2,e3⟩:=Ep hc h0 (hn m hmt);rw[ak (by simpa using h2),e1,ah ⟨e2,e3,by rw[hs,hc.Hg];exact e3⟩];by_cases h3:sn seen m=true
       ·have h3':seen.getD (-1-m).toNat default=true:=h3;rw[ah h3',ah (.inr h3),hw]
       ·have h3':¬seen.getD (-1-m).toNat default=true:=h3;rw[ak h3',ak (fun c:0<=m\/sn seen m=true=>c.elim h2 h3),ah ⟨e2,e3,by rw[hb,hc.Hg];exact e3⟩];by_cases h4:bg b m=[]
        ·have h4':b.getD (-1-m).toNat default=[]:=h4;rw[h4',ah (show([]:gv).isEmpty=true from rfl),ah h4,hw];rfl
        ·have h4':¬(b.getD (-1-m).toNat default).isEmpty=true:=by rw[List.isEmpty_iff];exact h4
         rw[ak h4',ak h4];rw[hw];rfl
    rw[vT];by_cases h1:m=n
    ·rw[ah h1]at e0⊢;exact iz e0
    ·rw[ak h1]at e0⊢;by_cases h2:0<=m\/sn seen m=true
     ·rw[ah h2]at e0⊢;exact(iI e0).trans (ih hq' hs)
     ·rw[ak h2]at e0⊢;by_cases h3:bg b m=[]
      ·rw[ah h3]at e0⊢;exact(iI e0).trans (ih hq' (by simpa[ss]using hs))
      ·rw[ak h3]at e0⊢;have hm0:m<0:=by omega
       have hnb:=htm m hm0 h3;rw[yS hc hb htm n u0 f (hc.small hnb) hnb.le (by simpa[ss]using hs)]at e0;cases hp:vT b n f (bg b m) (ss seen m)with
       |none=>
        rw[hp]at e0;rw[fU]at e0⊢;cases hx:iw (jF (ji f) n t u0 b) ((i:Int),seen)with
        |none=>rfl
        |some z=>
         obtain⟨k,hk⟩:=qC hx;cases k with
         |zero=>exact hk.elim
         |succ k=>
          rcases hk with hk|⟨s',hk,_⟩
          ·rw[e0]at hk;cases hk
          ·rw[e0]at hk;cases hk
       |some p=>
        rw[hp]at e0;rw[aa]at e0⊢;by_cases h5:p.1=true
        ·rw[ah h5]at e0⊢;exact iz e0
        ·rw[ak h5]at e0⊢;exact(iI e0).trans (ih hq' (by rw[xp f _ _ hp];simpa[ss]using hs))
  have:=key t (i:=0) rfl hs;exact this
end
end Go.Proofs.YtjgbnaihpicpgaaGreatDoor
namespace Go.Proofs.YtjgbnaihpicpgaaGreatDoor
open Go mm Tm
open Un hiding Bd
theorem Pd{a t:gv}{i k:Nat}(h:i<t.length):zF a (t.drop i) (k+1)=if t[i]<a.length then zF a (t.drop (i+1)) (k+lR a t[i])else none:=by rw[aA h,vM]
theorem Sk(a:gv)(k:Nat):zF a [] (k+1)=none:=by simp[zF]
theorem rM{a t u r:gv}(ha:jR a=true)(hs:Small t){i:Nat}(hd:t.drop i=u++r)(hu:Wv a 1 u):lz a t i=some ((t.length:Int)-r.length):=by
 have hl:=bX List.length hd;have hul:=hu.len;simp at hl;have hi:i<=t.length:=by omega
 have h0:zF a (t.drop i) 1=some r:=by rw[hd];exact hu.skip r
 have key:jZ True (kS a t i) fun q=>q=(true,(t.length:Int)-r.length):=by
  unfold kS;refine jZ.loop (fun s=>∃(k c:Nat),s=((k:Int),(c:Int))/\c<=t.length/\k<=1+3*c/\zF a (t.drop c) k=some r) (fun s=>t.length-s.2.toNat) ⟨1,i,rfl,hi,gY,h0⟩ ?_;rintro _ ⟨k,c,rfl,h1,h2,h3⟩;simp only[nN];cases k with
  |zero=>
   simp only[show ¬(0:Int)<((0:Nat):Int) by omega,aU,aj,aE,aK];refine .some ?_;simp only[zL];rw[vN]at h3;cases h3;simp;omega
  |succ k=>
   simp only[show(0:Int)<((k+1:Nat):Int) by omega,aT,aC,tG ha hs h1,aa];by_cases hc:c<t.length
   ·rw[aA hc];rw[Pd hc]at h3;simp only;by_cases hlt:t[c]<a.length
    ·rw[ah hlt]at h3;have hle:=tX ha t[c];simp only[hlt,aC,show ¬((lR a t[c]:Nat):Int)<0 by omega,aU,aj,aE];have hw1:IntKind.i64.wrap (((k+1:Nat):Int)+(lR a t[c]:Int))=(k+1:Nat)+lR a t[c]:=lg gY gY;rw[hw1,lg gY gY];refine .some ⟨⟨k+lR a t[c],c+1,by simp;omega,gY,gY,h3⟩,by simp;omega⟩
    ·rw[ak hlt]at h3;cases h3
   ·rw[bG gY,Sk]at h3;cases h3
 unfold lz;rw[key.eq,aa];rfl
theorem wH{a t u r:gv}(ha:jR a=true)(hs:Small t){i:Nat}(h:t.drop i=u++r)(hu:Wv a 1 u):kg a t i=some u:=by
 have hl:=bX List.length h;have hul:=hu.len;simp at hl;unfold kg;rw[rM ha hs h hu,aa,ah gY,show((t.length:Int)-r.length).toNat=t.length-r.length by omega,aq,zk h gY]
def vJ:Nat->List gv->gv
 |_,[]=>[]
 |i,u::us=>(i:Int)::vJ (i+u.length) us
theorem vK:∀(i:Nat)(us:List gv),(vJ i us).length=us.length
 |_,[]=>rfl
 |i,u::us=>by rw[vJ,aQ,aQ,vK]
theorem DO{t:gv}:∀{us:List gv}{i k:Nat},t.drop i=us.flatten->k<us.length->∃(j:Nat)(r:gv),(vJ i us).getD k default=(j:Int)/\t.drop j=us.getD k default++r
 |[],i,k,h,hk=>by simp at hk
 |u::us,i,0,h,hk=>⟨i,us.flatten,rfl,by rw[h,ck];rfl⟩
 |u::us,i,k+1,h,hk=>by
  have h':t.drop (i+u.length)=us.flatten:=by rw[<-List.drop_drop,h,ck,bS]
  obtain⟨j,r,e1,e2⟩:=DO h' (k:=k) (by simpa using hk);exact⟨j,r,by rw[vJ,fE];exact e1,by rw[fE];exact e2⟩
theorem yR{a t:gv}(ha:jR a=true)(hl:t.length<=60){x:Int}{p:gv}(ht:t=x::p)(hx:¬x<0)(hw:Wv a 1 t):lq a t 0=some (vJ 1 (pE a (lR a x) p)):=by
 have hlt:x<a.length/\Wv a (lR a x) p:=by
  have:=hw;rw[ht]at this;have:=Wv.jt.1 this;rw[bU]at this;exact this
 have hs:Small t:=by show t.length<_;omega
 have h3:=tX ha x;unfold lq;rw[ah ⟨gY,by rw[ht,aQ];omega⟩,show t.getD (0:Int).toNat default=x by rw[ht];rfl,qg ha hlt.1,aa,show IntKind.i64.wrap (0+1)=((1:Nat):Int) by rw[lg gY gY];rfl];have key:∀(k:Nat){q o:gv}{i:Nat},Wv a k q->t.drop i=q->k+o.length<=3->iw (jX a t) (o,(i:Int),(k:Int))=some (o++vJ i (pE a k q)):=by
  intro k;induction k with
  |zero=>
   intro q o i hq hd ho;refine iz ?_;rw[jX,ak (by simp),pE,vJ,aW];rfl
  |succ k ih=>
   intro q o i hq hd ho;rw[cN]at hq;obtain⟨u,v,rfl,w1,w2⟩:=hq.split;have hll:=bX List.length hd;have:=w1.len;rw[cG,ai]at hll;have hd':t.drop (i+u.length)=v:=by rw[<-List.drop_drop,hd,bS]
   have e:zF a (u++v) 1=some v:=w1.skip v;have e2:(u++v).take ((u++v).length-v.length)=u:=by rw[ai,dQ];simp
   have e3:pE a (k+1) (u++v)=u::pE a k v:=by rw[pE,e];simp only;rw[e2]
   refine(iI ?_).trans (b:=iw (jX a t) (o++[(i:Int)],((i+u.length:Nat):Int),(k:Int))) ?_
   ·rw[jX,ah (by simp only[av];omega),ah gY,rM ha hs hd w1,aa];have e5:IntKind.i64.wrap (((k+1:Nat):Int)-1)=(k:Int):=by rw[lg gY gY];omega
    rw[e5,show(t.length:Int)-v.length=((i+u.length:Nat):Int) by omega]
   ·rw[ih w2 hd' (by rw[ai,aL];omega),e3,vJ,aG];rfl
 have:=key (lR a x) (q:=p) (o:=[]) (i:=1) hlt.2 (by rw[ht];rfl) (by simpa using h3);rw[bp]at this;exact this
def toR(o:Option (Bd⊕Bd)):Option (Bd×Bool):=o.map (Sum.elim (fun b=>(b,true)) fun b=>(b,false))
noncomputable def EQ(a:gv)(f:Nat)(b:Bd)(s t:gv):Option (Bd×Bool):=toR (iO f s t a b)
theorem xh(u0:gv):∀(f:Nat){s t:gv}{b:Bd}{q:Bd⊕Bd},iO f s t u0 b=some q->∀{g:Nat},f<=g->iO g s t u0 b=some q:=by
 intro f;induction f with
 |zero=>intro s t b q h;simp[iO]at h
 |succ f ih=>
  intro s t b q h g hg;obtain⟨g,rfl⟩:∃k,g=k+1:=⟨g-1,gY⟩;rw[iO]at h⊢;obtain⟨r,hr,h⟩:=au.1 h;obtain⟨r',hr',h⟩:=au.1 h;rw[hr,aa,hr',aa];split at h
  ·rename_i h1;rw[ah h1];split at h
   ·rename_i h2;rw[ah h2];split at h
    ·rename_i h3;rw[ah h3];split at h
     ·rename_i h4;rw[ah h4];exact h
     ·rename_i h4;rw[ak h4];obtain⟨o,ho,h⟩:=au.1 h;obtain⟨o',ho',h⟩:=au.1 h;rw[ho,aa,ho',aa];refine I5 (fun st x hx=>?_) h;obtain⟨i,bb⟩:=st;rw[jE]at hx⊢;split at hx
      ·rename_i k1;rw[ah k1];split at hx
       ·rename_i k2;rw[ah k2];obtain⟨z,hz,hx⟩:=au.1 hx;rw[hz,aa];split at hx
        ·rename_i k3;rw[ah k3];obtain⟨z',hz',hx⟩:=au.1 hx;obtain⟨y,hy,hx⟩:=au.1 hx;rw[hz',aa,ih hy gY,aa];exact hx
        ·cases hx
       ·cases hx
      ·rename_i k1;rw[ak k1];exact hx
    ·rename_i h3;rw[ak h3];exact h
   ·cases h
  ·cases h
section
variable{a:gv}{N:Pl}{b:List gv}{σ:Sb}{r:Int->Nat}
theorem I7{σ β:Type}{f:σ->Option (σ⊕β)}{s:σ}(h:f s=none):iw f s=none:=by
 cases hx:iw f s with
 |none=>rfl
 |some z=>
  obtain⟨k,hk⟩:=qC hx;cases k with
  |zero=>exact hk.elim
  |succ k=>
   rcases hk with hk|⟨s',hk,_⟩
   ·rw[h]at hk;cases hk
   ·rw[h]at hk;cases hk
theorem Pg(m:Int):sn (List.replicate 48 false) m=false:=by
 unfold sn;rw[ay,dj];split<;>rfl
theorem ye(hc:UC a N)(h:Bn a N b σ r)(u0:gv){n:Int}(hn:n<0)(hb:bg b n=[]){t:gv}(ht:Nb N t):
 ∃q,lQ n t u0 b (List.replicate 48 false)=some q/\(q.1=true<->n∈sub σ t):=by
 obtain⟨M,hM⟩:=za r t;have hl:(List.replicate 48 false).length=N.n:=by rw[eE,hc.Hg]
 have he:=yS (b:=b) hc h.len (fun x hx hbx=>(h.tm x hx hbx).2) n u0;obtain⟨q,e,q1,q2⟩:=A6 h hn hb (M+1) t (List.replicate 48 false) (R:=M) (dw _) hl ht.le (fun y hy _ _=>hM y hy) (fun m _ _ hs=>by rw[Pg]at hs;cases hs);refine⟨q,?_,q1,fun hin=>?_⟩
 ·refine Kj (M+1) (by rw[he _ (hc.small ht) ht.le hl];exact e) fun m q' hq'=>?_
  rw[he _ (hc.small ht) ht.le hl]at hq';have k1:=vm _ _ _ hq' (Nat.le_max_left m (M+1));have k2:=vm _ _ _ e (Nat.le_max_right m (M+1));rw[k1]at k2;exact c_ k2
 ·cases hq:q.1 with
  |true=>rfl
  |false=>exact absurd hin (q2 hq).1
theorem GH(ha:jR a=true){u v:gv}{P Q:List gv}(hu:Small u)(hv:Small v){iu iv:Nat}(eu:u.drop iu=P.flatten)(ev:v.drop iv=Q.flatten)
 (wP:∀t∈P,Wv a 1 t) (wQ:∀t∈Q,Wv a 1 t) (hPQ:P.length=Q.length) (h3:P.length<=3) (f:Nat):
 ∀(n i:Nat){b:List gv},i+n=P.length->toR (iw (jE (iO f) a u v (vJ iu P) (vJ iv Q)) ((i:Int),b))=UR (EQ a f) b ((P.drop i).zip (Q.drop i)):=by
 intro n;induction n with
 |zero=>
  intro i b hi;rw[iz (b:=.inl b) (by rw[jE,ak (by rw[vK];simp only[av];omega)];rfl),bG gY];rfl
 |succ n ih=>
  intro i b hi;have hiP:i<P.length:=by omega
  have hiQ:i<Q.length:=by omega
  obtain⟨j1,r1,p1,p2⟩:=DO eu hiP;obtain⟨j2,r2,q1,q2⟩:=DO ev hiQ;have s1:=wH ha hu p2 (wP _ (jM hiP));have s2:=wH ha hv q2 (wQ _ (jM hiQ));have hw:IntKind.i64.wrap ((i:Int)+1)=((i+1:Nat):Int):=by rw[lg gY gY];rfl
  have e0:jE (iO f) a u v (vJ iu P) (vJ iv Q) ((i:Int),b)=
   (iO f (P.getD i default) (Q.getD i default) a b).bind (Sum.elim (fun rt_3=>some (.inl (((i+1:Nat):Int),rt_3))) (fun rf_3=>Option.map Sum.inr (some (.inr rf_3)))):=by
   rw[jE,ah (by rw[vK];simp only[av];omega),ah ⟨gY,by rw[vK];omega⟩,aq,p1,s1,aa,
    ah ⟨gY,by rw[vK];omega⟩,q1,s2,aa,hw]
  rw[aA hiP,aA hiQ,fJ,UR,<-iG hiP,<-iG hiQ];simp only;rw[EQ];cases hq:iO f (P.getD i default) (Q.getD i default) a b with
  |none=>rw[hq]at e0;rw[I7 (by rw[e0];rfl)];rfl
  |some z=>
   rw[hq]at e0;cases z with
   |inl b'=>rw[iI (s':=(((i+1:Nat):Int),b')) (by rw[e0];rfl),ih (i+1) gY];rfl
   |inr b'=>rw[iz (b:=.inr b') (by rw[e0];rfl)];rfl
theorem GZ(hc:UC a N):Un.Bx a N (EQ a):=⟨fun{b σ r s t} h ws wt ns nt=>by
 obtain⟨u,hu⟩:=Hd.ex h (r (s.headD 0)+1) ws (dw _);obtain⟨v,hv⟩:=Hd.ex h (r (t.headD 0)+1) wt (dw _);refine⟨u,v,hu,hv,fun f=>?_⟩;obtain⟨w1,n1,f1,g1⟩:=hu.ok h ws ns;obtain⟨w2,n2,f2,g2⟩:=hv.ok h wt nt;have e1:lI s a b=some u:=AX hc h hu ws ns;have e2:lI t a b=some v:=AX hc h hv wt nt;obtain⟨x,p,eu,hx,wp⟩:=w1.pos;obtain⟨y,q,ev,hy,wq⟩:=w2.pos;have l1:=hc.small n1;have l2:=hc.small n2;have hux:u.getD (0:Int).toNat default=x:=by rw[eu];rfl
 have hvy:v.getD (0:Int).toNat default=y:=by rw[ev];rfl
 have hux':u.headD 0=x:=by rw[eu];rfl
 have hvy':v.headD 0=y:=by rw[ev];rfl
 have bl:b.length=48:=by rw[h.len,hc.Hg]
 have pu:0<u.length:=by rw[eu];simp
 have pv:0<v.length:=by rw[ev];simp
 have hxN: -(N.n:Int)<=x:=n1 x (by rw[eu];simp);have hyN: -(N.n:Int)<=y:=n2 y (by rw[ev];simp);unfold EQ Un.one;rw[iO,e1,aa,e2,aa,ah ⟨gY,gY⟩,ah ⟨gY,gY⟩];rw[show u.getD 0 default=x from hux,show v.getD 0 default=y from hvy,hux',hvy'];rw[hux']at f1;rw[hvy']at f2;by_cases hxy:x=y
 ·rw[ah (by simpa using hxy)];by_cases h0:x<0
  ·rw[ah (by simpa using h0),ah ⟨hxy,h0⟩];rfl
  ·rw[ak (by simpa using h0),ak (fun c=>h0 c.2),ak gY,ak (fun c=>c hxy)];rw[bU]at wp wq;have i1:=tC wp;have i2:=tC wq;rw[yR hc.sg l1 eu h0 w1,aa,yR hc.sg l2 ev gY w2,aa];have:=GH (a:=a) hc.sg (u:=u) (v:=v) (P:=pE a (lR a x) p) (Q:=pE a (lR a y) q) (by show u.length<_;omega) (by show v.length<_;omega) (iu:=1) (iv:=1) (by rw[eu,i1.1];rfl) (by rw[ev,i2.1];rfl) i1.2.2 i2.2.2
    (by rw[i1.2.1,i2.2.1,hxy]) (by rw[i1.2.1];exact tX hc.sg x) f (pE a (lR a x) p).length 0 (b:=b) gY
   rw[bF,bF]at this;have et:u.tail=p:=by rw[eu];rfl
   have et':v.tail=q:=by rw[ev];rfl
   rw[et,et'];rw[<-hxy]at this⊢;exact this
 ·rw[ak (show ¬(x==y)=true by simpa using hxy),ak (show ¬(x=y/\x<0)from fun c=>hxy c.1)];have setb:∀{n:Int}{w:gv},n<0-> -(N.n:Int)<=n->0<w.length->(if 0<=(IntKind.i64.wrap ((-1)-n))/\(IntKind.i64.wrap ((-1)-n))<48/\(IntKind.i64.wrap ((-1)-n))<(b.length:Int)then
   (if 0<w.length then some (Sum.inl (b.set (IntKind.i64.wrap ((-1)-n)).toNat w))else none)else(none:Option (List gv⊕List gv)))=some (.inl (bs b n w)):=fun{n w} k1 k2 k3=>by
   obtain⟨d1,d2,d3⟩:=Ep hc k1 k2;rw[d1,ah ⟨d2,d3,by rw[bl];exact d3⟩,ah k3];rfl
  by_cases hy0:y<0
  ·rw[ah (show decide (y<0)=true by simpa using hy0),ah (show x<0\/y<0 from .inr hy0)];by_cases hx0:0<=x
   ·have hw:way u v=(y,u):=by unfold way;rw[hux',hvy',ah ⟨hy0,.inl hx0⟩]
    obtain⟨q',o1,o2⟩:=ye hc h a hy0 (f2 hy0) n1;rw[ah (show decide (0<=x)=true by simpa using hx0),o1,aa,hw];simp only;rw[hux'];by_cases hin:y∈sub σ u
    ·rw[ah (o2.2 hin),ah (show 0<=x/\y∈sub σ u from⟨hx0,hin⟩)];rfl
    ·rw[ak (fun c=>hin (o2.1 c)),ak (show ¬(0<=x/\y∈sub σ u)from fun c=>hin c.2),setb hy0 hyN pu];rfl
   ·rw[ak (show ¬decide (0<=x)=true by simpa using hx0)];by_cases hlt:y<x
    ·have hw:way u v=(y,u):=by unfold way;rw[hux',hvy',ah ⟨hy0,.inr hlt⟩]
     rw[ah (show decide (y<x)=true by simpa using hlt),hw];simp only;rw[hux',ak (show ¬(0<=x/\y∈sub σ u)from fun c=>hx0 c.1),setb hy0 hyN pu];rfl
    ·have hw:way u v=(x,v):=by unfold way;rw[hux',hvy',ak (fun c=>c.2.elim hx0 hlt)]
     rw[ak (show ¬decide (y<x)=true by simpa using hlt),hw];simp only;rw[hvy',ak (show ¬(0<=y/\x∈sub σ v)from fun c=>by omega),setb gY hxN pv];rfl
  ·rw[ak (show ¬decide (y<0)=true by simpa using hy0)];by_cases hx0:x<0
   ·have hw:way u v=(x,v):=by unfold way;rw[hux',hvy',ak (fun c=>hy0 c.1)]
    obtain⟨q',o1,o2⟩:=ye hc h a hx0 (f1 hx0) n2;rw[ah (show decide (x<0)=true by simpa using hx0),ah (show x<0\/y<0 from .inl hx0),o1,aa,hw];simp only;rw[hvy'];by_cases hin:x∈sub σ v
    ·rw[ah (o2.2 hin),ah (show 0<=y/\x∈sub σ v from⟨gY,hin⟩)];rfl
    ·rw[ak (fun c=>hin (o2.1 c)),ak (show ¬(0<=y/\x∈sub σ v)from fun c=>hin c.2),setb hx0 hxN pv];rfl
   ·rw[ak (show ¬decide (x<0)=true by simpa using hx0),ak (show ¬(x<0\/y<0) by omega),ah (show x≠y from hxy)];rfl⟩
end
section
variable{a:gv}{N:Pl}{b:List gv}{σ:Sb}{r:Int->Nat}
theorem Fz{α:Type}[Inhabited α]{td:List α}{u:α}(hl:(td++[u]).length<1099511627776):
 0<=IntKind.i64.wrap (((td++[u]).length:Int)-1)/\IntKind.i64.wrap (((td++[u]).length:Int)-1)<((td++[u]).length:Int)/\(IntKind.i64.wrap (((td++[u]).length:Int)-1)).toNat=td.length/\
 (td++[u]).getD td.length default=u/\(td++[u]).take td.length=td:=by
 rw[ai,aL]at hl⊢;rw[lg gY gY];refine⟨gY,gY,gY,?_,by rw[dK]⟩;rw[ay,bH (aF _)];simp
theorem Mg(hc:UC a N)(hb:b.length=N.n){x:Int}{g:List gv}{u:gv}(hu:Nb N u)(hg:g.getD (IntKind.i64.wrap ((g.length:Int)-1)).toNat default=u):
 ∀(q:gv){i:Nat}{se:List Bool}{td:List gv},u.drop i=q->se.length=N.n->td.length+HM se<=100->
  iw (lJ x b g) ((i:Int),se,td)=some (match HU b x q se td with|none=>.inr true|some p=>.inl (p.1,p.2)):=by
 intro q;have hl:=hc.small hu;induction q with
 |nil=>
  intro i se td hq hs hh;have hi:u.length<=i:=by simpa using hq
  rw[HU];refine iz ?_;rw[lJ,hg,ak (by simp only[av];omega)];rfl
 |cons m q ih=>
  intro i se td hq hs hh;have hi:i<u.length:=by
   refine de fun c=>?_
   rw[eC gY]at hq;cases hq
  have hm:u.getD i default=m:=by
   rw[aA hi]at hq;rw[iG hi];exact(cQ hq).1
  have hq':u.drop (i+1)=q:=by
   rw[aA hi]at hq;exact(cQ hq).2
  have hmt:m∈u:=by rw[<-hm];exact jM hi
  have hw:IntKind.i64.wrap ((i:Int)+1)=((i+1:Nat):Int):=by rw[lg gY gY];rfl
  have e0:lJ x b g ((i:Int),se,td)=(if m=x then some (.inr (.inr true))else if m<0/\sn se m=false/\bg b m≠[]then some (.inl (((i+1:Nat):Int),ss se m,td++[bg b m]))else some (.inl (((i+1:Nat):Int),se,td))):=by
   rw[lJ,hg,ah (by simp only[av];omega),ah ⟨gY,gY⟩,aq,hm];by_cases h1:m=x
   ·rw[ah (show(m==x)=true by simpa using h1),ah h1];rfl
   ·rw[ak (show ¬(m==x)=true by simpa using h1),ak h1];by_cases h0:m<0
    ·obtain⟨e1,e2,e3⟩:=Ep hc h0 (hu m hmt);rw[ah (show decide (m<0)=true by simpa using h0),e1,ah (show 0<= -1-m/\ -1-m<48/\ -1-m<(se.length:Int)from⟨e2,e3,by rw[hs,hc.Hg];exact e3⟩)];by_cases h3:sn se m=true
     ·have h3':se.getD (-1-m).toNat default=true:=h3;rw[ah h3',ak (show ¬(m<0/\sn se m=false/\bg b m≠[])from fun c=>by rw[h3]at c;cases c.2.1),hw]
     ·have h3':¬se.getD (-1-m).toNat default=true:=h3;have h3f:sn se m=false:=by simpa using h3
      rw[ak h3',ah (show 0<= -1-m/\ -1-m<48/\ -1-m<(b.length:Int)from⟨e2,e3,by rw[hb,hc.Hg];exact e3⟩)];by_cases h4:bg b m=[]
      ·have h4':b.getD (-1-m).toNat default=[]:=h4;rw[h4',ak (show ¬(m<0/\sn se m=false/\bg b m≠[])from fun c=>c.2.2 h4),hw];rfl
      ·have h4':0<(b.getD (-1-m).toNat default).length:=cq.2 h4;rw[ah (show decide (0<((b.getD (-1-m).toNat default).length:Int))=true by simp only[av];omega),ah gY,ah (show m<0/\sn se m=false/\bg b m≠[]from⟨h0,h3f,h4⟩),hw];rfl
    ·rw[ak (show ¬decide (m<0)=true by simpa using h0),ak (show ¬(m<0/\sn se m=false/\bg b m≠[])from fun c=>h0 c.1),hw]
  rw[HU];by_cases h1:m=x
  ·rw[ah h1]at e0⊢;exact iz e0
  ·rw[ak h1]at e0⊢;by_cases h2:m<0/\sn se m=false/\bg b m≠[]
   ·rw[ah h2]at e0⊢;have hlt:HM (ss se m)<HM se:=u_ (by have:=hu m hmt;omega) h2.2.1;exact(iI e0).trans (ih hq' (by simpa[ss]using hs) (by rw[ai,aL];omega))
   ·rw[ak h2]at e0⊢;exact(iI e0).trans (ih hq' hs hh)
theorem HD(hc:UC a N)(hb:b.length=N.n)(x:Int):Bw b x (fun se td=>(se,td)) (mN x b) N:=by
 refine⟨fun se hs=>?_,fun{se td u} hs hu hh=>?_⟩
 ·rw[mN,ak (by simp)];rfl
 ·have hn:=hc.Hg;obtain⟨k1,k2,k3,k4,k5⟩:=Fz (td:=td) (u:=u) (by rw[ai,aL];omega);rw[mN,ah (by simp only[av,ai,aL];omega),ah ⟨k1,k2⟩,ah ⟨k1,gY⟩,k3,k5];have:=Mg hc hb (x:=x) (g:=td++[u]) hu (by rw[k3];exact k4) u (i:=0) (se:=se) (td:=td) rfl hs gY;refine Eq.trans this ?_;cases HU b x u se td<;>rfl
theorem Sw:HM (List.replicate 48 false)=48:=by decide
theorem tE(hc:UC a N)(h:Bn a N b σ r){x:Int}(hx:x<0)(hbx:bg b x=[]){t:gv}(ht:Nb N t):∃q,lZ x t b=some q/\(q=true<->x∈sub σ t):=by
 have hl:(List.replicate 48 false).length=N.n:=by rw[eE,hc.Hg]
 refine Bw.good h hx hbx (HD hc h.len x) ht.le _ _ (aF _) (aF _) (se:=List.replicate 48 false) (td:=[t]) ⟨hl,fun u hu=>?_,?_,fun m _ _ hs=>?_,.inl (by simp)⟩
 ·rw[aX.1 hu];exact⟨ht,id⟩
 ·rw[Sw,hc.Hg];simp
 ·rw[Pg]at hs;cases hs
theorem Ib{a:gv}(ha:jR a=true){x:Int}(h0:¬x<0)(hx:x<a.length):a.getD x.toNat default=(lR a x:Int):=by
 have:=qg ha hx;unfold ny at this;rw[ak (by simpa using h0),ah gY]at this;exact c_ this
theorem Eu{a t q:gv}(ha:jR a=true)(hl:t.length<=60):∀(w:gv){k j:Nat},t.drop j=w++q->Wv a k w->j<=t.length->k<=1+3*j->iw (oV a t) ((j:Int),(k:Int))=some ((t.length:Int)-q.length):=by
 intro w;induction w with
 |nil=>
  intro k j hd hw hj hk;have hk0:k=0:=by have:=hw.len;simpa using this
  subst hk0;have hll:=bX List.length hd;simp at hll;refine iz ?_;rw[oV,ak (by simp)];rw[aK,show(j:Int)=(t.length:Int)-q.length by omega]
 |cons x w ih=>
  intro k j hd hw hj hk;have hll:=bX List.length hd;simp at hll;have hjl:j<t.length:=by omega
  have hx:t.getD j default=x:=by
   rw[aA hjl]at hd;rw[iG hjl];exact(cQ hd).1
  have hd':t.drop (j+1)=w++q:=by
   rw[aA hjl]at hd;exact(cQ hd).2
  cases k with
  |zero=>have:=hw.zero;cases this
  |succ k=>
   obtain⟨c1,c2⟩:=Wv.jt.1 hw;have h3:=tX ha x;have hw1:IntKind.i64.wrap ((j:Int)+1)=((j+1:Nat):Int):=by rw[lg gY gY];rfl
   refine(iI (s':=(((j+1:Nat):Int),((k+lR a x:Nat):Int))) ?_).trans (ih hd' c2 gY gY);rw[oV,ah (by simp only[av];omega),ah gY,aq,hx,hw1];by_cases h0:x<0
   ·rw[ak (by simpa using h0),lg gY gY,uZ h0];rw[show((k+1:Nat):Int)-1=((k+0:Nat):Int) by omega]
   ·rw[ah (by simpa using h0),ah gY,Ib ha h0 c1];rw[lg (n:=((k+1:Nat):Int)+(lR a x:Int)) gY gY,lg gY gY,show((k+1:Nat):Int)+(lR a x:Int)-1=((k+lR a x:Nat):Int) by omega]
theorem zi{a t u q:gv}(ha:jR a=true)(hl:t.length<=60){i:Nat}(hd:t.drop i=u++q)(hu:Wv a 1 u):pY a t i=some ((t.length:Int)-q.length):=by
 have hll:=bX List.length hd;have:=hu.len;simp at hll;exact Eu ha hl u (k:=1) hd hu gY gY
theorem z_{a t:gv}(ha:jR a=true)(hl:t.length<=60){x:Int}{p:gv}(ht:t=x::p)(hx:¬x<0)(hw:Wv a 1 t):oa a t=some (pE a (lR a x) p):=by
 have hlt:x<a.length/\Wv a (lR a x) p:=by
  have:=hw;rw[ht]at this;have:=Wv.jt.1 this;rw[bU]at this;exact this
 have h3:=tX ha x;have h0:t.getD 0 default=x:=by rw[ht];rfl
 unfold oa;rw[ah ⟨gY,by rw[ht,aQ];omega⟩,h0,ak (show ¬decide (x<0)=true by simpa using hx)];have key:∀(k:Nat){q:gv}{o:List gv}{i:Nat},Wv a k q->t.drop i=q->k+o.length=lR a x->iw (nH a t) (o,(i:Int),(o.length:Int))=some (o++pE a k q):=by
  intro k;induction k with
  |zero=>
   intro q o i hq hd ho;refine iz ?_;rw[nH,h0,ah gY,Ib ha hx hlt.1,ak (by simp only[av];omega),pE,aW];rfl
  |succ k ih=>
   intro q o i hq hd ho;rw[cN]at hq;obtain⟨u,v,rfl,w1,w2⟩:=hq.split;have hll:=bX List.length hd;have:=w1.len;rw[cG,ai]at hll;have hd':t.drop (i+u.length)=v:=by rw[<-List.drop_drop,hd,bS]
   have e:zF a (u++v) 1=some v:=w1.skip v;have e2:(u++v).take ((u++v).length-v.length)=u:=by rw[ai,dQ];simp
   have e3:pE a (k+1) (u++v)=u::pE a k v:=by rw[pE,e];simp only;rw[e2]
   have e6:(t.take (t.length-v.length)).drop i=u:=zk hd gY;have e7:((o++[u]).length:Int)=IntKind.i64.wrap ((o.length:Int)+1):=by rw[lg gY gY,ai,aL];omega
   refine(iI (s':=(o++[u],((i+u.length:Nat):Int),((o++[u]).length:Int))) ?_).trans ?_
   ·rw[nH,h0,ah gY,Ib ha hx hlt.1,ah (by simp only[av];omega),zi ha hl hd w1,aa,ah gY,ah gY,show((t.length:Int)-v.length).toNat=t.length-v.length by omega,
     aq,e6,e7,show(t.length:Int)-v.length=((i+u.length:Nat):Int) by omega]
   ·rw[ih w2 hd' (by rw[ai,aL];omega),e3,aG];rfl
 have:=key (lR a x) (q:=p) (o:=[]) (i:=1) hlt.2 (by rw[ht];rfl) (by simp);rw[bp]at this;exact this
end
section
variable{a:gv}{N:Pl}{b:List gv}{σ:Sb}{r:Int->Nat}
theorem HE(hc:UC a N)(hP:N.P.length<=200):Ad a N (fun b l m=>(b,l,m)) (fun b z=>(z,b)) (mK a):=by
 refine⟨fun b=>?_,fun{b σ r l s t} h ws wt ns nt hl=>?_⟩
 ·rw[mK,ak (by simp)];rfl
 obtain⟨u,hu⟩:=Hd.ex h (r (s.headD 0)+1) ws (dw _);obtain⟨v,hv⟩:=Hd.ex h (r (t.headD 0)+1) wt (dw _);obtain⟨w1,n1,f1,g1⟩:=hu.ok h ws ns;obtain⟨w2,n2,f2,g2⟩:=hv.ok h wt nt;have e1:oU s b=some u:=Bf hc h hu ws ns;have e2:oU t b=some v:=Bf hc h hv wt nt;obtain⟨x,p,eu,hx,wp⟩:=w1.pos;obtain⟨y,q,ev,hy,wq⟩:=w2.pos;have l1:=hc.small n1;have l2:=hc.small n2;have hux:u.getD 0 default=x:=by rw[eu];rfl
 have hvy:v.getD 0 default=y:=by rw[ev];rfl
 have hux':u.headD 0=x:=by rw[eu];rfl
 have hvy':v.headD 0=y:=by rw[ev];rfl
 have bl:b.length=48:=by rw[h.len,hc.Hg]
 have pu:0<u.length:=by rw[eu];simp
 have pv:0<v.length:=by rw[ev];simp
 have hxN: -(N.n:Int)<=x:=n1 x (by rw[eu];simp);have hyN: -(N.n:Int)<=y:=n2 y (by rw[ev];simp);obtain⟨k1,k2,k3,k4,k5⟩:=Fz (td:=l.map (·.1)) (u:=s) (by rw[ai,aL,aM];omega);obtain⟨m1,m2,m3,m4,m5⟩:=Fz (td:=l.map (·.2)) (u:=t) (by rw[ai,aL,aM];omega);have h3x:=tX hc.sg x;have h3y:=tX hc.sg y;have ix:∀{n:Int},n<0-> -(N.n:Int)<=n->IntKind.i64.wrap ((-1)-n)= -1-n/\(0<= -1-n/\ -1-n<48/\ -1-n<(b.length:Int)):=fun{n} c1 c2=>by
  obtain⟨d1,d2,d3⟩:=Ep hc c1 c2;exact⟨d1,d2,d3,by rw[bl];exact d3⟩
 have e0:mK a (b,l.map (·.1)++[s],l.map (·.2)++[t])=
  (if(x==y)=true then
   if(decide (x<0))=true then some (.inl (b,l.map (·.1),l.map (·.2)))
   else some (.inl (b,l.map (·.1)++pE a (lR a x) p,l.map (·.2)++pE a (lR a y) q))
  else if(decide (x<0))=true then
   (lZ x v b).bind fun z=>if z=true then some (.inr (false,b))else some (.inl (bs b x v,l.map (·.1),l.map (·.2)))
  else if(decide (y<0))=true then
   (lZ y u b).bind fun z=>if z=true then some (.inr (false,b))else some (.inl (bs b y u,l.map (·.1),l.map (·.2)))
  else some (.inr (false,b))):=by
  rw[mK,ah (by simp only[av,ai,aL];omega),ah ⟨k1,k2⟩,k3,k4,k5,e1,aa,ah ⟨m1,m2⟩,m3,m4,m5,e2,aa,ah ⟨k1,gY⟩,ah ⟨m1,gY⟩,
   ah ⟨gY,gY⟩,ah ⟨gY,gY⟩,hux,hvy]
  by_cases hxy:x=y
  ·rw[ah (show(x==y)=true by simpa using hxy),ah (show(x==y)=true by simpa using hxy)];by_cases h0:x<0
   ·rw[ah (show decide (x<0)=true by simpa using h0),ah (show decide (x<0)=true by simpa using h0)]
   ·have i1:=(tC (a:=a) (k:=lR a x) (t:=p) (by rw[bU]at wp;exact wp)).2.1;have i2:=(tC (a:=a) (k:=lR a y) (t:=q) (by rw[bU]at wq;exact wq)).2.1;rw[ak (show ¬decide (x<0)=true by simpa using h0),ak (show ¬decide (x<0)=true by simpa using h0),z_ hc.sg l1 eu h0 w1,aa,ah (by rw[aM,i1];omega),
     z_ hc.sg l2 ev gY w2,aa,ah (by rw[aM,i2];omega)]
  ·rw[ak (show ¬(x==y)=true by simpa using hxy),ak (show ¬(x==y)=true by simpa using hxy)];by_cases h0:x<0
   ·obtain⟨d1,d2⟩:=ix h0 hxN;rw[ah (show decide (x<0)=true by simpa using h0),ah (show decide (x<0)=true by simpa using h0),d1];congr 1;funext z;rw[ah d2];rfl
   ·rw[ak (show ¬decide (x<0)=true by simpa using h0),ak (show ¬decide (x<0)=true by simpa using h0)];by_cases h1:y<0
    ·obtain⟨d1,d2⟩:=ix h1 hyN;rw[ah (show decide (y<0)=true by simpa using h1),ah (show decide (y<0)=true by simpa using h1),d1];congr 1;funext z;rw[ah d2];rfl
    ·rw[ak (show ¬decide (y<0)=true by simpa using h1),ak (show ¬decide (y<0)=true by simpa using h1)];rfl
 refine⟨u,v,hu,hv,?_⟩;rw[e0,hux',hvy'];rw[hux']at f1;rw[hvy']at f2;refine⟨fun c=>?_,fun c1 c2 c3=>⟨b,?_⟩,fun c1 c2 c3=>?_,fun c1 c2 c3=>⟨b,?_⟩,fun c1 c2 c3=>?_,fun c1 c2 c3=>⟨b,?_⟩,fun c1 c2=>?_⟩
 ·rw[ah (show(x==y)=true by simpa using c.1),ah (show decide (x<0)=true by simpa using c.2)]
 ·obtain⟨z,o1,o2⟩:=tE hc h c2 (f1 c2) n2;rw[ak (show ¬(x==y)=true by simpa using c1),ah (show decide (x<0)=true by simpa using c2),o1,aa,ah (o2.2 c3)]
 ·obtain⟨z,o1,o2⟩:=tE hc h c2 (f1 c2) n2;rw[ak (show ¬(x==y)=true by simpa using c1),ah (show decide (x<0)=true by simpa using c2),o1,aa,ak (fun c=>c3 (o2.1 c))]
 ·obtain⟨z,o1,o2⟩:=tE hc h c2 (f2 c2) n1;rw[ak (show ¬(x==y)=true by simp only[bw];omega),ak (show ¬decide (x<0)=true by simpa using c1),ah (show decide (y<0)=true by simpa using c2),o1,aa,ah (o2.2 c3)]
 ·obtain⟨z,o1,o2⟩:=tE hc h c2 (f2 c2) n1;rw[ak (show ¬(x==y)=true by simp only[bw];omega),ak (show ¬decide (x<0)=true by simpa using c1),ah (show decide (y<0)=true by simpa using c2),o1,aa,ak (fun c=>c3 (o2.1 c))]
 ·rw[ak (show ¬(x==y)=true by simpa using c3),ak (show ¬decide (x<0)=true by simpa using c1),ak (show ¬decide (y<0)=true by simpa using c2)]
 ·rw[ah (show(x==y)=true by simpa using c2),ak (show ¬decide (x<0)=true by simpa using c1),eu,ev,List.tail_cons,List.tail_cons,c2]
def V5(a q:gv):gv:=match zF a q 1 with|some r=>q.take (q.length-r.length)|none=>[]
theorem UX{a q u r:gv}(h:q=u++r)(hu:Wv a 1 u):V5 a q=u:=by
 unfold V5;rw[h,hu.skip r];simp
theorem Rf{a q:gv}(h:V5 a q≠[]):∃r,q=V5 a q++r:=by
 unfold V5 at h⊢;cases e:zF a q 1 with
 |none=>rw[e]at h;exact absurd rfl h
 |some r=>exact⟨q.drop (q.length-r.length),(cx _ _).symm⟩
def Aa(a t:gv):List gv:=(List.range t.length).map fun i=>V5 a (t.drop i)
theorem E7(a t:gv):(Aa a t).length=t.length:=by simp[Aa]
theorem BW{a t u r:gv}{i:Nat}(h:t.drop i=u++r)(hu:Wv a 1 u):u∈Aa a t:=by
 have hl:=bX List.length h;have:=hu.len;simp at hl;exact bz.2 ⟨i,cW.2 gY,UX h hu⟩
theorem BV{a t u:gv}(h:u∈Aa a t)(hu:u≠[]):∃i r,t.drop i=u++r:=by
 obtain⟨i,_,e⟩:=bz.1 h;obtain⟨r,hr⟩:=Rf (a:=a) (q:=t.drop i) (by rw[e];exact hu);exact⟨i,r,by rw[e]at hr;exact hr⟩
def N0(a s t:gv):Pl:=⟨48,Aa a s++Aa a t⟩
theorem HK{a s u:gv}(hu:u∈Aa a s)(w:Wv a 1 u)(hx:¬u.headD 0<0):∀p∈pE a (lR a (u.headD 0)) u.tail,p∈Aa a s:=by
 obtain⟨x,q,rfl,_,wq⟩:=w.pos;rw[bU]at wq;obtain⟨i1,i2,i3⟩:=tC wq;obtain⟨i,r,e⟩:=BV hu (by simp);intro p hp;obtain⟨p1,p2,ep⟩:=nK hp;rw[show(x::q).tail=q from rfl,show(x::q).headD 0=x from rfl,i1]at ep;have e':s.drop (i+(1+p1.length))=p++(p2++r):=by rw[<-List.drop_drop,e,ep,cN 1,bP,fF,aG,aG,bS]
 exact BW e' (i3 p hp)
theorem T3{a s t:gv}:Cl a (N0 a s t):=fun u hn w hx p hp=>by
 refine⟨fun y hy=>hn y ?_,?_⟩
 ·obtain⟨x,q,rfl,_,wq⟩:=w.pos;rw[bU]at wq;obtain⟨p1,p2,ep⟩:=nK hp;rw[show(x::q).tail=q from rfl,show(x::q).headD 0=x from rfl,(tC wq).1]at ep;rw[ep];simp[hy]
 ·rcases aN.1 hn.mem with c|c
  ·exact bk _ (HK c w hx p hp)
  ·exact bE _ (HK c w hx p hp)
structure Tok(a s:gv):Prop where
 wv:Wv a 1 s
 len:s.length<=60
 lo:∀y∈s, -48<=y
theorem Kq{a s t:gv}(ha:jR a=true)(hs:Tok a s)(ht:Tok a t):UC a (N0 a s t):=by
 refine⟨ha,rfl,fun u hu=>?_⟩;by_cases h0:u=[]
 ·rw[h0];simp
 ·rcases aN.1 hu with c|c
  ·obtain⟨i,r,e⟩:=BV c h0;have hl:=bX List.length e;have:=hs.len;simp at hl;omega
  ·obtain⟨i,r,e⟩:=BV c h0;have hl:=bX List.length e;have:=ht.len;simp at hl;omega
theorem YQ{a s t:gv}(hs:Tok a s):Nb (N0 a s t) s:=⟨hs.lo,bk _ (BW (i:=0) (r:=[]) (by simp) hs.wv)⟩
theorem YR{a s t:gv}(ht:Tok a t):Nb (N0 a s t) t:=⟨ht.lo,bE _ (BW (i:=0) (r:=[]) (by simp) ht.wv)⟩
theorem aaN{a s t:gv}(hs:Tok a s)(ht:Tok a t):(N0 a s t).P.length<=200:=by
 have h1:=hs.len;have h2:=ht.len;show(Aa a s++Aa a t).length<=200;rw[ai,E7,E7];omega
abbrev DM:List gv:=List.replicate 48 []
theorem IP{a s t:gv}(ha:jR a=true)(hs:Tok a s)(ht:Tok a t):∃z,jS s t a DM=some z/\
 zK a (N0 a s t) DM (fun τ=>sub τ s=sub τ t) (Sum.elim (fun b=>(b,true)) (fun b=>(b,false)) z):=by
 have hc:=Kq ha hs ht;obtain⟨F,res,e,R⟩:=Un.Bx.good (GZ hc) T3 _ _ (Bn.none a (N0 a s t)) (aF _) (aF _) hs.wv ht.wv (YQ hs) (YR ht);have e1:=e F (aF _);unfold EQ toR at e1;obtain⟨z,hz,ez⟩:=az.1 e1;refine⟨z,Kj F hz fun m z' hz'=>?_,by rw[ez];exact R⟩;have q1:=xh a _ hz' (Nat.le_max_left m F);have q2:=xh a _ hz (Nat.le_max_right m F);exact c_ (q1.symm.trans q2)
theorem Js{a s t:gv}(ha:jR a=true)(hs:Tok a s)(ht:Tok a t):∃res:Bool×List gv,mF a s t DM=some res/\
 zK a (N0 a s t) DM (fun τ=>sub τ s=sub τ t) (res.2,res.1):=by
 have hc:=Kq ha hs ht;obtain⟨res,e,R⟩:=Ad.good (HE hc (aaN hs ht)) T3 (tX ha) _ _ (l:=[(s,t)]) (Bn.none a (N0 a s t)) (aF _) (aF _) (fun pq hpq=>by
  rw[aX.1 hpq];exact⟨hs.wv,ht.wv,YQ hs,YR ht⟩) (H:=[]) (.base (by simp))
 exact⟨(res.2,res.1),e,R.of fun τ _=>by simp[rD]⟩
end
end Go.Proofs.YtjgbnaihpicpgaaGreatDoor
