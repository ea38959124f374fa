/- A part of the proof about FnExactJoinsAll (VA, VB, VC, VD, VE, VF, VG, VH, VI, VJ, VK). -/
import Derived.Test.YtjgbnaihpicpgaaGreatDoorTe
import Derived.Test.YtjgbnaihpicpgaaGreatDoorTg
import Derived.Test.YtjgbnaihpicpgaaGreatDoorTh
import Derived.Test.YtjgbnaihpicpgaaGreatDoorTj
import Derived.Test.YtjgbnaihpicpgaaGreatDoorTm
set_option linter.all false
noncomputable section
namespace Go.Proofs.YtjgbnaihpicpgaaGreatDoor
open Go lY Tm Un
structure UC(a:gk)(N:Pl):Prop where
 sg:jK a=true
 Gh:N.n=48
 sm:∀t∈N.P,t.length<=60
theorem UC.small{a t:gk}{N:Pl}(hc:UC a N)(h:Nb N t):t.length<=60:=hc.sm _ h.mem
theorem Dq{a:gk}{N:Pl}(hc:UC a N){n:Int}(h0:n<0)(h1: -(N.n:Int)<=n):IntKind.i64.wrap ((-1)-n)= -1-n/\0<= -1-n/\ -1-n<48:=by
 have:=hc.Gh;exact⟨lX gN gN,gN,gN⟩
theorem HU{σ β:Type}{f g:σ->Option (σ⊕β)}(hfg:∀s x,f s=some x->g s=some x){s:σ}{b:β}(h:g_ f s=some b):g_ g s=some b:=by
 obtain⟨n,hn⟩:=qd h
 suffices hs:∀n s,sC f n s b->sC g n s b from(hs n s hn).g_
 intro n;induction n with
 |zero=>intro s h;exact h
 |succ n ih=>
  intro s h;rcases h with h|⟨s',h,h'⟩
  ·exact .inl (hfg _ _ h)
  ·exact .inr ⟨s',hfg _ _ h,ih s' h'⟩
section
variable{a:gk}{N:Pl}{b:List gk}{σ:Sb}{r:Int->Nat}
theorem zO(hc:UC a N)(h:Bn a N b σ r){t u:gk}(hu:Hd b t u):Wv a 1 t->Nb N t->g_ (kG b) t=some u:=by
 induction hu with
 |@stop t hs=>
  intro w n;refine ie ?_;obtain⟨x,p,rfl,_,_⟩:=w.pos;have hs':x<0->bg b x=[]:=hs;unfold kG;rw[ah ⟨gN,by simp only[aQ];omega⟩,show(x::p).getD 0 default=x from rfl];by_cases hx:x<0
  ·obtain⟨e1,e2,e3⟩:=Dq hc hx (n x aZ);rw[ah (by simpa using hx),e1,ah ⟨e2,e3,by rw[h.len,hc.Gh];exact e3⟩];have e4:b.getD (-1-x).toNat default=[]:=hs' hx;rw[e4];rfl
  ·rw[ak (by simpa using hx)];rfl
 |@go t u hx hb hu ih=>
  intro w n;obtain⟨x,p,rfl,_,_⟩:=w.pos;have hx':x<0:=hx;have hb':b.getD (-1-x).toNat default≠[]:=hb;obtain⟨t1,t2⟩:=h.tm _ hx hb;refine(iB ?_).trans (ih t1 t2);unfold kG;obtain⟨e1,e2,e3⟩:=Dq hc hx' (n x aZ);rw[ah ⟨gN,by simp only[aQ];omega⟩,show(x::p).getD 0 default=x from rfl,ah (by simpa using hx'),e1,ah ⟨e2,e3,by rw[h.len,hc.Gh];exact e3⟩,ak (by simpa using hb')];rfl
theorem Ae(hc:UC a N)(h:Bn a N b σ r){t u:gk}(hu:Hd b t u):Wv a 1 t->Nb N t->g_ (nK b) t=some u:=by
 induction hu with
 |@stop t hs=>
  intro w n;refine ie ?_;obtain⟨x,p,rfl,_,_⟩:=w.pos;have hs':x<0->bg b x=[]:=hs;unfold nK;rw[ah ⟨gN,by simp only[aQ];omega⟩,show(x::p).getD 0 default=x from rfl];by_cases hx:x<0
  ·obtain⟨e1,e2,e3⟩:=Dq hc hx (n x aZ);rw[ah (by simpa using hx),e1,ah ⟨e2,e3,by rw[h.len,hc.Gh];exact e3⟩];have e4:b.getD (-1-x).toNat default=[]:=hs' hx;rw[e4];rfl
  ·rw[ak (by simpa using hx)];rfl
 |@go t u hx hb hu ih=>
  intro w n;obtain⟨x,p,rfl,_,_⟩:=w.pos;have hx':x<0:=hx;have hb':b.getD (-1-x).toNat default≠[]:=hb;obtain⟨t1,t2⟩:=h.tm _ hx hb;refine(iB ?_).trans (ih t1 t2);unfold nK;obtain⟨e1,e2,e3⟩:=Dq hc hx' (n x aZ);have hl:0<(b.getD (-1-x).toNat default).length:=cc.2 hb';rw[ah ⟨gN,by simp only[aQ];omega⟩,show(x::p).getD 0 default=x from rfl,ah (by simpa using hx'),e1,ah ⟨e2,e3,by rw[h.len,hc.Gh];exact e3⟩,ah (by simp only[aA];omega)];rfl
theorem ue{b:List gk}{x:Int}:∀(f:Nat)(t:gk)(seen:List Bool){q:Bool×List Bool},uQ b x f t seen=some q->∀{g:Nat},f<=g->uQ b x g t seen=some q
 |0,_,_,q,h,g,hg=>by simp[uQ]at h
 |f+1,[],seen,q,h,g,hg=>by
  obtain⟨g,rfl⟩:∃k,g=k+1:=⟨g-1,gN⟩;simpa[uQ]using h
 |f+1,m::t,seen,q,h,g,hg=>by
  obtain⟨g,rfl⟩:∃k,g=k+1:=⟨g-1,gN⟩;rw[uQ]at h⊢;split at h
  ·rename_i h1;rw[ah h1];exact h
  ·rename_i h1;rw[ak h1];split at h
   ·rename_i h2;rw[ah h2];exact ue (f+1) t seen h hg
   ·rename_i h2;rw[ak h2];split at h
    ·rename_i h3;rw[ah h3];exact ue (f+1) t _ h hg
    ·rename_i h3;rw[ak h3];obtain⟨p,hp,h⟩:=ai.1 h;rw[ue f _ _ hp gN,aa];split at h
     ·rename_i h4;rw[ah h4];exact h
     ·rename_i h4;rw[ak h4];exact ue (f+1) t _ h hg
termination_by f t _=>(f,t.length)
theorem xI(hc:UC a N)(hb:b.length=N.n)(htm:∀x,x<0->bg b x≠[]->Nb N (bg b x))(n:Int)(u0:gk):∀(f:Nat){t:gk}{seen:List Bool},t.length<=60->(∀y∈t, -(N.n:Int)<=y)->seen.length=N.n->
 iO f n t u0 b seen=uQ b n f t seen
 |0,t,seen,_,_,_=>by simp[uQ,iO]
 |f+1,t,seen,hl,hn,hs=>by
  have key:∀(q:gk){i:Nat}{seen:List Bool},t.drop i=q->seen.length=N.n->g_ (jk (iO f) n t u0 b) ((i:Int),seen)=uQ b n (f+1) q seen:=by
   intro q;induction q with
   |nil=>
    intro i seen hq hs;have hi:t.length<=i:=by simpa using hq
    rw[uQ];refine ie ?_;rw[jk,ak (by simp only[aA];omega)];rfl
   |cons m q ih=>
    intro i seen hq hs;have hi:i<t.length:=by
     refine dc fun c=>?_
     rw[ew gN]at hq;cases hq
    have hm:t.getD i default=m:=by
     rw[aE hi]at hq;rw[iy hi];exact(dQ hq).1
    have hq':t.drop (i+1)=q:=by
     rw[aE hi]at hq;exact(dQ hq).2
    have hmt:m∈t:=by rw[<-hm];exact jP hi
    have hw:IntKind.i64.wrap ((i:Int)+1)=((i+1:Nat):Int):=by rw[lX gN gN];rfl
    have e0:jk (iO f) n t u0 b ((i:Int),seen)=(if m=n then some (.inr (true,seen))else if 0<=m\/sn seen m=true then some (.inl (((i+1:Nat):Int),seen))else if bg b m=[]then some (.inl (((i+1:Nat):Int),ss seen m))else(iO f n (bg b m) u0 b (ss seen m)).bind fun p=>if p.1=true then some (.inr (true,p.2))else some (.inl (((i+1:Nat):Int),p.2))):=by
     rw[jk,ah (by simp only[aA];omega),ah ⟨gN,gN⟩,au,hm];by_cases h1:m=n
     ·rw[ah (by simpa using h1),ah h1];rfl
     ·rw[ak (by simpa using h1),ak h1];by_cases h2:0<=m
      ·rw[ah (by simpa using h2),ah (.inl h2),hw]
      ·have h0:m<0:=by omega
       obtain⟨e1,e2,e3⟩:=Dq hc h0 (hn m hmt);rw[ak (by simpa using h2),e1,ah ⟨e2,e3,by rw[hs,hc.Gh];exact e3⟩];by_cases h3:sn seen m=true
       ·have h3':seen.getD (-1-m).toNat default=true:=h3;rw[ah h3',ah (.inr h3),hw]
       ·have h3':¬seen.getD (-1-m).toNat default=true:=h3;rw[ak h3',ak (fun c:0<=m\/sn seen m=true=>c.elim h2 h3),ah ⟨e2,e3,by rw[hb,hc.Gh];exact e3⟩];by_cases h4:bg b m=[]
        ·have h4':b.getD (-1-m).toNat default=[]:=h4;rw[h4',ah (show([]:gk).isEmpty=true from rfl),ah h4,hw];rfl
        ·have h4':¬(b.getD (-1-m).toNat default).isEmpty=true:=by rw[List.isEmpty_iff];exact h4
         rw[ak h4',ak h4];rw[hw];rfl
    rw[uQ];by_cases h1:m=n
    ·rw[ah h1]at e0⊢;exact ie e0
    ·rw[ak h1]at e0⊢;by_cases h2:0<=m\/sn seen m=true
     ·rw[ah h2]at e0⊢;exact(iB e0).trans (ih hq' hs)
     ·rw[ak h2]at e0⊢;by_cases h3:bg b m=[]
      ·rw[ah h3]at e0⊢;exact(iB e0).trans (ih hq' (by simpa[ss]using hs))
      ·rw[ak h3]at e0⊢;have hm0:m<0:=by omega
       have hnb:=htm m hm0 h3;rw[xI hc hb htm n u0 f (hc.small hnb) hnb.le (by simpa[ss]using hs)]at e0;cases hp:uQ b n f (bg b m) (ss seen m)with
       |none=>
        rw[hp]at e0;rw[fR]at e0⊢;cases hx:g_ (jk (iO f) n t u0 b) ((i:Int),seen)with
        |none=>rfl
        |some z=>
         obtain⟨k,hk⟩:=qd hx;cases k with
         |zero=>exact hk.elim
         |succ k=>
          rcases hk with hk|⟨s',hk,_⟩
          ·rw[e0]at hk;cases hk
          ·rw[e0]at hk;cases hk
       |some p=>
        rw[hp]at e0;rw[aa]at e0⊢;by_cases h5:p.1=true
        ·rw[ah h5]at e0⊢;exact ie e0
        ·rw[ak h5]at e0⊢;exact(iB e0).trans (ih hq' (by rw[vW f _ _ hp];simpa[ss]using hs))
  have:=key t (i:=0) rfl hs;exact this
end
end Go.Proofs.YtjgbnaihpicpgaaGreatDoor
namespace Go.Proofs.YtjgbnaihpicpgaaGreatDoor
open Go lY Tm
open Un hiding Bd
theorem N3{a t:gk}{i k:Nat}(h:i<t.length):yJ a (t.drop i) (k+1)=if t[i]<a.length then yJ a (t.drop (i+1)) (k+mS a t[i])else none:=by rw[aE h,uJ]
theorem QZ(a:gk)(k:Nat):yJ a [] (k+1)=none:=by simp[yJ]
theorem vo{a t u r:gk}(ha:jK a=true)(hs:Small t){i:Nat}(hd:t.drop i=u++r)(hu:Wv a 1 u):lB a t i=some ((t.length:Int)-r.length):=by
 have hl:=bX List.length hd;have hul:=hu.len;simp at hl;have hi:i<=t.length:=by omega
 have h0:yJ a (t.drop i) 1=some r:=by rw[hd];exact hu.skip r
 have key:oD True (j_ a t i) fun q=>q=(true,(t.length:Int)-r.length):=by
  unfold j_;refine oD.loop (fun s=>∃(k c:Nat),s=((k:Int),(c:Int))/\c<=t.length/\k<=1+3*c/\yJ a (t.drop c) k=some r) (fun s=>t.length-s.2.toNat) ⟨1,i,rfl,hi,gN,h0⟩ ?_;rintro _ ⟨k,c,rfl,h1,h2,h3⟩;simp only[m_];cases k with
  |zero=>
   simp only[show ¬(0:Int)<((0:Nat):Int) by omega,aW,aj,aF,aS];refine .some ?_;simp only[yV];rw[uK]at h3;cases h3;simp;omega
  |succ k=>
   simp only[show(0:Int)<((k+1:Nat):Int) by omega,aR,aB,sy ha hs h1,aa];by_cases hc:c<t.length
   ·rw[aE hc];rw[N3 hc]at h3;simp only;by_cases hlt:t[c]<a.length
    ·rw[ah hlt]at h3;have hle:=vk ha t[c];simp only[hlt,aB,show ¬((mS a t[c]:Nat):Int)<0 by omega,aW,aj,aF];have hw1:IntKind.i64.wrap (((k+1:Nat):Int)+(mS a t[c]:Int))=(k+1:Nat)+mS a t[c]:=lX gN gN;rw[hw1,lX gN gN];refine .some ⟨⟨k+mS a t[c],c+1,by simp;omega,gN,gN,h3⟩,by simp;omega⟩
    ·rw[ak hlt]at h3;cases h3
   ·rw[bu gN,QZ]at h3;cases h3
 unfold lB;rw[key.eq,aa];rfl
theorem vp{a t u r:gk}(ha:jK a=true)(hs:Small t){i:Nat}(h:t.drop i=u++r)(hu:Wv a 1 u):jH a t i=some u:=by
 have hl:=bX List.length h;have hul:=hu.len;simp at hl;unfold jH;rw[vo ha hs h hu,aa,ah gN,show((t.length:Int)-r.length).toNat=t.length-r.length by omega,au,ya h gN]
def AO:Nat->List gk->gk
 |_,[]=>[]
 |i,u::us=>(i:Int)::AO (i+u.length) us
theorem xO:∀(i:Nat)(us:List gk),(AO i us).length=us.length
 |_,[]=>rfl
 |i,u::us=>by rw[AO,aQ,aQ,xO]
theorem CI{t:gk}:∀{us:List gk}{i k:Nat},t.drop i=us.flatten->k<us.length->∃(j:Nat)(r:gk),(AO i us).getD k default=(j:Int)/\t.drop j=us.getD k default++r
 |[],i,k,h,hk=>by simp at hk
 |u::us,i,0,h,hk=>⟨i,us.flatten,rfl,by rw[h,cA];rfl⟩
 |u::us,i,k+1,h,hk=>by
  have h':t.drop (i+u.length)=us.flatten:=by rw[<-List.drop_drop,h,cA,bY]
  obtain⟨j,r,e1,e2⟩:=CI h' (k:=k) (by simpa using hk);exact⟨j,r,by rw[AO,List.getD_cons_succ];exact e1,by rw[List.getD_cons_succ];exact e2⟩
theorem xH{a t:gk}(ha:jK a=true)(hl:t.length<=60){x:Int}{p:gk}(ht:t=x::p)(hx:¬x<0)(hw:Wv a 1 t):oZ a t 0=some (AO 1 (tY a (mS a x) p)):=by
 have hlt:x<a.length/\Wv a (mS a x) p:=by
  have:=hw;rw[ht]at this;have:=Wv.iY.1 this;rw[cg]at this;exact this
 have hs:Small t:=by show t.length<_;omega
 have h3:=vk ha x;unfold oZ;rw[ah ⟨gN,by rw[ht,aQ];omega⟩,show t.getD (0:Int).toNat default=x by rw[ht];rfl,rG ha hlt.1,aa,show IntKind.i64.wrap (0+1)=((1:Nat):Int) by rw[lX gN gN];rfl];have key:∀(k:Nat){q o:gk}{i:Nat},Wv a k q->t.drop i=q->k+o.length<=3->g_ (mB a t) (o,(i:Int),(k:Int))=some (o++AO i (tY a k q)):=by
  intro k;induction k with
  |zero=>
   intro q o i hq hd ho;refine ie ?_;rw[mB,ak (by simp),tY,AO,aV];rfl
  |succ k ih=>
   intro q o i hq hd ho;rw[dh]at hq;obtain⟨u,v,rfl,w1,w2⟩:=hq.split;have hll:=bX List.length hd;have:=w1.len;rw[de,aq]at hll;have hd':t.drop (i+u.length)=v:=by rw[<-List.drop_drop,hd,bY]
   have e:yJ a (u++v) 1=some v:=w1.skip v;have e2:(u++v).take ((u++v).length-v.length)=u:=by rw[aq,fE];simp
   have e3:tY a (k+1) (u++v)=u::tY a k v:=by rw[tY,e];simp only;rw[e2]
   refine(iB ?_).trans (b:=g_ (mB a t) (o++[(i:Int)],((i+u.length:Nat):Int),(k:Int))) ?_
   ·rw[mB,ah (by simp only[aA];omega),ah gN,vo ha hs hd w1,aa];have e5:IntKind.i64.wrap (((k+1:Nat):Int)-1)=(k:Int):=by rw[lX gN gN];omega
    rw[e5,show(t.length:Int)-v.length=((i+u.length:Nat):Int) by omega]
   ·rw[ih w2 hd' (by rw[aq,aY];omega),e3,AO,aG];rfl
 have:=key (mS a x) (q:=p) (o:=[]) (i:=1) hlt.2 (by rw[ht];rfl) (by simpa using h3);rw[bh]at this;exact this
def ZZ(o:Option (Bd⊕Bd)):Option (Bd×Bool):=o.map (Sum.elim (fun b=>(b,true)) fun b=>(b,false))
def EQ(a:gk)(f:Nat)(b:Bd)(s t:gk):Option (Bd×Bool):=ZZ (iA f s t a b)
theorem vP(u0:gk):∀(f:Nat){s t:gk}{b:Bd}{q:Bd⊕Bd},iA f s t u0 b=some q->∀{g:Nat},f<=g->iA g s t u0 b=some q:=by
 intro f;induction f with
 |zero=>intro s t b q h;simp[iA]at h
 |succ f ih=>
  intro s t b q h g hg;obtain⟨g,rfl⟩:∃k,g=k+1:=⟨g-1,gN⟩;rw[iA]at h⊢;obtain⟨r,hr,h⟩:=ai.1 h;obtain⟨r',hr',h⟩:=ai.1 h;rw[hr,aa,hr',aa];split at h
  ·rename_i h1;rw[ah h1];split at h
   ·rename_i h2;rw[ah h2];split at h
    ·rename_i h3;rw[ah h3];split at h
     ·rename_i h4;rw[ah h4];exact h
     ·rename_i h4;rw[ak h4];obtain⟨o,ho,h⟩:=ai.1 h;obtain⟨o',ho',h⟩:=ai.1 h;rw[ho,aa,ho',aa];refine HU (fun st x hx=>?_) h;obtain⟨i,bb⟩:=st;rw[ji]at hx⊢;split at hx
      ·rename_i k1;rw[ah k1];split at hx
       ·rename_i k2;rw[ah k2];obtain⟨z,hz,hx⟩:=ai.1 hx;rw[hz,aa];split at hx
        ·rename_i k3;rw[ah k3];obtain⟨z',hz',hx⟩:=ai.1 hx;obtain⟨y,hy,hx⟩:=ai.1 hx;rw[hz',aa,ih hy gN,aa];exact hx
        ·cases hx
       ·cases hx
      ·rename_i k1;rw[ak k1];exact hx
    ·rename_i h3;rw[ak h3];exact h
   ·cases h
  ·cases h
section
variable{a:gk}{N:Pl}{b:List gk}{σ:Sb}{r:Int->Nat}
theorem HV{σ β:Type}{f:σ->Option (σ⊕β)}{s:σ}(h:f s=none):g_ f s=none:=by
 cases hx:g_ f s with
 |none=>rfl
 |some z=>
  obtain⟨k,hk⟩:=qd hx;cases k with
  |zero=>exact hk.elim
  |succ k=>
   rcases hk with hk|⟨s',hk,_⟩
   ·rw[h]at hk;cases hk
   ·rw[h]at hk;cases hk
theorem N6(m:Int):sn (List.replicate 48 false) m=false:=by
 unfold sn;rw[av,dw];split<;>rfl
theorem w_(hc:UC a N)(h:Bn a N b σ r)(u0:gk){n:Int}(hn:n<0)(hb:bg b n=[]){t:gk}(ht:Nb N t):
 ∃q,kQ n t u0 b (List.replicate 48 false)=some q/\(q.1=true<->n∈sub σ t):=by
 obtain⟨M,hM⟩:=xS r t;have hl:(List.replicate 48 false).length=N.n:=by rw[ey,hc.Gh]
 have he:=xI (b:=b) hc h.len (fun x hx hbx=>(h.tm x hx hbx).2) n u0;obtain⟨q,e,q1,q2⟩:=zV h hn hb (M+1) t (List.replicate 48 false) (R:=M) (dz _) hl ht.le (fun y hy _ _=>hM y hy) (fun m _ _ hs=>by rw[N6]at hs;cases hs);refine⟨q,?_,q1,fun hin=>?_⟩
 ·refine Jf (M+1) (by rw[he _ (hc.small ht) ht.le hl];exact e) fun m q' hq'=>?_
  rw[he _ (hc.small ht) ht.le hl]at hq';have k1:=ue _ _ _ hq' (Nat.le_max_left m (M+1));have k2:=ue _ _ _ e (Nat.le_max_right m (M+1));rw[k1]at k2;exact cZ k2
 ·cases hq:q.1 with
  |true=>rfl
  |false=>exact absurd hin (q2 hq).1
theorem FM(ha:jK a=true){u v:gk}{P Q:List gk}(hu:Small u)(hv:Small v){iu iv:Nat}(eu:u.drop iu=P.flatten)(ev:v.drop iv=Q.flatten)
 (wP:∀t∈P,Wv a 1 t) (wQ:∀t∈Q,Wv a 1 t) (hPQ:P.length=Q.length) (h3:P.length<=3) (f:Nat):
 ∀(n i:Nat){b:List gk},i+n=P.length->ZZ (g_ (ji (iA f) a u v (AO iu P) (AO iv Q)) ((i:Int),b))=TI (EQ a f) b ((P.drop i).zip (Q.drop i)):=by
 intro n;induction n with
 |zero=>
  intro i b hi;rw[ie (b:=.inl b) (by rw[ji,ak (by rw[xO];simp only[aA];omega)];rfl),bu gN];rfl
 |succ n ih=>
  intro i b hi;have hiP:i<P.length:=by omega
  have hiQ:i<Q.length:=by omega
  obtain⟨j1,r1,p1,p2⟩:=CI eu hiP;obtain⟨j2,r2,q1,q2⟩:=CI ev hiQ;have s1:=vp ha hu p2 (wP _ (jP hiP));have s2:=vp ha hv q2 (wQ _ (jP hiQ));have hw:IntKind.i64.wrap ((i:Int)+1)=((i+1:Nat):Int):=by rw[lX gN gN];rfl
  have e0:ji (iA f) a u v (AO iu P) (AO iv Q) ((i:Int),b)=
   (iA f (P.getD i default) (Q.getD i default) a b).bind (Sum.elim (fun rt_3=>some (.inl (((i+1:Nat):Int),rt_3))) (fun rf_3=>Option.map Sum.inr (some (.inr rf_3)))):=by
   rw[ji,ah (by rw[xO];simp only[aA];omega),ah ⟨gN,by rw[xO];omega⟩,au,p1,s1,aa,
    ah ⟨gN,by rw[xO];omega⟩,q1,s2,aa,hw]
  rw[aE hiP,aE hiQ,fF,TI,<-iy hiP,<-iy hiQ];simp only;rw[EQ];cases hq:iA f (P.getD i default) (Q.getD i default) a b with
  |none=>rw[hq]at e0;rw[HV (by rw[e0];rfl)];rfl
  |some z=>
   rw[hq]at e0;cases z with
   |inl b'=>rw[iB (s':=(((i+1:Nat):Int),b')) (by rw[e0];rfl),ih (i+1) gN];rfl
   |inr b'=>rw[ie (b:=.inr b') (by rw[e0];rfl)];rfl
theorem F1(hc:UC a N):Un.As a N (EQ a):=⟨fun{b σ r s t} h ws wt ns nt=>by
 obtain⟨u,hu⟩:=Hd.ex h (r (s.headD 0)+1) ws (dz _);obtain⟨v,hv⟩:=Hd.ex h (r (t.headD 0)+1) wt (dz _);refine⟨u,v,hu,hv,fun f=>?_⟩;obtain⟨w1,n1,f1,g1⟩:=hu.ok h ws ns;obtain⟨w2,n2,f2,g2⟩:=hv.ok h wt nt;have e1:kJ s a b=some u:=zO hc h hu ws ns;have e2:kJ t a b=some v:=zO hc h hv wt nt;obtain⟨x,p,eu,hx,wp⟩:=w1.pos;obtain⟨y,q,ev,hy,wq⟩:=w2.pos;have l1:=hc.small n1;have l2:=hc.small n2;have hux:u.getD (0:Int).toNat default=x:=by rw[eu];rfl
 have hvy:v.getD (0:Int).toNat default=y:=by rw[ev];rfl
 have hux':u.headD 0=x:=by rw[eu];rfl
 have hvy':v.headD 0=y:=by rw[ev];rfl
 have bl:b.length=48:=by rw[h.len,hc.Gh]
 have pu:0<u.length:=by rw[eu];simp
 have pv:0<v.length:=by rw[ev];simp
 have hxN: -(N.n:Int)<=x:=n1 x (by rw[eu];simp);have hyN: -(N.n:Int)<=y:=n2 y (by rw[ev];simp);unfold EQ Un.one;rw[iA,e1,aa,e2,aa,ah ⟨gN,gN⟩,ah ⟨gN,gN⟩];rw[show u.getD 0 default=x from hux,show v.getD 0 default=y from hvy,hux',hvy'];rw[hux']at f1;rw[hvy']at f2;by_cases hxy:x=y
 ·rw[ah (by simpa using hxy)];by_cases h0:x<0
  ·rw[ah (by simpa using h0),ah ⟨hxy,h0⟩];rfl
  ·rw[ak (by simpa using h0),ak (fun c=>h0 c.2),ak gN,ak (fun c=>c hxy)];rw[cg]at wp wq;have i1:=uH wp;have i2:=uH wq;rw[xH hc.sg l1 eu h0 w1,aa,xH hc.sg l2 ev gN w2,aa];have:=FM (a:=a) hc.sg (u:=u) (v:=v) (P:=tY a (mS a x) p) (Q:=tY a (mS a y) q) (by show u.length<_;omega) (by show v.length<_;omega) (iu:=1) (iv:=1) (by rw[eu,i1.1];rfl) (by rw[ev,i2.1];rfl) i1.2.2 i2.2.2
    (by rw[i1.2.1,i2.2.1,hxy]) (by rw[i1.2.1];exact vk hc.sg x) f (tY a (mS a x) p).length 0 (b:=b) gN
   rw[bG,bG]at this;have et:u.tail=p:=by rw[eu];rfl
   have et':v.tail=q:=by rw[ev];rfl
   rw[et,et'];rw[<-hxy]at this⊢;exact this
 ·rw[ak (show ¬(x==y)=true by simpa using hxy),ak (show ¬(x=y/\x<0)from fun c=>hxy c.1)];have setb:∀{n:Int}{w:gk},n<0-> -(N.n:Int)<=n->0<w.length->(if 0<=(IntKind.i64.wrap ((-1)-n))/\(IntKind.i64.wrap ((-1)-n))<48/\(IntKind.i64.wrap ((-1)-n))<(b.length:Int)then
   (if 0<w.length then some (Sum.inl (b.set (IntKind.i64.wrap ((-1)-n)).toNat w))else none)else(none:Option (List gk⊕List gk)))=some (.inl (bs b n w)):=fun{n w} k1 k2 k3=>by
   obtain⟨d1,d2,d3⟩:=Dq hc k1 k2;rw[d1,ah ⟨d2,d3,by rw[bl];exact d3⟩,ah k3];rfl
  by_cases hy0:y<0
  ·rw[ah (show decide (y<0)=true by simpa using hy0),ah (show x<0\/y<0 from .inr hy0)];by_cases hx0:0<=x
   ·have hw:way u v=(y,u):=by unfold way;rw[hux',hvy',ah ⟨hy0,.inl hx0⟩]
    obtain⟨q',o1,o2⟩:=w_ hc h a hy0 (f2 hy0) n1;rw[ah (show decide (0<=x)=true by simpa using hx0),o1,aa,hw];simp only;rw[hux'];by_cases hin:y∈sub σ u
    ·rw[ah (o2.2 hin),ah (show 0<=x/\y∈sub σ u from⟨hx0,hin⟩)];rfl
    ·rw[ak (fun c=>hin (o2.1 c)),ak (show ¬(0<=x/\y∈sub σ u)from fun c=>hin c.2),setb hy0 hyN pu];rfl
   ·rw[ak (show ¬decide (0<=x)=true by simpa using hx0)];by_cases hlt:y<x
    ·have hw:way u v=(y,u):=by unfold way;rw[hux',hvy',ah ⟨hy0,.inr hlt⟩]
     rw[ah (show decide (y<x)=true by simpa using hlt),hw];simp only;rw[hux',ak (show ¬(0<=x/\y∈sub σ u)from fun c=>hx0 c.1),setb hy0 hyN pu];rfl
    ·have hw:way u v=(x,v):=by unfold way;rw[hux',hvy',ak (fun c=>c.2.elim hx0 hlt)]
     rw[ak (show ¬decide (y<x)=true by simpa using hlt),hw];simp only;rw[hvy',ak (show ¬(0<=y/\x∈sub σ v)from fun c=>by omega),setb gN hxN pv];rfl
  ·rw[ak (show ¬decide (y<0)=true by simpa using hy0)];by_cases hx0:x<0
   ·have hw:way u v=(x,v):=by unfold way;rw[hux',hvy',ak (fun c=>hy0 c.1)]
    obtain⟨q',o1,o2⟩:=w_ hc h a hx0 (f1 hx0) n2;rw[ah (show decide (x<0)=true by simpa using hx0),ah (show x<0\/y<0 from .inl hx0),o1,aa,hw];simp only;rw[hvy'];by_cases hin:x∈sub σ v
    ·rw[ah (o2.2 hin),ah (show 0<=y/\x∈sub σ v from⟨gN,hin⟩)];rfl
    ·rw[ak (fun c=>hin (o2.1 c)),ak (show ¬(0<=y/\x∈sub σ v)from fun c=>hin c.2),setb hx0 hxN pv];rfl
   ·rw[ak (show ¬decide (x<0)=true by simpa using hx0),ak (show ¬(x<0\/y<0) by omega),ah (show x≠y from hxy)];rfl⟩
end
section
variable{a:gk}{N:Pl}{b:List gk}{σ:Sb}{r:Int->Nat}
theorem EB{α:Type}[Inhabited α]{td:List α}{u:α}(hl:(td++[u]).length<1099511627776):
 0<=IntKind.i64.wrap (((td++[u]).length:Int)-1)/\IntKind.i64.wrap (((td++[u]).length:Int)-1)<((td++[u]).length:Int)/\(IntKind.i64.wrap (((td++[u]).length:Int)-1)).toNat=td.length/\
 (td++[u]).getD td.length default=u/\(td++[u]).take td.length=td:=by
 rw[aq,aY]at hl⊢;rw[lX gN gN];refine⟨gN,gN,gN,?_,by rw[ei]⟩;rw[av,bz (aC _)];simp
theorem K8(hc:UC a N)(hb:b.length=N.n){x:Int}{g:List gk}{u:gk}(hu:Nb N u)(hg:g.getD (IntKind.i64.wrap ((g.length:Int)-1)).toNat default=u):
 ∀(q:gk){i:Nat}{se:List Bool}{td:List gk},u.drop i=q->se.length=N.n->td.length+GJ se<=100->
  g_ (kK x b g) ((i:Int),se,td)=some (match GQ b x q se td with|none=>.inr true|some p=>.inl (p.1,p.2)):=by
 intro q;have hl:=hc.small hu;induction q with
 |nil=>
  intro i se td hq hs hh;have hi:u.length<=i:=by simpa using hq
  rw[GQ];refine ie ?_;rw[kK,hg,ak (by simp only[aA];omega)];rfl
 |cons m q ih=>
  intro i se td hq hs hh;have hi:i<u.length:=by
   refine dc fun c=>?_
   rw[ew gN]at hq;cases hq
  have hm:u.getD i default=m:=by
   rw[aE hi]at hq;rw[iy hi];exact(dQ hq).1
  have hq':u.drop (i+1)=q:=by
   rw[aE hi]at hq;exact(dQ hq).2
  have hmt:m∈u:=by rw[<-hm];exact jP hi
  have hw:IntKind.i64.wrap ((i:Int)+1)=((i+1:Nat):Int):=by rw[lX gN gN];rfl
  have e0:kK x b g ((i:Int),se,td)=(if m=x then some (.inr (.inr true))else if m<0/\sn se m=false/\bg b m≠[]then some (.inl (((i+1:Nat):Int),ss se m,td++[bg b m]))else some (.inl (((i+1:Nat):Int),se,td))):=by
   rw[kK,hg,ah (by simp only[aA];omega),ah ⟨gN,gN⟩,au,hm];by_cases h1:m=x
   ·rw[ah (show(m==x)=true by simpa using h1),ah h1];rfl
   ·rw[ak (show ¬(m==x)=true by simpa using h1),ak h1];by_cases h0:m<0
    ·obtain⟨e1,e2,e3⟩:=Dq hc h0 (hu m hmt);rw[ah (show decide (m<0)=true by simpa using h0),e1,ah (show 0<= -1-m/\ -1-m<48/\ -1-m<(se.length:Int)from⟨e2,e3,by rw[hs,hc.Gh];exact e3⟩)];by_cases h3:sn se m=true
     ·have h3':se.getD (-1-m).toNat default=true:=h3;rw[ah h3',ak (show ¬(m<0/\sn se m=false/\bg b m≠[])from fun c=>by rw[h3]at c;cases c.2.1),hw]
     ·have h3':¬se.getD (-1-m).toNat default=true:=h3;have h3f:sn se m=false:=by simpa using h3
      rw[ak h3',ah (show 0<= -1-m/\ -1-m<48/\ -1-m<(b.length:Int)from⟨e2,e3,by rw[hb,hc.Gh];exact e3⟩)];by_cases h4:bg b m=[]
      ·have h4':b.getD (-1-m).toNat default=[]:=h4;rw[h4',ak (show ¬(m<0/\sn se m=false/\bg b m≠[])from fun c=>c.2.2 h4),hw];rfl
      ·have h4':0<(b.getD (-1-m).toNat default).length:=cc.2 h4;rw[ah (show decide (0<((b.getD (-1-m).toNat default).length:Int))=true by simp only[aA];omega),ah gN,ah (show m<0/\sn se m=false/\bg b m≠[]from⟨h0,h3f,h4⟩),hw];rfl
    ·rw[ak (show ¬decide (m<0)=true by simpa using h0),ak (show ¬(m<0/\sn se m=false/\bg b m≠[])from fun c=>h0 c.1),hw]
  rw[GQ];by_cases h1:m=x
  ·rw[ah h1]at e0⊢;exact ie e0
  ·rw[ak h1]at e0⊢;by_cases h2:m<0/\sn se m=false/\bg b m≠[]
   ·rw[ah h2]at e0⊢;have hlt:GJ (ss se m)<GJ se:=tU (by have:=hu m hmt;omega) h2.2.1;exact(iB e0).trans (ih hq' (by simpa[ss]using hs) (by rw[aq,aY];omega))
   ·rw[ak h2]at e0⊢;exact(iB e0).trans (ih hq' hs hh)
theorem Gz(hc:UC a N)(hb:b.length=N.n)(x:Int):Ar b x (fun se td=>(se,td)) (lZ x b) N:=by
 refine⟨fun se hs=>?_,fun{se td u} hs hu hh=>?_⟩
 ·rw[lZ,ak (by simp)];rfl
 ·have hn:=hc.Gh;obtain⟨k1,k2,k3,k4,k5⟩:=EB (td:=td) (u:=u) (by rw[aq,aY];omega);rw[lZ,ah (by simp only[aA,aq,aY];omega),ah ⟨k1,k2⟩,ah ⟨k1,gN⟩,k3,k5];have:=K8 hc hb (x:=x) (g:=td++[u]) hu (by rw[k3];exact k4) u (i:=0) (se:=se) (td:=td) rfl hs gN;refine Eq.trans this ?_;cases GQ b x u se td<;>rfl
theorem Rb:GJ (List.replicate 48 false)=48:=by decide
theorem sv(hc:UC a N)(h:Bn a N b σ r){x:Int}(hx:x<0)(hbx:bg b x=[]){t:gk}(ht:Nb N t):∃q,kZ x t b=some q/\(q=true<->x∈sub σ t):=by
 have hl:(List.replicate 48 false).length=N.n:=by rw[ey,hc.Gh]
 refine Ar.good h hx hbx (Gz hc h.len x) ht.le _ _ (aC _) (aC _) (se:=List.replicate 48 false) (td:=[t]) ⟨hl,fun u hu=>?_,?_,fun m _ _ hs=>?_,.inl (by simp)⟩
 ·rw[aU.1 hu];exact⟨ht,id⟩
 ·rw[Rb,hc.Gh];simp
 ·rw[N6]at hs;cases hs
theorem G3{a:gk}(ha:jK a=true){x:Int}(h0:¬x<0)(hx:x<a.length):a.getD x.toNat default=(mS a x:Int):=by
 have:=rG ha hx;unfold mI at this;rw[ak (by simpa using h0),ah gN]at this;exact cZ this
theorem Dx{a t q:gk}(ha:jK a=true)(hl:t.length<=60):∀(w:gk){k j:Nat},t.drop j=w++q->Wv a k w->j<=t.length->k<=1+3*j->g_ (ot a t) ((j:Int),(k:Int))=some ((t.length:Int)-q.length):=by
 intro w;induction w with
 |nil=>
  intro k j hd hw hj hk;have hk0:k=0:=by have:=hw.len;simpa using this
  subst hk0;have hll:=bX List.length hd;simp at hll;refine ie ?_;rw[ot,ak (by simp)];rw[aS,show(j:Int)=(t.length:Int)-q.length by omega]
 |cons x w ih=>
  intro k j hd hw hj hk;have hll:=bX List.length hd;simp at hll;have hjl:j<t.length:=by omega
  have hx:t.getD j default=x:=by
   rw[aE hjl]at hd;rw[iy hjl];exact(dQ hd).1
  have hd':t.drop (j+1)=w++q:=by
   rw[aE hjl]at hd;exact(dQ hd).2
  cases k with
  |zero=>have:=hw.zero;cases this
  |succ k=>
   obtain⟨c1,c2⟩:=Wv.iY.1 hw;have h3:=vk ha x;have hw1:IntKind.i64.wrap ((j:Int)+1)=((j+1:Nat):Int):=by rw[lX gN gN];rfl
   refine(iB (s':=(((j+1:Nat):Int),((k+mS a x:Nat):Int))) ?_).trans (ih hd' c2 gN gN);rw[ot,ah (by simp only[aA];omega),ah gN,au,hx,hw1];by_cases h0:x<0
   ·rw[ak (by simpa using h0),lX gN gN,uT h0];rw[show((k+1:Nat):Int)-1=((k+0:Nat):Int) by omega]
   ·rw[ah (by simpa using h0),ah gN,G3 ha h0 c1];rw[lX (n:=((k+1:Nat):Int)+(mS a x:Int)) gN gN,lX gN gN,show((k+1:Nat):Int)+(mS a x:Int)-1=((k+mS a x:Nat):Int) by omega]
theorem xZ{a t u q:gk}(ha:jK a=true)(hl:t.length<=60){i:Nat}(hd:t.drop i=u++q)(hu:Wv a 1 u):o_ a t i=some ((t.length:Int)-q.length):=by
 have hll:=bX List.length hd;have:=hu.len;simp at hll;exact Dx ha hl u (k:=1) hd hu gN gN
theorem yM{a t:gk}(ha:jK a=true)(hl:t.length<=60){x:Int}{p:gk}(ht:t=x::p)(hx:¬x<0)(hw:Wv a 1 t):nD a t=some (tY a (mS a x) p):=by
 have hlt:x<a.length/\Wv a (mS a x) p:=by
  have:=hw;rw[ht]at this;have:=Wv.iY.1 this;rw[cg]at this;exact this
 have h3:=vk ha x;have h0:t.getD 0 default=x:=by rw[ht];rfl
 unfold nD;rw[ah ⟨gN,by rw[ht,aQ];omega⟩,h0,ak (show ¬decide (x<0)=true by simpa using hx)];have key:∀(k:Nat){q:gk}{o:List gk}{i:Nat},Wv a k q->t.drop i=q->k+o.length=mS a x->g_ (mQ a t) (o,(i:Int),(o.length:Int))=some (o++tY a k q):=by
  intro k;induction k with
  |zero=>
   intro q o i hq hd ho;refine ie ?_;rw[mQ,h0,ah gN,G3 ha hx hlt.1,ak (by simp only[aA];omega),tY,aV];rfl
  |succ k ih=>
   intro q o i hq hd ho;rw[dh]at hq;obtain⟨u,v,rfl,w1,w2⟩:=hq.split;have hll:=bX List.length hd;have:=w1.len;rw[de,aq]at hll;have hd':t.drop (i+u.length)=v:=by rw[<-List.drop_drop,hd,bY]
   have e:yJ a (u++v) 1=some v:=w1.skip v;have e2:(u++v).take ((u++v).length-v.length)=u:=by rw[aq,fE];simp
   have e3:tY a (k+1) (u++v)=u::tY a k v:=by rw[tY,e];simp only;rw[e2]
   have e6:(t.take (t.length-v.length)).drop i=u:=ya hd gN;have e7:((o++[u]).length:Int)=IntKind.i64.wrap ((o.length:Int)+1):=by rw[lX gN gN,aq,aY];omega
   refine(iB (s':=(o++[u],((i+u.length:Nat):Int),((o++[u]).length:Int))) ?_).trans ?_
   ·rw[mQ,h0,ah gN,G3 ha hx hlt.1,ah (by simp only[aA];omega),xZ ha hl hd w1,aa,ah gN,ah gN,show((t.length:Int)-v.length).toNat=t.length-v.length by omega,
     au,e6,e7,show(t.length:Int)-v.length=((i+u.length:Nat):Int) by omega]
   ·rw[ih w2 hd' (by rw[aq,aY];omega),e3,aG];rfl
 have:=key (mS a x) (q:=p) (o:=[]) (i:=1) hlt.2 (by rw[ht];rfl) (by simp);rw[bh]at this;exact this
end
section
variable{a:gk}{N:Pl}{b:List gk}{σ:Sb}{r:Int->Nat}
theorem GA(hc:UC a N)(hP:N.P.length<=200):yU a N (fun b l m=>(b,l,m)) (fun b z=>(z,b)) (lR a):=by
 refine⟨fun b=>?_,fun{b σ r l s t} h ws wt ns nt hl=>?_⟩
 ·rw[lR,ak (by simp)];rfl
 obtain⟨u,hu⟩:=Hd.ex h (r (s.headD 0)+1) ws (dz _);obtain⟨v,hv⟩:=Hd.ex h (r (t.headD 0)+1) wt (dz _);obtain⟨w1,n1,f1,g1⟩:=hu.ok h ws ns;obtain⟨w2,n2,f2,g2⟩:=hv.ok h wt nt;have e1:oq s b=some u:=Ae hc h hu ws ns;have e2:oq t b=some v:=Ae hc h hv wt nt;obtain⟨x,p,eu,hx,wp⟩:=w1.pos;obtain⟨y,q,ev,hy,wq⟩:=w2.pos;have l1:=hc.small n1;have l2:=hc.small n2;have hux:u.getD 0 default=x:=by rw[eu];rfl
 have hvy:v.getD 0 default=y:=by rw[ev];rfl
 have hux':u.headD 0=x:=by rw[eu];rfl
 have hvy':v.headD 0=y:=by rw[ev];rfl
 have bl:b.length=48:=by rw[h.len,hc.Gh]
 have pu:0<u.length:=by rw[eu];simp
 have pv:0<v.length:=by rw[ev];simp
 have hxN: -(N.n:Int)<=x:=n1 x (by rw[eu];simp);have hyN: -(N.n:Int)<=y:=n2 y (by rw[ev];simp);obtain⟨k1,k2,k3,k4,k5⟩:=EB (td:=l.map (·.1)) (u:=s) (by rw[aq,aY,aK];omega);obtain⟨m1,m2,m3,m4,m5⟩:=EB (td:=l.map (·.2)) (u:=t) (by rw[aq,aY,aK];omega);have h3x:=vk hc.sg x;have h3y:=vk hc.sg y;have ix:∀{n:Int},n<0-> -(N.n:Int)<=n->IntKind.i64.wrap ((-1)-n)= -1-n/\(0<= -1-n/\ -1-n<48/\ -1-n<(b.length:Int)):=fun{n} c1 c2=>by
  obtain⟨d1,d2,d3⟩:=Dq hc c1 c2;exact⟨d1,d2,d3,by rw[bl];exact d3⟩
 have e0:lR a (b,l.map (·.1)++[s],l.map (·.2)++[t])=
  (if(x==y)=true then
   if(decide (x<0))=true then some (.inl (b,l.map (·.1),l.map (·.2)))
   else some (.inl (b,l.map (·.1)++tY a (mS a x) p,l.map (·.2)++tY a (mS a y) q))
  else if(decide (x<0))=true then
   (kZ x v b).bind fun z=>if z=true then some (.inr (false,b))else some (.inl (bs b x v,l.map (·.1),l.map (·.2)))
  else if(decide (y<0))=true then
   (kZ y u b).bind fun z=>if z=true then some (.inr (false,b))else some (.inl (bs b y u,l.map (·.1),l.map (·.2)))
  else some (.inr (false,b))):=by
  rw[lR,ah (by simp only[aA,aq,aY];omega),ah ⟨k1,k2⟩,k3,k4,k5,e1,aa,ah ⟨m1,m2⟩,m3,m4,m5,e2,aa,ah ⟨k1,gN⟩,ah ⟨m1,gN⟩,
   ah ⟨gN,gN⟩,ah ⟨gN,gN⟩,hux,hvy]
  by_cases hxy:x=y
  ·rw[ah (show(x==y)=true by simpa using hxy),ah (show(x==y)=true by simpa using hxy)];by_cases h0:x<0
   ·rw[ah (show decide (x<0)=true by simpa using h0),ah (show decide (x<0)=true by simpa using h0)]
   ·have i1:=(uH (a:=a) (k:=mS a x) (t:=p) (by rw[cg]at wp;exact wp)).2.1;have i2:=(uH (a:=a) (k:=mS a y) (t:=q) (by rw[cg]at wq;exact wq)).2.1;rw[ak (show ¬decide (x<0)=true by simpa using h0),ak (show ¬decide (x<0)=true by simpa using h0),yM hc.sg l1 eu h0 w1,aa,ah (by rw[aK,i1];omega),
     yM hc.sg l2 ev gN w2,aa,ah (by rw[aK,i2];omega)]
  ·rw[ak (show ¬(x==y)=true by simpa using hxy),ak (show ¬(x==y)=true by simpa using hxy)];by_cases h0:x<0
   ·obtain⟨d1,d2⟩:=ix h0 hxN;rw[ah (show decide (x<0)=true by simpa using h0),ah (show decide (x<0)=true by simpa using h0),d1];congr 1;funext z;rw[ah d2];rfl
   ·rw[ak (show ¬decide (x<0)=true by simpa using h0),ak (show ¬decide (x<0)=true by simpa using h0)];by_cases h1:y<0
    ·obtain⟨d1,d2⟩:=ix h1 hyN;rw[ah (show decide (y<0)=true by simpa using h1),ah (show decide (y<0)=true by simpa using h1),d1];congr 1;funext z;rw[ah d2];rfl
    ·rw[ak (show ¬decide (y<0)=true by simpa using h1),ak (show ¬decide (y<0)=true by simpa using h1)];rfl
 refine⟨u,v,hu,hv,?_⟩;rw[e0,hux',hvy'];rw[hux']at f1;rw[hvy']at f2;refine⟨fun c=>?_,fun c1 c2 c3=>⟨b,?_⟩,fun c1 c2 c3=>?_,fun c1 c2 c3=>⟨b,?_⟩,fun c1 c2 c3=>?_,fun c1 c2 c3=>⟨b,?_⟩,fun c1 c2=>?_⟩
 ·rw[ah (show(x==y)=true by simpa using c.1),ah (show decide (x<0)=true by simpa using c.2)]
 ·obtain⟨z,o1,o2⟩:=sv hc h c2 (f1 c2) n2;rw[ak (show ¬(x==y)=true by simpa using c1),ah (show decide (x<0)=true by simpa using c2),o1,aa,ah (o2.2 c3)]
 ·obtain⟨z,o1,o2⟩:=sv hc h c2 (f1 c2) n2;rw[ak (show ¬(x==y)=true by simpa using c1),ah (show decide (x<0)=true by simpa using c2),o1,aa,ak (fun c=>c3 (o2.1 c))]
 ·obtain⟨z,o1,o2⟩:=sv hc h c2 (f2 c2) n1;rw[ak (show ¬(x==y)=true by simp only[bF];omega),ak (show ¬decide (x<0)=true by simpa using c1),ah (show decide (y<0)=true by simpa using c2),o1,aa,ah (o2.2 c3)]
 ·obtain⟨z,o1,o2⟩:=sv hc h c2 (f2 c2) n1;rw[ak (show ¬(x==y)=true by simp only[bF];omega),ak (show ¬decide (x<0)=true by simpa using c1),ah (show decide (y<0)=true by simpa using c2),o1,aa,ak (fun c=>c3 (o2.1 c))]
 ·rw[ak (show ¬(x==y)=true by simpa using c3),ak (show ¬decide (x<0)=true by simpa using c1),ak (show ¬decide (y<0)=true by simpa using c2)]
 ·rw[ah (show(x==y)=true by simpa using c2),ak (show ¬decide (x<0)=true by simpa using c1),eu,ev,List.tail_cons,List.tail_cons,c2]
def U3(a q:gk):gk:=match yJ a q 1 with|some r=>q.take (q.length-r.length)|none=>[]
theorem TO{a q u r:gk}(h:q=u++r)(hu:Wv a 1 u):U3 a q=u:=by
 unfold U3;rw[h,hu.skip r];simp
theorem P3{a q:gk}(h:U3 a q≠[]):∃r,q=U3 a q++r:=by
 unfold U3 at h⊢;cases e:yJ a q 1 with
 |none=>rw[e]at h;exact absurd rfl h
 |some r=>exact⟨q.drop (q.length-r.length),(cr _ _).symm⟩
def yN(a t:gk):List gk:=(List.range t.length).map fun i=>U3 a (t.drop i)
theorem D8(a t:gk):(yN a t).length=t.length:=by simp[yN]
theorem AY{a t u r:gk}{i:Nat}(h:t.drop i=u++r)(hu:Wv a 1 u):u∈yN a t:=by
 have hl:=bX List.length h;have:=hu.len;simp at hl;exact bw.2 ⟨i,cW.2 gN,TO h hu⟩
theorem AX{a t u:gk}(h:u∈yN a t)(hu:u≠[]):∃i r,t.drop i=u++r:=by
 obtain⟨i,_,e⟩:=bw.1 h;obtain⟨r,hr⟩:=P3 (a:=a) (q:=t.drop i) (by rw[e];exact hu);exact⟨i,r,by rw[e]at hr;exact hr⟩
def N0(a s t:gk):Pl:=⟨48,yN a s++yN a t⟩
theorem GG{a s u:gk}(hu:u∈yN a s)(w:Wv a 1 u)(hx:¬u.headD 0<0):∀p∈tY a (mS a (u.headD 0)) u.tail,p∈yN a s:=by
 obtain⟨x,q,rfl,_,wq⟩:=w.pos;rw[cg]at wq;obtain⟨i1,i2,i3⟩:=uH wq;obtain⟨i,r,e⟩:=AX hu (by simp);intro p hp;obtain⟨p1,p2,ep⟩:=mV hp;rw[show(x::q).tail=q from rfl,show(x::q).headD 0=x from rfl,i1]at ep;have e':s.drop (i+(1+p1.length))=p++(p2++r):=by rw[<-List.drop_drop,e,ep,dh 1,bZ,fy,aG,aG,bY]
 exact AY e' (i3 p hp)
theorem SR{a s t:gk}:Cl a (N0 a s t):=fun u hn w hx p hp=>by
 refine⟨fun y hy=>hn y ?_,?_⟩
 ·obtain⟨x,q,rfl,_,wq⟩:=w.pos;rw[cg]at wq;obtain⟨p1,p2,ep⟩:=mV hp;rw[show(x::q).tail=q from rfl,show(x::q).headD 0=x from rfl,(uH wq).1]at ep;rw[ep];simp[hy]
 ·rcases aH.1 hn.mem with c|c
  ·exact bt _ (GG c w hx p hp)
  ·exact bS _ (GG c w hx p hp)
structure Tok(a s:gk):Prop where
 wv:Wv a 1 s
 len:s.length<=60
 lo:∀y∈s, -48<=y
theorem Jo{a s t:gk}(ha:jK a=true)(hs:Tok a s)(ht:Tok a t):UC a (N0 a s t):=by
 refine⟨ha,rfl,fun u hu=>?_⟩;by_cases h0:u=[]
 ·rw[h0];simp
 ·rcases aH.1 hu with c|c
  ·obtain⟨i,r,e⟩:=AX c h0;have hl:=bX List.length e;have:=hs.len;simp at hl;omega
  ·obtain⟨i,r,e⟩:=AX c h0;have hl:=bX List.length e;have:=ht.len;simp at hl;omega
theorem XC{a s t:gk}(hs:Tok a s):Nb (N0 a s t) s:=⟨hs.lo,bt _ (AY (i:=0) (r:=[]) (by simp) hs.wv)⟩
theorem XD{a s t:gk}(ht:Tok a t):Nb (N0 a s t) t:=⟨ht.lo,bS _ (AY (i:=0) (r:=[]) (by simp) ht.wv)⟩
theorem ZC{a s t:gk}(hs:Tok a s)(ht:Tok a t):(N0 a s t).P.length<=200:=by
 have h1:=hs.len;have h2:=ht.len;show(yN a s++yN a t).length<=200;rw[aq,D8,D8];omega
abbrev CG:List gk:=List.replicate 48 []
theorem HF{a s t:gk}(ha:jK a=true)(hs:Tok a s)(ht:Tok a t):∃z,jD s t a CG=some z/\
 yB a (N0 a s t) CG (fun τ=>sub τ s=sub τ t) (Sum.elim (fun b=>(b,true)) (fun b=>(b,false)) z):=by
 have hc:=Jo ha hs ht;obtain⟨F,res,e,R⟩:=Un.As.good (F1 hc) SR _ _ (Bn.none a (N0 a s t)) (aC _) (aC _) hs.wv ht.wv (XC hs) (XD ht);have e1:=e F (aC _);unfold EQ ZZ at e1;obtain⟨z,hz,ez⟩:=ay.1 e1;refine⟨z,Jf F hz fun m z' hz'=>?_,by rw[ez];exact R⟩;have q1:=vP a _ hz' (Nat.le_max_left m F);have q2:=vP a _ hz (Nat.le_max_right m F);exact cZ (q1.symm.trans q2)
theorem Il{a s t:gk}(ha:jK a=true)(hs:Tok a s)(ht:Tok a t):∃res:Bool×List gk,lJ a s t CG=some res/\
 yB a (N0 a s t) CG (fun τ=>sub τ s=sub τ t) (res.2,res.1):=by
 have hc:=Jo ha hs ht;obtain⟨res,e,R⟩:=yU.good (GA hc (ZC hs ht)) SR (vk ha) _ _ (l:=[(s,t)]) (Bn.none a (N0 a s t)) (aC _) (aC _) (fun pq hpq=>by
  rw[aU.1 hpq];exact⟨hs.wv,ht.wv,XC hs,XD ht⟩) (H:=[]) (.base (by simp))
 exact⟨(res.2,res.1),e,R.of fun τ _=>by simp[qB]⟩
end
section
variable{a:gk}{N:Pl}{b:List gk}{σ:Sb}{r:Int->Nat}
def sG(σ:Sb)(t:gk):gk:=if(sub σ t).length<=60 then sub σ t else []
theorem D9{t:gk}{i:Nat}(h:¬i<t.length):t.take i=t:=bH gN
theorem oD.SW{α:Type}{t:Prop}{P:α->Prop}(h:¬t):oD t (none:Option α) P:=⟨fun b hb=>(nomatch hb),fun ht=>absurd ht h⟩
theorem yK(hc:UC a N)(h:Bn a N b σ r):∀(n:Nat){t:gk}{R:Nat},t.length<=200->(∀y∈t, -(N.n:Int)<=y)->(∀y∈t,y<0->bg b y≠[]->r y<R)->oD (R<n) (mN n t b) (·=sG σ t)
 |0,t,R,_,_,_=>oD.SW gN
 |n+1,t,R,hl,hn,hr=>by
  rw[mN];refine oD.loop (fun s=>∃i:Nat,s=(sub σ (t.take i),(i:Int))/\i<=t.length/\(sub σ (t.take i)).length<=60) (fun s=>t.length-s.2.toNat) ⟨0,by simp[sub],gN,by simp[sub]⟩ ?_;rintro _ ⟨i,rfl,hi,h60⟩;rw[rO];by_cases hlt:i<t.length
  ·have hm:t.getD i default=t[i]:=iy hlt;have hmt:t[i]∈t:=bC hlt;have hst:=CW (σ:=σ) hlt;have hle:(sub σ (t.take (i+1))).length<=(sub σ t).length:=x_;have hw:IntKind.i64.wrap ((i:Int)+1)=((i+1:Nat):Int):=by rw[lX gN gN];rfl
   rw[ah (by simp only[aA];omega),ah ⟨gN,gN⟩,au,hm,hw];have app:∀{v:gk},sub σ (t.take (i+1))=sub σ (t.take i)++v->oD (R<n+1) (if(decide (60<((sub σ (t.take i)++v).length:Int)))=true then Option.map Sum.inr (some [])else some (.inl (sub σ (t.take i)++v,((i+1:Nat):Int))))
    (yV (fun s=>∃i:Nat,s=(sub σ (t.take i),(i:Int))/\i<=t.length/\(sub σ (t.take i)).length<=60) (fun s=>t.length-s.2.toNat) (·=sG σ t) (t.length-((i:Int)).toNat)):=fun{v} hv=>by
    rw[<-hv];by_cases c:60<(sub σ (t.take (i+1))).length
    ·rw[ah (by simp only[aA];omega)];refine .some ?_;show []=sG σ t;unfold sG;rw[ak gN]
    ·rw[ak (by simp only[aA];omega)];refine .some ⟨⟨i+1,rfl,gN,gN⟩,?_⟩;show t.length-(((i+1:Nat):Int)).toNat<t.length-((i:Int)).toNat;omega
   by_cases h0:t[i]<0
   ·rw[ah h0]at hst;obtain⟨e1,e2,e3⟩:=Dq hc h0 (hn _ hmt);rw[ak (show ¬decide (0<=t[i])=true by simpa using h0),e1,ah (show 0<= -1-t[i]/\ -1-t[i]<48/\ -1-t[i]<(b.length:Int)from⟨e2,e3,by rw[h.len,hc.Gh];exact e3⟩)];by_cases hb:bg b t[i]=[]
    ·have hb':b.getD (-1-t[i]).toNat default=[]:=hb;rw[h.LH _ h0 hb]at hst;rw[hb',ah (by simp),ah gN];exact app hst
    ·have hb':¬((b.getD (-1-t[i]).toNat default).length:Int)=0:=by
      have:0<(b.getD (-1-t[i]).toNat default).length:=cc.2 hb;omega
     rw[ak (show ¬(((b.getD (-1-t[i]).toNat default).length:Int)==0)=true by simpa using hb')];obtain⟨w1,w2⟩:=h.tm _ h0 hb;have ih:=yK hc h n (t:=bg b t[i]) (R:=r t[i]) (by have:=hc.small w2;omega) w2.le (fun y hy hy0 hby=>h.rk _ h0 hb y hy hy0 hby);refine oD.bind (ih.weak fun hR=>by have:=hr _ hmt h0 hb;omega) ?_;intro z hz;have hv:=h.val _ h0 hb;have hpos:1<=(sub σ (bg b t[i])).length:=(w1.sub fun x _ hx=>h.wv x hx).len;by_cases c:(sub σ (bg b t[i])).length<=60
     ·have hz':z=σ t[i]:=by rw[hz,hv];unfold sG;rw[ah c]
      subst hz';rw[ak (by rw[hv];simp only[bF];omega),ah (by rw[hv];omega)];exact app hst
     ·have hz':z=[]:=by rw[hz];unfold sG;rw[ak c]
      subst hz';rw[ah (by simp)];refine .some ?_;show []=sG σ t;unfold sG;rw[ak];have:(sub σ (t.take (i+1))).length=(sub σ (t.take i)).length+(σ t[i]).length:=by rw[hst,aq]
      rw[hv]at this;omega
   ·rw[ak h0]at hst;rw[ah (show decide (0<=t[i])=true by simp only[aA];omega),ah gN];exact app hst
  ·rw[ak (by simp only[aA];omega)];refine .some ?_;show sub σ (t.take i)=sG σ t;rw[D9 hlt]at h60⊢;unfold sG;rw[ah h60]
theorem wT(hc:UC a N)(h:Bn a N b σ r){t:gk}(hl:t.length<=200)(hn:∀y∈t, -(N.n:Int)<=y):mO t b=some (sG σ t):=by
 obtain⟨M,hM⟩:=xS r t;exact(oD.Z_ (t:=True) (M+1) fun n=>(yK hc h n hl hn (R:=M) fun y hy _ _=>hM y hy).weak fun c=>by omega).eq
def Du(σ:Sb)(out t:gk)(z:gk⊕gm):Prop:=if(out++sub σ t).length<=60 then z=.inl (out++sub σ t)else ∃o,z=.inr ([],o)
theorem vQ(hc:UC a N)(h:Bn a N b σ r)(u0:gk):∀(n:Nat){t out:gk}{R:Nat},t.length<=200->out.length<=60->(∀y∈t, -(N.n:Int)<=y)->(∀y∈t,y<0->bg b y≠[]->r y<R)->oD (R<n) (jE n out t u0 b) (Du σ out t)
 |0,t,out,R,_,_,_,_=>oD.SW gN
 |n+1,t,out,R,hl,ho,hn,hr=>by
  rw[jE];refine oD.loop (fun s=>∃i:Nat,s=(out++sub σ (t.take i),(i:Int))/\i<=t.length/\(out++sub σ (t.take i)).length<=60) (fun s=>t.length-s.2.toNat) ⟨0,by simp[sub],gN,by simpa[sub]using ho⟩ ?_;rintro _ ⟨i,rfl,hi,h60⟩;rw[nj];by_cases hlt:i<t.length
  ·have hm:t.getD i default=t[i]:=iy hlt;have hmt:t[i]∈t:=bC hlt;have hst:=CW (σ:=σ) hlt;have hle:(sub σ (t.take (i+1))).length<=(sub σ t).length:=x_;have hw:IntKind.i64.wrap ((i:Int)+1)=((i+1:Nat):Int):=by rw[lX gN gN];rfl
   rw[ah (by simp only[aA];omega),ah ⟨gN,gN⟩,au,hm,hw];have app:sub σ (t.take (i+1))=sub σ (t.take i)++[t[i]]->oD (R<n+1) (if(((out++sub σ (t.take i)).length:Int)==60)=true then Option.map Sum.inr (some (.inr ([],out++sub σ (t.take i))))else
    if((out++sub σ (t.take i)).length+1)*8<=140737488355328 then some (.inl ((out++sub σ (t.take i))++[t[i]],((i+1:Nat):Int)))else none)
    (yV (fun s=>∃i:Nat,s=(out++sub σ (t.take i),(i:Int))/\i<=t.length/\(out++sub σ (t.take i)).length<=60) (fun s=>t.length-s.2.toNat) (Du σ out t) (t.length-((i:Int)).toNat)):=fun hv=>by
    have hln:(sub σ (t.take (i+1))).length=(sub σ (t.take i)).length+1:=by rw[hv,aq,aY]
    rw[aq]at h60;by_cases c:(out++sub σ (t.take i)).length=60
    ·rw[ah (by simp only[bF];omega)];refine .some ?_;show Du σ out t _;rw[aq]at c;unfold Du;rw[aq,ak gN];exact⟨_,rfl⟩
    ·rw[ak (by simp only[bF];omega),ah (by rw[aq];omega),aG,<-hv];rw[aq]at c;refine .some ⟨⟨i+1,rfl,gN,by rw[aq];omega⟩,?_⟩;show t.length-(((i+1:Nat):Int)).toNat<t.length-((i:Int)).toNat;omega
   by_cases h0:t[i]<0
   ·rw[ah h0]at hst;obtain⟨e1,e2,e3⟩:=Dq hc h0 (hn _ hmt);rw[ah (show decide (t[i]<0)=true by simpa using h0),e1,ah (show 0<= -1-t[i]/\ -1-t[i]<48/\ -1-t[i]<(b.length:Int)from⟨e2,e3,by rw[h.len,hc.Gh];exact e3⟩)];by_cases hb:bg b t[i]=[]
    ·have hb':b.getD (-1-t[i]).toNat default=[]:=hb;rw[h.LH _ h0 hb]at hst;rw[hb',ah (show([]:gk).isEmpty=true from rfl)];exact app hst
    ·have hb':¬(b.getD (-1-t[i]).toNat default).isEmpty=true:=by rw[List.isEmpty_iff];exact hb
     rw[ak hb'];obtain⟨w1,w2⟩:=h.tm _ h0 hb;have ih:=vQ hc h u0 n (t:=bg b t[i]) (out:=out++sub σ (t.take i)) (R:=r t[i]) (by have:=hc.small w2;omega) h60 w2.le (fun y hy hy0 hby=>h.rk _ h0 hb y hy hy0 hby);refine oD.bind (ih.weak fun hR=>by have:=hr _ hmt h0 hb;omega) ?_;intro z hz;have hv:=h.val _ h0 hb;rw[hv]at hst;have e5:(out++sub σ (t.take i))++sub σ (bg b t[i])=out++sub σ (t.take (i+1)):=by rw[aG,<-hst]
     unfold Du at hz;rw[e5]at hz;by_cases c:(out++sub σ (t.take (i+1))).length<=60
     ·rw[ah c]at hz;subst hz;refine .some ⟨⟨i+1,rfl,gN,c⟩,?_⟩;show t.length-(((i+1:Nat):Int)).toNat<t.length-((i:Int)).toNat;omega
     ·rw[ak c]at hz;obtain⟨o,rfl⟩:=hz;refine .some ?_;show Du σ out t _;rw[aq]at c;unfold Du;rw[aq,ak gN];exact⟨_,rfl⟩
   ·rw[ak h0]at hst;rw[ak (show ¬decide (t[i]<0)=true by simpa using h0)];exact app hst
  ·rw[ak (by simp only[aA];omega)];refine .some ?_;show Du σ out t (.inl (out++sub σ (t.take i)));rw[D9 hlt]at h60⊢;unfold Du;rw[ah h60]
theorem qU(hc:UC a N)(h:Bn a N b σ r)(u0:gk){t:gk}(hl:t.length<=200)(hn:∀y∈t, -(N.n:Int)<=y):
 ∃z,iL t u0 b=some z/\if(sub σ t).length<=60 then z=.inl (sub σ t)else ∃o,z=.inr ([],o):=by
 obtain⟨M,hM⟩:=xS r t;obtain⟨z,h1,h2⟩:=(oD.Z_ (t:=True) (M+1) fun n=>(vQ hc h u0 n hl (out:=[]) (by simp) hn (R:=M) fun y hy _ _=>hM y hy).weak fun c=>by omega).get;refine⟨z,h1,?_⟩;unfold Du at h2;rw[bh]at h2;exact h2
end
def Aj(x:Int):Int:=if x<0 then x-24 else x
def Bz(t:gk):gk:=t.map Aj
theorem zB(t:gk):(Bz t).length=t.length:=by simp[Bz]
theorem O7{x:Int}:Aj x<0<->x<0:=by unfold Aj;split<;>omega
theorem O6(a:gk)(x:Int):mS a (Aj x)=mS a x:=by
 unfold Aj;split
 ·rename_i h;rw[uT h,uT gN]
 ·rfl
theorem Ei{a:gk}:∀{t:gk}{k:Nat},Wv a k t->Wv a k (Bz t)
 |[],k,h=>by
  have:=h.len;have hk:k=0:=by simpa using this
  subst hk;exact Wv.nil
 |x::t,0,h=>by have:=h.zero;cases this
 |x::t,k+1,h=>by
  obtain⟨h1,h2⟩:=Wv.iY.1 h;show Wv a (k+1) (Aj x::Bz t);refine Wv.iY.2 ⟨?_,by rw[O6];exact Ei h2⟩;unfold Aj;split<;>omega
theorem uN{a:gk}:∀{t:gk}{k:Nat},Wf a k t->Wv a k t
 |[],k,h=>by
  have:=h.len;have hk:k=0:=by simpa using this
  subst hk;exact Wv.nil
 |x::t,0,h=>by have:=h.zero;cases this
 |x::t,k+1,h=>by
  obtain⟨h1,h2⟩:=Wf.iY.1 h;exact Wv.iY.2 ⟨h1.2,uN h2⟩
theorem zL{t:gk}(hl:t.length<=60)(hn:∀y∈t, -24<=y):lH t=some (Bz t):=by
 unfold lH;have e1:iK t=some t:=by
  unfold iK;refine(oD.OZ (t:=True) (P:=(·=t)) ?_ fun h=>?_).eq
  ·rw[ah gN];exact .some rfl
  ·subst h;simp
 rw[e1,aa];have h0:((0:Int),t)=((fun i:Nat=>((i:Int),(t.take i).map Aj++t.drop i)) 0):=by simp
 rw[h0];refine pN (n:=t.length) (fun i:Nat=>((i:Int),(t.take i).map Aj++t.drop i)) (fun i hi=>?_) ?_
 ·have hg:((t.take i).map Aj++t.drop i).length=t.length:=by simp;omega
  have hti:((t.take i).map Aj).length=i:=by simp;omega
  have hd:=aE hi;have ht:t.take (i+1)=t.take i++[t[i]]:=by rw[bM hi]
  have hge:((t.take i).map Aj++t.drop i).getD i default=t[i]:=by rw[av,bz gN,hti,cL,hd];rfl
  have hw:IntKind.i64.wrap ((i:Int)+1)=((i+1:Nat):Int):=by rw[lX gN gN];rfl
  have hmt:=hn _ (bC hi);rw[rH,ah (by simp only[aA];omega),ah ⟨gN,by rw[hg];omega⟩,au,hge,hw];have e3:(t.take (i+1)).map Aj++t.drop (i+1)=(t.take i).map Aj++(Aj t[i]::t.drop (i+1)):=by rw[ht,aP,aG];rfl
  by_cases h0:t[i]<0
  ·rw[ah (by simpa using h0),lX gN gN,e3,hd,fh _ _ gN,hti,cL,eR];unfold Aj;rw[ah h0]
  ·have haw:Aj t[i]=t[i]:=by unfold Aj;rw[ak h0]
   rw[haw,<-hd]at e3;rw[ak (by simpa using h0),e3]
 ·rw[rH,ak (by simp),cz,fc,aV];rfl
theorem Ad{t:gk}(hl:t.length<=60)(hn:∀y∈t, -24<=y):oo t 24=some (Bz t):=by
 unfold oo;have h0:(([]:gk),(0:Int))=((fun i:Nat=>((t.take i).map Aj,(i:Int))) 0):=by simp
 rw[h0];refine pN (n:=t.length) (fun i:Nat=>((t.take i).map Aj,(i:Int))) (fun i hi=>?_) ?_
 ·have hti:((t.take i).map Aj).length=i:=by simp;omega
  have ht:t.take (i+1)=t.take i++[t[i]]:=by rw[bM hi]
  have hw:IntKind.i64.wrap ((i:Int)+1)=((i+1:Nat):Int):=by rw[lX gN gN];rfl
  have hmt:=hn _ (bC hi);rw[pK,ah (by simp only[aA];omega),ah gN,au,iy hi,hw,ht,aP];by_cases h0:t[i]<0
  ·rw[ah (by simpa using h0),ah gN,lX gN gN];have:Aj t[i]=t[i]-24:=by unfold Aj;rw[ah h0]
   rw[aN,this];rfl
  ·rw[ak (by simpa using h0),ah gN];have:Aj t[i]=t[i]:=by unfold Aj;rw[ak h0]
   rw[aN,this];rfl
 ·rw[pK,ak (by simp),cz];rfl
theorem O5{a t:gk}(hw:Wf a 1 t)(hl:t.length<=60):Tok a (Bz t):=⟨Ei (uN hw),by rw[zB];exact hl,fun y hy=>by
 obtain⟨x,hx,rfl⟩:=bw.1 hy;have:=(hw.all x hx).1;unfold Aj;split<;>omega⟩
theorem UU{a t:gk}(hw:Wf a 1 t)(hl:t.length<=60):Tok a t:=⟨uN hw,hl,fun y hy=>by have:=(hw.all y hy).1;omega⟩
theorem F0{a p u s v:gk}(ha:jK a=true)(hu:Wv a 1 u)(hl:(p++(u++s)).length<=60)(hv:v.length<=60):
 pR a (p++(u++s)) (p.length:Int) v=some (if(p++(v++s)).length<=60 then(p++(v++s),true)else([],false)):=by
 have hd:(p++(u++s)).drop p.length=u++s:=bY;have hl':=hl;simp only[aq]at hl';unfold pR;rw[ah (by simp only[aq];omega),vo ha (by show List.length _<_;omega) hd hu,aa];have e1:((p++(u++s)).length:Int)-s.length=((p.length+u.length:Nat):Int):=by simp;omega
 rw[e1,ah (by simp;omega),au,au,ei,<-List.drop_drop,hd,bY];rw[uk (by simp) (by intro w hw;simp at hw;rcases hw with rfl|rfl|rfl<;>omega),aa];have e2:[p,v,s].flatten=p++(v++s):=by simp
 rw[e2];by_cases h:(p++(v++s)).length<=60
 ·rw[ak (by simp only[aA];omega),ah h]
 ·rw[ah (by simp only[aA];omega),ak h]
theorem Qx(s:gk)(x:Int):∃m,Ba s x=s++m:=by
 unfold Ba;split
 ·exact⟨[x],rfl⟩
 ·exact⟨[],(aV _).symm⟩
theorem vX(s:gk)(x:Int)(t:gk):lQ s (x::t)=lQ (Ba s x) t:=rfl
theorem Jp(s t u:gk):lQ s (t++u)=lQ (lQ s t) u:=List.foldl_append
theorem EI:∀(t s:gk),∃m,lQ s t=s++m
 |[],s=>⟨[],(aV _).symm⟩
 |x::t,s=>by
  obtain⟨m,h⟩:=Qx s x;obtain⟨m',h'⟩:=EI t (Ba s x);exact⟨m++m',by rw[vX,h',h,aG]⟩
theorem Qw{t s:gk}{y:Int}(h:y∈s):y∈lQ s t:=by
 obtain⟨m,e⟩:=EI t s;rw[e];exact bt _ h
theorem ze:∀{t s:gk}{y:Int},y∈t->y<0->y∈lQ s t
 |x::t,s,y,h,h0=>by
  rw[vX];rcases bL.1 h with rfl|h
  ·refine Qw ?_;unfold Ba;by_cases c:y∈s
   ·rw[ak (fun k=>k.2 c)];exact c
   ·rw[ah ⟨h0,c⟩];simp
  ·exact ze h h0
theorem Jr:∀{t s:gk},(∀y∈s,y<0)->∀y∈lQ s t,y<0
 |[],s,h=>h
 |x::t,s,h=>by
  rw[vX];refine Jr fun y hy=>?_
  unfold Ba at hy;split at hy
  ·rename_i c;rcases aH.1 hy with hy|hy
   ·exact h y hy
   ·rw[aU.1 hy];exact c.1
  ·exact h y hy
theorem vY:∀{t s:gk},s.Nodup->(lQ s t).Nodup
 |[],s,h=>h
 |x::t,s,h=>by
  rw[vX];refine vY ?_;unfold Ba;split
  ·rename_i c;exact cX.2 ⟨h,by simp,fun y hy z hz e=>by rw[aU.1 hz]at e;exact c.2 (e▸hy)⟩
  ·exact h
theorem BG:∀{t s:gk},(lQ s t).length<=s.length+t.length
 |[],s=>by simp[lQ]
 |x::t,s=>by
  rw[vX];have h:=BG (t:=t) (s:=Ba s x);have:(Ba s x).length<=s.length+1:=by unfold Ba;split<;>simp
  rw[aQ];omega
theorem CH:∀{t s:gk},(∀y∈t,y<0->y∈s)->lQ s t=s
 |[],s,_=>rfl
 |x::t,s,h=>by
  have e:Ba s x=s:=by
   unfold Ba;rw[ak];exact fun c=>c.2 (h x aZ c.1)
  rw[vX,e];exact CH fun y hy=>h y (a_ _ hy)
theorem JT{t s:gk}{i:Nat}(hi:i<t.length):lQ s (t.take (i+1))=Ba (lQ s (t.take i)) t[i]:=by rw[bM hi,Jp];rfl
theorem Ja{o m:gk}{x:Int}(h:x∈o):(o++m).idxOf x=o.idxOf x:=by rw[List.idxOf_append,ah h]
theorem Dm{s:gk}(hs:Small s)(v:Int):iM s v=some (if v∈s then(s.idxOf v:Int)else -1):=by
 have h1:iM s v=some (mo (fun x=>v==x) s):=by
  unfold iM;refine wK (fun i x hi hx hg=>?_) ?_
  ·have hs':s.length<1099511627776:=hs;rw[jB,ah (by simp only[aA];omega),ah ⟨gN,gN⟩,au,hg,lX gN gN];by_cases h:v=x
   ·rw[ah (by simpa using h),ah (by simpa using h)];rfl
   ·rw[ak (by simpa using h),ak (by simpa using h)]
  ·rw[jB,ak (by simp)];rfl
 rw[h1];congr 1;unfold mo;by_cases h:v∈s
 ·rw[ah h];have e:s.findIdx? (fun x=>v==x)=some (s.idxOf v):=by
   refine List.findIdx?_eq_some_iff_findIdx_eq.2 ⟨dY.2 h,?_⟩;unfold List.idxOf;congr 1;funext x;exact gb.2 (by simp only[bF];exact eq_comm)
  rw[e]
 ·rw[ak h];have e:s.findIdx? (fun x=>v==x)=none:=eS.2 fun x hx=>by simp only[bW];rintro rfl;exact h hx
  rw[e]
theorem NH{out:List gk}{v:Nat}{t s:gk}(hl:t.length<=60)(hs:s.length<=200)(ho:out.length<=3)(hv:v<=3):
 g_ (mL out v t) (s,0,t)=some (.inl (lQ s t,out++[yD (lQ s t) t],((v+1:Nat):Int))):=by
 have h0:(s,(0:Int),t)=((fun i:Nat=>(lQ s (t.take i),(i:Int),(t.take i).map (yI (lQ s t))++t.drop i)) 0):=by simp[lQ]
 rw[h0];refine pN (n:=t.length) (fun i:Nat=>(lQ s (t.take i),(i:Int),(t.take i).map (yI (lQ s t))++t.drop i)) (fun i hi=>?_) ?_
 ·have hg:((t.take i).map (yI (lQ s t))++t.drop i).length=t.length:=by simp;omega
  have hti:((t.take i).map (yI (lQ s t))).length=i:=by simp;omega
  have hd:=aE hi;have ht:t.take (i+1)=t.take i++[t[i]]:=by rw[bM hi]
  have hge:((t.take i).map (yI (lQ s t))++t.drop i).getD i default=t[i]:=by rw[av,bz gN,hti,cL,hd];rfl
  have hw:IntKind.i64.wrap ((i:Int)+1)=((i+1:Nat):Int):=by rw[lX gN gN];rfl
  have e3:(t.take (i+1)).map (yI (lQ s t))++t.drop (i+1)=(t.take i).map (yI (lQ s t))++(yI (lQ s t) t[i]::t.drop (i+1)):=by rw[ht,aP,aG];rfl
  have hset:∀y,((t.take i).map (yI (lQ s t))++t.drop i).set i y=(t.take i).map (yI (lQ s t))++(y::t.drop (i+1)):=fun y=>by rw[hd,fh _ _ gN,hti,cL,eR]
  have hoi:(lQ s (t.take i)).length<=260:=by
   have:=BG (t:=t.take i) (s:=s);simp at this;omega
  obtain⟨m,hm⟩:=EI (t.drop (i+1)) (lQ s (t.take (i+1)));have hfin:lQ s t=lQ s (t.take (i+1))++m:=by rw[<-hm,<-Jp,cr]
  rw[mL,ah (by simp only[aA];omega),ah ⟨gN,by rw[hg];omega⟩,au,hge,hw,e3];have hod:=JT (s:=s) hi;by_cases h1:0<=t[i]
  ·have e:yI (lQ s t) t[i]=t[i]:=by unfold yI;rw[ak gN]
   have e4:lQ s (t.take (i+1))=lQ s (t.take i):=by rw[hod];unfold Ba;rw[ak (fun c=>by omega)]
   rw[ah (by simpa using h1),e,<-hd,e4]
  ·rw[ak (by simpa using h1),Dm (by show List.length _<_;omega),aa];by_cases h2:t[i]∈lQ s (t.take i)
   ·have e4:lQ s (t.take (i+1))=lQ s (t.take i):=by rw[hod];unfold Ba;rw[ak (fun c=>c.2 h2)]
    have hidx:=dY.2 h2;have e5:yI (lQ s t) t[i]= -1-((lQ s (t.take i)).idxOf t[i]:Int):=by unfold yI;rw[ah gN,hfin,e4,Ja h2]
    rw[ah h2,ak (by simp only[aA];omega),lX gN gN,hset,e5,e4]
   ·have e4:lQ s (t.take (i+1))=lQ s (t.take i)++[t[i]]:=by rw[hod];unfold Ba;rw[ah ⟨gN,h2⟩]
    have e5:yI (lQ s t) t[i]= -1-((lQ s (t.take i)).length:Int):=by unfold yI;rw[ah gN,hfin,e4,Ja (by simp),List.idxOf_append,ak h2];simp
    rw[ak h2,ah (by simp),ah gN,lX gN gN,hset,e5,e4]
 ·rw[mL,ak (by simp),ah gN,cz,fc,aV,lX gN gN];rfl
theorem FB{t:gk}(hl:t.length<=60):iK t=some t:=by
 unfold iK;refine(oD.OZ (t:=True) (P:=(·=t)) ?_ fun h=>?_).eq
 ·rw[ah gN];exact .some rfl
 ·subst h;simp
theorem AL{p q w:gk}(hp:p.length<=60)(hq:q.length<=60)(hw:w.length<=60)(vq:∀y∈q,y<0->y∈p)(vw:∀y∈w,y<0->y∈p):
 oQ [p,q,w]=some [yD (lQ [] p) p,yD (lQ [] p) q,yD (lQ [] p) w]:=by
 unfold oQ;have hol:(lQ [] p).length<=60:=by have:=BG (t:=p) (s:=[]);simp at this;omega
 have one:∀(s:gk)(out:List gk)(v:Nat)(t:gk),[p,q,w].getD v default=t->v<3->t.length<=60->s.length<=200->out.length<=3->mK [p,q,w] (s,out,(v:Int))=some (.inl (lQ s t,out++[yD (lQ s t) t],((v+1:Nat):Int))):=fun s out v t ht hv hl hs ho=>by
  rw[mK,ah (by simp only[aA,aQ,bQ];omega),ah ⟨gN,by simp only[aQ,bQ];omega⟩,au,ht,FB hl,aa];exact NH hl hs ho gN
 have o2:lQ (lQ [] p) q=lQ [] p:=CH fun y hy h0=>ze (vq y hy h0) h0
 have o3:lQ (lQ [] p) w=lQ [] p:=CH fun y hy h0=>ze (vw y hy h0) h0
 have s1:=one [] [] 0 p rfl gN hp (by simp) (by simp);have s2:=one (lQ [] p) [yD (lQ [] p) p] 1 q rfl gN hq gN (by simp);have s3:=one (lQ [] p) [yD (lQ [] p) p,yD (lQ [] p) q] 2 w rfl gN hw gN (by simp);rw[o2]at s2;rw[o3]at s3;refine(iB s1).trans ((iB s2).trans ((iB s3).trans (ie ?_)));rw[mK,ak (by simp)];rfl
theorem Dy{t:gk}(hl:t.length<=60):pX t=some (lQ [] t):=by
 unfold pX;have h0:(([]:gk),(0:Int))=((fun i:Nat=>(lQ [] (t.take i),(i:Int))) 0):=by simp[lQ]
 rw[h0];refine pN (n:=t.length) (fun i:Nat=>(lQ [] (t.take i),(i:Int))) (fun i hi=>?_) ?_
 ·have hw:IntKind.i64.wrap ((i:Int)+1)=((i+1:Nat):Int):=by rw[lX gN gN];rfl
  have hoi:(lQ [] (t.take i)).length<=60:=by
   have:=BG (t:=t.take i) (s:=[]);simp at this;omega
  have hod:=JT (s:=[]) hi;rw[pL,ah (by simp only[aA];omega),ah gN,au,iy hi,hw,hod];unfold Ba;by_cases h0:t[i]<0
  ·rw[ah (by simpa using h0),wX (by show List.length _<_;omega),aa];by_cases h1:t[i]∈lQ [] (t.take i)
   ·rw[ah (by simpa using h1),ak (fun c=>c.2 h1)]
   ·rw[ak (by simpa using h1),ah gN,ah ⟨h0,h1⟩]
  ·rw[ak (by simpa using h0),ak (fun c=>h0 c.1)]
 ·rw[pL,ak (by simp),cz];rfl
theorem Ih{o t out:gk}{i:Nat}(ho:o.length<=60)(hn:o.Nodup)(hi:i<t.length)(hl:t.length<=60)(hout:out.length<=60)(hin:t[i]<0->t[i]∈o):
 g_ (ou o t out i) (t[i],0)=some (.inl (out++[yI o t[i]],((i+1:Nat):Int))):=by
 have hw:IntKind.i64.wrap ((i:Int)+1)=((i+1:Nat):Int):=by rw[lX gN gN];rfl
 by_cases h0:t[i]<0
 ·have hm:=hin h0;have hx:=dY.2 hm;have hst:(t[i],(0:Int))=((fun k:Nat=>((if o.idxOf t[i]<k then -1-(o.idxOf t[i]:Int)else t[i]),(k:Int))) 0):=by simp
  rw[hst];refine pN (n:=o.length) (fun k:Nat=>((if o.idxOf t[i]<k then -1-(o.idxOf t[i]:Int)else t[i]),(k:Int))) (fun k hk=>?_) ?_
  ·have hwk:IntKind.i64.wrap ((k:Int)+1)=((k+1:Nat):Int):=by rw[lX gN gN];rfl
   rw[ou,ah (by simp only[aA];omega),au,iy hi,ah (by simpa using h0),ah gN,au,iy hk,hwk];by_cases h1:o[k]=t[i]
   ·have e:o.idxOf t[i]=k:=by rw[<-h1];exact hn.idxOf_getElem k hk
    rw[ah (by simpa using h1),lX gN gN,e,ah gN]
   ·have e:o.idxOf t[i]≠k:=fun e=>h1 (by subst e;exact List.getElem_idxOf hx)
    rw[ak (by simpa using h1)];by_cases c:o.idxOf t[i]<k
    ·rw[ah c,ah gN]
    ·rw[ak c,ak gN]
  ·rw[ou,ak (by simp),ah hx,ah gN,hw];unfold yI;rw[ah h0];rfl
 ·have e:yI o t[i]=t[i]:=by unfold yI;rw[ak h0]
  refine ie ?_;rw[ou,au,iy hi,ak (show ¬decide (t[i]<0)=true by simpa using h0),hw,e,ah (show(out.length+1)*8<=140737488355328 by omega)];split<;>rfl
theorem zk{o t:gk}(ho:o.length<=60)(hn:o.Nodup)(hl:t.length<=60)(hin:∀y∈t,y<0->y∈o):pW o t=some (yD o t):=by
 unfold pW;have h0:(([]:gk),(0:Int))=((fun i:Nat=>((t.take i).map (yI o),(i:Int))) 0):=by simp
 rw[h0];refine pN (n:=t.length) (fun i:Nat=>((t.take i).map (yI o),(i:Int))) (fun i hi=>?_) ?_
 ·have ht:t.take (i+1)=t.take i++[t[i]]:=by rw[bM hi]
  rw[rP,ah (by simp only[aA];omega),ah gN,au,iy hi,Ih ho hn hi hl (by simp;omega) (hin _ (bC hi)),ht,aP];rfl
 ·rw[rP,ak (by simp),cz];rfl
theorem FZ{p:gk}(hp:p.length<=60)(h0:0<p.length):∃m,jo (yD (lQ [] p) p)=some m/\decide (m< -24)=decide (24<((lQ [] p).length:Int)):=by
 have hl:(yD (lQ [] p) p).length=p.length:=by simp[yD]
 obtain⟨m,h1,h2⟩:=(wV (x:=yD (lQ [] p) p) gN (by show List.length _<_;omega)).get;refine⟨m,h1,?_⟩;rw[eY];constructor
 ·intro hm;refine dc fun c=>?_
  have: -24<=m:=(h2 (-24)).2 fun y hy=>by
   obtain⟨x,hx,rfl⟩:=bw.1 hy;unfold yI;by_cases hx0:x<0
   ·rw[ah hx0];have:=dY.2 (ze (s:=[]) hx hx0);omega
   ·rw[ak hx0];omega
  omega
 ·intro hm;refine dc fun c=>?_
  have h3:=(h2 (-24)).1 gN;have hk:24<(lQ [] p).length:=by omega
  have hmem:(lQ [] p)[24]∈lQ [] p:=bC hk;have hin:(lQ [] p)[24]∈p:=(EJ hmem).elim (fun c=>by cases c) id;have hneg:=Jr (t:=p) (s:=[]) (by simp) _ hmem;have:=h3 _ (bw.2 ⟨_,hin,rfl⟩);unfold yI at this;rw[ah hneg,(vY (t:=p) eP).idxOf_getElem 24 hk]at this;omega
structure GR(a s t:gk)(b1 b2:List gk)(σ1 σ2:Sb):Prop where
 Yo:∃r,Bn a (N0 a s t) b1 σ1 r
 Z6:∃r,Bn a (N0 a s t) b2 σ2 r
 sol:∀τ,vA a b1 τ<->vA a b2 τ
 Z9:sub σ1 s=sub σ1 t
 eq2:sub σ2 s=sub σ2 t
theorem Iv{a s t:gk}(ha:jK a=true)(hs:Tok a s)(ht:Tok a t):
 (∃b1 b2 σ1 σ2,jD s t a CG=some (.inl b1)/\lJ a s t CG=some (true,b2)/\GR a s t b1 b2 σ1 σ2)\/
 (∃b1 b2,jD s t a CG=some (.inr b1)/\lJ a s t CG=some (false,b2)):=by
 obtain⟨z,e1,R1⟩:=HF ha hs ht;obtain⟨⟨f,b2⟩,e2,R2⟩:=Il ha hs ht;cases z with
 |inl b1=>
  obtain⟨⟨σ1,r1,h1⟩,S1,_⟩:=R1.yes rfl;have q1:=(S1 σ1).1 h1.self;cases f with
  |false=>exact absurd q1.2 (R2.no rfl σ1 q1.1)
  |true=>
   obtain⟨⟨σ2,r2,h2⟩,S2,_⟩:=R2.yes rfl;have q2:=(S2 σ2).1 h2.self;exact .inl ⟨b1,b2,σ1,σ2,e1,e2,⟨r1,h1⟩,⟨r2,h2⟩,fun τ=>(S1 τ).trans (S2 τ).symm,q1.2,q2.2⟩
 |inr b1=>
  cases f with
  |false=>exact .inr ⟨b1,b2,e1,e2⟩
  |true=>
   obtain⟨⟨σ2,r2,h2⟩,S2,_⟩:=R2.yes rfl;have q2:=(S2 σ2).1 h2.self;exact absurd q2.2 (R1.no rfl σ2 q2.1)
abbrev Pk:=gk×gk×gk×Int×Int×Int
abbrev pk0:Pk×Bool:=(([],[],[],0,0,0),false)
structure Ov(a:gk)(l r l' r' p s q:gk):Prop where
 sg:jK a=true
 split:l=p++(s++q)
 ws:Wf a 1 s
 wl:Wf a 1 l
 wr:Wf a 1 r
 Z2:Wf a 1 l'
 wr':Wf a 1 r'
 ll:l.length<=60
 lr:r.length<=60
 Zq:l'.length<=60
 Wu:r'.length<=60
 vr:∀x∈r,x<0->x∈l
 vr':∀x∈r',x<0->x∈l'
section
variable{a l r l' r' p s q:gk}{b1 b2:List gk}{σ1 σ2:Sb}
theorem Ov.ls(h:Ov a l r l' r' p s q):s.length<=60:=by have:=h.ll;rw[h.split]at this;simp only[aq]at this;omega
theorem Ov.toks(h:Ov a l r l' r' p s q):Tok a s/\Tok a (Bz l'):=⟨UU h.ws h.ls,O5 h.Z2 h.Zq⟩
def tK(p q r':gk):gk:=p++(Bz r'++q)
def QE(σ:Sb)(l r mid:gk)(i un ov:Int):Pk×Bool:=
 if(sub σ l).length<=60/\(sub σ r).length<=60/\(sub σ mid).length<=60/\(lQ [] (sub σ l)).length<=24 then
  ((yD (lQ [] (sub σ l)) (sub σ l),yD (lQ [] (sub σ l)) (sub σ mid),yD (lQ [] (sub σ l)) (sub σ r),i,un,ov),true)
 else pk0
theorem Uk{N:Pl}{ρ1 ρ2:Int->Nat}(h1:Bn a N b1 σ1 ρ1)(h2:Bn a N b2 σ2 ρ2)(h:∀τ,vA a b1 τ<->vA a b2 τ)(l r mid:gk)(i un ov:Int):QE σ1 l r mid i un ov=QE σ2 l r mid i un ov:=by
 obtain⟨k1,k2,k3,k4,k5⟩:=Jv h1 h2 h l mid [];obtain⟨m1,m2,m3,m4,m5⟩:=Jv h1 h2 h l r [];unfold QE;rw[k1,k2,k3,k4,k5,m4,m5]
theorem DR{t:gk}(h:Wf a 1 t):∀y∈t, -48<=y:=fun y hy=>by have:=(h.all y hy).1;omega
theorem RQ{t:gk}(h:Wf a 1 t):∀y∈Bz t, -48<=y:=fun y hy=>by
 obtain⟨x,hx,rfl⟩:=bw.1 hy;have:=(h.all x hx).1;unfold Aj;split<;>omega
theorem Ov.T0(h:Ov a l r l' r' p s q):∀y∈tK p q r', -48<=y:=fun y hy=>by
 have hl:=DR h.wl;rw[h.split]at hl;unfold tK at hy;rcases aH.1 hy with hy|hy
 ·exact hl y (bt _ hy)
 ·rcases aH.1 hy with hy|hy
  ·exact RQ h.wr' y hy
  ·exact hl y (bS _ (bS _ hy))
theorem Ov.Qc(h:Ov a l r l' r' p s q):(tK p q r').length<=200:=by
 have:=h.ll;rw[h.split]at this;have:=h.Wu;unfold tK;simp only[aq,zB]at *;omega
theorem Ov.UR{σ:Sb}(h:Ov a l r l' r' p s q)(he:sub σ s=sub σ (Bz l')):∀y∈sub σ (tK p q r'),y<0->y∈sub σ l:=fun y hy h0=>by
 rw[h.split,kS,kS];unfold tK at hy;rw[kS,kS]at hy;rcases aH.1 hy with hy|hy
 ·exact bt _ hy
 ·rcases aH.1 hy with hy|hy
  ·refine bS _ (bt _ ?_);rw[he];obtain⟨x,hx,⟨hx0,hyx⟩|⟨hx0,rfl⟩⟩:=oc.1 hy
   ·obtain⟨z,hz,rfl⟩:=bw.1 hx;exact oc.2 ⟨Aj z,bw.2 ⟨z,h.vr' z hz (O7.1 hx0),rfl⟩,.inl ⟨hx0,hyx⟩⟩
   ·exact absurd h0 hx0
  ·exact bS _ (bS _ hy)
theorem Ov.Z1{σ:Sb}(h:Ov a l r l' r' p s q):∀y∈sub σ r,y<0->y∈sub σ l:=fun y hy h0=>by
 obtain⟨x,hx,⟨hx0,hyx⟩|⟨hx0,rfl⟩⟩:=oc.1 hy
 ·exact oc.2 ⟨x,h.vr x hx hx0,.inl ⟨hx0,hyx⟩⟩
 ·exact absurd h0 hx0
theorem vO{σ:Sb}{t:gk}(h:1<=(sub σ t).length):(((sG σ t).length:Int)==0)=true<->¬(sub σ t).length<=60:=by
 unfold sG;rw[bF];split
 ·rename_i c;constructor
  ·intro e;omega
  ·intro e;exact absurd c e
 ·rename_i c;simp[c]
end
section
variable{sys:Sys}{l r l' r' p s q:gk}{b1 b2:List gk}{σ1 σ2:Sb}{ov un:Nat}
theorem Ov.drop{a:gk}(h:Ov a l r l' r' p s q):l.drop p.length=s++q:=by rw[h.split,bY]
theorem Ov.take{a:gk}(h:Ov a l r l' r' p s q):l.take p.length=p:=by rw[h.split,ei]
theorem Ov.tail{a:gk}(h:Ov a l r l' r' p s q):l.drop (l.length-q.length)=q:=by
 rw[h.split];have:(p++(s++q)).length-q.length=(p++s).length:=by simp only[aq];omega
 rw[this,<-aG,bY]
theorem Ov.lens{a:gk}(h:Ov a l r l' r' p s q):p.length+s.length+q.length=l.length/\1<=s.length:=by
 refine⟨?_,h.ws.len⟩;have:=bX List.length h.split;simp only[aq]at this;omega
theorem Ov.smL{a:gk}(h:Ov a l r l' r' p s q):Small l:=by have:=h.ll;show l.length<_;omega
theorem Bf(h:Ov sys.1 l r l' r' p s q)(hov:ov<sys.2.length)(hun:un<sys.2.length)(eo:sys.2.getD ov default=(l,r))(eu:sys.2.getD un default=(l',r')){z:Bool×List gk}(hz:lJ sys.1 s (Bz l') CG=some z):
 lC sys ov (p.length:Int) un=some z:=by
 obtain⟨k1,k2⟩:=h.lens;unfold lC;rw[ah gN,au,eo];simp only;rw[xZ h.sg h.ll h.drop (uN h.ws),aa,ah gN,ah gN,au,eu];simp only;rw[Ad h.Zq (fun y hy=>(h.Z2.all y hy).1),aa,show((l.length:Int)-q.length).toNat=l.length-q.length by omega,au,ya h.drop gN,hz];rfl
theorem yL(h:Ov sys.1 l r l' r' p s q)(hov:ov<sys.2.length)(hun:un<sys.2.length)(eo:sys.2.getD ov default=(l,r))(eu:sys.2.getD un default=(l',r')){z:Bool×List gk}(hz:lJ sys.1 s (Bz l') CG=some z)
 (hx:¬l.getD p.length default<0) (hne:¬(ov=un/\p.length=0)):ju sys ov (p.length:Int) un=some z.1:=by
 obtain⟨k1,k2⟩:=h.lens;have hll:=h.ll;unfold ju;rw[ah gN,au,eo];simp only;rw[lX gN gN,kH,aa,ah (by simp;omega),ah gN,au,ak (by simpa using hx),Bf h hov hun eo eu hz];simp only[aa];by_cases c1:((p.length:Int)==0)=true
 ·have c2:¬((ov:Int)==(un:Int))=true:=by simp only[bF]at c1⊢;omega
  rw[ah c1,ak c2]
 ·rw[ak c1]
theorem xd(h:Ov sys.1 l r l' r' p s q)(hov:ov<sys.2.length)(hun:un<sys.2.length)(eo:sys.2.getD ov default=(l,r))(eu:sys.2.getD un default=(l',r')){z:List gk⊕List gk}(hz:jD s (Bz l') sys.1 CG=some z)
 (hne:¬(ov=un/\p.length=0)):iQ sys ov (p.length:Int) un=some (Sum.elim (fun b=>.inl (sys.1,b)) (fun _=>.inr ()) z):=by
 have body:(if 0<=(ov:Int)/\(ov:Int)<(sys.2.length:Int)then
  (jH sys.1 ((sys.2.getD (ov:Int).toNat default).1) (p.length:Int)).bind fun r_3=>
  if 0<=(un:Int)/\(un:Int)<(sys.2.length:Int)then
   (lH ((sys.2.getD (un:Int).toNat default).1)).bind fun r_4=>
   (lI r_3 r_4 sys.1 (List.replicate 48 [])).bind fun r_5=>
   if r_5.1=true then
    some (.inl (sys.1,r_5.2))
   else
    some (.inr ())
  else none
  else none)=some (Sum.elim (fun b=>Sum.inl (sys.1,b)) (fun _=>Sum.inr ()) z):=by
  rw[ah gN,au,eo];simp only;rw[vp h.sg h.smL h.drop (uN h.ws),aa,ah gN,au,eu];simp only;rw[zL h.Zq (fun y hy=>(h.Z2.all y hy).1),aa];unfold lI;rw[hz];cases z<;>rfl
 unfold iQ;by_cases c1:((ov:Int)==(un:Int))=true
 ·have c2:¬((p.length:Int)==0)=true:=by simp only[bF]at c1⊢;omega
  rw[ah c1,ak c2];exact body
 ·rw[ak c1];exact body
theorem DY(h:Ov sys.1 l r l' r' p s q)(hov:ov<sys.2.length)(hun:un<sys.2.length)(eo:sys.2.getD ov default=(l,r))(eu:sys.2.getD un default=(l',r'))(hx:¬l.getD p.length default<0)(hne:¬(ov=un/\p.length=0)):
 (∃b1 b2 σ1 σ2,iQ sys ov (p.length:Int) un=some (.inl (sys.1,b1))/\ju sys ov (p.length:Int) un=some true/\lC sys ov (p.length:Int) un=some (true,b2)/\GR sys.1 s (Bz l') b1 b2 σ1 σ2)\/
 (iQ sys ov (p.length:Int) un=some (.inr ())/\ju sys ov (p.length:Int) un=some false):=by
 rcases Iv h.sg h.toks.1 h.toks.2 with⟨b1,b2,σ1,σ2,e1,e2,hb⟩|⟨b1,b2,e1,e2⟩
 ·exact .inl ⟨b1,b2,σ1,σ2,xd h hov hun eo eu e1 hne,yL h hov hun eo eu e2 hx hne,Bf h hov hun eo eu e2,hb⟩
 ·exact .inr ⟨xd h hov hun eo eu e1 hne,yL h hov hun eo eu e2 hx hne⟩
theorem EX(h:Ov sys.1 l r l' r' p s q)(hov:ov<sys.2.length)(hun:un<sys.2.length)(eo:sys.2.getD ov default=(l,r))(eu:sys.2.getD un default=(l',r'))(hb:GR sys.1 s (Bz l') b1 b2 σ1 σ2)(ht:lC sys ov (p.length:Int) un=some (true,b2)):
 mP sys ov (p.length:Int) un=some (QE σ2 l r (tK p q r') (p.length:Int) un ov):=by
 obtain⟨k1,k2⟩:=h.lens;have hll:=h.ll;have hlr':=h.Wu;have hlr:=h.lr;obtain⟨ρ,hn⟩:=hb.Z6;have hc:=Jo h.sg h.toks.1 h.toks.2;have hlo:∀{t:gk},(∀y∈t, -48<=y)->∀y∈t, -((N0 sys.1 s (Bz l')).n:Int)<=y:=fun h y hy=>h y hy
 have hsl:1<=(sub σ2 l).length:=((uN h.wl).sub fun x _ hx=>hn.wv x hx).len;have hsr:1<=(sub σ2 r).length:=((uN h.wr).sub fun x _ hx=>hn.wv x hx).len;have hmw:1<=(sub σ2 (Bz r')).length:=((Ei (uN h.wr')).sub fun x _ hx=>hn.wv x hx).len;have Dl:1<=(sub σ2 (tK p q r')).length:=by unfold tK;rw[kS,kS];simp only[aq];omega
 have hfl:(sG σ2 l).length<=60:=by
  unfold sG;split
  ·rename_i c;exact c
  ·simp
 unfold mP;rw[ht,aa,ah gN,au,eo];simp only;rw[xZ h.sg h.ll h.drop (uN h.ws),aa,ah gN,au,h.take,ah gN,ah gN,au,eu];simp only;rw[Ad h.Wu (fun y hy=>(h.wr'.all y hy).1),aa,ah (by rw[zB];omega),wT hc hn gN (hlo (DR h.wl)),aa,ah gN,
  show((l.length:Int)-q.length).toNat=l.length-q.length by omega,h.tail,ah (by rw[aq,zB];omega),aG,show p++(Bz r'++q)=tK p q r' from rfl,
  wT hc hn h.Qc (hlo h.T0),aa,wT hc hn gN (hlo (DR h.wr)),aa,Dy hfl,aa]
 unfold QE;by_cases c1:(sub σ2 l).length<=60
 ·rw[ak (fun c=>(vO hsl).1 c c1)];by_cases c2:(sub σ2 (tK p q r')).length<=60
  ·rw[ak (fun c=>(vO Dl).1 c c2)];by_cases c3:(sub σ2 r).length<=60
   ·rw[ak (fun c=>(vO hsr).1 c c3)];have f1:sG σ2 l=sub σ2 l:=ah c1;have f2:sG σ2 (tK p q r')=sub σ2 (tK p q r'):=ah c2;have f3:sG σ2 r=sub σ2 r:=ah c3;rw[f1,f2,f3];by_cases c4:(lQ [] (sub σ2 l)).length<=24
    ·have hin:∀{t:gk},(∀y∈t,y<0->y∈sub σ2 l)->∀y∈t,y<0->y∈lQ [] (sub σ2 l):=fun h y hy h0=>ze (h y hy h0) h0
     rw[ak (by simp only[aA];omega),zk gN (vY eP) c1 (hin fun y hy _=>hy),aa,zk gN (vY eP) c2 (hin (h.UR hb.eq2)),aa,
      zk gN (vY eP) c3 (hin h.Z1),aa,ah ⟨c1,c3,c2,c4⟩]
    ·rw[ah (by simp only[aA];omega),ak (fun c=>c4 c.2.2.2)]
   ·rw[ah ((vO hsr).2 c3),ak (fun c=>c3 c.2.1)]
  ·rw[ah ((vO Dl).2 c2),ak (fun c=>c2 c.2.2.1)]
 ·rw[ah ((vO hsl).2 c1),ak (fun c=>c1 c.1)]
theorem zN(h:Ov sys.1 l r l' r' p s q)(hov:ov<sys.2.length)(hun:un<sys.2.length)(eo:sys.2.getD ov default=(l,r))(eu:sys.2.getD un default=(l',r'))(hb:GR sys.1 s (Bz l') b1 b2 σ1 σ2)(ho:iQ sys ov (p.length:Int) un=some (.inl (sys.1,b1))):
 mu sys ov (p.length:Int) un=some (QE σ1 l r (tK p q r') (p.length:Int) un ov):=by
 obtain⟨k1,k2⟩:=h.lens;have hll:=h.ll;have hlr':=h.Wu;have hlr:=h.lr;obtain⟨ρ,hn⟩:=hb.Yo;have hc:=Jo h.sg h.toks.1 h.toks.2;have hlo:∀{t:gk},(∀y∈t, -48<=y)->∀y∈t, -((N0 sys.1 s (Bz l')).n:Int)<=y:=fun h y hy=>h y hy
 have hsl:1<=(sub σ1 l).length:=((uN h.wl).sub fun x _ hx=>hn.wv x hx).len;have hws:Wv sys.1 1 (sub σ1 s):=(uN h.ws).sub fun x _ hx=>hn.wv x hx
 have hlop:∀y∈p, -48<=y:=fun y hy=>DR h.wl y (by rw[h.split];exact bt _ hy)
 have esl:sub σ1 l=sub σ1 p++(sub σ1 s++sub σ1 q):=by rw[h.split,kS,kS]
 have esm:sub σ1 (tK p q r')=sub σ1 p++(sub σ1 (Bz r')++sub σ1 q):=by unfold tK;rw[kS,kS]
 obtain⟨z1,e1,q1⟩:=qU hc hn sys.1 (t:=l) gN (hlo (DR h.wl));obtain⟨z2,e2,q2⟩:=qU hc hn sys.1 (t:=r) gN (hlo (DR h.wr));obtain⟨z3,e3,q3⟩:=qU hc hn sys.1 (t:=Bz r') (by rw[zB];omega) (hlo (RQ h.wr'));obtain⟨z4,e4,q4⟩:=qU hc hn sys.1 (t:=p) gN (hlo hlop);have aw:=zL h.Wu (fun y hy=>(h.wr'.all y hy).1);unfold mu;rw[ho,aa];simp only[ee];rw[ah gN,au,eo];simp only;rw[e1,aa];have hfail:∀{g:gk->Option (Pk×Bool)},True:=fun{g}=>trivial
 unfold QE;by_cases c1:(sub σ1 l).length<=60
 ·rw[ah c1]at q1;subst q1;simp only[ee];rw[e2,aa];by_cases c2:(sub σ1 r).length<=60
  ·rw[ah c2]at q2;subst q2;simp only[ee];rw[ah gN,au,eu];simp only;rw[aw,aa,e3,aa];by_cases c3:(sub σ1 (Bz r')).length<=60
   ·rw[ah c3]at q3;subst q3;simp only[ee];have hpl:(sub σ1 p).length<=60:=by rw[esl]at c1;simp only[aq]at c1;omega
    rw[ah hpl]at q4;subst q4;have e5:kF l (p.length:Int) sys.1 b1=some ((sub σ1 p).length:Int):=by
     unfold kF;rw[ah gN,au,h.take,e4,aa];rfl
    rw[e5,aa,esl,F0 h.sg hws (by rw[<-esl];exact c1) c3,aa,<-esl,<-esm];by_cases c4:(sub σ1 (tK p q r')).length<=60
    ·rw[ah c4];simp only[aB];rw[AL c1 c4 c2 (h.UR hb.Z9) h.Z1,aa];obtain⟨m,m1,m2⟩:=FZ c1 gN;rw[ah ⟨gN,by simp⟩,show [yD (lQ [] (sub σ1 l)) (sub σ1 l),yD (lQ [] (sub σ1 l)) (sub σ1 (tK p q r')),yD (lQ [] (sub σ1 l)) (sub σ1 r)].getD 0 default=yD (lQ [] (sub σ1 l)) (sub σ1 l)from rfl,m1,aa,m2];by_cases c5:(lQ [] (sub σ1 l)).length<=24
     ·rw[ak (by simp only[aA];omega),ah ⟨gN,by simp⟩,ah ⟨gN,by simp⟩,ah ⟨c1,c2,c4,c5⟩];rfl
     ·rw[ah (by simp only[aA];omega),ak (fun c=>c5 c.2.2.2)]
    ·rw[ak c4,ak (show ¬((sub σ1 l).length<=60/\(sub σ1 r).length<=60/\(sub σ1 (tK p q r')).length<=60/\(lQ [] (sub σ1 l)).length<=24)from fun c=>c4 c.2.2.1)];rfl
   ·rw[ak c3]at q3;obtain⟨o,rfl⟩:=q3;simp only[eM];rw[ak];intro c;have:=c.2.2.1;rw[esm]at this;simp only[aq]at this;omega
  ·rw[ak c2]at q2;obtain⟨o,rfl⟩:=q2;simp only[eM];rw[ah gN,au,eu];simp only;rw[aw,aa,e3,aa,ak (show ¬((sub σ1 l).length<=60/\(sub σ1 r).length<=60/\(sub σ1 (tK p q r')).length<=60/\(lQ [] (sub σ1 l)).length<=24)from fun c=>c2 c.2.1)];cases z3<;>rfl
 ·rw[ak c1]at q1;obtain⟨o,rfl⟩:=q1;simp only[eM];rw[e2,aa,ak (show ¬((sub σ1 l).length<=60/\(sub σ1 r).length<=60/\(sub σ1 (tK p q r')).length<=60/\(lQ [] (sub σ1 l)).length<=24)from fun c=>c1 c.1)];have e6:∀(f:gk×gk×gk×Int×Int×Int->Pk×Bool),True:=fun _=>trivial
  cases z2 with
  |inl x=>
   simp only[ee];rw[ah gN,au,eu];simp only;rw[aw,aa,e3,aa];cases z3<;>rfl
  |inr x=>
   simp only[eM];rw[ah gN,au,eu];simp only;rw[aw,aa,e3,aa];cases z3<;>rfl
theorem KX(h:Ov sys.1 l r l' r' p s q)(hov:ov<sys.2.length)(hun:un<sys.2.length)(eo:sys.2.getD ov default=(l,r))(eu:sys.2.getD un default=(l',r'))(hx:¬l.getD p.length default<0)(hne:¬(ov=un/\p.length=0)):
 (∃b1 z,iQ sys ov (p.length:Int) un=some (.inl (sys.1,b1))/\ju sys ov (p.length:Int) un=some true/\mu sys ov (p.length:Int) un=some z/\mP sys ov (p.length:Int) un=some z)\/
 (iQ sys ov (p.length:Int) un=some (.inr ())/\ju sys ov (p.length:Int) un=some false):=by
 rcases DY h hov hun eo eu hx hne with⟨b1,b2,σ1,σ2,e1,e2,e3,hb⟩|e
 ·refine .inl ⟨b1,_,e1,e2,zN h hov hun eo eu hb e1,?_⟩;rw[EX h hov hun eo eu hb e3];obtain⟨r1,n1⟩:=hb.Yo;obtain⟨r2,n2⟩:=hb.Z6;rw[Uk n1 n2 hb.sol]
 ·exact .inr e
end
def Dt(sys:Sys)(ov i un:Nat):Bool:=
 if(sys.2.getD ov default).1.getD i default<0 then false else match iQ sys ov i un with|some (.inl _)=>true|_=>false
structure MtF(sys:Sys)(ov i un:Nat):Prop where
 meets:ju sys ov i un=some (Dt sys ov i un)
 lap:¬(sys.2.getD ov default).1.getD i default<0->∃z,iQ sys ov i un=some z/\(Dt sys ov i un=true->∃y,z=.inl y)/\(Dt sys ov i un=false->z=.inr ())
 KW:Dt sys ov i un=true->∃z,mu sys ov i un=some z/\mP sys ov i un=some z
theorem CE{sys:Sys}(hs:kB sys=true){ov i un:Nat}(hov:ov<sys.2.length)(hi:i<(sys.2.getD ov default).1.length)(hun:un<sys.2.length):MtF sys ov i un:=by
 obtain⟨ha,hn,hrs⟩:=nG.1 hs;obtain⟨k1,k2,k3,k4⟩:=mX.1 (hrs _ (jP hov));obtain⟨m1,m2,m3,m4⟩:=mX.1 (hrs _ (jP hun));obtain⟨_,a1,a2,a3⟩:=ig.1 k1;obtain⟨_,b1,b2,b3⟩:=ig.1 k2;obtain⟨_,c1,c2,c3⟩:=ig.1 m1;obtain⟨_,d1,d2,d3⟩:=ig.1 m2;obtain⟨p,s,q,e,hp,hw⟩:=a3.place hi;have h:Ov sys.1 (sys.2.getD ov default).1 (sys.2.getD ov default).2 (sys.2.getD un default).1 (sys.2.getD un default).2 p s q:=⟨ha,e,hw,a3,b3,c3,d3,a2,b2,c2,d2,k4,m4⟩;subst hp;by_cases hx:(sys.2.getD ov default).1.getD p.length default<0
 ·have hB:Dt sys ov p.length un=false:=by unfold Dt;rw[ah hx]
  refine⟨?_,fun c=>absurd hx c,fun c=>by rw[hB]at c;cases c⟩;rw[hB];unfold ju;rw[ah gN,au,lX gN gN,kH,aa,ah (by simp only[bE,aA];omega),ah gN,au,ah (by simpa using hx)]
 ·by_cases hne:ov=un/\p.length=0
  ·have ho:iQ sys ov (p.length:Int) un=some (.inr ()):=by
    unfold iQ;rw[ah (by simp only[bF];omega),ah (by simp only[bF];omega)]
   have hB:Dt sys ov p.length un=false:=by unfold Dt;rw[ak hx,ho]
   refine⟨?_,fun _=>⟨_,ho,(fun c=>absurd (hB.symm.trans c) (by decide)),fun _=>rfl⟩,fun c=>by rw[hB]at c;cases c⟩;rw[hB];unfold ju;rw[ah gN,au,lX gN gN,kH,aa,ah (by simp only[bE,aA];omega),ah gN,au,ak (by simpa using hx),ah (by simp only[bF];omega),ah (by simp only[bF];omega)]
  ·rcases KX h hov hun rfl rfl hx hne with⟨y,z,e1,e2,e3,e4⟩|⟨e1,e2⟩
   ·have hB:Dt sys ov p.length un=true:=by unfold Dt;rw[ak hx,e1]
    exact⟨by rw[hB];exact e2,fun _=>⟨_,e1,fun _=>⟨_,rfl⟩,fun c=>absurd (hB.symm.trans c) (by decide)⟩,fun _=>⟨z,e3,e4⟩⟩
   ·have hB:Dt sys ov p.length un=false:=by unfold Dt;rw[ak hx,e1]
    exact⟨by rw[hB];exact e2,fun _=>⟨_,e1,(fun c=>absurd (hB.symm.trans c) (by decide)),fun _=>rfl⟩,fun c=>by rw[hB]at c;cases c⟩
def P4(sys:Sys)(ov i:Nat):Nat->List gB
 |0=>[]
 |k+1=>(if Dt sys ov i (sys.2.length-(k+1))=true then [((ov:Int),(i:Int),((sys.2.length-(k+1):Nat):Int))]else [])++P4 sys ov i k
def O4(sys:Sys)(ov:Nat):Nat->List gB
 |0=>[]
 |k+1=>P4 sys ov ((sys.2.getD ov default).1.length-(k+1)) sys.2.length++O4 sys ov k
def S0(sys:Sys):Nat->List gB
 |0=>[]
 |k+1=>O4 sys (sys.2.length-(k+1)) (sys.2.getD (sys.2.length-(k+1)) default).1.length++S0 sys k
section
variable{sys:Sys}(hs:kB sys=true)
include hs
theorem DW{ov i:Nat}(hov:ov<sys.2.length)(hi:i<(sys.2.getD ov default).1.length):∀k,k<=sys.2.length->vt sys ov i k=some (P4 sys ov i k)
 |0,_=>rfl
 |k+1,hk=>by
  have hf:=CE hs hov hi (un:=sys.2.length-(k+1)) gN;rw[vt,P4,DW hov hi k gN];by_cases hx:(sys.2.getD ov default).1.getD i default<0
  ·have hB:Dt sys ov i (sys.2.length-(k+1))=false:=by unfold Dt;rw[ah hx]
   rw[ah (by simpa using hx),hB];rfl
  ·rw[ak (by simpa using hx)];obtain⟨z,e,q1,q2⟩:=hf.lap hx;rw[e,aa];cases hB:Dt sys ov i (sys.2.length-(k+1))with
   |true=>obtain⟨y,rfl⟩:=q1 hB;rfl
   |false=>rw[q2 hB];rfl
theorem DV{ov:Nat}(hov:ov<sys.2.length):∀k,k<=(sys.2.getD ov default).1.length->AM sys ov k=some (O4 sys ov k)
 |0,_=>rfl
 |k+1,hk=>by rw[AM,O4,DW hs hov gN _ (aC _),aa,DV hov k gN];rfl
theorem DX:∀k,k<=sys.2.length->AN sys k=some (S0 sys k)
 |0,_=>rfl
 |k+1,hk=>by rw[AN,S0,DV hs gN _ (aC _),aa,DX k gN];rfl
end
def LK(sys:Sys)(x:Int×Int×Int):Pk×Bool:=(mu sys x.1 x.2.1 x.2.2).getD pk0
def EP(sys:Sys):List gB->List Pk->Option (List Pk)
 |[],out=>some out
 |x::xs,out=>if(LK sys x).2=true then if out.length=64 then none else EP sys xs (out++[(LK sys x).1])else none
theorem ER(sys:Sys):∀(xs ys:List gB)(out:List Pk),EP sys (xs++ys) out=(EP sys xs out).bind (EP sys ys)
 |[],ys,out=>rfl
 |x::xs,ys,out=>by
  rw[bZ,EP,EP];split
  ·split
   ·rfl
   ·exact ER sys xs ys _
  ·rfl
theorem BJ{sys:Sys}:∀{xs:List gB}{out o:List Pk},EP sys xs out=some o->out.length<=64->o.length<=64
 |[],out,o,h,hl=>by cases h;exact hl
 |x::xs,out,o,h,hl=>by
  rw[EP]at h;split at h
  ·split at h
   ·cases h
   ·exact BJ h (by rw[aq,aY];omega)
  ·cases h
def Vg(sys:Sys)(x:Int×Int×Int):Prop:=∃ov i un:Nat,x=((ov:Int),(i:Int),(un:Int))/\ov<sys.2.length/\i<(sys.2.getD ov default).1.length/\un<sys.2.length/\Dt sys ov i un=true
theorem RL{sys:Sys}{ov i:Nat}(hov:ov<sys.2.length)(hi:i<(sys.2.getD ov default).1.length):∀k,k<=sys.2.length->∀x∈P4 sys ov i k,Vg sys x
 |0,_,x,h=>by cases h
 |k+1,hk,x,h=>by
  rw[P4]at h;rcases aH.1 h with h|h
  ·split at h
   ·rename_i hB;exact⟨ov,i,_,aU.1 h,hov,hi,gN,hB⟩
   ·cases h
  ·exact RL hov hi k gN x h
theorem Rv{sys:Sys}{ov:Nat}(hov:ov<sys.2.length):∀k,k<=(sys.2.getD ov default).1.length->∀x∈O4 sys ov k,Vg sys x
 |0,_,x,h=>by cases h
 |k+1,hk,x,h=>by
  rw[O4]at h;rcases aH.1 h with h|h
  ·exact RL hov gN _ (aC _) x h
  ·exact Rv hov k gN x h
theorem Ny{sys:Sys}:∀k,k<=sys.2.length->∀x∈S0 sys k,Vg sys x
 |0,_,x,h=>by cases h
 |k+1,hk,x,h=>by
  rw[S0]at h;rcases aH.1 h with h|h
  ·exact Rv gN _ (aC _) x h
  ·exact Ny k gN x h
def xR(sys:Sys):List Pk×Bool:=match EP sys (S0 sys sys.2.length) []with|some o=>(o,true)|none=>([],false)
theorem Bv{sys:Sys}(hs:kB sys=true){els:List gB}(hg:∀x∈els,Vg sys x):∀(xs:List gB){j:Nat}{out:List Pk},els.drop j=xs->out.length<=64->
 g_ (lS sys els) (j,out)=some (match EP sys xs out with|some o=>(o,true)|none=>([],false)):=by
 intro xs;induction xs with
 |nil=>
  intro j out hd ho;have hj:els.length<=j:=by simpa using hd
  refine ie ?_;rw[lS,ak gN];rfl
 |cons x xs ih=>
  intro j out hd ho;have hj:j<els.length:=by
   refine dc fun c=>?_
   rw[ew gN]at hd;cases hd
  have hx:els.getD j default=x:=by
   rw[aE hj]at hd;rw[iy hj];exact(dQ hd).1
  have hd':els.drop (j+1)=xs:=by
   rw[aE hj]at hd;exact(dQ hd).2
  obtain⟨ov,i,un,ex,h1,h2,h3,hB⟩:=hg x (by rw[<-hx];exact jP hj);obtain⟨z,e1,_⟩:=(CE hs h1 h2 h3).KW hB;have hv:LK sys x=z:=by unfold LK;rw[ex];simp only;rw[e1];rfl
  have e0:lS sys els (j,out)=if z.2=true then(if out.length=64 then some (.inr ([],false))else some (.inl (j+1,out++[z.1])))else some (.inr ([],false)):=by
   rw[lS,ah hj,hx,ex];simp only;rw[e1,aa];by_cases c1:z.2=true
   ·rw[ah c1,ah c1];by_cases c2:out.length=64
    ·rw[ah (by simp only[bF];omega),ah c2];rfl
    ·rw[ak (by simp only[bF];omega),ak c2,ah gN]
   ·rw[ak c1,ak c1];rfl
  rw[EP,hv];by_cases c1:z.2=true
  ·rw[ah c1]at e0⊢;by_cases c2:out.length=64
   ·rw[ah c2]at e0⊢;exact ie e0
   ·rw[ak c2]at e0⊢;exact(iB e0).trans (ih hd' (by rw[aq,aY];omega))
  ·rw[ak c1]at e0⊢;exact ie e0
theorem Bl{sys:Sys}(hs:kB sys=true):rJ sys=some (xR sys):=by
 unfold rJ tD Ao;rw[aa,DX hs _ (aC _),aa];exact Bv hs (Ny _ (aC _)) _ (by simp) (by simp)
theorem Ik{sys:Sys}(hs:kB sys=true){ov i:Nat}(hov:ov<sys.2.length)(hi:i<(sys.2.getD ov default).1.length):∀(k:Nat){out:List Pk},k<=sys.2.length->out.length<=64->
 g_ (jT sys ov i) (out,((sys.2.length-k:Nat):Int))=some (match EP sys (P4 sys ov i k) out with|some o=>.inl (o,((i+1:Nat):Int))|none=>.inr (.inr ([],false))):=by
 obtain⟨_,hn,hrs⟩:=nG.1 hs;have hil:i<60:=by
  obtain⟨_,_,a2,_⟩:=ig.1 (mX.1 (hrs _ (jP hov))).1;omega
 intro k;induction k with
 |zero=>
  intro out hk ho;refine ie ?_;rw[jT,ak (by simp only[aA];omega),lX gN gN];rfl
 |succ k ih=>
  intro out hk ho;have hun:sys.2.length-(k+1)<sys.2.length:=by omega
  have hf:=CE hs hov hi hun;have hw:IntKind.i64.wrap (((sys.2.length-(k+1):Nat):Int)+1)=((sys.2.length-k:Nat):Int):=by rw[lX gN gN];omega
  rw[P4];cases hB:Dt sys ov i (sys.2.length-(k+1))with
  |false=>
   have e0:jT sys ov i (out,((sys.2.length-(k+1):Nat):Int))=some (.inl (out,((sys.2.length-k:Nat):Int))):=by rw[jT,ah (by simp only[aA];omega),hf.meets,aa,hB,ak (by simp),hw]
   refine(iB e0).trans ?_;rw[ih gN ho];rfl
  |true=>
   obtain⟨z,e1,e2⟩:=hf.KW hB;have hv:LK sys ((ov:Int),(i:Int),((sys.2.length-(k+1):Nat):Int))=z:=by unfold LK;simp only;rw[e1];rfl
   rw[ah rfl,dR,EP,hv];have e0:jT sys ov i (out,((sys.2.length-(k+1):Nat):Int))=if z.2=true then(if out.length=64 then some (.inr (.inr (.inr ([],false))))else some (.inl (out++[z.1],((sys.2.length-k:Nat):Int))))else some (.inr (.inr (.inr ([],false)))):=by
    rw[jT,ah (by simp only[aA];omega),hf.meets,aa,hB,ah rfl,e2,aa,hw];by_cases c1:z.2=true
    ·rw[ah c1,ah c1];by_cases c2:out.length=64
     ·rw[ah (by simp only[bF];omega),ah c2];rfl
     ·rw[ak (by simp only[bF];omega),ak c2,ah gN]
    ·rw[ak c1,ak c1];rfl
   by_cases c1:z.2=true
   ·rw[ah c1]at e0⊢;by_cases c2:out.length=64
    ·rw[ah c2]at e0⊢;exact ie e0
    ·rw[ak c2]at e0⊢;exact(iB e0).trans (ih gN (by rw[aq,aY];omega))
   ·rw[ak c1]at e0⊢;exact ie e0
theorem Ij{sys:Sys}(hs:kB sys=true){ov:Nat}(hov:ov<sys.2.length):∀(k:Nat){out:List Pk},k<=(sys.2.getD ov default).1.length->out.length<=64->
 g_ (kY sys ov) (out,(((sys.2.getD ov default).1.length-k:Nat):Int))=some (match EP sys (O4 sys ov k) out with|some o=>.inl (o,((ov+1:Nat):Int))|none=>.inr ([],false)):=by
 obtain⟨_,hn,hrs⟩:=nG.1 hs;intro k;induction k with
 |zero=>
  intro out hk ho;refine ie ?_;rw[kY,ah gN,au,ak (by simp only[aA];omega),lX gN gN];rfl
 |succ k ih=>
  intro out hk ho;have hi:(sys.2.getD ov default).1.length-(k+1)<(sys.2.getD ov default).1.length:=by omega
  have e:=Ik hs hov hi sys.2.length (out:=out) (aC _) ho;rw[cL]at e;rw[O4,ER];have e0:kY sys ov (out,(((sys.2.getD ov default).1.length-(k+1):Nat):Int))=g_ (jT sys ov (((sys.2.getD ov default).1.length-(k+1):Nat):Int)) (out,0):=by rw[kY,ah gN,au,ah (by simp only[aA];omega)]
  rw[show(0:Int)=((0:Nat):Int)from rfl,e]at e0;cases hp:EP sys (P4 sys ov ((sys.2.getD ov default).1.length-(k+1)) sys.2.length) out with
  |none=>rw[hp]at e0;exact ie e0
  |some o=>
   rw[hp]at e0;refine(iB e0).trans ?_;have:=ih (out:=o) gN (BJ hp ho);rw[show(((sys.2.getD ov default).1.length-(k+1)+1:Nat):Int)=(((sys.2.getD ov default).1.length-k:Nat):Int) by omega];exact this
theorem Ii{sys:Sys}(hs:kB sys=true):∀(k:Nat){out:List Pk},k<=sys.2.length->out.length<=64->
 g_ (mD sys) (out,((sys.2.length-k:Nat):Int))=some (match EP sys (S0 sys k) out with|some o=>(o,true)|none=>([],false)):=by
 intro k;induction k with
 |zero=>
  intro out hk ho;refine ie ?_;rw[mD,ak (by simp only[aA];omega)];rfl
 |succ k ih=>
  intro out hk ho;have hov:sys.2.length-(k+1)<sys.2.length:=by omega
  have e:=Ij hs hov (sys.2.getD (sys.2.length-(k+1)) default).1.length (out:=out) (aC _) ho;rw[cL]at e;rw[S0,ER];have e0:mD sys (out,((sys.2.length-(k+1):Nat):Int))=g_ (kY sys ((sys.2.length-(k+1):Nat):Int)) (out,0):=by rw[mD,ah (by simp only[aA];omega)]
  rw[show(0:Int)=((0:Nat):Int)from rfl,e]at e0;cases hp:EP sys (O4 sys (sys.2.length-(k+1)) (sys.2.getD (sys.2.length-(k+1)) default).1.length) out with
  |none=>rw[hp]at e0;exact ie e0
  |some o=>
   rw[hp]at e0;refine(iB e0).trans ?_;have:=ih (out:=o) gN (BJ hp ho);rw[show((sys.2.length-(k+1)+1:Nat):Int)=((sys.2.length-k:Nat):Int) by omega];exact this
theorem zn(sys:Sys):om sys=some (if kB sys=true then xR sys else([],false)):=by
 unfold om;rw[uo,aa];by_cases hs:kB sys=true
 ·rw[ah hs,ah hs];unfold sV;have:=Ii hs sys.2.length (out:=[]) (aC _) (by simp);rw[cL]at this;rw[show(0:Int)=((0:Nat):Int)from rfl,this];rfl
 ·rw[ak hs,ak hs]
end Go.Proofs.YtjgbnaihpicpgaaGreatDoor
