/- A part of the proof about FnAcNormal and about FnAcSteps (EF, EG, EH). -/
import Derived.Test.YthdnkoejpdcnpaaGreatNaq
import Derived.Test.YthdnkoejpdcnpaaGreatNar
set_option linter.all false
noncomputable section
namespace Go.Proofs.YthdnkoejpdcnpaaGreat
open Go kI Tm
theorem xF{a:fP}(hs:Small a):lB a a=some true:=by
 unfold lB;rw[az (by simp)];have key:=rR (xs:=a) (p:=fun _=>true) (f:=nS a a) (fun i x hi hi2 hx he=>by
  have hs':a.length<1099511627776:=hs;simp only[nS];rw[ah (by simpa using hi),ah gB,ah gB,az (by simp),jE (n:=(i:Int)+1) gB gB];rfl) (by
  simp only[nS];rw[az (by simp)];rfl)
 rw[key];simp
theorem wA.mem{a ac:fP}{o1 o2:List fP}(h:wA a ac o1 o2)(x:fP):x∈o2<->x∈o1:=by rw[h.eq];exact(iO _).mem_iff
theorem wA.sf2{a ac:fP}{o1 o2:List fP}(h:wA a ac o1 o2):∀x∈o2,Sf a ac x/\x.length<=60:=fun x hx=>h.sf x ((h.mem x).1 hx)
theorem wA.lt{a ac:fP}{o1 o2:List fP}(h:wA a ac o1 o2):o2.Pairwise fun x y=>lR x y<0:=by
 have h1:o2.Pairwise fun x y=>lR x y<=0:=by rw[h.eq];exact jw _
 have h2:o2.Nodup:=by rw[h.eq];exact(iO _).nodup_iff.2 h.nodup
 exact(h1.and h2).imp fun{x y} h=>by
  have h3:lR x y≠0:=fun e=>h.2 (vO e)
  omega
structure YR(s:Sys)(ac:fP)(r:fP×Bool):Prop where
 none:r.2=false->r.1=[]
 some:r.2=true->Sf s.1 ac r.1/\r.1.length<=60/\nO s ac r.1=some ([],true)
theorem LI{s:Sys}{ac:fP}(hsy:ru s=true)(hac:tA s.1 ac)(hs:Small ac)(h3:R3 s){fuel:Int}(hf0:0<=fuel)(hf:fuel<=60):∀(m:Nat){made:Int},0<=made->made+m=fuel->∀{t:fP},Sf s.1 ac t->t.length<=60->
 ∃r,gK (iE s ac fuel) (t,made)=some r/\gK (iG s ac) ((m:Int),t)=some r/\YR s ac r:=fun m=>by
 induction m with
 |zero=>
  intro made h0 hm t ht hl;obtain⟨r,e1,e2,e3⟩:=Ax hsy hac hs h3 hl ht.1;obtain⟨L,b⟩:=r;cases b with
  |false=>
   refine⟨([],false),ij ?_,ij ?_,⟨fun _=>rfl,fun h=>by cases h⟩⟩
   ·simp only[iE];rw[e1];rfl
   ·simp only[iG];rw[e2];rfl
  |true=>
   cases L with
   |nil=>
    refine⟨(t,true),ij ?_,ij ?_,⟨(fun h=>by cases h),fun _=>⟨ht,hl,e1⟩⟩⟩
    ·simp only[iE];rw[e1];rfl
    ·simp only[iG];rw[e2];rfl
   |cons x L=>
    refine⟨([],false),ij ?_,ij ?_,⟨fun _=>rfl,fun h=>by cases h⟩⟩
    ·simp only[iE];rw[e1,aa,ah rfl,ah (by simp only[ai,ak];omega),ah (by simp only[cN];omega)];rfl
    ·simp only[iG];rw[e2,aa,ah rfl,ah (by simp only[ai,ak];omega),ah (by rfl)];rfl
 |succ m ih=>
  intro made h0 hm t ht hl;obtain⟨r,e1,e2,e3⟩:=Ax hsy hac hs h3 hl ht.1;obtain⟨L,b⟩:=r;cases b with
  |false=>
   refine⟨([],false),ij ?_,ij ?_,⟨fun _=>rfl,fun h=>by cases h⟩⟩
   ·simp only[iE];rw[e1];rfl
   ·simp only[iG];rw[e2];rfl
  |true=>
   cases L with
   |nil=>
    refine⟨(t,true),ij ?_,ij ?_,⟨(fun h=>by cases h),fun _=>⟨ht,hl,e1⟩⟩⟩
    ·simp only[iE];rw[e1];rfl
    ·simp only[iG];rw[e2];rfl
   |cons x L=>
    obtain⟨o1,f1,_⟩:=e3.some rfl;obtain⟨g1,g2⟩:=f1.sf2 x (by simp);obtain⟨r,d1,d2,d3⟩:=ih (made:=made+1) gB gB g1 g2;have i1:iE s ac fuel (t,made)=some (.inl (x,made+1)):=by
     simp only[iE];rw[e1,aa,ah rfl,ah (by simp only[ai,ak];omega),az (by simp only[cN];omega),az (by simp only[ai,cN];omega),ah (by simp only[ai];omega),jE (n:=made+1) gB gB];rfl
    have i2:iG s ac (((m+1:Nat):Int),t)=some (.inl ((m:Int),x)):=by
     simp only[iG];rw[e2,aa,ah rfl,ah (by simp only[ai,ak];omega),az (by simp only[cN];omega),az (by simp only[ai,cN];omega),ah (by simp only[ai];omega),jE (n:=((m+1:Nat):Int)-1) gB gB,show((m+1:Nat):Int)-1=m by omega];rfl
    exact⟨r,(kX i1).trans d1,(kX i2).trans d2,d3⟩
theorem vA{a ac t:fP}(hl:ac.length<=1000)(hok:uR a ac=true)(ht:lS a t=true):kU a ac t=some (form a ac t):=by
 obtain⟨ha,hac⟩:=H_ hok;obtain⟨_,_,t1,t2⟩:=jr.1 ht;unfold kU;rw[Aw hl,hok,ht,aa,ah (by rfl),rY hac (show ac.length<1099511627776 by omega) ha t2 t1,aa]
theorem Cm{a ac t:fP}(hac:tA a ac)(ht:lS a t=true):lS a (form a ac t)=true:=by
 obtain⟨ha,t0,t1,t2⟩:=jr.1 ht;obtain⟨f1,f2,_⟩:=ku hac _ (ay _) t2;exact jr.2 ⟨ha,gB,gB,f1⟩
def zQ(s:Sys)(ac t:fP)(fuel:Int):Option Bool:=(ji s ac t fuel).bind fun r_2=>(kT s ac t fuel).bind fun r_3=>
 if(r_2.2 != r_3.2)=true then some false
 else(lB r_2.1 r_3.1).bind fun r_4=>
  if r_4=true then
   if r_3.2=true then
    (jL s ac r_2.1).bind fun r_5=>
    (kU s.1 ac t).bind fun r_6=>
    (ji s ac r_6 fuel).bind fun r_7=>
    if r_5.2=true then
     if((r_5.1.length:Int)==0)=true then
      if r_7.2=true then(lB r_7.1 r_2.1).bind fun r_8=>some r_8
      else some false
     else some false
    else some false
   else some ((r_2.1.length:Int)==0)
  else some false
theorem LJ{s:Sys}{ac t:fP}{fuel:Int}(hl:ac.length<=11)(h3:R3 s):zQ s ac t fuel=some true:=by
 have hl':ac.length<=1000:=by omega
 have hs:Small ac:=by show ac.length<_;omega
 have hI:∀u,ji s ac u fuel=if ru s=true then(if(uR s.1 ac&&lS s.1 u)=true then(if decide (fuel<0)=true then some ([],false)else if decide (60<fuel)=true then some ([],false)else(iu (s.1,ac) u).bind fun r_2=>gK (iE s ac fuel) (r_2,0))else some ([],false))else some ([],false):=fun u=>by
  unfold ji;rw[sA,aa];split
  ·rw[yW hl',aa]
  ·rfl
 have hS:kT s ac t fuel=if ru s=true then(if(uR s.1 ac&&lS s.1 t)=true then(if(decide (0<=fuel)&&decide (fuel<=60))=true then(jq s.1 ac t).bind fun r_3=>gK (iG s ac) (fuel,r_3)else some ([],false))else some ([],false))else some ([],false):=by
  unfold kT;rw[pO,aa];split
  ·rw[Aw hl',aa];split
   ·rw[oT,aa]
   ·rfl
  ·rfl
 have fail:ji s ac t fuel=some ([],false)->kT s ac t fuel=some ([],false)->zQ s ac t fuel=some true:=fun h1 h2=>by
  unfold zQ;rw[h1,aa,h2,aa,az (by decide),xF (show(0:Nat)<_ by omega),aa];rfl
 by_cases c1:ru s=true
 ·by_cases c2:(uR s.1 ac&&lS s.1 t)=true
  ·rw[bF]at c2;obtain⟨ha,hac⟩:=H_ c2.1;obtain⟨_,t0,t1,t2⟩:=jr.1 c2.2;by_cases c3:0<=fuel/\fuel<=60
   ·have hsf:=ri hac t2;have hfl:=(ku hac _ (ay _) t2).2.1;obtain⟨r,e1,e2,e3⟩:=LI c1 hac hs h3 c3.1 c3.2 fuel.toNat (made:=0) gB gB hsf gB;rw[show((fuel.toNat:Nat):Int)=fuel by omega]at e2;have i1:ji s ac t fuel=some r:=by rw[hI,ah c1,c2.1,c2.2,ah (by rfl),az (by simp only[ak];omega),az (by simp only[ak];omega),mZ hac hs ha t2 t1,aa,e1]
    have i2:kT s ac t fuel=some r:=by rw[hS,ah c1,c2.1,c2.2,ah (by rfl),ah (by simp only[bF,ak];exact c3),rY hac hs ha t2 t1,aa,e2]
    have hft:=Cm hac c2.2;have i3:ji s ac (form s.1 ac t) fuel=some r:=by rw[hI,ah c1,c2.1,hft,ah (by rfl),az (by simp only[ak];omega),az (by simp only[ak];omega),mZ hac hs ha hsf.1 gB,aa,hsf.2,e1]
    unfold zQ;rw[i1,aa,i2,aa];obtain⟨x,b⟩:=r;cases b with
    |false=>
     have:x=[]:=e3.none rfl;subst this;rw[az (by simp),xF (show(0:Nat)<_ by omega),aa];rfl
    |true=>
     obtain⟨x1,x2,x3⟩:=e3.some rfl;simp only at x1 x2 x3;have hxs:Small x:=rW (a:=s.1) (ac:=ac) x2;have hxt:lS s.1 x=true:=jr.2 ⟨ha,x1.1.len,x2,x1.1⟩;have i4:jL s ac x=some ([],true):=by
      unfold jL;rw[sA,aa,ah c1,yW hl',c2.1,hxt,aa,ah (by rfl),mZ hac hs ha x1.1 x2,aa,x1.2,x3,aa]
     rw[az (by simp),xF hxs,aa,ah rfl,ah rfl,i4,aa,vA hl' c2.1 c2.2,aa,i3,aa,ah rfl,ah (by rfl),ah rfl,xF hxs,aa]
   ·refine fail ?_ ?_
    ·rw[hI,ah c1,c2.1,c2.2,ah (by rfl)];by_cases h:fuel<0
     ·rw[ah (by simpa using h)]
     ·rw[az (by simpa using h),ah (by simp only[ak];omega)]
    ·rw[hS,ah c1,c2.1,c2.2,ah (by rfl),az (by simp only[bF,ak];exact c3)]
  ·exact fail (by rw[hI,ah c1,az c2]) (by rw[hS,ah c1,az c2])
 ·exact fail (by rw[hI,az c1]) (by rw[hS,az c1])
def RX(r:fP×fP):Prop:=(r.1.length<=200/\r.2.length<=200)/\V3 r.1
theorem Ow{t:fP}(ht:t.length<=200):gG True (nV t) fun _=>True:=by
 unfold nV;refine gG.loop (fun q:fP×Int=>∃i:Nat,q.2=i/\i<=t.length/\q.1.length<=i) (fun q:fP×Int=>t.length-q.2.toNat) ⟨0,rfl,gB,by simp⟩ ?_;rintro⟨out,_⟩ ⟨i,rfl,h1,h2⟩;simp only at h2;simp only[tM];by_cases hi:i<t.length
 ·simp only[show(i:Int)<t.length by omega,aW,aH,show(0:Int)<=i by omega,bT,aq,jE (n:=(i:Int)+1) gB gB,mX (show Small out by show out.length<_;omega),aa];refine gG.ite (fun _=>gG.ite (fun _=>.some ⟨⟨i+1,by simp,gB,by simp only;omega⟩,by simp;omega⟩) fun _=>gG.need gB (.some ⟨⟨i+1,by simp,gB,by simp;omega⟩,by simp;omega⟩)) fun _=>.some ⟨⟨i+1,by simp,gB,by simp only;omega⟩,by simp;omega⟩
 ·simp only[show ¬(i:Int)<t.length by omega,aZ,au,aG,aT];exact .some trivial
theorem EX{a l c0:fP}(ha:iJ a=true)(hl:Wf a 1 l)(hl60:l.length<=200)(hv3:V3 l){i h:Int}(hi:Cu c0 i){n:Nat}(hn:n<=60){g:fP}(hg:g.length=n){f:Int×fP->Option ((Int×fP)⊕(fR×Int×Int))}
 (hf:f=fun q=>if(decide (q.1<(q.2.length:Int)))=true then
  if 0<=q.1/\q.1<(q.2.length:Int)then
   if(decide ((q.2.getD q.1.toNat default)<0))=true then
    if 0<=q.1/\q.1<(q.2.length:Int)then
     (kK l (q.2.getD q.1.toNat default)).bind fun r_6=>
     if r_6=true then some (.inl ((IntKind.i64.wrap (q.1+1)),q.2))
     else
      (nV l).bind fun r_7=>
      if((r_7.length:Int)==0)=true then
       (jX a l (IntKind.i64.wrap ((l.length:Int)-1))).bind fun r_8=>Option.map Sum.inr (some ((l,r_8),i,h))
      else
       if 0<=0/\0<(r_7.length:Int)then
        if 0<=q.1/\q.1<(q.2.length:Int)then some (.inl ((IntKind.i64.wrap (q.1+1)),(q.2.set q.1.toNat (r_7.getD 0 default))))else none
       else none
    else none
   else some (.inl ((IntKind.i64.wrap (q.1+1)),q.2))
  else none
 else Option.map Sum.inr (some ((l,q.2),i,h))):gG True (gK f (0,g)) fun r=>RX r.1/\Cu c0 r.2.1:=by
 refine gG.loop (fun q:Int×fP=>∃j:Nat,q.1=j/\j<=n/\q.2.length=n) (fun q:Int×fP=>n-q.1.toNat) ⟨0,rfl,gB,hg⟩ ?_;rintro⟨_,g⟩ ⟨j,rfl,h1,h2⟩;simp only at h2;subst hf;have hll:=hl.len;by_cases hj:j<n
 ·simp only[h2,show(j:Int)<(n:Int) by omega,aW,aH,show(0:Int)<=j by omega,bT,aq,jE (n:=(j:Int)+1) gB gB,mX (show Small l by show l.length<_;omega),aa];refine gG.ite (fun _=>gG.ite (fun _=>.some ⟨⟨j+1,by simp,gB,h2⟩,by simp;omega⟩) fun _=>?_) fun _=>.some ⟨⟨j+1,by simp,gB,h2⟩,by simp;omega⟩
  refine gG.bind (Ow hl60) fun o _=>gG.ite (fun _=>?_) fun ho=>?_
  ·rw[jE (n:=(l.length:Int)-1) gB gB];obtain⟨p,u,q,e1,e2,e3⟩:=hl.place (i:=l.length-1) gB;have hd:l.drop (l.length-1)=u++q:=by rw[<-e2];exact(aO (List.drop p.length) e1).trans ck
   have:=mz ha (show Small l by show l.length<_;omega) (i:=l.length-1) (u:=u) (r:=q) hd e3;rw[show(((l.length-1:Nat)):Int)=(l.length:Int)-1 by omega]at this;rw[this,aa];have hul:u.length<=l.length:=by have:=aO List.length e1;simp only[aj]at this;omega
   exact gG.inr (.some ⟨⟨⟨hl60,by simp only;omega⟩,hv3⟩,hi⟩)
  ·have h0:¬(o.length:Int)=0:=by simpa using ho
   refine gG.need ⟨ay _,gB⟩ (.some ⟨⟨j+1,by simp,gB,by simp[h2]⟩,by simp;omega⟩)
 ·simp only[h2,show ¬(j:Int)<(n:Int) by omega,aZ,au,aG];exact gG.inr (.some ⟨⟨⟨hl60,by simp only;omega⟩,hv3⟩,hi⟩)
theorem GL{a c0:fP}(ha:iJ a=true)(hs:Small c0){i:Int}(h:Int)(hi:Cu c0 i):gG True (jj a c0 i h) fun r=>RX r.1/\Cu c0 r.2.1:=by
 have hal:=ow.1 ha;unfold jj;refine gG.bind (jG hs hi 2 h) fun r hr=>?_
 have:=hr.1;have:=hr.2.1 gB;rw[jE (n:=2+r.1) gB gB];refine gG.bind (qX ha hs (vars:=2) gB gB 2 _ gB gB gB hr.2.2.2) fun r1 h1=>?_
 have tb2:tb 2=13:=by decide
 obtain⟨⟨⟨l0,l2⟩,lv⟩,lc⟩:=h1;have l1:=l0.len;refine gG.need ⟨ay _,gB⟩ (gG.ite (fun _=>?_) fun _=>?_)
 ·refine gG.bind (jG hs lc (a.length:Int) _) fun r2 h2=>?_
  have hf:0<=r2.1/\r2.1<(a.length:Int):=⟨h2.1,h2.2.1 gB⟩;refine gG.need hf ?_;have hk:=hal.2.2 _ (nY (show r2.1.toNat<a.length by omega));generalize hkk:a.getD r2.1.toNat default=kk at hk;refine gG.loop (fun q:fP×Int×Int×Int=>∃(j:Nat)(us:fP),q.1=r2.1::us/\Wf a j us/\us.length<=j*1/\q.2.1=kk-j/\(j:Int)<=kk/\Cu c0 q.2.2.1/\V3 us) (fun q:fP×Int×Int×Int=>q.2.1.toNat)
   ⟨0,[],rfl,Wf.nil,by simp,by simp only;omega,gB,h2.2.2.2,fun x hx=>by cases hx⟩ ?_
  rintro⟨out,k,i2,g⟩ ⟨j,us,rfl,h6,h7,rfl,h8,h9,hv9⟩;simp only at h9;simp only[qE];refine gG.ite (fun hc2=>?_) fun hc2=>?_
  ·simp only[ak]at hc2;refine gG.bind (qX ha hs (vars:=2) gB gB 0 g gB gB gB h9) fun r6 hr6=>?_
   obtain⟨⟨⟨e1,e2⟩,e4⟩,e3⟩:=hr6;simp only[tb]at e2;refine gG.need (by simp only[ai];omega) (.some ?_);simp only[tC];rw[jE (n:=kk-j-1) gB gB];exact⟨⟨j+1,us++r6.1,by simp,h6.app e1,by simp;omega,gB,gB,e3,hv9.app e4⟩,gB⟩
  ·simp only[bS]at hc2;have hw:=D_ (c0:=c0) (d:=0) hf hkk h6 gB;refine gG.inr ?_;simp only[tC];refine gG.bind (jG hs h9 3 _) fun r4 h4=>?_
   have:=h4.1;have:=h4.2.1 gB;rw[jE (n:=1+r4.1) gB gB];refine gG.bind (wX ha hs (vars:=2) gB gB 2 _ gB gB gB h4.2.2.2) fun r5 h5=>?_
   exact EX ha hw (by simp;omega) (hv9.cons gB) h5.2 (n:=r5.1.length) (by have:=h5.1.1.2;omega) rfl (by funext ⟨x,y⟩;rfl)
 ·refine gG.bind (jG hs lc 3 _) fun r4 h4=>?_
  have:=h4.1;have:=h4.2.1 gB;rw[jE (n:=1+r4.1) gB gB];refine gG.bind (wX ha hs (vars:=2) gB gB 2 _ gB gB gB h4.2.2.2) fun r5 h5=>?_
  exact EX ha l0 gB lv h5.2 (n:=r5.1.length) (by have:=h5.1.1.2;omega) rfl (by funext ⟨x,y⟩;rfl)
theorem Nt{a c0:fP}(ha:iJ a=true)(hs:Small c0){i:Int}(h:Int)(hi:Cu c0 i):gG True (rO a c0 i h) fun r=>(r.1.length<=24/\∀u∈r.1,u.length<=60)/\Cu c0 r.2.1:=by
 unfold rO;refine gG.bind (jG hs hi 4 h) fun r hr=>?_
 refine gG.loop (fun q:Int×Int×Int×Bd=>0<=q.1/\q.1<4/\Cu c0 q.2.1/\(q.2.2.2.length:Int)+q.1<=4/\∀u∈q.2.2.2,u.length<=60) (fun q:Int×Int×Int×Bd=>q.1.toNat)
  ⟨hr.1,hr.2.1 gB,hr.2.2.2,by have:=hr.2.1 gB;simp;omega,by simp⟩ ?_
 rintro⟨n,i2,g,s⟩ ⟨e1,e2,e3,e4,e5⟩;simp only at e1 e2 e3 e4 e5;simp only[uw];refine gG.ite (fun hc=>?_) fun hc=>gG.inr (.some ⟨⟨by simp only;omega,e5⟩,e3⟩)
 simp only[ak]at hc;refine gG.bind (mh hs e3 3 _) fun r1 h1=>gG.ite (fun _=>?_) fun _=>?_
 ·refine gG.need gB (.some ?_);simp only[tC];rw[jE (n:=n-1) gB gB];refine⟨⟨gB,gB,h1,by simp;omega,fun u hu=>?_⟩,gB⟩;rcases aI.1 hu with hu|hu
  ·exact e5 u hu
  ·simp at hu;subst hu;simp
 ·refine gG.bind (jG hs h1 3 _) fun r2 h2=>?_
  have:=h2.1;have:=h2.2.1 gB;rw[jE (n:=1+r2.1) gB gB];refine gG.bind (qX ha hs (vars:=3) gB gB 2 _ gB gB gB h2.2.2.2) fun r3 h3=>gG.need gB (.some ?_)
  simp only[tC];rw[jE (n:=n-1) gB gB];have tb2:tb 2=13:=by decide
  have hl:=h3.1.1.2;refine⟨⟨gB,gB,h3.2,by simp;omega,fun u hu=>?_⟩,gB⟩;rcases aI.1 hu with hu|hu
  ·exact e5 u hu
  ·simp at hu;subst hu;omega
theorem AS{s:Sys}{c0:fP}(hs:Small c0){i:Int}(h:Int)(hi:Cu c0 i):gG True (iS s c0 i h) fun r=>Cu c0 r.2.1:=by
 have any:∀{i':Int}(g:Int),Cu c0 i'->gG True ((jC s.1 c0 i' g).bind fun r=>some r) fun r=>Cu c0 r.2.1:=fun g hi'=>gG.bind (Ci hs g hi') fun r hr=>.some hr.2
 unfold iS;rw[pO,aa];refine gG.ite (fun hok=>?_) fun _=>any _ hi
 obtain⟨ha,hl,hr⟩:=vS.1 hok;refine gG.ite (fun hc=>?_) fun _=>any _ hi
 simp only[ak]at hc;refine gG.bind (mh hs hi 2 _) fun r1 h1=>gG.ite (fun _=>?_) fun _=>any _ h1
 refine gG.bind (Nt ha hs _ h1) fun r2 h2=>gG.bind (jG hs h2.2 (s.2.length:Int) _) fun r3 h3=>?_
 have hf:0<=r3.1/\r3.1<(s.2.length:Int):=⟨h3.1,h3.2.1 hc⟩;refine gG.need hf ?_;obtain⟨hL,_⟩:=yp.1 (hr _ (nY (show r3.1.toNat<s.2.length by omega)));obtain⟨_,_,hL60,hLw⟩:=jr.1 hL;rw[sI h2.1.1 h2.1.2 gB (fun x hx=>(hLw.all x hx).1),aa];cases hfo:rQ (Tm.sig r2.1) (s.2.getD r3.1.toNat default).1 with
 |none=>simp only[ud,au,aG];exact any _ h3.2.2.2
 |some v=>
  have hv:v.length<=60:=by
   unfold rQ at hfo;split at hfo
   ·rename_i h;cases hfo;exact h
   ·cases hfo
  simp only[ud,aH];refine gG.bind (mh hs h3.2.2.2 2 _) fun r5 h5=>gG.ite (fun _=>.some h5) fun _=>?_
  refine gG.bind (qX ha hs (vars:=2) gB gB 2 _ gB gB gB h5) fun r6 h6=>?_
  have tb2:tb 2=13:=by decide
  have l2:=h6.1.1.2;have l1:=h6.1.1.1.len;refine gG.bind (jG hs h6.2 (r6.1.length:Int) _) fun r7 h7=>?_
  have h71:=h7.2.1 gB;have h70:=h7.1;obtain⟨p,u,q,e1,e2,e3⟩:=h6.1.1.1.place (i:=r7.1.toNat) gB;have hput:=vo (p:=p) (u:=u) (s:=q) (v:=v) ha e3 (by rw[<-e1];omega) hv;rw[<-e1,e2,show((r7.1.toNat:Nat):Int)=r7.1 by omega]at hput;rw[hput,aa];exact gG.ite (fun _=>.some h7.2.2.2) fun _=>any _ h7.2.2.2
theorem xL{a ac c0:fP}(ha:iJ a=true)(hac:ac.length<=10)(hs:Small c0){f:Int×Int×Int×List fR->Option ((Int×Int×Int×List fR)⊕(Sys×fP×fP×Int×Int))}
 (hf:f=fun q=>if(decide (0<q.1))=true then
  (jj a c0 q.2.1 q.2.2.1).bind fun r_7=>
  if(q.2.2.2.length+1)*48<=140737488355328 then some (.inl ((IntKind.i64.wrap (q.1-1)),r_7.2.1,r_7.2.2,(q.2.2.2++[r_7.1])))else none
  else Option.map Sum.inr (
   (iN a c0 q.2.1 q.2.2.1).bind fun r_8=>
   if(decide (0<(q.2.2.2.length:Int)))=true then
    (gR 2 c0 r_8.2.1 r_8.2.2).bind fun r_9=>
    if r_9.1=true then
     (iS (a,q.2.2.2) c0 r_9.2.1 r_9.2.2).bind fun r_10=>
     some ((a,q.2.2.2),ac,r_10.1,r_10.2.1,r_10.2.2)
    else some ((a,q.2.2.2),ac,r_8.1,r_9.2.1,r_9.2.2)
   else some ((a,q.2.2.2),ac,r_8.1,r_8.2.1,r_8.2.2)))
 {i h:Int} (hi:Cu c0 i):gG True ((gI 3 c0 i h).bind fun r_6=>gK f (r_6.1,r_6.2.1,r_6.2.2,[])) fun r=>(R3 r.1/\r.2.1.length<=10)/\Cu c0 r.2.2.2.1:=by
 refine gG.bind (jG hs hi 3 h) fun r hr=>?_
 refine gG.loop (fun q:Int×Int×Int×List fR=>0<=q.1/\q.1<3/\Cu c0 q.2.1/\(q.2.2.2.length:Int)+q.1<=3/\∀e∈q.2.2.2,V3 e.1) (fun q:Int×Int×Int×List fR=>q.1.toNat)
  ⟨hr.1,hr.2.1 gB,hr.2.2.2,by have:=hr.2.1 gB;simp;omega,by simp⟩ ?_
 rintro⟨n,i2,g,s⟩ ⟨e1,e2,e3,e4,e5⟩;simp only at e1 e2 e3 e4 e5;subst hf;refine gG.ite (fun hc=>?_) fun hc=>?_
 ·simp only[ak]at hc;refine gG.bind (GL ha hs _ e3) fun r1 h1=>gG.need (by simp only;omega) (.some ?_)
  simp only[tC];rw[jE (n:=n-1) gB gB];refine⟨⟨gB,gB,h1.2,by simp;omega,fun u hu=>?_⟩,gB⟩;rcases aI.1 hu with hu|hu
  ·exact e5 u hu
  ·rw[bh]at hu;rw[hu];exact h1.1.2
 ·refine gG.inr ?_;have h3:R3 (a,s):=fun r hr x hx=>e5 r hr x hx
  refine gG.bind (Ad ha hs _ e3) fun r8 h8=>gG.ite (fun _=>?_) fun _=>.some ⟨⟨h3,hac⟩,h8.2⟩
  refine gG.bind (mh hs h8.2 2 _) fun r9 h9=>gG.ite (fun _=>?_) fun _=>.some ⟨⟨h3,hac⟩,h9⟩
  exact gG.bind (AS hs _ h9) fun r10 h10=>.some ⟨⟨h3,hac⟩,h10⟩
theorem Ac{c0:fP}(hs:Small c0){i:Int}(hi:Cu c0 i)(h:Int):gG True (lN c0 i h) fun r=>(R3 r.1/\r.2.1.length<=10)/\Cu c0 r.2.2.2.1:=by
 unfold lN;refine gG.bind (Fk hs hi h) fun r hr=>?_
 obtain⟨⟨ha,hl⟩,hc⟩:=hr;refine gG.ite (fun h4=>?_) fun _=>xL ha hl hs (by funext ⟨a,b,c,d⟩;rfl) hc
 have h4:(r.1.length:Int)=4:=by simpa using h4
 refine gG.need ⟨gB,gB⟩ (gG.ite (fun _=>?_) fun _=>xL ha hl hs (by funext ⟨a,b,c,d⟩;rfl) hc);refine gG.need ⟨gB,gB⟩ (gG.ite (fun _=>?_) fun _=>xL ha hl hs (by funext ⟨a,b,c,d⟩;rfl) hc);refine gG.need ⟨gB,gB⟩ (gG.ite (fun _=>?_) fun _=>xL ha hl hs (by funext ⟨a,b,c,d⟩;rfl) hc);refine gG.need ⟨gB,gB⟩ (gG.ite (fun _=>?_) fun _=>xL ha hl hs (by funext ⟨a,b,c,d⟩;rfl) hc);refine gG.bind (mh hs hc 2 _) fun r1 h1=>gG.ite (fun _=>?_) fun _=>xL ha hl hs (by funext ⟨a,b,c,d⟩;rfl) h1
 refine gG.bind (jG hs h1 2 _) fun r2 h2=>?_
 have q1:=h2.1;have q2:=h2.2.1 gB;rw[jE (n:=1+r2.1) gB gB];have h3:R3 (r.1,([([0,1,(-1)],[(-1)]),([0,(-1),2,(-1)],[1])]:List fR).take (1+r2.1).toNat):=fun e he x hx=>by
  have he:=bE he;simp only[bu,cG,eW]at he;rcases he with rfl|rfl
  ·simp only[bu,cG,eW]at hx;omega
  ·simp only[bu,cG,eW]at hx;omega
 refine gG.need ⟨gB,gB⟩ (gG.bind (Ad ha hs _ h2.2.2.2) fun r8 h8=>gG.ite (fun _=>?_) fun _=>.some ⟨⟨h3,hl⟩,h8.2⟩);refine gG.bind (mh hs h8.2 2 _) fun r9 h9=>gG.ite (fun _=>?_) fun _=>.some ⟨⟨h3,hl⟩,h9⟩
 exact gG.bind (AS hs _ h9) fun r10 h10=>.some ⟨⟨h3,hl⟩,h10⟩
theorem yH(code:fP):qp code=some true:=by
 unfold qp uq;rw[aa];refine gG.eq (gG.ite (fun _=>.some rfl) fun hc=>?_);have hs:Small code:=by
  have:¬(4096:Int)<code.length:=by simpa using hc
  show code.length<_;omega
 unfold oc;refine gG.bind (P:=fun r=>R3 r.1/\r.2.1.length<=10) (gG.bind (On hs) fun r hr=>?_) fun r1 hr1=>gG.of (LJ gB hr1.1) rfl
 obtain⟨e1,e2⟩:=hr;rw[e1,e2];refine gG.bind (Ac hs ⟨gB,gB⟩ _) fun r2 hr2=>gG.bind (mh hs hr2.2 8 _) fun r3 hr3=>gG.ite (fun _=>?_) fun _=>?_
 ·exact gG.bind (Jg hs hr3 gB gB _) fun r4 _=>.some hr2.1
 ·exact gG.bind (jG hs hr3 12 _) fun r4 _=>.some hr2.1
theorem I2{code:fP}:iC Tryz.prog 8 [(gE 1 (kD .u8)) code] (bD true):=AP.c (yH code)
theorem BA{s:Sys}{t:fP}{i rule:Nat}(hs:ru s=true)(ht:lS s.1 t=true)(hi:i<t.length)(hr:rule<s.2.length):rP s t i rule=some (ud (E5 s t i rule)):=by
 obtain⟨ha,_,hrs⟩:=vS.1 hs;obtain⟨_,h1,h2,hw⟩:=jr.1 ht;obtain⟨p,u,q,rfl,rfl,hu⟩:=hw.place hi;have hrule:=yp.1 (hrs _ (nY hr));obtain⟨hL,hR,_,hv⟩:=hrule;obtain⟨_,hL1,hL2,hL3⟩:=jr.1 hL;obtain⟨_,hR1,hR2,hR3⟩:=jr.1 hR;have hul:u.length<=60:=by simp at h2;omega
 unfold rP E5;rw[ah gB,mz ha (by show List.length _<_;omega) ck hu,aa,aq];obtain⟨o,e1,e2⟩:=(AD ha hL3 hu hL2 hul).get;rw[e1,aa,HM hu];cases hmat:BZ s.1 (s.2.getD rule default).1 u sN with
 |none=>
  rw[hmat]at e2;simp only[xo]at e2;simp only[e2,au,aG,Option.bind_none,ud]
 |some b=>
  rw[hmat]at e2;obtain⟨e3,e4,e5⟩:=e2;obtain⟨hb1,hb2⟩:=zN hmat (by intro u hu;simp[sN]at hu;subst hu;simp) hul (by simp[sN]);obtain⟨hp1,hp2⟩:=Cv hb2 e5;rw[ah e3,sI e4 hp2 gB (fun x hx=>(hR3.all x hx).1),aa,aa,IS e5];cases hf:rQ (Tm.sig b) (s.2.getD rule default).2 with
  |none=>simp[ud]
  |some v=>
   have hv60:v.length<=60:=by
    unfold rQ at hf;split at hf
    ·rename_i h;cases hf;exact h
    ·cases hf
   simp only[ud,aH,aa];rw[vo ha hu h2 hv60];rfl
theorem AE(s:Sys)(t:fP):qF s t=some (ru s&&lS s.1 t):=by
 unfold qF;rw[pO,aa];cases h1:ru s with
 |false=>simp
 |true=>simp[qT]
def YF(s:Sys)(t:fP)(e:Int×Int×fP):Prop:=∃i k:Nat,i<t.length/\k<s.2.length/\E5 s t i k=some e.2.2
theorem Jt{s:Sys}{t:fP}(hs:ru s=true)(ht:lS s.1 t=true):gG True (qG s t) fun L=>L.length<=1000/\∀e∈L,YF s t e:=by
 obtain⟨ha,hc12,hrs⟩:=vS.1 hs;obtain⟨_,t0,t1,t2⟩:=jr.1 ht;unfold qG;refine gG.loop (fun q:List fV×Int=>∃j:Nat,j<=t.length/\q.2=j/\q.1.length<=12*j/\∀e∈q.1,YF s t e) (fun q:List fV×Int=>t.length-q.2.toNat) ⟨0,gB,rfl,by simp,fun e h=>by cases h⟩ ?_;rintro⟨out,_⟩ ⟨j,h1,rfl,h2,h3⟩;simp only at h2 h3;simp only[tQ];by_cases hj:j<t.length
 ·rw[ah (by simpa using hj)];refine gG.loop (fun q:List fV×Int=>∃k:Nat,k<=s.2.length/\q.2=k/\q.1.length<=12*j+k/\∀e∈q.1,YF s t e) (fun q:List fV×Int=>s.2.length-q.2.toNat) ⟨0,gB,rfl,gB,h3⟩ ?_;rintro⟨out',_⟩ ⟨k,g1,rfl,g2,g3⟩;simp only at g2 g3;simp only[tR];by_cases hk:k<s.2.length
  ·rw[ah (by simpa using hk),BA hs ht hj hk,aa,jE (n:=(k:Int)+1) gB gB];cases hst:E5 s t j k with
   |none=>
    simp only[ud,au,aG];exact .some ⟨⟨k+1,gB,by simp,by simp only[];omega,g3⟩,by simp only[];omega⟩
   |some v=>
    simp only[ud,aH];refine gG.need gB (.some ⟨⟨k+1,gB,by simp,by simp only[aj,bG];omega,fun e he=>?_⟩,by simp only[];omega⟩);rcases aI.1 he with he|he
    ·exact g3 e he
    ·rw[bh]at he;exact⟨j,k,hj,hk,by rw[he,hst]⟩
  ·obtain rfl:k=s.2.length:=by omega
   rw[az (by simp),jE (n:=(j:Int)+1) gB gB];exact gG.inr (.some ⟨⟨j+1,gB,by simp,by simp only[];omega,g3⟩,by simp only[];omega⟩)
 ·obtain rfl:j=t.length:=by omega
  rw[az (by simp)];exact gG.inr (.some ⟨gB,h3⟩)
theorem RD{s:Sys}{ac t v:fP}{o1:List fP}(hs:ru s=true)(hac:tA s.1 ac)(ht:Wf s.1 1 t)(hl:t.length<=60){i k:Nat}(hi:i<t.length)(hk:k<s.2.length)(hst:E5 s t i k=some v)
 (hc:∀p u q,t=p++(u++q)->0<=p.length->Wf s.1 1 u->∀k,k<s.2.length->T1 s ac p u q k o1):lS s.1 v=true/\form s.1 ac v∈o1:=by
 obtain⟨ha,hc12,hrs⟩:=vS.1 hs;obtain⟨hL,hR,hf0,hv⟩:=yp.1 (hrs _ (nY hk));obtain⟨_,l1,l2,l3⟩:=jr.1 hL;obtain⟨_,r1,r2,r3⟩:=jr.1 hR;obtain⟨p,u,q,rfl,rfl,hu⟩:=ht.place hi;unfold E5 at hst;rw[HM hu]at hst;cases hm:BZ s.1 (s.2.getD k default).1 u sN with
 |none=>rw[hm]at hst;cases hst
 |some b=>
  rw[hm,aa]at hst;obtain⟨m1,m2,m3,m4,m5⟩:=zO l3 hu (by simp[sN]) hm;have hwb:∀x∈(s.2.getD k default).1,x<0->Wf s.1 1 (gZ b x):=fun x hx h0=>(m4 x hx h0).elim id fun h=>absurd (KT x) h.2
  obtain⟨g',hr,hg'⟩:=inst_rm (ac:=ac) hac l3 (σ:=gZ b) hwb m1.symm;have hin:=hc p u q rfl (dS _) hu k hk g' hr;have hsig:Tm.sub (Tm.sig b) (s.2.getD k default).2=Tm.sub (gZ b) (s.2.getD k default).2:=sub_congr fun x hx h0=>by
   unfold Tm.sig;rw[az (hwb x (hv x hx h0) h0).ne]
  have hg:Tm.sub (gZ g') (s.2.getD k default).2=Tm.sub (fun x=>form s.1 ac (gZ b x)) (s.2.getD k default).2:=sub_congr fun x hx h0=>hg' x (hv x hx h0) h0
  have w1:Wf s.1 1 (Tm.sub (gZ b) (s.2.getD k default).2):=r3.sub fun x hx h0=>hwb x (hv x hx h0) h0
  have w2:Wf s.1 1 (Tm.sub (gZ g') (s.2.getD k default).2):=r3.sub fun x hx h0=>hr.1.wf x (hv x hx h0) h0
  have ef:form s.1 ac (Tm.sub (gZ g') (s.2.getD k default).2)=form s.1 ac (Tm.sub (gZ b) (s.2.getD k default).2):=by rw[hg,A1 hac _ (ay _) r3 fun x hx h0=>hwb x (hv x hx h0) h0]
  unfold rQ at hst;rw[hsig]at hst;split at hst
  ·rw[aa]at hst;unfold Ht at hst;rw[CR hu]at hst;split at hst
   ·rename_i h60;have hvv:=en hst;subst hvv;have wv:Wf s.1 1 (p++(Tm.sub (gZ b) (s.2.getD k default).2++q)):=Wf.put hu w1 ht;refine⟨jr.2 ⟨ha,wv.len,h60,wv⟩,?_⟩;rw[GW hac w1 w2 ef.symm _ (ay _) wv];exact hin
   ·cases hst
  ·cases hst
theorem Hz{A:List fP×Bool}{u:fP}{i:Nat}(hi:i<=1000)(hl:A.1.length<=1000)(hs:∀x∈A.1,Small x)(hu:u∈A.1):gK (oM A (i:Int) u) (false,0)=some (.inl ((i:Int)+1)):=by
 refine gG.eq (gG.loop (fun q:Bool×Int=>∃j:Nat,j<=A.1.length/\q.2=j/\(q.1=false->u∉A.1.take j)) (fun q:Bool×Int=>A.1.length-q.2.toNat) ⟨0,gB,rfl,by simp⟩ ?_);rintro⟨b,_⟩ ⟨j,h1,rfl,h2⟩;simp only at h2;simp only[oM];by_cases hj:j<A.1.length
 ·rw[ah (by simpa using hj),jE (n:=(j:Int)+1) gB gB];cases b with
  |true=>
   rw[ah rfl];exact .some ⟨⟨j+1,gB,by simp,fun h=>by cases h⟩,by simp only[];omega⟩
  |false=>
   rw[az (by decide),ah gB];simp only[aq,gO hj];rw[lE (hs _ (aA hj)),aa];refine .some ⟨⟨j+1,gB,by simp,fun h=>?_⟩,by simp only[];omega⟩;have hne:A.1[j]≠u:=by simpa using h
   rw[aN hj,aI,bh];exact fun h=>h.elim (h2 rfl) fun e=>hne e.symm
 ·obtain rfl:j=A.1.length:=by omega
  rw[az (by simp),jE (n:=(i:Int)+1) gB gB];rw[bp]at h2;cases b with
  |true=>exact gG.inr (.some rfl)
  |false=>exact absurd hu (h2 rfl)
def Bp(s:Sys)(ac t:fP):Option Bool:=(jL s ac t).bind fun r_2=>(mQ s ac t).bind fun r_3=>
 if(r_2.2 != r_3.2)=true then some false
 else if((r_2.1.length:Int) != (r_3.1.length:Int))=true then some false
 else gK (nc (s,ac,t) r_2 r_3) 0
theorem O6{s:Sys}{ac t:fP}(hl:ac.length<=11)(h3:R3 s):Bp s ac t=some true:=by
 have hl':ac.length<=1000:=by omega
 have hs:Small ac:=by show ac.length<_;omega
 have hI:jL s ac t=if ru s=true then(if(uR s.1 ac&&lS s.1 t)=true then(iu (s.1,ac) t).bind fun r_2=>(nO s ac r_2).bind fun r_3=>some r_3 else some ([],false))else some ([],false):=by
  unfold jL;rw[sA,aa];split
  ·rw[yW hl',aa]
  ·rfl
 have hS:mQ s ac t=if ru s=true then(if(uR s.1 ac&&lS s.1 t)=true then(jq s.1 ac t).bind fun r_2=>(oq s ac r_2).bind fun r_3=>some r_3 else some ([],false))else some ([],false):=by
  unfold mQ;rw[pO,aa];split
  ·rw[Aw hl',aa]
  ·rfl
 have fail:jL s ac t=some ([],false)->mQ s ac t=some ([],false)->Bp s ac t=some true:=fun h1 h2=>by
  unfold Bp;rw[h1,aa,h2,aa,az (by decide),az (by decide)];refine ij ?_;simp only[nc];rw[az (by decide)];rfl
 by_cases c1:ru s=true
 ·by_cases c2:(uR s.1 ac&&lS s.1 t)=true
  ·have c2':=c2;rw[bF]at c2;obtain⟨ha,hac⟩:=H_ c2.1;obtain⟨_,t0,t1,t2⟩:=jr.1 c2.2;have hft:=Cm hac c2.2;obtain⟨_,f0,f1,f2⟩:=jr.1 hft;obtain⟨r,e1,e2,e3⟩:=Ax c1 hac hs h3 f1 f2;have i1:jL s ac t=some r:=by rw[hI,ah c1,ah c2',mZ hac hs ha t2 t1,aa,e1,aa]
   have i2:mQ s ac t=some r:=by rw[hS,ah c1,ah c2',rY hac hs ha t2 t1,aa,e2,aa]
   obtain⟨A,b⟩:=r;cases b with
   |false=>
    have:A=[]:=e3.none rfl;subst this;exact fail i1 i2
   |true=>
    obtain⟨o1,g1,g2,g3,g4⟩:=e3.some rfl;simp only at g1;have hlA:A.length<=60:=by rw[g1.eq,pF];exact g2
    have hsA:∀x∈A,Small x:=fun x hx=>rW (a:=s.1) (ac:=ac) (g1.sf2 x hx).2
    unfold Bp;rw[i1,aa,i2,aa,az (by simp),az (by simp)];refine gG.eq (gG.loop (fun q:Int=>∃j:Nat,j<=A.length/\q=j) (fun q:Int=>A.length-q.toNat) ⟨0,gB,rfl⟩ ?_);rintro _ ⟨j,h1,rfl⟩;simp only[nc];by_cases hj:j<A.length
    ·have hm:=aA hj;rw[ah (by simpa using hj),ah gB,ah gB,jE (n:=(j:Int)+1) gB gB];simp only[aq,gO hj];rw[xF (hsA _ hm),aa,ah rfl];by_cases hj0:0<j
     ·have hj1:j-1<A.length:=by omega
      rw[ah (by simpa using hj0),jE (n:=(j:Int)-1) gB gB,ah gB,ah gB,show((j:Int)-1).toNat=j-1 by omega,gO hj1,B_ (hsA _ (aA hj1)) (hsA _ hm),aa];have:=dc.1 g1.lt (j-1) j hj1 hj gB;rw[ah (by simpa using this)];exact .some ⟨⟨j+1,gB,by simp⟩,by simp only[];omega⟩
     ·rw[az (by simpa using hj0)];exact .some ⟨⟨j+1,gB,by simp⟩,by simp only[];omega⟩
    ·obtain rfl:j=A.length:=by omega
     rw[az (by simp)];refine gG.inr ?_;rw[ah trivial,vA hl' c2.1 c2.2,aa];unfold qS;rw[AE,c1,hft,aa,ah (by rfl)];refine gG.bind (P:=fun L=>L.length<=1000/\∀e∈L,YF s (form s.1 ac t) e) (gG.bind (Jt c1 hft) fun L hL=>.some hL) fun L hL=>?_
     refine gG.loop (fun q:Int=>∃j:Nat,j<=L.length/\q=j) (fun q:Int=>L.length-q.toNat) ⟨0,gB,rfl⟩ ?_;rintro _ ⟨i,h2,rfl⟩;simp only[rA];by_cases hi:i<L.length
     ·rw[ah (by simpa using hi),ah gB];simp only[aq];obtain⟨i',k',k1,k2,k3⟩:=hL.2 (L.getD i default) (by rw[gO hi];exact aA hi);obtain⟨w1,w2⟩:=RD c1 hac f2 f1 k1 k2 k3 g4;rw[vA hl' c2.1 w1,aa,Hz gB (by show A.length<=1000;omega) hsA ((g1.mem _).2 w2)];exact .some ⟨⟨i+1,gB,by simp⟩,by simp only[];omega⟩
     ·obtain rfl:i=L.length:=by omega
      rw[az (by simp)];exact gG.inr (.some rfl)
  ·exact fail (by rw[hI,ah c1,az c2]) (by rw[hS,ah c1,az c2])
 ·exact fail (by rw[hI,az c1]) (by rw[hS,az c1])
theorem zV(code:fP):qQ code=some true:=by
 unfold qQ uq;rw[aa];refine gG.eq (gG.ite (fun _=>.some rfl) fun hc=>?_);have hs:Small code:=by
  have:¬(4096:Int)<code.length:=by simpa using hc
  show code.length<_;omega
 unfold pM;refine gG.bind (P:=fun r=>R3 r.1/\r.2.1.length<=10) (gG.bind (On hs) fun r hr=>?_) fun r1 hr1=>gG.of (O6 gB hr1.1) rfl
 obtain⟨e1,e2⟩:=hr;rw[e1,e2];exact gG.bind (Ac hs ⟨gB,gB⟩ _) fun r2 hr2=>.some hr2.1
theorem Lu{code:fP}:iC Tryz.prog 9 [(gE 1 (kD .u8)) code] (bD true):=BF.c (zV code)
end Go.Proofs.YthdnkoejpdcnpaaGreat
