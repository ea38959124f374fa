/- A part of the proof about FnAcNormal and about FnAcSteps (BQ, BR, BS, CA, CB, CC, CD, CE, CF, CG, CH, CI, CJ, CK, CL, CM). -/
import Derived.Test.YthdnkoejpdcnpaaGreatNae
import Derived.Test.YthdnkoejpdcnpaaGreatNai
set_option linter.all false
noncomputable section
namespace Go.Proofs.YthdnkoejpdcnpaaGreat
open Go kI Tm
theorem C_{ts:List fP}{n:Nat}:kj true 0 ts n=[]:=by
 unfold kj;simp
theorem C9{m:Nat}:∀{ts:List fP},0<m->m<2^ts.length->kj true m ts ts.length≠[]
 |[],h1,h2=>by simp at h2;omega
 |t::ts,h1,h2=>by
  rw[ai]at h2⊢;rw[C8];by_cases hb:m.testBit 0=true
  ·rw[hb];simp
  ·have hb':m.testBit 0=false:=by simpa using hb
   rw[hb'];have:m%2=0:=by
    rw[d_]at hb';simp at hb';omega
   rw[Nat.pow_succ]at h2;have:=C9 (m:=m/2) (ts:=ts) gB gB;simpa using this
def Mk(a ac:fP)(f x:Int)(ps ts:List fP)(k:Kt)(g:Bd)(m:Nat)(o:Bd):Prop:=
 okB m ts ts.length/\∃g',RM a ac [x] (xU f (kj true m ts ts.length)) g g'/\Out a ac (.s2 f ([x]::ps) (kj false m ts ts.length) k) g' o
theorem CG{a ac:fP}(hac:tA a ac){f:Int}(hf:f∈ac)(ho:yD a f){ts:List fP}(ht:∀t∈ts,Sf a ac t/\t.headD 0≠f)(hs:ts.Pairwise fun a b=>lR a b<=0){m:Nat}(h1:0<m)(h2:m<2^ts.length):
 Sf a ac (xU f (kj true m ts ts.length))/\parts a f (xU f (kj true m ts ts.length))=kj true m ts ts.length:=
 Vf hac hf ho (C9 h1 h2) (hs.sublist qh) fun w hw=>ht w (qh.subset hw)
theorem LS{a ac:fP}(hac:tA a ac){f x:Int}(hf:f∈ac)(ho:yD a f){ps ts:List fP}{k:Kt}{g:Bd}(hg:AF a ac g)(hx:x<0)(h24: -24<=x)
 (ht:∀t∈ts,Sf a ac t/\t.headD 0≠f) (hs:ts.Pairwise fun a b=>lR a b<=0) (o:Bd):
 (∃m,0<m/\m<2^ts.length/\Mk a ac f x ps ts k g m o)<->∃g'',RS a ac f ([x]::ps) ts g g''/\Out a ac k g'' o:=by
 constructor
 ·rintro⟨m,h1,h2,hok,g',h3,g'',h4,h5⟩;refine⟨g'',?_,h5⟩;obtain⟨s1,s2⟩:=CG hac hf ho ht hs h1 h2;by_cases he:gZ g x=[]
  ·rw[(xI hac hg hx h24 s1 he).1 h3]at h4;exact(DT hac hf hg hx h24 he).2 ⟨_,s1,_,by rw[s2];exact vW,h4⟩
  ·obtain⟨e1,rfl⟩:=(As hac hg hx h24 he).1 h3;exact(FT hac hf hg hx h24 he).2 ⟨_,by rw[e1,s2];exact vW,h4⟩
 ·rintro⟨g'',h1,h5⟩;have key:∀u rest g',Sf a ac u->(parts a f u++rest).Perm ts->RM a ac [x] u g g'->RS a ac f ps rest g' g''->∃m,0<m/\m<2^ts.length/\Mk a ac f x ps ts k g m o:=fun u rest g' hu hp hm hr=>by
   obtain⟨s1,s2,s3,s4⟩:=qM hac hf hu;have e:=nL (xz hp) (hs.sublist qh) s2;have hrest:rest.Perm (kj false (rF ts (parts a f u)) ts ts.length):=by
    have:=hp.trans (vW (m:=rF ts (parts a f u)) (ts:=ts)).symm;rw[e]at this;exact(dN _).1 this
   refine⟨rF ts (parts a f u),Nat.pos_of_ne_zero fun h0=>?_,CK _ _,J2 _ _,g',?_,g'',sy hac (.refl _) hrest hr,h5⟩
   ·rw[h0,C_]at e;exact s3 e.symm
   ·rw[e,s4];exact hm
  by_cases he:gZ g x=[]
  ·obtain⟨u,hu,rest,hp,hr⟩:=(DT hac hf hg hx h24 he).1 h1;exact key u rest _ hu hp ((xI hac hg hx h24 hu he).2 rfl) hr
  ·obtain⟨rest,hp,hr⟩:=(FT hac hf hg hx h24 he).1 h1;exact key _ rest _ (hg.2 x hx he) hp ((As hac hg hx h24 he).2 ⟨rfl,rfl⟩) hr
theorem FV{n:Nat}(h:n<=60):HB .i64 1 (n:Int)=((2^n:Nat):Int):=by
 unfold HB;have h1:2^n<=2^60:=fe gB h;have h2:(2:Nat)^60=1152921504606846976:=by decide
 rw[aq,show min n IntKind.i64.bits=n from fM (by show n<=64;omega),Int.one_mul,show(2:Int)^n=((2^n:Nat):Int) by simp];generalize 2^n=q at *;rw[jE gB gB]
theorem Gv{f:Int}{S:List fP}:(xU f S).length<=S.length+S.flatten.length:=by
 cases S with
 |nil=>simp[xU]
 |cons u S=>have:=CH (f:=f) (us:=u::S) (by simp);omega
theorem CV{a ac:fP}{ts:List fP}(ht:∀t∈ts,Sf a ac t):ts.length<=Ay ts:=by
 unfold Ay;induction ts with
 |nil=>simp
 |cons t ts ih=>
  have h1:=(ht t (by simp)).1.len;have h2:=ih fun u hu=>ht u (by simp[hu])
  rw[aS,aj,ai];omega
theorem Bt{S ts:List fP}(h:S.Sublist ts):Ay S<=Ay ts:=by
 unfold Ay;induction h with
 |slnil=>exact ay _
 |cons a h ih=>rw[aS,aj];omega
 |cons_cons a h ih=>rw[aS,aS,aj,aj];omega
theorem L1{a ac:fP}(hac:tA a ac){U:List Bd}{T:Prop}{recR:RT}{recM:MT}{k:Kt}{f x:Int}{ps ts:List fP}(hf:f∈ac)(ho:yD a f)(hx:x<0)(h24: -24<=x)
 (ht:∀t∈ts,Sf a ac t/\t.headD 0≠f) (hs:ts.Pairwise fun a b=>lR a b<=0) (hl:Ay ts<=60)
 (hb:∀rest,rest.Sublist ts->yJ a ac U T recR (.s2 f ([x]::ps) rest k))
 {g:Bd} {fd:List Bd} (hg:AF a ac g) (hgs:∀u∈g,Small u) (hn:fd.Nodup) (hU:∀o∈fd,o∈U) (hQ:∀m o,0<m->m<2^ts.length->Mk a ac f x ps ts k g m o->o∈U):
 gG T (gK (lX recR recM f ([x]::ps) ts k a ac) (1,g,fd)) fun r=>r.2=g/\xq (fun o=>∃m,0<m/\m<2^ts.length/\Mk a ac f x ps ts k g m o) fd r.1:=by
 have hlen:ts.length<=60:=bN (CV fun t h=>(ht t h).1) hl;have Kc:∀t∈ts,Small t:=fun t h=>by
  have:=lD h;have:ts.flatten.length<=60:=hl;show t.length<1099511627776;omega
 have hp60:2^ts.length<=2^60:=fe gB hlen;have hp1:1<=2^ts.length:=Nat.one_le_two_pow;refine gG.loop (fun q:Int×Bd×List Bd=>∃m:Nat,1<=m/\m<=2^ts.length/\q.1=m/\q.2.1=g/\xq (fun o=>∃i,0<i/\i<m/\Mk a ac f x ps ts k g i o) fd q.2.2) (fun q:Int×Bd×List Bd=>2^ts.length-q.1.toNat)
  ⟨1,gB,hp1,rfl,rfl,xq.vR fun o ⟨i,h1,h2,_⟩=>by omega⟩ ?_
 rintro⟨_,g2,fj⟩ ⟨m,h0,h1,rfl,e0,h2⟩;simp only at e0 h2;have e1:=e0.symm;clear e0;subst e1;simp only[lX];rw[ah gB,FV hlen];by_cases hj:m<2^ts.length
 ·have hm62:m<4611686018427387904:=by
   have:(2:Nat)^60=1152921504606846976:=by decide
   omega
  rw[ah (by simp only[ak];omega)];refine gG.bind ((FC (ts:=ts) (m:=m) hm62 hlen Kc).weak fun _=>trivial) ?_;have hw:IntKind.i64.wrap ((m:Int)+1)=((m+1:Nat):Int):=by
   have:(2:Nat)^60=1152921504606846976:=by decide
   rw[jE (n:=(m:Int)+1) gB gB];simp
  rintro r (⟨hok,rfl⟩|⟨hok,rfl⟩)
  ·simp only[aH];have hsub:=qh (b:=true) (m:=m) (ts:=ts);have hsz:=Bt hsub;have hln:=hsub.length_le;have hbl:=Gv (f:=f) (S:=kj true m ts ts.length);have hsz':(kj true m ts ts.length).flatten.length<=Ay ts:=hsz;rw[DA gB,aa];simp only[bC];rw[jE (n:=(-1:Int)-x) gB gB];have s1:=(CG hac hf ho ht hs h0 hj).1;refine gG.bind (ET hac (hb _ (qh (b:=false) (m:=m) (ts:=ts))) hx h24 s1 gB hg hgs (h2.nodup hn) (h2.mem hU fun o ⟨i,hi,him,h⟩=>hQ i o hi gB h) fun o ho=>hQ m o h0 hj ⟨hok,ho⟩) ?_;rintro⟨r1,r2⟩ ⟨e,hr⟩;simp only at e hr;rw[hw];refine .some ⟨⟨m+1,gB,gB,rfl,e,(h2.trans hr).iff fun o=>?_⟩,by simp only[aq];omega⟩;constructor
   ·rintro(⟨i,hi,him,h⟩|h)
    ·exact⟨i,hi,gB,h⟩
    ·exact⟨m,h0,gB,hok,h⟩
   ·rintro⟨i,hi,him,h⟩;by_cases e:i=m
    ·subst e;exact .inr h.2
    ·exact .inl ⟨i,hi,gB,h⟩
  ·simp only[au,aG];rw[hw];refine .some ⟨⟨m+1,gB,gB,rfl,rfl,h2.iff fun o=>?_⟩,by simp only[aq];omega⟩;constructor
   ·rintro⟨i,hi,him,h⟩;exact⟨i,hi,gB,h⟩
   ·rintro⟨i,hi,him,h⟩;by_cases e:i=m
    ·subst e;exact absurd h.1 hok
    ·exact⟨i,hi,gB,h⟩
 ·obtain rfl:m=2^ts.length:=by omega
  rw[az (by simp)];refine .some ⟨rfl,h2.iff fun o=>?_⟩;exact⟨fun⟨i,h1,h2,h⟩=>⟨i,h1,h2,h⟩,fun⟨i,h1,h2,h⟩=>⟨i,h1,h2,h⟩⟩
theorem BW{m0 m1:fP}{fd:List Bd}{l1:Bd}:jt m0 m1 fd l1=some (decide (20<fd.length)):=by
 unfold jt;congr 1;refine dz.2 ⟨fun h=>by omega,fun h=>by omega⟩
theorem G8{a ac:fP}(hac:tA a ac){U:List Bd}{T:Prop}{recR:RT}{recM:MT}{k:Kt}{f:Int}{ps ts:List fP}(hf:f∈ac)(ho:yD a f)(hps:∀p∈ps,Wf a 1 p/\p.headD 0≠f)
 (ht:CC a ac f ts) (hk:ps=[]->yJ a ac U T recR k)
 (hm:∀p ps',ps=p::ps'->0<=p.headD 0->∀(j:Nat)(h:j<ts.length),AJ a ac U T recM p ts[j] (.s1 f (p::ps') ts (j:Nat) k))
 (hb:∀p ps',ps=p::ps'->p.headD 0<0->∀rest,rest.Sublist ts->yJ a ac U T recR (.s2 f (p::ps') rest k))
 {g:Bd} {fd:List Bd} (hg:AF a ac g) (hgs:∀u∈g,Small u) (hn:fd.Nodup) (hU:∀o∈fd,o∈U) (hQ:∀o,(∃g',RS a ac f ps ts g g'/\Out a ac k g' o)->o∈U):
 gG T (iY recR recM f ps ts k a ac fd g) fun r=>r.2=g/\xq (fun o=>∃g',RS a ac f ps ts g g'/\Out a ac k g' o) fd r.1:=by
 obtain⟨ht1,ht2,ht3⟩:=ht;unfold iY
 match ps,hps,hk,hm,hb,hQ with
 |[],hps,hk,hm,hb,hQ=>
  rw[ah (by decide)];refine gG.ite (fun hc=>?_) fun hc=>?_
  ·have hts:ts=[]:=by
    have:ts.length=0:=by simpa using hc
    exact bZ this
   subst hts;have hQ':∀o,Out a ac k g o<->∃g',RS a ac f [] [] g g'/\Out a ac k g' o:=fun o=>
    ⟨fun h=>⟨g,(DS hac).2 ⟨rfl,rfl⟩,h⟩,fun⟨g',h1,h2⟩=>by rw[<-((DS hac).1 h1).2];exact h2⟩
   refine gG.bind (hk rfl g fd hg hgs hn hU fun o ho=>hQ o ((hQ' o).1 ho)) ?_;rintro⟨r1,r2⟩ ⟨e,hr⟩;exact .some ⟨e,hr.iff hQ'⟩
  ·refine .some ⟨rfl,xq.vR fun o ⟨g',h1,_⟩=>?_⟩;rw[((DS hac).1 h1).1]at hc;simp at hc
 |p::ps,hps,hk,hm,hb,hQ=>
  rw[az (by simp only[ai,cN];omega)];refine gG.ite (fun hc=>?_) fun hc=>?_
  ·refine .some ⟨rfl,xq.vR fun o ⟨g',h1,_⟩=>?_⟩;have:=OM hac hf (fun q hq=>(hps q hq).1) h1;simp only[ak]at hc;omega
  ·rw[BW,aa];refine gG.ite (fun hc2=>?_) fun hc2=>?_
   ·exact .some ⟨rfl,xq.E1 (by simpa using hc2)⟩
   ·obtain⟨hw,hh⟩:=hps p (by simp);obtain⟨y,r,rfl,hoy,hr⟩:=Wf.pos hw;rw[ah (by simp only[ai];omega)];simp only[bC];rw[ah (by simp only[ai];omega)];refine gG.ite (fun hc3=>?_) fun hc3=>?_
    ·have hy:0<=y:=by simpa using hc3
     have hyf:y≠f:=by simpa using hh
     have Kc:∀t∈ts,Small t:=fun t h=>by
      have:=lD h;have:ts.flatten.length<=60:=ht3;show t.length<1099511627776;omega
     have hlen:=CV fun t h=>(ht1 t h).1
     have e:=FU hac (r:=r) (ps:=ps) (ts:=ts) (k:=k) hg hy hyf;refine(L0 hac gB Kc (hm _ _ rfl hy) hg hgs hn hU fun i o ho=>hQ o ((e o).1 ⟨i,ho⟩)).mono fun r hr=>⟨hr.1,hr.2.iff e⟩
    ·have hy:y<0:=by
      have:¬0<=y:=by simpa using hc3
      omega
     have:od a y=0:=by unfold od;rw[ah hy]
     rw[bk,this]at hr;have:=hr.zero;subst this;have e:=LS hac hf ho (ps:=ps) (k:=k) hg hy hoy.1 ht1 ht2;refine(L1 hac hf ho hy hoy.1 ht1 ht2 ht3 (hb _ _ rfl hy) hg hgs hn hU fun m o h1 h2 h3=>hQ o ((e o).1 ⟨m,h1,h2,h3⟩)).mono fun r hr=>⟨hr.1,hr.2.iff e⟩
theorem FB{a ac:fP}(hac:tA a ac)(ha:iJ a=true){f:Int}(hf:f∈ac){t:fP}(h:Wf a 1 t)(hl:t.length<=60)(hs:Small ac)(hh:t.headD 0=f):
 mD (a,ac) t=some (jK ((parts a f t).map (form a ac))):=by
 refine gG.eq ?_;obtain⟨h0,h2⟩:=hac f hf;obtain⟨c1,c2⟩:=nK h2 h0 h;have hpo:=(jD h2 h0 _ (ay _) h).2.1;unfold mD mC;rw[tU ha h2 h0 h hl hh,aa];refine gG.bind (P:=(·=jK ((parts a f t).map (form a ac)))) ?_ fun _ e=>.some e
 generalize hus:parts a f t=us at *;refine gG.loop (fun q:Int×List fP=>∃j:Nat,j<=us.length/\q.1=j/\q.2=(us.take j).map (form a ac)) (fun q:Int×List fP=>us.length-q.1.toNat) ⟨0,gB,rfl,by simp⟩ ?_;rintro⟨_,_⟩ ⟨j,h3,rfl,rfl⟩;simp only[mV];by_cases hj:j<us.length
 ·rw[ah (by simpa using hj),ah gB];simp only[aq,gO hj];have hu:=hpo _ (aA hj);rw[mZ hac hs ha hu.1 gB,aa];refine gG.need (by rw[aM,aY];omega) (.some ⟨⟨j+1,gB,jE gB gB,?_⟩,?_⟩)
  ·simp only[];rw[aN hj,aQ];rfl
  ·simp only[];rw[jE (n:=(j:Int)+1) gB gB];omega
 ·obtain rfl:j=us.length:=by omega
  rw[az (by simp),bp,Ag (by rw[aM];omega) (fun x hx=>by
   obtain⟨w,hw,rfl⟩:=a_.1 hx;have:=hpo w hw;rw[(ku hac _ (ay _) this.1).2.1];omega)]
  exact .some rfl
theorem yJ.weak{a ac:fP}{U:List Bd}{T T':Prop}{recR:RT}{k:Kt}(h:yJ a ac U T recR k)(ht:T'->T):yJ a ac U T' recR k:=fun g fd h1 h2 h3 h4 h5=>(h g fd h1 h2 h3 h4 h5).weak ht
theorem AJ.weak{a ac:fP}{U:List Bd}{T T':Prop}{recM:MT}{p t:fP}{k:Kt}(h:AJ a ac U T recM p t k)(ht:T'->T):AJ a ac U T' recM p t k:=fun g fd h1 h2 h3 h4 h5=>(h g fd h1 h2 h3 h4 h5).weak ht
theorem AI.drop{a:fP}{ps:List fP}(h:AI a ps):AI a (ps.drop 1):=⟨fun p hp=>h.1 p (ee _ _ hp),bN (Bt (eG _ _)) h.2⟩
theorem AI.mem{a:fP}{ps:List fP}(h:AI a ps){p:fP}(hp:p∈ps):Wf a 1 p/\p.length<=60:=⟨h.1 p hp,by
 have:=lD hp;have h2:ps.flatten.length<=60:=h.2;omega⟩
theorem CC.sub{a ac:fP}{f:Int}{ts ts':List fP}(h:CC a ac f ts)(hs:ts'.Sublist ts):CC a ac f ts':=⟨fun t ht=>h.1 t (hs.subset ht),h.2.1.sublist hs,bN (Bt hs) h.2.2⟩
theorem CC.mem{a ac:fP}{f:Int}{ts:List fP}(h:CC a ac f ts){t:fP}(ht:t∈ts):Sf a ac t/\t.length<=60:=⟨(h.1 t ht).1,by
 have:=lD ht;have h2:ts.flatten.length<=60:=h.2.2;omega⟩
theorem Bs{p:fP}{ps:List fP}:Ay (p::ps)=p.length+Ay ps:=by unfold Ay;rw[aS,aj]
theorem Pa{ps qs:List fP}(h:ps.Perm qs):Ay ps=Ay qs:=h.flatten.length_eq
theorem Rp{a ac:fP}{fd:List Bd}{g:Bd}:xq (Out a ac .rc g) fd (if yF g∈fd then fd else fd++[yF g]):=by
 split
 ·rename_i h;refine⟨⟨[],by simp,fun o ho=>by cases ho⟩,id,fun _ o ho=>?_⟩;have:o=yF g:=ho;rw[this];exact h
 ·rename_i h;refine⟨⟨[yF g],rfl,fun o ho=>?_⟩,fun hn=>?_,fun _ o ho=>?_⟩
  ·have:o=yF g:=by simpa using ho
   exact this
  ·rw[dm];exact⟨hn,by simp,fun x hx y hy e=>h (by rw[<-(by simpa using hy:y=yF g),<-e];exact hx)⟩
  ·have:o=yF g:=ho;rw[this];simp
theorem zq{a ac:fP}(hac:tA a ac){U:List Bd}{n:Nat}{T:Prop}{recR:RT}{recM:MT}(h1:∀k,Mx a ac k->yJ a ac U (wK k+1<=n) recR k)
 (h2:∀p t k,Wf a 1 p->p.length<=60->Sf a ac t->t.length<=60->Mx a ac k->AJ a ac U (3*p.length+wK k<=n) recM p t k) {k:Kt} (hk:Mx a ac k) {f:Int} {ps ts:List fP} (hf:f∈ac) (ho:yD a f) (hps:AI a ps) (hpf:∀p∈ps,p.headD 0≠f)
 (ht:CC a ac f ts) (hT:T->3*Ay ps+wK k+1<=n)
 {g:Bd} {fd:List Bd} (hg:AF a ac g) (hgs:∀u∈g,Small u) (hn:fd.Nodup) (hU:∀o∈fd,o∈U) (hQ:∀o,(∃g',RS a ac f ps ts g g'/\Out a ac k g' o)->o∈U):
 gG T (iY recR recM f ps ts k a ac fd g) fun r=>r.2=g/\xq (fun o=>∃g',RS a ac f ps ts g g'/\Out a ac k g' o) fd r.1:=by
 refine G8 hac hf ho (fun p hp=>⟨hps.1 p hp,hpf p hp⟩) ht (fun e=>(h1 k hk).weak fun t=>by have:=hT t;omega) (fun p ps' e hp j hj=>?_) (fun p ps' e hp rest hr=>?_) hg hgs hn hU hQ
 ·subst e;refine(h2 p ts[j] (.s1 f (p::ps') ts (j:Nat) k) (hps.mem (by simp)).1 (hps.mem (by simp)).2 (ht.mem (aA hj)).1 (ht.mem (aA hj)).2 ⟨hf,ho,hps,hpf,ht,by simp,gB,gB,hk⟩).weak fun t=>?_
  have:=hT t;rw[Bs]at this;show 3*p.length+(1+3*Ay ps'+wK k)<=n;omega
 ·subst e;refine(h1 (.s2 f (p::ps') rest k) ⟨hf,ho,hps,hpf,ht.sub hr,by simp,hk⟩).weak fun t=>?_
  have:=hT t;have:=(hps.mem (p:=p) (by simp)).1.len;rw[Bs]at *;show 1+3*Ay ps'+wK k+1<=n;omega
theorem Gn{a ac:fP}(hac:tA a ac){U:List Bd}{n:Nat}{T:Prop}{recR:RT}{recM:MT}(h1:∀k,Mx a ac k->yJ a ac U (wK k+1<=n) recR k)
 (h2:∀p t k,Wf a 1 p->p.length<=60->Sf a ac t->t.length<=60->Mx a ac k->AJ a ac U (3*p.length+wK k<=n) recM p t k) {k:Kt} (hk:Mx a ac k) {ps ts:List fP} (hps:AI a ps)
 (ht:∀t∈ts,Sf a ac t) (hts:Ay ts<=60) (hl:ps.length=ts.length) (hT:T->3*Ay ps+wK k+1<=n)
 {g:Bd} {fd:List Bd} (hg:AF a ac g) (hgs:∀u∈g,Small u) (hn:fd.Nodup) (hU:∀o∈fd,o∈U) (hQ:∀o,(∃g',RA a ac ps ts g g'/\Out a ac k g' o)->o∈U):
 gG T (kz recR recM ps ts k a ac fd g) fun r=>r.2=g/\xq (fun o=>∃g',RA a ac ps ts g g'/\Out a ac k g' o) fd r.1:=by
 refine NL hac hl (fun e=>(h1 k hk).weak fun t=>by have:=hT t;omega) (fun hp=>?_) hg hgs hn hU hQ
 match ps,ts,hl,hps,ht,hts with
 |p::ps,t::ts,hl,hps,ht,hts=>
  have hlt:t.length<=60:=by rw[Bs]at hts;omega
  refine(h2 p t (.al (p::ps) (t::ts) k) (hps.mem (by simp)).1 (hps.mem (by simp)).2 (ht t (by simp)) hlt ⟨hps,ht,hts,hl,by simp,hk⟩).weak fun t=>?_
  have:=hT t;rw[Bs]at this;show 3*p.length+(1+3*Ay ps+wK k)<=n;omega
theorem rW{a ac t:fP}(h:t.length<=60):Small t:=by show t.length<1099511627776;omega
theorem zS{a:fP}{f:Int}(h2:od a f=2)(h0:0<=f){t:fP}(h:Wf a 1 t)(hh:t.headD 0=f):Ay (parts a f t)+1<=t.length:=by
 have h3:=(jD h2 h0 _ (ay _) h).2.2;have h4:=(oE h2 h0 h hh).2;unfold Ay;omega
theorem Gj{a ac:fP}(hac:tA a ac)(hs:Small ac)(ha:iJ a=true){U:List Bd}(hU0:UOk U):∀n:Nat,(∀k,Mx a ac k->yJ a ac U (wK k+1<=n) (og n).1 k)/\
 (∀p t k,Wf a 1 p->p.length<=60->Sf a ac t->t.length<=60->Mx a ac k->AJ a ac U (3*p.length+wK k<=n) (og n).2 p t k)
 |0=>⟨fun k hk g fd _ _ _ _ _=>⟨fun a h=>(by cases h),fun h=>absurd h gB⟩,fun p t k hp _ _ _ _ g fd _ _ _ _ _=>⟨fun a h=>(by cases h),fun h=>(by have:=hp.len;omega)⟩⟩
 |n+1=>by
  obtain⟨h1,h2⟩:=Gj hac hs ha hU0 n;refine⟨fun k hk g fd hg hgs hn hU hQ=>?_,fun p t k hp hpl ht htl hk g fd hg hgs hn hU hQ=>?_⟩
  ·match k,hk,hQ with
   |.rc,hk,hQ=>
    show gG _ ((jA a ac fd g).map fun r=>(r,g)) _;rw[G7 hg.1 (bN (zc hn hU) hU0.len) fun o ho=>hU0.small o (hU o ho)];exact .some ⟨rfl,Rp⟩
   |.al ps ts k,⟨k1,k2,k3,k4,k5,k6⟩,hQ=>
    show gG _ (lU (og n).1 (og n).2 ps ts k a ac fd g) _;unfold lU;rw[ah gB,ah gB];refine gG.bind (P:=fun r=>r.2=g/\xq (fun o=>∃g',RA a ac (ps.drop 1) (ts.drop 1) g g'/\Out a ac k g' o) fd r.1) (Gn hac h1 h2 k6 k1.drop (fun t ht=>k2 t (ee _ _ ht)) (bN (Bt (eG _ _)) k3) (by simp[k4]) (fun t=>?_) hg hgs hn hU hQ) fun r hr=>.some hr
    have t:1+3*Ay (ps.drop 1)+wK k+1<=n+1:=t;omega
   |.s1 f ps ts j k,⟨k1,k2,k3,k4,k5,k6,k7,k8,k9⟩,hQ=>
    show gG _ (kO (og n).1 (og n).2 f ps ts j k a ac fd g) _;have hlen:ts.length<=60:=bN (CV fun t h=>(k5.1 t h).1) k5.2.2;unfold kO;rw[ah gB,ah gB,jE (n:=j+1) gB gB,ah gB,show(j+1).toNat=j.toNat+1 by omega,G6 (by rw[aY];omega) (by rw[bR];omega),aa,<-dX];refine gG.bind (P:=fun r=>r.2=g/\xq (fun o=>∃g',RS a ac f (ps.drop 1) (ts.eraseIdx j.toNat) g g'/\Out a ac k g' o) fd r.1) (zq hac h1 h2 k9 k1 k2 k3.drop (fun p hp=>k4 p (ee _ _ hp)) (k5.sub (eT _ _)) (fun t=>?_) hg hgs hn hU hQ) fun r hr=>.some hr
    have t:1+3*Ay (ps.drop 1)+wK k+1<=n+1:=t;omega
   |.s2 f ps ts k,⟨k1,k2,k3,k4,k5,k6,k9⟩,hQ=>
    show gG _ (kP (og n).1 (og n).2 f ps ts k a ac fd g) _;unfold kP;rw[ah gB];refine gG.bind (P:=fun r=>r.2=g/\xq (fun o=>∃g',RS a ac f (ps.drop 1) ts g g'/\Out a ac k g' o) fd r.1) (zq hac h1 h2 k9 k1 k2 k3.drop (fun p hp=>k4 p (ee _ _ hp)) k5 (fun t=>?_) hg hgs hn hU hQ) fun r hr=>.some hr
    have t:1+3*Ay (ps.drop 1)+wK k+1<=n+1:=t;omega
  ·show gG _ (lV (og n).1 (og n).2 p t k a ac fd g) _;unfold lV;rw[BW,aa];refine gG.ite (fun hc2=>.some ⟨rfl,xq.E1 (by simpa using hc2)⟩) fun hc2=>?_
   obtain⟨y,r,rfl,hoy,hr⟩:=Wf.pos hp;rw[bk]at hr;rw[ah (by simp only[ai];omega)];simp only[bC];have hlen:(y::r).length=r.length+1:=rfl;refine gG.ite (fun hc=>?_) fun hc=>?_
   ·have hy:y<0:=by simpa using hc
    have:od a y=0:=by unfold od;rw[ah hy]
    rw[this]at hr;have:=hr.zero;subst this;have hy2:=hoy.1;rw[jE (n:=(-1:Int)-y) gB gB];exact gG.bind (ET hac ((h1 k hk).weak fun t=>by simp only[ai,bB]at t;omega) hy hoy.1 ht gB hg hgs hn hU hQ) fun r hr=>.some hr
   ·have hy:0<=y:=by
     have:¬y<0:=by simpa using hc
     omega
    obtain⟨z,s,rfl,hoz,hsr⟩:=Wf.pos ht.1;rw[bk]at hsr;rw[ah (by simp only[ai];omega)];refine gG.ite (fun hc3=>?_) fun hc3=>?_
    ·have hne:y≠z:=by simpa using hc3
     exact .some ⟨rfl,xq.vR fun o ⟨g',h3,_⟩=>hne (by have:=Kr hac hp hy h3;simpa using this.symm)⟩
    ·have he:y=z:=by simpa using hc3
     subst he;rw[zL hs,aa];refine gG.ite (fun hc4=>?_) fun hc4=>?_
     ·have hf:y∈ac:=by simpa using hc4
      obtain⟨k0,k2⟩:=hac y hf;obtain⟨s1,s2,s3,s4⟩:=qM hac hf ht;rw[tU ha k2 k0 hp hpl rfl,aa];have hpo:=(jD k2 k0 _ (ay _) hp);have hps:=zS k2 k0 hp rfl;have hts:=zS k2 k0 ht.1 rfl;have hpc:=(nK k2 k0 hp).1;refine gG.bind ((FD (ps:=parts a y (y::r)) gB fun q hq=>(hpo.2.1 q hq).1.len).weak fun _=>trivial) fun qs hq=>?_
      rw[FB hac ha hf ht.1 htl hs rfl,aa,va fun w hw=>(s1 w hw).1.2,yt s2];have hmem:∀q∈qs,Wf a 1 q/\q.headD 0≠y:=fun q hqm=>⟨(hpo.2.1 q (hq.mem_iff.1 hqm)).1,(hpo.2.1 q (hq.mem_iff.1 hqm)).2.1⟩
      have e:∀o,(∃g',RS a ac y qs (parts a y (y::s)) g g'/\Out a ac k g' o)<->∃g',RM a ac (y::r) (y::s) g g'/\Out a ac k g' o:=fun o=>by
       constructor
       ·rintro⟨g',h3,h4⟩;exact⟨g',(OJ hac hf hp ht rfl).2 (sy hac hq (.refl _) h3),h4⟩
       ·rintro⟨g',h3,h4⟩;exact⟨g',sy hac hq.symm (.refl _) ((OJ hac hf hp ht rfl).1 h3),h4⟩
      have hsz:=Pa hq;refine gG.bind (zq hac h1 h2 hk hf hoy ⟨fun q hq=>(hmem q hq).1,gB⟩ (fun q hq=>(hmem q hq).2) ⟨s1,s2,gB⟩ (fun t=>?_) hg hgs hn hU fun o ho=>hQ o ((e o).1 ho)) fun r hr=>.some ⟨hr.1,hr.2.iff e⟩
      omega
     ·have hf:y∉ac:=by simpa using hc4
      obtain⟨us,l1,rfl,w1⟩:=lP hr;obtain⟨vs,l2,rfl,w2⟩:=lP hsr;rw[Cq ha hpl hp l1 w1,aa,Cq ha htl ht.1 l2 w2,aa];have e:∀o,(∃g',RA a ac us vs g g'/\Out a ac k g' o)<->∃g',RM a ac (y::us.flatten) (y::vs.flatten) g g'/\Out a ac k g' o:=fun o=>by
       constructor
       ·rintro⟨g',h3,h4⟩;exact⟨g',(OK hac hf hy l1 w1 l2 w2).2 h3,h4⟩
       ·rintro⟨g',h3,h4⟩;exact⟨g',(OK hac hf hy l1 w1 l2 w2).1 h3,h4⟩
      have hv:∀v∈vs,Sf a ac v:=by
       have h5:=ht.2;rw[q_ hac hf l2 w2]at h5;have h6:vs.map (form a ac)=vs:=Dn (a:=a) (by rw[aM]) (fun u hu=>by
        obtain⟨w,hw,rfl⟩:=a_.1 hu;exact(ri hac (w2 w hw)).1) w2 (by simpa using h5)
       intro v hv;rw[<-h6]at hv;obtain⟨w,hw,rfl⟩:=a_.1 hv;exact ri hac (w2 w hw)
      simp only[ai]at hpl htl;refine gG.bind (Gn hac h1 h2 hk ⟨w1,by show us.flatten.length<=60;omega⟩ hv (by show vs.flatten.length<=60;omega) gB (fun t=>?_) hg hgs hn hU fun o ho=>hQ o ((e o).1 ho)) fun r hr=>.some ⟨hr.1,hr.2.iff e⟩
      have t:3*(us.flatten.length+1)+wK k<=n+1:=t;show 3*us.flatten.length+wK k+1<=n;omega
def GV(vals:List fP)(g:Bd):Prop:=(∀x:Int,x< -4->gZ g x=[])/\∀x:Int,x<0->gZ g x≠[]->gZ g x∈vals
theorem NK{a ac:fP}{vals:List fP}{g:Bd}(hg:AF a ac g)(h:GV vals g):g∈Vm vals:=RJ hg.1 h.1 h.2
theorem UE{a ac:fP}{vals:List fP}{g g':Bd}{vs:fP}(he:Ext a ac g g' vs)(h:GV vals g)(h4:∀x∈vs, -4<=x)(hv:∀x∈vs,x<0->gZ g' x∈vals):GV vals g':=by
 refine⟨fun x hx=>?_,fun x hx hn=>?_⟩
 ·rw[he.out x gB fun hm=>by have:=h4 x hm;omega];exact h.1 x hx
 ·by_cases hm:x∈vs
  ·exact hv x hm hx
  ·rw[he.out x hx hm]at hn⊢;exact h.2 x hx hn
theorem Yp{a ac:fP}(hac:tA a ac){vals:List fP}{p t:fP}(hp:Wf a 1 p)(h4:∀x∈p, -4<=x)(hV:∀u,Vl a ac t u->u∈vals){g g':Bd}(hr:RM a ac p t g g')(h:GV vals g):GV vals g':=
 UE hr.1 h h4 fun x hx h0=>hV _ (by
  have:=JE hac p.length (ay _) hp (fun x hx h0=>hr.1.sf x hx h0) x hx h0;rwa [hr.2]at this)
def MB(L:List Bd):Prop:=L.Pairwise fun a b=>mN a b<0
theorem Cb{L:List Bd}(h:MB L):L.Nodup:=h.imp fun hab e=>by rw[e,BI]at hab;omega
theorem RC{L:List Bd}(h:MB L){g:Bd}{k:Nat}(hk:k<=L.length)(h1:∀x∈L.drop k,mN g x<0)(h2:∀j,∀hj:j<L.length,j+1=k->mN L[j] g<0):
 MB (L.take k++[g]++L.drop k)/\∀x,x∈L.take k++[g]++L.drop k<->x=g\/x∈L:=by
 have h3:∀x∈L.take k,mN x g<0:=fun x hx=>by
  obtain⟨i,hi,rfl⟩:=cn hx;rw[aY]at hi;rw[eF];have hk1:=h2 (k-1) gB gB;by_cases e:i=k-1
  ·subst e;exact hk1
  ·have:=dc.1 h i (k-1) gB gB gB;exact(uz (ey this) (ey hk1)).2 (.inl this)
 constructor
 ·unfold MB;rw[aL,ff];refine⟨h.sublist (List.take_sublist _ _),?_,fun x hx y hy=>?_⟩
  ·rw[cm,fB];exact⟨h1,h.sublist (eG _ _)⟩
  ·rw[cm,bu]at hy;rcases hy with rfl|hy
   ·exact h3 x hx
   ·exact(uz (ey (h3 x hx)) (ey (h1 y hy))).2 (.inl (h3 x hx))
 ·intro x;conv=>rhs;rw[<-bL k L]
  simp only[aI,bu,cG,eW];constructor
  ·rintro((h|h)|h)
   ·exact .inr (.inl h)
   ·exact .inl h
   ·exact .inr (.inr h)
  ·rintro(h|h|h)
   ·exact .inl (.inr h)
   ·exact .inl (.inl h)
   ·exact .inr h
theorem Af{l l':List fP}(h:l.Perm l'):jK l=jK l':=nL ((iO l).trans (h.trans (iO l').symm)) (jw _) (jw _)
theorem xe{a ac:fP}(hac:tA a ac){f:Int}(hf:f∈ac){u:fP}(h:Wf a 1 u):((parts a f (form a ac u)).map (form a ac)).Perm ((parts a f u).map (form a ac)):=by
 have hs:=ri hac h;rw[va fun w hw=>((qM hac hf hs).1 w hw).1.2];obtain⟨x,r,rfl,ho,hr⟩:=Wf.pos h;have hh:=(ku hac _ (ay _) h).2.2;by_cases hx:x=f
 ·subst hx;rw[uE hac hf h];exact iO _
 ·rw[lJ hx,eB];obtain⟨z,s,hz,_⟩:=Wf.pos hs.1;rw[hz]at hh⊢;have:z=x:=by simpa using hh
  rw[lJ gB]
theorem A1{a ac:fP}(hac:tA a ac){σ:Int->fP}:∀(N:Nat){p:fP},p.length<=N->Wf a 1 p->(∀x∈p,x<0->Wf a 1 (σ x))->form a ac (Tm.sub (fun x=>form a ac (σ x)) p)=form a ac (Tm.sub σ p)
 |0,p,hl,h,_=>by have:=h.len;omega
 |N+1,p,hl,h,hσ=>by
  obtain⟨y,r,rfl,ho,hr⟩:=Wf.pos h;rw[bk]at hr;have hτ:∀x∈y::r,x<0->Wf a 1 (form a ac (σ x)):=fun x hx h0=>(ri hac (hσ x hx h0)).1
  by_cases hy:y<0
  ·have:od a y=0:=by unfold od;rw[ah hy]
   rw[this]at hr;have:=hr.zero;subst this;rw[sub_one hy,sub_one hy];exact zH hac _ (ay _) (hσ y (by simp) hy)
  ·by_cases hac':y∈ac
   ·obtain⟨k0,k2⟩:=hac y hac';have w1:Wf a 1 (Tm.sub (fun x=>form a ac (σ x)) (y::r)):=h.sub hτ;have w2:Wf a 1 (Tm.sub σ (y::r)):=h.sub hσ;have e1:=vQ k2 k0 _ (ay _) h hτ;have e2:=vQ k2 k0 _ (ay _) h hσ;rw[rj hy]at w1 w2 e1 e2⊢;rw[rj hy,qZ hac hac' w1,qZ hac hac' w2,e1,e2];congr 1;refine Af ?_;have hq:∀qs:List fP,(∀q∈qs,q∈parts a y (y::r))->((qs.flatMap fun q=>parts a y (Tm.sub (fun x=>form a ac (σ x)) q)).map (form a ac)).Perm ((qs.flatMap fun q=>parts a y (Tm.sub σ q)).map (form a ac)):=fun qs=>by
     induction qs with
     |nil=>intro _;exact .refl _
     |cons q qs ih=>
      intro hm;rw[bJ,bJ,aQ,aQ];refine List.Perm.append ?_ (ih fun q hq=>hm q (by simp[hq]));have hq:=hm q (by simp);have hpo:=(jD k2 k0 _ (ay _) h).2.1 q hq;have hlt:=(oE k2 k0 h rfl).1 q hq;have hσq:∀x∈q,x<0->Wf a 1 (σ x):=fun x hx hx0=>hσ x ((uF k2 k0 _ (ay _) h x hx0).2 (cc.2 ⟨q,hq,hx⟩)) hx0
      obtain⟨v,s,rfl,_,hs⟩:=Wf.pos hpo.1;by_cases hv:v<0
      ·have:od a v=0:=by unfold od;rw[ah hv]
       rw[bk,this]at hs;have:=hs.zero;subst this;rw[sub_one hv,sub_one hv];exact xe hac hac' (hσq v (by simp) hv)
      ·have hvf:v≠y:=by simpa using hpo.2.1
       have ih:=A1 hac N (σ:=σ) (by simp only[ai]at hl hlt⊢;omega) hpo.1 hσq;rw[rj hv,rj hv]at ih⊢;rw[lJ hvf,lJ hvf,eB,eB,ih]
    exact hq _ fun q h=>h
   ·obtain⟨us,h1,rfl,hu⟩:=lP hr;have hσu:∀v∈us,∀x∈v,x<0->Wf a 1 (σ x):=fun v hv x hx hx0=>hσ x (by simp only[bu,cc];exact .inr ⟨v,hv,hx⟩) hx0
    have e:∀τ:Int->fP,(∀v∈us,∀x∈v,x<0->Wf a 1 (τ x))->form a ac (Tm.sub τ (y::us.flatten))=y::(us.map fun v=>form a ac (Tm.sub τ v)).flatten:=fun τ hτ=>by
     rw[rj hy,Bq,q_ hac hac' (by rw[aM,h1]) fun v hv=>?_,dh]
     ·rfl
     ·obtain⟨w,hw,rfl⟩:=a_.1 hv;exact(hu w hw).sub fun x hx hx0=>hτ w hw x hx hx0
    rw[e _ hσu,e _ fun v hv x hx h0=>(ri hac (hσu v hv x hx h0)).1];congr 2;refine b_ fun v hv=>?_
    have hlv:=lD hv;exact A1 hac N (by simp only[ai]at hl;omega) (hu v hv) (hσu v hv)
theorem Fu{S ts:List fP}(h:S.Sublist ts):S.flatten.length<=ts.flatten.length:=by
 induction h with
 |slnil=>exact ay _
 |cons a h ih=>rw[aS,aj];omega
 |cons_cons a h ih=>rw[aS,aS,aj,aj];omega
theorem Vp{a ac:fP}(hac:tA a ac){t u:fP}(h:Vl a ac t u):Wf a 1 t->u.length<=t.length:=by
 induction h with
 |refl t=>intro _;exact ay _
 |arg hx hl hw hu h ih=>
  intro _;have:=ih (hw _ hu);have:=lD hu;simp only[ai];omega
 |sub hf hh hne hs=>
  intro hw;rename_i f t S;obtain⟨h0,h2⟩:=hac f hf;obtain⟨p1,p2,p3⟩:=jD h2 h0 _ (ay _) hw;have e1:=CH (f:=f) hne;have e2:=hs.length_le;have e3:=Fu hs;omega
 |part hf hh hu h ih=>
  intro hw;rename_i f t u w;obtain⟨h0,h2⟩:=hac f hf;have:=ih (OB h2 h0 hw _ hu).1;have:=(oE h2 h0 hw hh).1 _ hu;omega
theorem Rn{a ac:fP}(hac:tA a ac){p t:fP}{ps ts:List fP}{g g'':Bd}(hg:AF a ac g):RA a ac (ps++[p]) (ts++[t]) g g''<->∃g',RA a ac ps ts g g'/\RM a ac p t g' g'':=by
 unfold RA RM;rw[bU,List.flatten_singleton,Ext.split hg,aQ,eB];have e:∀g',Ext a ac g g' ps.flatten->Ext a ac g' g'' p->ps.map (fun p=>form a ac (Tm.sub (gZ g'') p))=ps.map (fun p=>form a ac (Tm.sub (gZ g') p)):=fun g' h1 h2=>
  b_ fun q hq=>by rw[h1.same h2 fun x hx _=>cc.2 ⟨q,hq,hx⟩]
 constructor
 ·rintro⟨⟨g',h1,h2⟩,h3⟩;have:=List.append_inj' h3 rfl;rw[e g' h1 h2]at this;exact⟨g',⟨h1,this.1⟩,h2,by simpa using this.2⟩
 ·rintro⟨g',⟨h1,h3⟩,h2,h4⟩;exact⟨⟨g',h1,h2⟩,by rw[e g' h1 h2,h3,h4]⟩
def Pw(a ac:fP)(vals:List fP)(t:fP):Prop:=∀u,Vl a ac t u->u∈vals
def Vy(a ac:fP)(vals:List fP)(f:Int)(ts:List fP):Prop:=(∀t∈ts,Pw a ac vals t)/\∀S,S≠[]->S.Sublist ts->xU f S∈vals
theorem Pw.args{a ac:fP}{vals:List fP}{x:Int}{us:List fP}(h:Pw a ac vals (x::us.flatten))(hx:x∉ac)(hl:us.length=od a x)(hw:∀v∈us,Wf a 1 v):∀u∈us,Pw a ac vals u:=
 fun u hu w hv=>h w (.arg hx hl hw hu hv)
theorem Pw.parts{a ac:fP}{vals:List fP}{f:Int}{t:fP}(h:Pw a ac vals t)(hf:f∈ac)(hh:t.headD 0=f):Vy a ac vals f (parts a f t):=
 ⟨fun u hu w hv=>h w (.part hf hh hu hv),fun S hne hs=>h _ (.sub hf hh hne hs)⟩
theorem Vy.sub{a ac:fP}{vals:List fP}{f:Int}{ts ts':List fP}(h:Vy a ac vals f ts)(hs:ts'.Sublist ts):Vy a ac vals f ts':=
 ⟨fun t ht=>h.1 t (hs.subset ht),fun S hne h2=>h.2 S hne (h2.trans hs)⟩
def GS(g:Bd):Prop:=g.length=24/\∀u∈g,Small u
theorem GS.get{g:Bd}(h:GS g){j:Nat}(hj:j<24):Small (g.getD j default):=h.2 _ (nY (by rw[h.1];exact hj))
theorem D5{a b:Bd}(ha:GS a)(hb:GS b):ng a b=some (decide (a=b)):=by
 have la:=ha.1;have lb:=hb.1;unfold ng;refine gG.eq (gG.loop (fun q:Int=>∃j:Nat,j<=24/\q=j/\a.take j=b.take j) (fun q:Int=>24-q.toNat) ⟨0,gB,rfl,by simp⟩ ?_);rintro _ ⟨j,h1,rfl,h2⟩;simp only[pR];by_cases hj:j<24
 ·rw[ah (by simp only[ak];omega),ah gB,ah gB,jE (n:=(j:Int)+1) gB gB];simp only[aq];rw[lE (ha.get hj),aa];have hja:j<a.length:=by omega
  have hjb:j<b.length:=by omega
  simp only[gO hja,gO hjb];refine gG.ite (fun hc=>?_) fun hc=>?_
  ·have he:a[j]=b[j]:=by simpa using hc
   refine .some ⟨⟨j+1,gB,by simp,?_⟩,by simp only[];omega⟩;rw[aN hja,aN hjb,h2,he]
  ·have he:a[j]≠b[j]:=by simpa using hc
   refine .some ?_;simp only[tC];have:a≠b:=fun e=>he (by subst e;rfl)
   simp[this]
 ·obtain rfl:j=24:=by omega
  rw[az (by simp only[ak];omega)];refine .some ?_;simp only[tC];rw[bO gB,bO gB]at h2;simp[h2]
theorem QB{x y:fP}(h:x≠y):lR x y≠0:=fun e=>h (vO e)
theorem Js{a b:Bd}(ha:GS a)(hb:GS b):qa a b=some (decide (mN a b<0)):=by
 have la:=ha.1;have lb:=hb.1;unfold qa;refine gG.eq (gG.loop (fun q:Int=>∃j:Nat,j<=24/\q=j/\mN a b=mN (a.drop j) (b.drop j)) (fun q:Int=>24-q.toNat) ⟨0,gB,rfl,by simp⟩ ?_);rintro _ ⟨j,h1,rfl,h2⟩;simp only[sE];by_cases hj:j<24
 ·have hja:j<a.length:=by omega
  have hjb:j<b.length:=by omega
  rw[aK hja,aK hjb,mN]at h2;rw[ah (by simp only[ak];omega),ah gB,ah gB,jE (n:=(j:Int)+1) gB gB];simp only[aq];have s1:=ha.get hj;have s2:=hb.get hj;rw[lE s1,aa];simp only[gO hja,gO hjb]at s1 s2⊢;refine gG.ite (fun hc=>?_) fun hc=>?_
  ·have he:a[j]=b[j]:=by simpa using hc
   rw[he,BK,ah rfl]at h2;exact .some ⟨⟨j+1,gB,by simp,h2⟩,by simp only[];omega⟩
  ·have he:a[j]≠b[j]:=by simpa using hc
   rw[az (QB he)]at h2;rw[ah gB,ah gB,B_ s1 s2,aa];refine .some ?_;simp only[tC];rw[h2]
 ·obtain rfl:j=24:=by omega
  rw[az (by simp only[ak];omega)];refine .some ?_;simp only[tC];rw[h2,bt gB,bt gB];simp[mN]
theorem HH{L:List Bd}{g:Bd}(hL:MB L)(hg:GS g)(hs:∀x∈L,GS x)(hl:L.length<=1000000000000):gG True (nH L g) fun r=>MB r/\∀x,x∈r<->x=g\/x∈L:=by
 unfold nH;refine gG.loop (fun q:Int=>∃k:Nat,k<=L.length/\q=k/\∀x∈L.drop k,mN g x<0) (fun q:Int=>q.toNat) ⟨L.length,gB,rfl,by simp⟩ ?_;rintro _ ⟨k,h1,rfl,h2⟩;simp only[uu];have fin:(∀j,∀hj:j<L.length,j+1=k->mN L[j] g<0)->gG True (if 0<=(k:Int)/\(k:Int)<=(L.length:Int)then
  if(0+(L.take (k:Int).toNat).length)*24<=140737488355328 then
   if((L.take (k:Int).toNat).length+1)*24<=140737488355328 then
    if 0<=(k:Int)/\(k:Int)<=(L.length:Int)then
     if(((L.take (k:Int).toNat)++[g]).length+(L.drop (k:Int).toNat).length)*24<=140737488355328 then some (((L.take (k:Int).toNat)++[g])++(L.drop (k:Int).toNat))else none
    else none
   else none
  else none
  else none) fun r=>MB r/\∀x,x∈r<->x=g\/x∈L:=fun h3=>by
  rw[ah gB];simp only[aq,aj,aY,bR,bG];rw[ah gB,ah gB,ah gB,ah gB];exact .some (RC hL h1 h2 h3)
 by_cases hk:0<k
 ·rw[ah (by simpa using hk),jE (n:=(k:Int)-1) gB gB,ah gB,show((k:Int)-1).toNat=k-1 by omega];have hk1:k-1<L.length:=by omega
  have hm:=aA hk1;rw[gO hk1,D5 (hs _ hm) hg,aa];refine gG.ite (fun hc=>?_) fun hc=>?_
  ·have he:L[k-1]=g:=by simpa using hc
   refine .some ⟨hL,fun x=>⟨.inr,?_⟩⟩;rintro(rfl|h)
   ·rw[<-he];exact hm
   ·exact h
  ·have he:L[k-1]≠g:=by simpa using hc
   rw[ah gB,Js hg (hs _ hm),aa];refine gG.ite (fun hc2=>?_) fun hc2=>?_
   ·have hlt:mN g L[k-1]<0:=by simpa using hc2
    refine .some ⟨⟨k-1,gB,gB,fun x hx=>?_⟩,by simp only[];omega⟩;rw[aK hk1,show k-1+1=k by omega,bu]at hx;rcases hx with rfl|hx
    ·exact hlt
    ·exact h2 x hx
   ·have hge:¬mN g L[k-1]<0:=by simpa using hc2
    refine gG.inr ((fin fun j hj e=>?_).mono fun r hr=>hr);obtain rfl:j=k-1:=by omega
    have h5:=uV g L[k-1];have h6:mN g L[k-1]≠0:=fun e=>he (BJ e).symm
    omega
 ·rw[az (by simpa using hk)];exact gG.inr ((fin fun j hj e=>by omega).mono fun r hr=>hr)
theorem E3{g:Bd}{v:Nat}{t:fP}(hg:g.length=24)(hv:v<24):oV g (v:Int) t=some (g.set v t):=by
 unfold oV;rw[ah gB,ah gB,aq]
theorem E4{l:List fP}{i:Nat}(hl:l.length<=1000)(hi:i<l.length):nU l (i:Int)=some (l.eraseIdx i):=by
 unfold nU;rw[jE (n:=(i:Int)+1) gB gB,show((i:Int)+1).toNat=i+1 by omega,aq,ah gB,ah (by rw[aY];omega),ah gB,ah (by rw[aY,bR];omega),<-dX]
theorem D4{l:List fP}{t:fP}(hl:l.length<=1000000)(hs:∀u∈l,Small u):gG True (lF l t) fun r=>(r<0/\t∉l)\/∃i:Nat,∃h:i<l.length,r=i/\l[i]=t:=by
 unfold lF;refine gG.loop (fun q:Int=>∃j:Nat,j<=l.length/\q=j/\t∉l.take j) (fun q:Int=>l.length-q.toNat) ⟨0,gB,rfl,by simp⟩ ?_;rintro _ ⟨j,h1,rfl,h2⟩;simp only[ql];by_cases hj:j<l.length
 ·rw[ah (by simpa using hj),ah gB,jE (n:=(j:Int)+1) gB gB];simp only[aq,gO hj];rw[lE (hs _ (aA hj)),aa];refine gG.ite (fun hc=>?_) fun hc=>?_
  ·exact .some (.inr ⟨j,hj,rfl,by simpa using hc⟩)
  ·have he:l[j]≠t:=by simpa using hc
   refine .some ⟨⟨j+1,gB,by simp,?_⟩,by simp only[];omega⟩;rw[aN hj];simp only[aI,bh,not_or];exact⟨h2,fun e=>he e.symm⟩
 ·obtain rfl:j=l.length:=by omega
  rw[az (by simp)];rw[bp]at h2;exact .some (.inl ⟨gB,h2⟩)
theorem HK{l gone:List fP}(hl:l.length<=1000)(hs:∀u∈l,Small u)(hg:gone.length<=1000):gG True (qC l gone) fun r=>(r.2=true/\r.1.Sublist l/\(gone++r.1).Perm l)\/(r.2=false/\∀rest,¬(gone++rest).Perm l):=by
 unfold qC;refine gG.loop (fun q:List fP×Int=>∃j:Nat,j<=gone.length/\q.2=j/\q.1.Sublist l/\(gone.take j++q.1).Perm l) (fun q:List fP×Int=>gone.length-q.2.toNat) ⟨0,gB,rfl,List.Sublist.refl _,by simp⟩ ?_;rintro⟨m,_⟩ ⟨j,h1,rfl,h2,h3⟩;simp only at h2 h3;simp only[tK];have hml:=h2.length_le;by_cases hj:j<gone.length
 ·rw[ah (by simpa using hj),ah gB,jE (n:=(j:Int)+1) gB gB];simp only[aq,gO hj];refine gG.bind (D4 gB fun u hu=>hs u (h2.subset hu)) ?_;rintro r (⟨hr,hn⟩|⟨i,hi,rfl,he⟩)
  ·rw[ah (by simpa using hr)];refine .some (.inr ⟨rfl,fun rest hp=>hn ?_⟩);have h5:(gone.take j++(gone.drop j++rest)).Perm (gone.take j++m):=by
    rw[<-aL,bL];exact hp.trans h3.symm
   have h6:=(dN _).1 h5;rw[aK hj]at h6;exact h6.mem_iff.1 (bz _ fC)
  ·rw[az (by simp only[ak];omega),E4 gB hi,aa];refine .some ⟨⟨j+1,gB,by simp,(eT _ _).trans h2,?_⟩,by simp only[];omega⟩;have h7:(gone[j]::m.eraseIdx i).Perm m:=by
    rw[<-he];exact((mg hi).cons _).trans (dn (aA hi)).symm
   rw[aN hj,aL];exact((h7.append_left _)).trans h3
 ·obtain rfl:j=gone.length:=by omega
  rw[az (by simp)];rw[bp]at h3;exact .some (.inl ⟨rfl,h2,h3⟩)
structure Env(a ac:fP)(vals:List fP):Prop where
 hac:tA a ac
 hs:Small ac
 ha:iJ a=true
 len:vals.length<=780
 short:∀u∈vals,u.length<=60
def GB(a ac:fP)(vals:List fP)(g:Bd):Prop:=AF a ac g/\GV vals g
theorem GB.gs{a ac:fP}{vals:List fP}(hE:Env a ac vals){g:Bd}(h:GB a ac vals g):GS g:=by
 refine⟨h.1.1,fun u hu=>?_⟩;obtain⟨i,hi,rfl⟩:=cn hu;have e:gZ g (-1-(i:Int))=g[i]:=by
  unfold gZ;rw[show(-1-(-1-(i:Int))).toNat=i by omega];simp[av,hi]
 by_cases h0:g[i]=[]
 ·rw[h0];show(0:Nat)<_;omega
 ·have:=hE.short _ (h.2.2 (-1-(i:Int)) gB (by rw[e];exact h0));rw[e]at this;show g[i].length<1099511627776;omega
def LB(a ac:fP)(vals:List fP)(L:List Bd):Prop:=MB L/\∀g∈L,GB a ac vals g
theorem LB.len{a ac:fP}{vals:List fP}(hE:Env a ac vals){L:List Bd}(h:LB a ac vals L):L.length<=400000000000:=
 bN (zc (Cb h.1) fun g hg=>NK (h.2 g hg).1 (h.2 g hg).2) (E7 hE.len)
theorem LB.nil{a ac:fP}{vals:List fP}:LB a ac vals []:=⟨List.Pairwise.nil,fun g h=>by cases h⟩
theorem LB.one{a ac:fP}{vals:List fP}{g:Bd}(h:GB a ac vals g):LB a ac vals [g]:=⟨List.pairwise_singleton _ _,fun x hx=>by rw[bh]at hx;rw[hx];exact h⟩
theorem NS{a ac:fP}{vals:List fP}(hE:Env a ac vals){L:List Bd}{g:Bd}(hL:LB a ac vals L)(hg:GB a ac vals g):gG True (nH L g) fun r=>LB a ac vals r/\∀x,x∈r<->x∈L\/x=g:=
 (HH hL.1 (hg.gs hE) (fun x hx=>(hL.2 x hx).gs hE) (by have:=hL.len hE;omega)).mono fun r hr=>⟨⟨hr.1,fun x hx=>by
  rcases(hr.2 x).1 hx with rfl|h
  ·exact hg
  ·exact hL.2 x h⟩,fun x=>by rw[hr.2 x];exact Or.comm⟩
theorem Hi{I:List Bd->Prop}{T:Prop}{β:Type}{n s:Nat}(hsn:s<=n){out:List Bd}{F:List Bd×Int->Option ((List Bd×Int)⊕β)}{mk:List Bd->β}(P:Nat->Bd->Prop)
 (hF:∀(j:Nat)(o:List Bd),s<=j->j<n->I o->(∀x,x∈o<->x∈out\/∃i,s<=i/\i<j/\P i x)->gG T (F (o,(j:Int))) fun r=>∃o',r=.inl (o',(j:Int)+1)/\I o'/\∀x,x∈o'<->x∈out\/∃i,s<=i/\i<j+1/\P i x)
 (hE:∀o,F (o,(n:Int))=some (.inr (mk o))) (h0:I out):
 gG T (gK F (out,(s:Int))) fun r=>∃o,r=mk o/\I o/\∀x,x∈o<->x∈out\/∃i,s<=i/\i<n/\P i x:=by
 refine gG.loop (fun q:List Bd×Int=>∃j:Nat,s<=j/\j<=n/\q.2=j/\I q.1/\∀x,x∈q.1<->x∈out\/∃i,s<=i/\i<j/\P i x) (fun q:List Bd×Int=>n-q.2.toNat)
  ⟨s,gB,hsn,rfl,h0,fun x=>⟨.inl,fun h=>h.elim id fun⟨i,h1,h2,_⟩=>by omega⟩⟩ ?_
 rintro⟨o,_⟩ ⟨j,h1,h2,rfl,h3,h4⟩;simp only at h3 h4;by_cases hj:j<n
 ·refine(hF j o h1 hj h3 h4).mono ?_;rintro _ ⟨o',rfl,h5,h6⟩;exact⟨⟨j+1,gB,gB,by simp,h5,h6⟩,by simp only[];omega⟩
 ·obtain rfl:j=n:=by omega
  rw[hE];exact .some ⟨o,rfl,h3,h4⟩
theorem y_{out o o':List Bd}{s j:Nat}(hs:s<=j){P:Nat->Bd->Prop}(h:∀x,x∈o<->x∈out\/∃i,s<=i/\i<j/\P i x)(h':∀x,x∈o'<->x∈o\/P j x):∀x,x∈o'<->x∈out\/∃i,s<=i/\i<j+1/\P i x:=fun x=>by
 rw[h',h];constructor
 ·rintro((h|⟨i,h1,h2,h3⟩)|h)
  ·exact .inl h
  ·exact .inr ⟨i,h1,gB,h3⟩
  ·exact .inr ⟨j,hs,gB,h⟩
 ·rintro(h|⟨i,h1,h2,h3⟩)
  ·exact .inl (.inl h)
  ·by_cases e:i=j
   ·subst e;exact .inr h3
   ·exact .inl (.inr ⟨i,h1,gB,h3⟩)
theorem N9{out o:List Bd}{s j:Nat}{P:Nat->Bd->Prop}(h:∀x,x∈o<->x∈out\/∃i,s<=i/\i<j/\P i x)(h':∀x,P j x->∃i,s<=i/\i<j/\P i x):∀x,x∈o<->x∈out\/∃i,s<=i/\i<j+1/\P i x:=fun x=>by
 rw[h];constructor
 ·rintro(h|⟨i,h1,h2,h3⟩)
  ·exact .inl h
  ·exact .inr ⟨i,h1,gB,h3⟩
 ·rintro(h|⟨i,h1,h2,h3⟩)
  ·exact .inl h
  ·by_cases e:i=j
   ·subst e;exact .inr (h' x h3)
   ·exact .inr ⟨i,h1,gB,h3⟩
theorem gG.ZS{α:Type}{t:Prop}{f:Nat->Option α}{P:α->Prop}(m:Nat)(h:∀n,gG (t/\m<=n) (f n) P):gG t (Ba f) P:=
 ⟨fun x hx=>(h _).1 x (pq hx).choose_spec,fun ht=>(gG.lim (t:=True) (P:=P) m fun n=>(h n).weak fun e=>⟨ht,e⟩).2 trivial⟩
theorem Vs{n:Nat}(h:n<=60):IntKind.u64.wrap (n:Int)=n:=by rw[IntKind.wrap_u64];omega
def Fa(a ac:fP)(vals:List fP)(T:Prop)(rec:fP->fP->fP->fP->List fP->Option fW)(p t:fP):Prop:=
 ∀g,GB a ac vals g->gG T (rec a ac p t g) fun r=>LB a ac vals r/\∀x,x∈r<->RM a ac p t g x
def V4(ps:List fP):Prop:=∀p∈ps,∀x∈p, -4<=x
theorem V4.tail{p:fP}{ps:List fP}(h:V4 (p::ps)):V4 ps:=fun q hq=>h q (by simp[hq])
theorem F1{a ac:fP}{vals:List fP}(hE:Env a ac vals){p t:fP}(hp:Wf a 1 p)(h4:∀x∈p, -4<=x)(hV:Pw a ac vals t){g g':Bd}(hg:GB a ac vals g)(h:RM a ac p t g g'):GB a ac vals g':=
 ⟨h.1.ok hg.1,Yp hE.hac hp h4 hV h hg.2⟩
theorem HA{rec recS sig ac f ps left i r}:sH rec recS sig ac f ps left i r=lG rec recS sig ac f ps left i r:=by
 funext ⟨o,k⟩;rfl
def VP(a ac:fP)(f:Int)(p:fP)(ps ts:List fP)(g:Bd)(j:Nat)(x:Bd):Prop:=∃h:j<ts.length,∃g',RM a ac p ts[j] g g'/\RS a ac f ps (ts.eraseIdx j) g' x
def YO(a ac:fP)(f v:Int)(ps ts:List fP)(g:Bd)(m:Nat)(x:Bd):Prop:=RS a ac f ps (kj false m ts ts.length) (gM g v (xU f (kj true m ts ts.length))) x
theorem Vg{a ac:fP}(hac:tA a ac){f y:Int}{r:fP}{ps ts:List fP}{g:Bd}(hg:AF a ac g)(hy:0<=y)(hf:y≠f)(x:Bd):(∃i,0<=i/\i<ts.length/\VP a ac f (y::r) ps ts g i x)<->RS a ac f ((y::r)::ps) ts g x:=by
 rw[B5 hac hg hy hf];constructor
 ·rintro⟨i,_,h,_,g',h1,h2⟩;exact⟨ts[i],aA h,g',h1,sy hac (.refl _) (mg h) h2⟩
 ·rintro⟨t,ht,g',h1,h2⟩;obtain⟨i,h,rfl⟩:=cn ht;exact⟨i,gB,h,h,g',h1,sy hac (.refl _) (mg h).symm h2⟩
theorem Rw{a ac:fP}(hac:tA a ac){f:Int}{p:fP}{ps ts:List fP}{g:Bd}{i j:Nat}{x:Bd}(hi:i<ts.length)(he:∀hj:j<ts.length,ts[i]=ts[j])(h:VP a ac f p ps ts g j x):VP a ac f p ps ts g i x:=by
 obtain⟨hj,g',h1,h2⟩:=h;have he:=he hj;have e1:=mg hi;have e2:=mg hj;rw[he]at e1;exact⟨hi,g',by rw[he];exact h1,sy hac (.refl _) (e2.trans e1.symm) h2⟩
theorem UT{a ac:fP}(hac:tA a ac){f v:Int}(hf:f∈ac)(ho:yD a f){ps ts:List fP}{g:Bd}(hg:AF a ac g)(hv:v<0)(h24: -24<=v)(he:gZ g v=[])
 (ht:∀t∈ts,Sf a ac t/\t.headD 0≠f) (hs:ts.Pairwise fun a b=>lR a b<=0) (x:Bd):(∃i,1<=i/\i<2^ts.length/\YO a ac f v ps ts g i x)<->RS a ac f ([v]::ps) ts g x:=by
 rw[DT hac hf hg hv h24 he];constructor
 ·rintro⟨m,h1,h2,h3⟩;obtain⟨s1,s2⟩:=CG hac hf ho ht hs h1 h2;exact⟨_,s1,_,by rw[s2];exact vW,h3⟩
 ·rintro⟨u,hu,rest,hp,hr⟩;obtain⟨s1,s2,s3,s4⟩:=qM hac hf hu;have e:=nL (xz hp) (hs.sublist qh) s2;have hrest:rest.Perm (kj false (rF ts (parts a f u)) ts ts.length):=by
   have:=hp.trans (vW (m:=rF ts (parts a f u)) (ts:=ts)).symm;rw[e]at this;exact(dN _).1 this
  refine⟨rF ts (parts a f u),Nat.pos_of_ne_zero fun h0=>?_,CK _ _,?_⟩
  ·rw[h0,C_]at e;exact s3 e.symm
  ·unfold YO;rw[e,s4];exact sy hac (.refl _) hrest hr
theorem OW{a ac:fP}{vals:List fP}(hE:Env a ac vals){T:Prop}{rec:fP->fP->fP->fP->List fP->Option fW}
 {recS:fP->fP->Int->List fP->List fP->List fP->List fQ->Option fW} {f:Int} {p:fP} {ps ts:List fP} {i:Nat} (hl:ts.length<=60) (hi:i<ts.length) {R out:List Bd} (hR:LB a ac vals R) (h0:LB a ac vals out)
 (hS:∀g o,GB a ac vals g->LB a ac vals o->gG T (recS a ac f ps (ts.eraseIdx i) g o) fun r=>LB a ac vals r/\∀x,x∈r<->x∈o\/RS a ac f ps (ts.eraseIdx i) g x):
 gG T (gK (lG rec recS a ac f (p::ps) ts i R) (out,0)) fun r=>∃o,r=.inl (o,(i:Int)+1)/\LB a ac vals o/\∀x,x∈o<->x∈out\/∃g∈R,RS a ac f ps (ts.eraseIdx i) g x:=by
 have hRl:=hR.len hE;refine(Hi (I:=LB a ac vals) (T:=T) (n:=R.length) (s:=0) gB (out:=out) (mk:=fun o=>.inl (o,(i:Int)+1)) (fun j x=>∃h:j<R.length,RS a ac f ps (ts.eraseIdx i) R[j] x) (fun j o _ hj ho hm=>?_) (fun o=>?_) h0).mono ?_
 ·simp only[lG];rw[ah (by simpa using hj),ah (by simp only[ai];omega),E4 gB hi,aa,ah gB,jE (n:=(j:Int)+1) gB gB];simp only[aq,gO hj,List.drop_one,List.tail_cons];refine gG.bind (hS _ o (hR.2 _ (aA hj)) ho) fun r hr=>.some ⟨r,rfl,hr.1,y_ gB hm fun x=>?_⟩
  rw[hr.2 x];exact⟨fun h=>h.imp id fun h=>⟨hj,h⟩,fun h=>h.imp id fun⟨_,h⟩=>h⟩
 ·simp only[lG];rw[az (by simp),jE (n:=(i:Int)+1) gB gB];rfl
 ·rintro _ ⟨o,rfl,h1,h2⟩;refine⟨o,rfl,h1,fun x=>?_⟩;rw[h2 x];constructor
  ·rintro(h|⟨j,_,_,hj,h⟩)
   ·exact .inl h
   ·exact .inr ⟨_,aA hj,h⟩
  ·rintro(h|⟨g,hg,h⟩)
   ·exact .inl h
   ·obtain⟨j,hj,rfl⟩:=cn hg;exact .inr ⟨j,gB,hj,hj,h⟩
theorem OX{T:Prop}{rec:fP->fP->fP->fP->List fP->Option fW}
 {recS:fP->fP->Int->List fP->List fP->List fP->List fQ->Option fW} {a ac:fP} {f v:Int} {ps ts:List fP} {g:Bd} {out:List Bd} {m:Nat} (hm:m<4611686018427387904) (hl:ts.length<=60) (hg:g.length=24) (hv:v<0) (h24: -24<=v) (hfl:Ay ts<=60) {P:List Bd->Prop}
 (h:gG T (recS a ac f ps (kj false m ts ts.length) (gM g v (xU f (kj true m ts ts.length))) out) P):
 gG T (gK (pU rec recS a ac f ([v]::ps) ts g out m) ([],[],0)) fun r=>∃o,r=.inl (o,(m:Int)+1)/\P o:=by
 have hw:IntKind.i64.wrap ((m:Int)+1)=(m:Int)+1:=jE gB gB;refine gG.loop (fun q:List fP×List fP×Int=>∃j:Nat,j<=ts.length/\q=(kj true m ts j,kj false m ts j,(j:Int))) (fun q:List fP×List fP×Int=>ts.length-q.2.2.toNat) ⟨0,gB,rfl⟩ ?_;rintro⟨_,_,_⟩ ⟨j,h1,he⟩;cases he;simp only[pU];have l1:=zz (b:=true) (m:=m) (n:=j) (ts:=ts);have l2:=zz (b:=false) (m:=m) (n:=j) (ts:=ts);by_cases hj:j<ts.length
 ·rw[ah (by simpa using hj),Vs gB,ah gB,Ig hm gB,jE (n:=(j:Int)+1) gB gB];simp only[aq];have b1:=ux (b:=true) (m:=m) (n:=j) (ts:=ts);have b2:=ux (b:=false) (m:=m) (n:=j) (ts:=ts);cases hb:m.testBit j with
  |true=>
   rw[hb]at b1 b2;rw[ah (by rfl),ah gB,ah gB];refine .some ⟨⟨j+1,gB,?_⟩,by simp only[];omega⟩;rw[b1,b2];simp
  |false=>
   rw[hb]at b1 b2;rw[az (by decide),ah gB,ah gB];refine .some ⟨⟨j+1,gB,?_⟩,by simp only[];omega⟩;rw[b1,b2];simp
 ·obtain rfl:j=ts.length:=by omega
  rw[az (by simp)];refine gG.inr ?_;rw[ah (by simp only[ai];omega)];have hsub:=qh (b:=true) (m:=m) (ts:=ts);have hln:=hsub.length_le;have hsz:(kj true m ts ts.length).flatten.length<=Ay ts:=Bt hsub;rw[D2 gB,aa];simp only[bC,List.drop_one,List.tail_cons];rw[jE (n:=(-1:Int)-v) gB gB,show(-1:Int)-v=(((-1-v).toNat:Nat):Int) by omega,E3 hg gB,aa,hw];exact gG.bind h fun r hr=>.some ⟨r,rfl,hr⟩
theorem D8{a:fP}(ha:iJ a=true){f:Int}(h2:od a f=2)(h0:0<=f){t:fP}(hl:t.length<=60)(h:Wf a 1 t):ot a f t=some (parts a f t):=by
 unfold ot;rw[wo ha h2 h0 hl h,aa]
theorem C5{a ac:fP}{vals:List fP}(hE:Env a ac vals){g:Bd}(hg:GB a ac vals g){x:Int}(hx:x<0)(hn:gZ g x≠[]):(gZ g x).length<=60:=hE.short _ (hg.2.2 x hx hn)
theorem D6{a ac:fP}{vals:List fP}(hE:Env a ac vals){T:Prop}{rec:fP->fP->fP->fP->List fP->Option fW}{f:Int}(hf:f∈ac)(ho:yD a f):
 ∀(n:Nat){ps ts:List fP}{g:Bd}{out:List Bd},AI a ps->(∀p∈ps,p.headD 0≠f)->V4 ps->CC a ac f ts->Vy a ac vals f ts->GB a ac vals g->LB a ac vals out->(∀p∈ps,0<=p.headD 0->∀t∈ts,Fa a ac vals T rec p t)->
 gG (T/\ps.length+1<=n) (jy rec n a ac f ps ts g out) fun r=>LB a ac vals r/\∀x,x∈r<->x∈out\/RS a ac f ps ts g x
 |0,ps,ts,g,out,_,_,_,_,_,_,_,_=>⟨fun _ e=>by simp[jy]at e,fun e=>by omega⟩
 |n+1,ps,ts,g,out,hps,hpf,h4,ht,hV,hg,hout,hrec=>by
  have hac:=hE.hac;obtain⟨h0,h2⟩:=hac f hf;have hlen:ts.length<=60:=bN (CV fun t h=>(ht.1 t h).1) ht.2.2;have Kc:∀t∈ts,Small t:=fun t h=>rW (a:=a) (ac:=ac) (ht.mem h).2
  unfold jy
  match ps,hps,hpf,h4,hrec with
  |[],hps,hpf,h4,hrec=>
   rw[ah (by decide)];refine gG.ite (fun hc=>?_) fun hc=>?_
   ·have hts:ts=[]:=by
     have:ts.length=0:=by simpa using hc
     exact bZ this
    subst hts;refine gG.bind ((NS hE hout hg).weak fun _=>trivial) fun r hr=>.some ⟨hr.1,fun x=>?_⟩
    rw[hr.2 x,DS hac];simp
   ·refine .some ⟨hout,fun x=>?_⟩;rw[DS hac];have:ts≠[]:=fun e=>by rw[e]at hc;simp at hc
    simp[this]
  |p::ps,hps,hpf,h4,hrec=>
   rw[az (by simp only[ai,cN];omega)];refine gG.ite (fun hc=>?_) fun hc=>?_
   ·refine .some ⟨hout,fun x=>⟨.inl,fun h=>h.elim id fun h1=>?_⟩⟩;have:=OM hac hf (fun q hq=>hps.1 q hq) h1;simp only[ak]at hc;omega
   ·have hps':AI a ps:=hps.drop;have hpf':∀p∈ps,p.headD 0≠f:=fun q hq=>hpf q (by simp[hq])
    have hrec':∀ts':List fP,ts'.Sublist ts->∀q∈ps,0<=q.headD 0->∀t∈ts',Fa a ac vals T rec q t:=fun ts' hs q hq hh t ht=>hrec q (by simp[hq]) hh t (hs.subset ht)
    have step:∀ts':List fP,ts'.Sublist ts->∀g o,GB a ac vals g->LB a ac vals o->gG (T/\(p::ps).length+1<=n+1) (jy rec n a ac f ps ts' g o) fun r=>LB a ac vals r/\∀x,x∈r<->x∈o\/RS a ac f ps ts' g x:=fun ts' hs g o hg ho'=>
     (D6 hE hf ho n hps' hpf' h4.tail (ht.sub hs) (hV.sub hs) hg ho' (hrec' ts' hs)).weak fun t=>⟨t.1,by have:=t.2;simp only[ai]at this;omega⟩
    obtain⟨hw,hw60⟩:=hps.mem (p:=p) (by simp);have hh:=hpf p (by simp);obtain⟨y,r,rfl,hoy,hr⟩:=Wf.pos hw;rw[ah (by simp only[ai];omega)];simp only[bC];rw[ah (by simp only[ai];omega)];refine gG.ite (fun hc3=>?_) fun hc3=>?_
    ·have hy:0<=y:=by simpa using hc3
     have hyf:y≠f:=by simpa using hh
     have e:=Vg hac (f:=f) (y:=y) (r:=r) (ps:=ps) (ts:=ts) hg.1 hy hyf;refine(Hi (I:=LB a ac vals) (T:=T/\((y::r)::ps).length+1<=n+1) (n:=ts.length) (s:=0) gB (out:=out) (mk:=fun o=>o) (VP a ac f (y::r) ps ts g) (fun j o _ hj hlo hm=>?_) (fun o=>?_) hout).mono ?_
     ·have run:∀q:Bd->(List Bd×Int)->Option ((List Bd×Int)⊕((List Bd×Int)⊕List Bd)),True->gG (T/\((y::r)::ps).length+1<=n+1) ((rec a ac (y::r) (ts.getD j default) g).bind fun r_2=>gK (lG rec (jy rec n) a ac f ((y::r)::ps) ts (j:Int) r_2) (o,0)) fun r'=>∃o',r'=.inl (o',(j:Int)+1)/\LB a ac vals o'/\∀x,x∈o'<->x∈out\/∃i,0<=i/\i<j+1/\VP a ac f (y::r) ps ts g i x:=fun _ _=>by
       rw[gO hj];refine gG.bind ((hrec (y::r) (by simp) hy _ (aA hj) g hg).weak fun t=>t.1) fun R hR=>?_
       refine(OW hE hlen hj hR.1 hlo (step _ (eT _ _))).mono ?_;rintro _ ⟨o',rfl,k1,k2⟩;refine⟨o',rfl,k1,y_ gB hm fun x=>?_⟩;rw[k2 x];constructor
       ·rintro(h|⟨g',hg',h⟩)
        ·exact .inl h
        ·exact .inr ⟨hj,g',(hR.2 g').1 hg',h⟩
       ·rintro(h|⟨_,g',hg',h⟩)
        ·exact .inl h
        ·exact .inr ⟨g',(hR.2 g').2 hg',h⟩
      have run:=run (fun _ _=>none) trivial;simp only[pS,HA,bC];rw[ah (by simpa using hj)];refine gG.ite (fun hc=>?_) fun hc=>?_
      ·have hj0:0<j:=by simpa using hc
       rw[ah gB,jE (n:=(j:Int)-1) gB gB,ah gB,show((j:Int)-1).toNat=j-1 by omega,aq,lE (Kc _ (nY hj)),aa];refine gG.ite (fun hc2=>?_) fun hc2=>?_
       ·have he:ts[j]=ts[j-1]:=by
         have:ts.getD j default=ts.getD (j-1) default:=by simpa using hc2
         rwa [gO hj,gO (show j-1<ts.length by omega)]at this
        rw[jE (n:=(j:Int)+1) gB gB];exact .some ⟨o,rfl,hlo,N9 hm fun x hx=>⟨j-1,gB,gB,Rw hac gB (fun _=>he.symm) hx⟩⟩
       ·rw[ah gB];exact run
      ·rw[ah gB,aq];exact run
     ·simp only[pS];rw[az (by simp)];rfl
     ·rintro _ ⟨o,rfl,k1,k2⟩;exact⟨k1,fun x=>by rw[k2 x,e x]⟩
    ·have hy:y<0:=by
      have:¬0<=y:=by simpa using hc3
      omega
     have hz:od a y=0:=by unfold od;rw[ah hy]
     rw[bk,hz]at hr;have:=hr.zero;subst this;have hy24:=hoy.1;have hgl:=hg.1.1;have hget:g.getD (-1-y).toNat default=gZ g y:=rfl;rw[ah (by simp only[ai];omega),jE (n:=(-1:Int)-y) gB gB,ah gB,hget];refine gG.ite (fun hc5=>?_) fun hc5=>?_
     ·have he:gZ g y≠[]:=fun e=>by rw[e]at hc5;simp at hc5
      have hsf:=hg.1.2 y hy he;rw[ah gB,D8 hE.ha h2 h0 (C5 hE hg hy he) hsf.1,aa];have hpc:=(nK h2 h0 hsf.1).1;have hbl:=C5 hE hg hy he;refine gG.bind ((HK (l:=ts) (gone:=parts a f (gZ g y)) gB Kc gB).weak fun _=>trivial) ?_;rintro⟨rest,b⟩ (⟨rfl,k1,k2⟩|⟨rfl,k2⟩)
      ·simp only[aH];rw[ah (by simp only[ai];omega)];simp only at k1 k2;refine gG.bind (step rest k1 g out hg hout) fun r hr=>.some ⟨hr.1,fun x=>?_⟩
       rw[hr.2 x,FT hac hf hg.1 hy hy24 he];refine or_congr_right ⟨fun h=>⟨rest,k2,h⟩,fun⟨rest',k3,h⟩=>?_⟩;exact sy hac (.refl _) ((dN _).1 (k3.trans k2.symm)) h
      ·simp only[au,aG];refine .some ⟨hout,fun x=>⟨.inl,fun h=>h.elim id fun h1=>?_⟩⟩;obtain⟨rest,k3,_⟩:=(FT hac hf hg.1 hy hy24 he).1 h1;exact absurd k3 (k2 rest)
     ·have he:gZ g y=[]:=by
       have:¬0<((gZ g y).length:Int):=by simpa using hc5
       exact bZ gB
      have e:=UT hac hf ho (ps:=ps) (ts:=ts) hg.1 hy hy24 he ht.1 ht.2.1;have hp60:2^ts.length<=2^60:=fe gB hlen;have hp2:(2:Nat)^60=1152921504606846976:=by decide
      refine(Hi (I:=LB a ac vals) (T:=T/\([y]::ps).length+1<=n+1) (n:=2^ts.length) (s:=1) Nat.one_le_two_pow (out:=out) (mk:=fun o=>o) (YO a ac f y ps ts g) (fun j o hj1 hj hlo hm=>?_) (fun o=>?_) hout).mono ?_
      ·simp only[pT];rw[Vs hlen,ah gB,FV hlen,ah (by simp only[ak];omega)];obtain⟨s1,s2⟩:=CG hac hf ho ht.1 ht.2.1 gB hj;have hgb:GB a ac vals (gM g y (xU f (kj true j ts ts.length))):=⟨GY hg.1 hy hy24 s1,by
        have hb:∀m,m<0->gZ (gM g y (xU f (kj true j ts ts.length))) m=if m=y then xU f (kj true j ts ts.length)else gZ g m:=fun m hm=>qg hy gB hm
        refine⟨fun x hx=>?_,fun x hx hn=>?_⟩
        ·have:=h4 [y] (by simp) y (by simp);rw[hb x gB,az gB];exact hg.2.1 x hx
        ·rw[hb x hx]at hn⊢;split
         ·exact hV.2 _ (C9 gB hj) qh
         ·rename_i hne;rw[az hne]at hn;exact hg.2.2 x hx hn⟩
       refine(OX gB hlen hgl hy hy24 ht.2.2 (step _ qh _ o hgb hlo)).mono ?_;rintro _ ⟨o',rfl,k1,k2⟩;exact⟨o',rfl,k1,y_ gB hm k2⟩
      ·simp only[pT];rw[Vs hlen,ah gB,FV hlen,az (by simp)];rfl
      ·rintro _ ⟨o,rfl,k1,k2⟩;exact⟨k1,fun x=>by rw[k2 x,e x]⟩
theorem D7{a ac:fP}{vals:List fP}(hE:Env a ac vals){T:Prop}{rec:fP->fP->fP->fP->List fP->Option fW}{f:Int}(hf:f∈ac)(ho:yD a f){ps ts:List fP}{g:Bd}{out:List Bd}
 (hps:AI a ps) (hpf:∀p∈ps,p.headD 0≠f) (h4:V4 ps) (ht:CC a ac f ts) (hV:Vy a ac vals f ts) (hg:GB a ac vals g) (hout:LB a ac vals out) (hrec:∀p∈ps,0<=p.headD 0->∀t∈ts,Fa a ac vals T rec p t):
 gG T (rD rec a ac f ps ts g out) fun r=>LB a ac vals r/\∀x,x∈r<->x∈out\/RS a ac f ps ts g x:=
 gG.ZS (ps.length+1) fun n=>D6 hE hf ho n hps hpf h4 ht hV hg hout hrec
theorem Rv{a ac:fP}(hac:tA a ac){y:Int}{vs:List fP}(hf:y∉ac)(l2:vs.length=od a y)(w2:∀v∈vs,Wf a 1 v)(h:form a ac (y::vs.flatten)=y::vs.flatten):∀v∈vs,Sf a ac v:=by
 rw[q_ hac hf l2 w2]at h;have h6:vs.map (form a ac)=vs:=Dn (a:=a) (by rw[aM]) (fun u hu=>by
  obtain⟨w,hw,rfl⟩:=a_.1 hu;exact(ri hac (w2 w hw)).1) w2 (by simpa using h)
 intro v hv;rw[<-h6]at hv;obtain⟨w,hw,rfl⟩:=a_.1 hv;exact ri hac (w2 w hw)
theorem RU{a ac:fP}{vals:List fP}(hE:Env a ac vals){k:Nat}(hk:k<1000000000000){R out:List Bd}(hR:LB a ac vals R)(h0:LB a ac vals out):
 gG True (gK (oC (k:Int) R) (out,0)) fun r=>∃o,r=.inl (o,(k:Int)+1)/\LB a ac vals o/\∀x,x∈o<->x∈out\/x∈R:=by
 have hRl:=hR.len hE;refine(Hi (I:=LB a ac vals) (T:=True) (n:=R.length) (s:=0) gB (out:=out) (mk:=fun o=>.inl (o,(k:Int)+1)) (fun j x=>∃h:j<R.length,x=R[j]) (fun j o _ hj ho hm=>?_) (fun o=>?_) h0).mono ?_
 ·simp only[oC];rw[ah (by simpa using hj),ah gB,jE (n:=(j:Int)+1) gB gB];simp only[aq,gO hj];refine gG.bind (NS hE ho (hR.2 _ (aA hj))) fun r hr=>.some ⟨r,rfl,hr.1,y_ gB hm fun x=>?_⟩
  rw[hr.2 x];exact⟨fun h=>h.imp id fun h=>⟨hj,h⟩,fun h=>h.imp id fun⟨_,h⟩=>h⟩
 ·simp only[oC];rw[az (by simp),jE (n:=(k:Int)+1) gB gB];rfl
 ·rintro _ ⟨o,rfl,h1,h2⟩;refine⟨o,rfl,h1,fun x=>?_⟩;rw[h2 x];constructor
  ·rintro(h|⟨j,_,_,hj,rfl⟩)
   ·exact .inl h
   ·exact .inr (aA hj)
  ·rintro(h|h)
   ·exact .inl h
   ·obtain⟨j,hj,rfl⟩:=cn h;exact .inr ⟨j,gB,hj,hj,rfl⟩
theorem Ca{a ac:fP}{vals:List fP}(hE:Env a ac vals):∀(n:Nat){p t:fP},Wf a 1 p->p.length<=60->(∀x∈p, -4<=x)->Sf a ac t->t.length<=60->Pw a ac vals t->Fa a ac vals (p.length<=n) (me n) p t
 |0,p,t,hp,_,_,_,_,_=>fun g hg=>⟨fun _ e=>by simp[me]at e,fun e=>by have:=hp.len;omega⟩
 |n+1,p,t,hp,hpl,h4,ht,htl,hV=>by
  intro g hg;have hac:=hE.hac;have ha:=hE.ha;have hgl:=hg.1.1;obtain⟨y,r,rfl,hoy,hr⟩:=Wf.pos hp;rw[bk]at hr;have hlen:(y::r).length=r.length+1:=rfl;have hp0:(0:Nat)<=0/\(0:Int)<((y::r).length:Int):=by omega
  unfold me;rw[ah hp0];simp only[bC];refine gG.ite (fun hc=>?_) fun hc=>?_
  ·have hy:y<0:=by simpa using hc
   have hz:od a y=0:=by unfold od;rw[ah hy]
   rw[hz]at hr;have:=hr.zero;subst this;have hy24:=hoy.1;have hget:g.getD (-1-y).toNat default=gZ g y:=rfl;rw[ah hp0,jE (n:=(-1:Int)-y) gB gB,ah gB,hget];have hb:(-1:Int)-y=(((-1-y).toNat:Nat):Int):=by omega
   refine gG.ite (fun hc5=>?_) fun hc5=>?_
   ·have he:gZ g y=[]:=by
     have:(gZ g y).length=0:=by simpa using hc5
     exact bZ this
    have hgb:RM a ac [y] t g (gM g y t):=(xI hac hg.1 hy hy24 ht he).2 rfl;rw[hb,E3 hgl gB,aa,ah gB];refine .some ⟨LB.one (F1 hE hp h4 hV hg hgb),fun x=>?_⟩;rw[bh,xI hac hg.1 hy hy24 ht he];rfl
   ·have he:gZ g y≠[]:=fun e=>by rw[e]at hc5;simp at hc5
    have Kc:Small (gZ g y):=rW (a:=a) (ac:=ac) (C5 hE hg hy he);rw[ah gB,lE Kc,aa];refine gG.ite (fun hc6=>?_) fun hc6=>?_
    ·have e:gZ g y=t:=by simpa using hc6
     rw[ah gB];refine .some ⟨LB.one hg,fun x=>?_⟩;rw[bh,As hac hg.1 hy hy24 he];exact⟨fun h=>⟨e,h⟩,fun h=>h.2⟩
    ·have e:gZ g y≠t:=by simpa using hc6
     refine .some ⟨LB.nil,fun x=>?_⟩;rw[As hac hg.1 hy hy24 he];simp[e]
  ·have hy:0<=y:=by
    have:¬y<0:=by simpa using hc
    omega
   obtain⟨z,s,rfl,hoz,hsr⟩:=Wf.pos ht.1;rw[bk]at hsr;have ht0:(0:Nat)<=0/\(0:Int)<((z::s).length:Int):=by simp only[ai];omega
   rw[ah hp0,ah ht0];refine gG.ite (fun hc3=>?_) fun hc3=>?_
   ·have hne:y≠z:=by simpa using hc3
    refine .some ⟨LB.nil,fun x=>⟨fun h=>(by cases h),fun h3=>absurd (by have:=Kr hac hp hy h3;simpa using this.symm) hne⟩⟩
   ·have he:y=z:=by simpa using hc3
    subst he;rw[ah hp0,mX hE.hs,aa];refine gG.ite (fun hc4=>?_) fun hc4=>?_
    ·have hf:y∈ac:=by simpa using hc4
     obtain⟨k0,k2⟩:=hac y hf;obtain⟨s1,s2,s3,s4⟩:=qM hac hf ht;have hpo:=jD k2 k0 _ (ay _) hp;have hps:=zS k2 k0 hp rfl;have hts:=zS k2 k0 ht.1 rfl;have hlt:=(oE k2 k0 hp rfl).1;rw[ah hp0,ah hp0,wo ha k2 k0 hpl hp,aa,ah hp0,D8 ha k2 k0 htl ht.1,aa];have h4':V4 (parts a y (y::r)):=fun q hq x hx=>by
      by_cases hx0:x<0
      ·exact h4 x ((uF k2 k0 _ (ay _) hp x hx0).2 (cc.2 ⟨q,hq,hx⟩))
      ·omega
     have hVs:=hV.parts hf rfl;refine gG.bind (D7 hE (T:=(y::r).length<=n+1) hf hoy ⟨fun q hq=>(hpo.2.1 q hq).1,gB⟩ (fun q hq=>(hpo.2.1 q hq).2.1) h4' ⟨s1,s2,gB⟩ hVs hg LB.nil fun q hq hq0 t' ht' g' hg'=>?_) fun r' hr'=>.some ⟨hr'.1,fun x=>?_⟩
     ·have hq1:=hpo.2.1 q hq;have hq2:=hlt q hq;have hq3:=(CC.mem (a:=a) (ac:=ac) (f:=y) ⟨s1,s2,gB⟩ ht');exact(Ca hE n hq1.1 gB (h4' q hq) hq3.1 hq3.2 (hVs.1 t' ht') g' hg').weak fun e=>by omega
     ·rw[hr'.2 x,OJ hac hf hp ht rfl];simp
    ·have hf:y∉ac:=by simpa using hc4
     obtain⟨us,l1,rfl,w1⟩:=lP hr;obtain⟨vs,l2,rfl,w2⟩:=lP hsr;have h33:=yL ha y;have hsv:=Rv hac hf l2 w2 ht.2;have e1:=zU (r:=[]) (i:=0) ha hpl (by simp) hoy l1 w1;have e2:=zU (r:=[]) (i:=0) ha htl (by simp) hoz l2 w2;have hpl1:=rV us ((0:Int)+1);have hpl2:=rV vs ((0:Int)+1);rw[show((0:Nat):Int)=0 from rfl]at e1 e2;have hVs:=hV.args hf l2 w2;simp only[ai]at hpl htl;rw[ah gB];simp only[e1,e2,aa];refine gG.loop (fun q:List Bd×Int=>∃j:Nat,j<=us.length/\q.2=j/\LB a ac vals q.1/\∀x,x∈q.1<->RA a ac (us.take j) (vs.take j) g x) (fun q:List Bd×Int=>us.length-q.2.toNat)
      ⟨0,gB,rfl,LB.one hg,fun x=>by simp[Jm hac]⟩ ?_
     rintro⟨out,_⟩ ⟨j,h1,rfl,h2,h3⟩;simp only at h2 h3;simp only[tL];by_cases hj:j<us.length
     ·have hj2:j<vs.length:=by omega
      rw[ah (by simp only[ak,hpl1];omega)];have hd1:=qi (t:=y::us.flatten) (r:=[]) (x:=y) (i:=0) (by simp) hj;have hd2:=qi (t:=y::vs.flatten) (r:=[]) (x:=y) (i:=0) (by simp) hj2;have hg1:=tZ us ((0:Int)+1) j hj;have hg2:=tZ vs ((0:Int)+1) j hj2;have hw1:=w1 _ (aA hj);have hw2:=w2 _ (aA hj2);have hsub1:=mz ha (show Small (y::us.flatten) by show List.length _<_;simp only[ai];omega) hd1 hw1;have hsub2:=mz ha (show Small (y::vs.flatten) by show List.length _<_;simp only[ai];omega) hd2 hw2;have hle1:us[j].length<=us.flatten.length:=lD (aA hj);have hle2:vs[j].length<=vs.flatten.length:=lD (aA hj2);have hol:=h2.len hE;have h4j:∀x∈us[j], -4<=x:=fun x hx=>h4 x (dr _ (cc.2 ⟨_,aA hj,hx⟩))
      refine(Hi (I:=LB a ac vals) (T:=(y::us.flatten).length<=n+1) (n:=out.length) (s:=0) gB (out:=[]) (mk:=fun o=>.inl (o,(j:Int)+1)) (fun k x=>∃h:k<out.length,RM a ac us[j] vs[j] out[k] x) (fun k o _ hk ho hm=>?_) (fun o=>?_) LB.nil).mono ?_
      ·simp only[qq];rw[ah (by simpa using hk),ah (by rw[hpl1];omega)];simp only[aq];rw[hg1,show(0:Int)+1+((us.take j).flatten.length:Int)=((0+1+(us.take j).flatten.length:Nat):Int) by omega,hsub1,aa,ah (by rw[hpl2];omega),
        hg2,show(0:Int)+1+((vs.take j).flatten.length:Int)=((0+1+(vs.take j).flatten.length:Nat):Int) by omega,hsub2,aa,ah gB,gO hk]
       refine gG.bind ((Ca hE n hw1 gB h4j (hsv _ (aA hj2)) gB (hVs _ (aA hj2)) _ (h2.2 _ (aA hk))).weak fun e=>by simp only[ai]at e;omega) fun R hR=>?_
       refine((RU hE gB hR.1 ho).weak fun _=>trivial).mono ?_;rintro _ ⟨o',rfl,k1,k2⟩;refine⟨o',rfl,k1,y_ gB hm fun x=>?_⟩;rw[k2 x,hR.2 x];exact⟨fun h=>h.imp id fun h=>⟨hk,h⟩,fun h=>h.imp id fun⟨_,h⟩=>h⟩
      ·simp only[qq];rw[az (by simp),jE (n:=(j:Int)+1) gB gB];rfl
      ·rintro _ ⟨o,rfl,k1,k2⟩;refine⟨⟨j+1,gB,by simp,k1,fun x=>?_⟩,by simp only[];omega⟩;rw[aN hj,aN hj2,Rn hac hg.1,k2 x];constructor
       ·rintro(h|⟨k,_,_,hk,h⟩)
        ·cases h
        ·exact⟨_,(h3 _).1 (aA hk),h⟩
       ·rintro⟨g',h5,h6⟩;obtain⟨k,hk,rfl⟩:=cn ((h3 _).2 h5);exact .inr ⟨k,gB,hk,hk,h6⟩
     ·obtain rfl:j=us.length:=by omega
      rw[az (by simp only[ak,hpl1];omega)];refine gG.inr (.some ⟨h2,fun x=>?_⟩);rw[h3 x,bp,show us.length=vs.length by omega,bp,OK hac hf hy l1 w1 l2 w2]
theorem Ey{a ac:fP}{vals:List fP}(hE:Env a ac vals){p t:fP}(hp:Wf a 1 p)(hpl:p.length<=60)(h4:∀x∈p, -4<=x)(ht:Sf a ac t)(htl:t.length<=60)(hV:Pw a ac vals t){g:Bd}(hg:GB a ac vals g):
 gG True (pV a ac p t g) fun r=>LB a ac vals r/\∀x,x∈r<->RM a ac p t g x:=
 gG.lim p.length fun n=>Ca hE n hp hpl h4 ht htl hV g hg
def NC(a ac t:fP):Prop:=∀x r,Wf a 1 (x::r)->(x::r)<:+:t->x∈ac->(parts a x (x::r)).length<=6
theorem NC.sub{a ac t u:fP}(h:NC a ac t)(hu:u<:+:t):NC a ac u:=fun x r hw hi hx=>h x r hw (hi.trans hu) hx
theorem zh{a:fP}{f:Int}(h2:od a f=2)(h0:0<=f):∀(N:Nat){t:fP},t.length<=N->Wf a 1 t->∀v∈parts a f t,v<:+:t
 |0,t,hl,h=>by have:=h.len;omega
 |N+1,t,hl,h=>by
  intro w hw;obtain⟨x,r,rfl,ho,hr⟩:=Wf.pos h;by_cases hx:x=f
  ·subst hx;rw[bk,h2]at hr;obtain⟨us,h1,rfl,h3⟩:=lP hr;obtain⟨u,v,rfl⟩:=qN h1;have hu:=h3 u (by simp);have hv:=h3 v (by simp);simp only[aS,bW,bg,ai,aj]at hl hw⊢;rw[nZ h2 hu hv,aI]at hw;rcases hw with hw|hw
   ·exact(zh h2 h0 N gB hu w hw).trans ⟨[x],v,by simp⟩
   ·exact(zh h2 h0 N gB hv w hw).trans ⟨x::u,[],by simp⟩
  ·rw[lJ hx,bh]at hw;rw[hw];exact List.infix_refl _
theorem Om{a ac:fP}(hac:tA a ac):∀(N:Nat){t:fP},t.length<=N->Wf a 1 t->NC a ac t->Fw a ac (form a ac t)
 |0,t,hl,h,_=>by have:=h.len;omega
 |N+1,t,hl,h,hn=>by
  obtain⟨x,r,rfl,ho,hr⟩:=Wf.pos h;rw[bk]at hr;have hfo:=ku hac _ (ay _) h;obtain⟨y,s,e,_,_⟩:=Wf.pos hfo.1;have hy:y=x:=by
   have:=hfo.2.2;rw[e]at this;simpa using this
  subst hy;by_cases hx:y∈ac
  ·obtain⟨h0,h2⟩:=hac y hx;have hp:=uE hac hx h;have hpo:=(jD h2 h0 _ (ay _) h).2.1;have hlt:=(oE h2 h0 h rfl).1;rw[e]at hp⊢;refine .ac hx ?_ fun u hu=>?_
   ·rw[hp,pF,aM];exact hn y r h (List.infix_refl _) hx
   ·rw[hp]at hu;obtain⟨v,hv,rfl⟩:=a_.1 ((iO _).mem_iff.1 hu);have:=hlt v hv;exact Om hac N (by simp only[ai]at hl this;omega) (hpo v hv).1 (hn.sub (zh h2 h0 _ (ay _) h v hv))
  ·obtain⟨us,h1,rfl,hu⟩:=lP hr;rw[q_ hac hx h1 hu];have hw:∀u∈us.map (form a ac),Wf a 1 u:=fun u hv=>by
    obtain⟨w,hw,rfl⟩:=a_.1 hv;exact(ku hac _ (ay _) (hu w hw)).1
   refine .na hx fun u hv=>?_
   rw[<-h1,show us.length=(us.map (form a ac)).length by simp,ym hw]at hv;obtain⟨w,hw,rfl⟩:=a_.1 hv;have:=lD hw;refine Om hac N (by simp only[ai]at hl;omega) (hu w hw) (hn.sub ?_);obtain⟨p,q,hpq⟩:=List.append_of_mem hw;exact⟨y::p.flatten,q.flatten,by rw[hpq];simp⟩
def EG(a ac t:fP)(i:Nat):Bool:=decide (t.getD i default∈ac)&&decide (6<(parts a (t.getD i default) (IG a (t.drop i)).1).length)
def J4(a ac t:fP):Bool:=(List.range t.length).any (EG a ac t)
theorem Um{a ac t:fP}(hw:Wf a 1 t)(h:J4 a ac t=false):NC a ac t:=fun x r hx hi hac=>by
 obtain⟨p,q,e⟩:=hi;unfold J4 at h;have hlen:=aO List.length e;simp only[aj,ai]at hlen;have hd:t.drop p.length=(x::r)++q:=by rw[<-e,aL];exact ck
 have hg:t.getD p.length default=x:=by rw[<-e];simp[av]
 have:=fG.1 h p.length (by simp;omega);unfold EG at this;rw[hg,hd,AR hx]at this;simpa[hac]using this
theorem A6{a ac:fP}(hac:tA a ac)(hs:Small ac)(ha:iJ a=true){t:fP}(h:Wf a 1 t)(hl:t.length<=60):jv (a,ac) t=some (J4 a ac t):=by
 unfold jv;have hm:∀x∈t, -24<=x:=fun x hx=>(h.all x hx).1
 have key:=DM (xs:=List.range t.length) (p:=EG a ac t) (f:=k_ (a,ac) t) (y:=true) (n:=false) (fun i x hi hi2 hx he=>by
  rw[cu]at hi hi2;have:x=i:=by rw[<-he];simp[av,hi]
  subst this;obtain⟨p,u,q,e1,e2,e3⟩:=h.place hi;have hd:t.drop x=u++q:=by rw[<-e2];exact(aO (List.drop p.length) e1).trans ck
  obtain⟨y,r,hy,_⟩:=Wf.pos e3;have hg:t.getD x default=y:=by rw[e1,hy,<-e2];simp[av]
  have hul:u.length<=t.length:=by have:=aO List.length e1;simp only[aj]at this;omega
  simp only[k_];rw[ah (by simpa using hi),ah gB,aq,zL hs,aa,jE (n:=(x:Int)+1) gB gB];unfold EG;rw[hg,hd,AR e3];by_cases hyac:y∈ac
  ·obtain⟨h0,h2⟩:=hac y hyac;simp only[hyac,aW,bV,aH];rw[p_ ha (rW (a:=a) (ac:=ac) hl) hm hd e3,aa,tU ha h2 h0 e3 gB (by rw[hy];rfl),aa];by_cases h6:6<(parts a y u).length
   ·rw[ah (by simp only[ak];omega),ah (by simpa using h6)];rfl
   ·rw[az (by simp only[ak];omega),az (by simpa using h6)]
  ·simp[hyac]) (by
  rw[cu];simp only[k_];rw[az (by simp)];rfl)
 rw[key];congr 1;unfold J4;split<;>simp_all
theorem HJ{a ac:fP}(hac:tA a ac)(hs:Small ac)(ha:iJ a=true){t:fP}(h:Wf a 1 t)(hl:t.length<=60):nI a ac t=some (!J4 a ac t):=by
 unfold nI;have key:=DM (xs:=List.range t.length) (p:=EG a ac t) (f:=oW a ac t) (y:=false) (n:=true) (fun i x hi hi2 hx he=>by
  rw[cu]at hi hi2;have:x=i:=by rw[<-he];simp[av,hi]
  subst this;obtain⟨p,u,q,e1,e2,e3⟩:=h.place hi;have hd:t.drop x=u++q:=by rw[<-e2];exact(aO (List.drop p.length) e1).trans ck
  obtain⟨y,r,hy,_⟩:=Wf.pos e3;have hg:t.getD x default=y:=by rw[e1,hy,<-e2];simp[av]
  have hul:u.length<=t.length:=by have:=aO List.length e1;simp only[aj]at this;omega
  simp only[oW];rw[ah (by simpa using hi),ah gB,aq,mX hs,aa,jE (n:=(x:Int)+1) gB gB];unfold EG;rw[hg,hd,AR e3];by_cases hyac:y∈ac
  ·obtain⟨h0,h2⟩:=hac y hyac;simp only[hyac,aW,bV,aH];have hpp:kQ a y t (x:Int)=some (parts a y u):=gG.eq (gG.lim u.length fun n=>yu ha h2 h0 hl n hd e3);rw[ah gB,hpp,aa];by_cases h6:6<(parts a y u).length
   ·rw[ah (by simp only[ak];omega),ah (by simpa using h6)];rfl
   ·rw[az (by simp only[ak];omega),az (by simpa using h6)]
  ·simp[hyac]) (by
  rw[cu];simp only[oW];rw[az (by simp)];rfl)
 rw[key];congr 1;unfold J4;split<;>simp_all
def g0:Bd:=List.replicate 24 []
theorem Dv(x:Int):gZ g0 x=[]:=by
 unfold gZ g0;rw[av,dU];split<;>rfl
theorem YI{a ac:fP}{vals:List fP}:GB a ac vals g0:=⟨⟨by simp[g0],fun x _ h=>absurd (Dv x) h⟩,fun x _=>Dv x,fun x _ h=>absurd (Dv x) h⟩
def zu(a ac t:fP):List fP:=(PV a ac (form a ac t).length (form a ac t)).filter fun u=>decide (u.length<=60)
theorem Nu{a ac t:fP}(hac:tA a ac)(hs:Small ac)(ha:iJ a=true)(ht:Wf a 1 t)(hl:t.length<=60)(hn:NC a ac t):Env a ac (zu a ac t)/\Pw a ac (zu a ac t) (form a ac t):=by
 obtain⟨f1,f2,f3⟩:=ku hac _ (ay _) ht;refine⟨⟨hac,hs,ha,?_,fun u hu=>by simpa using(dG.1 hu).2⟩,fun u hv=>dG.2 ⟨F0 hac _ f1 (ay _) hv,?_⟩⟩
 ·have h1:=FZ hac _ f1 (ay _) (Om hac _ (ay _) ht hn);have h2:=eS (fun u:fP=>decide (u.length<=60)) (PV a ac (form a ac t).length (form a ac t));unfold zu;omega
 ·have:=Vp hac hv f1;simp only[ak];omega
def PL(o:Bd):Prop:=o.length=24/\∀u∈o,u.length<=60
theorem FO{a ac:fP}{vals:List fP}(hE:Env a ac vals){g:Bd}(h:GB a ac vals g):PL (yF g):=by
 refine⟨CQ,fun u hu=>?_⟩;unfold yF at hu;obtain⟨i,hi,rfl⟩:=a_.1 hu;split
 ·simp
 ·rename_i hn;have e:gZ g (-1-(i:Int))=g.getD i []:=by
   unfold gZ;rw[show(-1-(-1-(i:Int))).toNat=i by omega]
  have:=hE.short _ (h.2.2 (-1-(i:Int)) gB (by rw[e];exact hn));rwa [e]at this
theorem PL.gs{o:Bd}(h:PL o):GS o:=⟨h.1,fun u hu=>by have:=h.2 u hu;show u.length<1099511627776;omega⟩
theorem O4{g:Bd}(hg:g.length=24):qc g=some (yF g):=by
 unfold qc;refine gG.eq (gG.loop (fun q:List fP×Int=>∃j:Nat,j<=24/\q.2=j/\q.1=(yF g).take j) (fun q:List fP×Int=>24-q.2.toNat) ⟨0,gB,rfl,by simp⟩ ?_);rintro⟨_,_⟩ ⟨j,h1,rfl,rfl⟩;simp only[sG];by_cases hj:j<24
 ·have hp:j<(yF g).length:=by rw[CQ];exact hj
  have e:=CP (g:=g) hj;rw[gO hp]at e;rw[ah (by simp only[ak];omega),ah gB,jE (n:=(j:Int)+1) gB gB,jE (n:=(-1:Int)-(j:Int)) gB gB];simp only[aq];have hgd:g.getD j default=g.getD j []:=rfl;refine gG.ite (fun hc=>?_) fun hc=>?_
  ·have h0:g.getD j []=[]:=by
    have:(g.getD j default).length=0:=by simpa using hc
    exact bZ this
   rw[ah h0]at e;refine gG.need (by rw[aY];omega) (.some ⟨⟨j+1,gB,by simp,?_⟩,by simp only[];omega⟩);simp only[];rw[aN hp,e]
  ·have h0:g.getD j []≠[]:=fun h=>by rw[hgd,h]at hc;simp at hc
   rw[az h0]at e;rw[ah gB];refine gG.need (by rw[aY];omega) (.some ⟨⟨j+1,gB,by simp,?_⟩,by simp only[];omega⟩);simp only[];rw[aN hp,e,hgd]
 ·obtain rfl:j=24:=by omega
  rw[az (by simp only[ak];omega)];refine .some ?_;simp only[tC];rw[bO (by rw[CQ];omega)]
def KM(a ac p t:fP)(o:Bd):Prop:=∃g',RM a ac p (form a ac t) g0 g'/\o=yF g'
theorem P4{a ac p t:fP}(hac:tA a ac)(hs:Small ac)(ha:iJ a=true)(hp:Wf a 1 p)(hpl:p.length<=60)(h4:∀x∈p, -4<=x)(ht:Wf a 1 t)(hl:t.length<=60)(hn:NC a ac t):
 gG True (zx p (form a ac t) .rc a ac [] g0) fun r=>xq (KM a ac p t) [] r.1:=by
 obtain⟨hE,hV⟩:=Nu hac hs ha ht hl hn;obtain⟨f1,f2,f3⟩:=ku hac _ (ay _) ht;have hU:UOk (((Vm (zu a ac t)).map yF).filter fun o=>decide (o.length<=24/\∀u∈o,Small u)):=by
  refine⟨?_,fun g hg=>by simpa using(dG.1 hg).2⟩;refine bN (eS _ _) ?_;rw[aM];exact E7 hE.len
 refine gG.lim (3*p.length+1) fun n=>?_
 have h:=(Gj hac hs ha hU n).2 p (form a ac t) .rc hp hpl (ri hac ht) gB trivial g0 [] (YI (vals:=zu a ac t)).1 (fun u hu=>by
  have:u=[]:=by unfold g0 at hu;exact(dR.1 hu).2
  rw[this];show(0:Nat)<_;omega) List.nodup_nil (fun o h=>by cases h) (fun o ⟨g',h1,h2⟩=>by
  have hgb:=F1 hE hp h4 hV YI h1;have h2:o=yF g':=h2;have hpl:=FO hE hgb;rw[h2];refine dG.2 ⟨a_.2 ⟨g',NK hgb.1 hgb.2,rfl⟩,?_⟩;simp only[ak];exact⟨by have:=hpl.1;omega,hpl.gs.2⟩)
 exact(h.weak fun e=>e).mono fun r hr=>hr.2
theorem HI{l:List fP}(hl:l.length<=1000)(hs:∀u∈l,Small u):nT l=some l:=by
 unfold nT;refine gG.eq (gG.loop (fun q:List fP×Int=>∃j:Nat,j<=l.length/\q.2=j/\q.1=l.take j) (fun q:List fP×Int=>l.length-q.2.toNat) ⟨0,gB,rfl,by simp⟩ ?_);rintro⟨_,_⟩ ⟨j,h1,rfl,rfl⟩;simp only[qk];by_cases hj:j<l.length
 ·rw[ah (by simpa using hj),ah gB,jE (n:=(j:Int)+1) gB gB];simp only[aq,gO hj];rw[qU (hs _ (aA hj)),aa];refine gG.need (by rw[aY];omega) (.some ⟨⟨j+1,gB,by simp,?_⟩,by simp only[];omega⟩);simp only[];rw[aN hj]
 ·obtain rfl:j=l.length:=by omega
  rw[az (by simp)];refine .some ?_;simp only[tC];rw[bp]
def YS(x o:Bd):Prop:=o.length<=24/\∀k,o.getD k []=j_ x k
def BC(A O:List Bd):Prop:=O.length=A.length/\∀(i:Nat)(h:i<A.length)(h':i<O.length),YS A[i] O[i]
theorem E0{A O:List Bd}{j:Nat}{o:Bd}(hj:j<A.length)(h:BC (A.take j) O)(ho:YS A[j] o):BC (A.take (j+1)) (O++[o]):=by
 have hl:O.length=j:=by rw[h.1,aY];omega
 refine⟨by simp only[aj,aY,bG];omega,fun i h1 h2=>?_⟩;rw[aY]at h1;rw[eF];by_cases e:i=j
 ·subst e;rw[List.getElem_append_right gB];simpa[hl]using ho
 ·rw[List.getElem_append_left gB];have:=h.2 i (by rw[aY];omega) gB;rwa [eF]at this
theorem Lm{r:List Bd×Bd}{A:List Bd}(hA:A=ua r.1)(hl:A.length<=1000)(hP:∀x∈A,PL x):gG True (gK (lg r) ([],0)) fun q=>∃O,q=(O,true)/\BC A O:=by
 have hlen:r.1.length=A.length:=by rw[hA,zT]
 refine gG.loop (fun q:List Bd×Int=>∃j:Nat,j<=A.length/\q.2=j/\BC (A.take j) q.1) (fun q:List Bd×Int=>A.length-q.2.toNat) ⟨0,gB,rfl,by simp[BC]⟩ ?_;rintro⟨O,_⟩ ⟨j,h1,rfl,h2⟩;simp only at h2;have hOl:O.length=j:=by rw[h2.1,aY];omega
 simp only[lg];by_cases hj:j<A.length
 ·rw[ah (by simp only[ak];omega),ah gB,jE (n:=(j:Int)+1) gB gB,<-hA];simp only[aq,gO hj];have hp:=hP _ (aA hj);refine gG.bind (CB (by have:=hp.1;omega) hp.2) fun o ho=>gG.need gB (.some ⟨⟨j+1,gB,by simp,E0 hj h2 ho⟩,by simp only[];omega⟩)
 ·obtain rfl:j=A.length:=by omega
  rw[az (by simp only[ak];omega)];refine .some ⟨O,rfl,?_⟩;rwa [bp]at h2
theorem LZ{A:List Bd}(hl:A.length<=1000)(hP:∀x∈A,PL x):gG True (gK (oB A) ([],0)) fun q=>∃O,q=(O,true)/\BC A O:=by
 refine gG.loop (fun q:List Bd×Int=>∃j:Nat,j<=A.length/\q.2=j/\BC (A.take j) q.1) (fun q:List Bd×Int=>A.length-q.2.toNat) ⟨0,gB,rfl,by simp[BC]⟩ ?_;rintro⟨O,_⟩ ⟨j,h1,rfl,h2⟩;simp only at h2;have hOl:O.length=j:=by rw[h2.1,aY];omega
 simp only[oB];by_cases hj:j<A.length
 ·rw[ah (by simp only[ak];omega),ah gB,jE (n:=(j:Int)+1) gB gB];simp only[aq,gO hj];have hp:=hP _ (aA hj);unfold tI;rw[HI (by have:=hp.1;omega) hp.gs.2,aa,aa];refine gG.bind (wI (by have:=hp.1;omega) hp.2) fun o ho=>gG.need gB (.some ⟨⟨j+1,gB,by simp,E0 hj h2 ho⟩,by simp only[];omega⟩)
 ·obtain rfl:j=A.length:=by omega
  rw[az (by simp only[ak];omega)];refine .some ⟨O,rfl,?_⟩;rwa [bp]at h2
structure VE(a ac p t:fP)(A O1 O2:List Bd):Prop where
 Y0:A.length<=20
 srt:MB A
 mem:∀x,x∈A<->KM a ac p t x
 impl:iW (a,ac) p t=some (O1,true)
 spec:jY a ac p t=some (O2,true)
 o1:BC A O1
 o2:BC A O2
 gb:∀g',RM a ac p (form a ac t) g0 g'->GB a ac (zu a ac t) g'
 env:Env a ac (zu a ac t)
theorem P3{a ac p t:fP}(hac:tA a ac)(hs:Small ac)(ha:iJ a=true)(hp:Wf a 1 p)(hpl:p.length<=60)(h4:∀x∈p, -4<=x)(ht:Wf a 1 t)(hl:t.length<=60):
 (iW (a,ac) p t=some ([],false)/\jY a ac p t=some ([],false))\/∃A O1 O2,VE a ac p t A O1 O2:=by
 have e1:jv (a,ac) p=some (J4 a ac p):=A6 hac hs ha hp hpl;have e2:nI a ac p=some (!J4 a ac p):=HJ hac hs ha hp hpl;have e3:jv (a,ac) t=some (J4 a ac t):=A6 hac hs ha ht hl;have e4:nI a ac t=some (!J4 a ac t):=HJ hac hs ha ht hl;by_cases c1:J4 a ac p=true
 ·refine .inl ⟨?_,?_⟩
  ·unfold iW;rw[e1,c1];rfl
  ·unfold jY;rw[e2,c1];rfl
 have c1:J4 a ac p=false:=by simpa using c1
 by_cases c2:J4 a ac t=true
 ·refine .inl ⟨?_,?_⟩
  ·unfold iW;rw[e1,c1,e3,c2];rfl
  ·unfold jY;rw[e2,c1,e4,c2];rfl
 have c2:J4 a ac t=false:=by simpa using c2
 have hn:=Um ht c2;obtain⟨hE,hV⟩:=Nu hac hs ha ht hl hn;obtain⟨f1,f2,f3⟩:=ku hac _ (ay _) ht;obtain⟨r,hr,hR⟩:=(P4 hac hs ha hp hpl h4 ht hl hn).get;obtain⟨W,hW,hWL,hWm⟩:=(Ey hE hp hpl h4 (ri hac ht) gB hV (YI (a:=a) (ac:=ac))).get;have hgb:∀g',RM a ac p (form a ac t) g0 g'->GB a ac (zu a ac t) g':=fun g' h=>F1 hE hp h4 hV YI h
 have hWl:=hWL.len hE;have hWp:∀g∈W,PL (yF g):=fun g hg=>FO hE (hWL.2 g hg)
 have hrec:∀x,KM a ac p t x<->∃g∈W,x=yF g:=fun x=>⟨fun⟨g,h1,h2⟩=>⟨g,(hWm g).2 h1,h2⟩,fun⟨g,h1,h2⟩=>⟨g,(hWm g).1 h1,h2⟩⟩
 have hI:iW (a,ac) p t=(jt a ac r.1 r.2).bind fun r_4=>if r_4=true then some ([],false)else(zy r.1).bind fun u=>gK (lg r) ([],0):=by
  unfold iW;rw[e1,c1,e3,c2,aa,aa,az (by decide),az (by decide),mZ hac hs ha ht hl,aa];have:zx p (form a ac t) Kt.rc a ac [] (List.replicate 24 [])=some r:=hr;rw[this,aa]
 have hS:jY a ac p t=gK (mS W) ([],0):=by
  unfold jY;rw[e2,c1,e4,c2,aa,aa,ah (by decide),ah (by decide),rY hac hs ha ht hl,aa];have:pV a ac p (form a ac t) (List.replicate 24 [])=some W:=hW;rw[this,aa]
 have hdn:r.1.Nodup:=hR.nodup List.nodup_nil;have hdm:∀x∈r.1,KM a ac p t x:=by
  obtain⟨ext,e,q⟩:=hR.pre;rw[bw]at e;rw[e];exact q
 have key:gG True (gK (mS W) ([],0)) fun q=>∃A,MB A/\(∀x,x∈A<->KM a ac p t x)/\((20<A.length/\q=([],false))\/(A.length<=20/\∃O,q=(O,true)/\BC A O)):=by
  refine gG.loop (fun q:List Bd×Int=>∃j:Nat,j<=W.length/\q.2=j/\MB q.1/\∀x,x∈q.1<->∃g∈W.take j,x=yF g) (fun q:List Bd×Int=>W.length-q.2.toNat) ⟨0,gB,rfl,List.Pairwise.nil,by simp⟩ ?_;rintro⟨A,_⟩ ⟨j,h1,rfl,h2,h3⟩;simp only at h2 h3;have hAp:∀x∈A,PL x:=fun x hx=>by
   obtain⟨g,hg,rfl⟩:=(h3 x).1 hx;exact hWp g (bE hg)
  have hAl:A.length<=W.length:=by
   have:=zc (U:=W.map yF) (Cb h2) fun x hx=>by
    obtain⟨g,hg,rfl⟩:=(h3 x).1 hx;exact a_.2 ⟨g,bE hg,rfl⟩
   rwa [aM]at this
  simp only[mS];by_cases hj:j<W.length
  ·have hm:=aA hj;rw[ah (by simpa using hj),ah gB,jE (n:=(j:Int)+1) gB gB];simp only[aq,gO hj];rw[O4 (hWL.2 _ hm).1.1,aa];refine gG.bind (HH h2 (hWp _ hm).gs (fun x hx=>(hAp x hx).gs) gB) fun A' hA'=>.some ⟨⟨j+1,gB,by simp,hA'.1,fun x=>?_⟩,by simp only[];omega⟩
   rw[hA'.2 x,h3 x,aN hj];constructor
   ·rintro(h|⟨g,hg,h⟩)
    ·exact⟨W[j],cT _ (bh.2 rfl),h⟩
    ·exact⟨g,bz _ hg,h⟩
   ·rintro⟨g,hg,h⟩;rcases aI.1 hg with hg|hg
    ·exact .inr ⟨g,hg,h⟩
    ·rw[bh]at hg;rw[hg]at h;exact .inl h
  ·obtain rfl:j=W.length:=by omega
   rw[az (by simp)];rw[bp]at h3;refine gG.inr ?_;have h3':∀x,x∈A<->KM a ac p t x:=fun x=>by rw[h3 x,hrec x]
   refine gG.ite (fun hc=>?_) fun hc=>?_
   ·have h20:(20:Int)<A.length:=by simpa using hc
    exact .some ⟨A,h2,h3',.inl ⟨gB,rfl⟩⟩
   ·have h20:(A.length:Int)<=20:=by simpa using hc
    have h20:A.length<=20:=by omega
    exact(LZ gB hAp).mono fun q hq=>⟨A,h2,h3',.inr ⟨h20,hq⟩⟩
 obtain⟨q,hq,A,hA1,hA2,hA3⟩:=key.get;have hdl:r.1.length<=A.length:=zc hdn fun x hx=>(hA2 x).2 (hdm x hx)
 have hAp:∀x∈A,PL x:=fun x hx=>by
  obtain⟨g,hg,rfl⟩:=(hA2 x).1 hx;exact FO hE (hgb g hg)
 rw[BW,aa]at hI;by_cases h20:20<r.1.length
 ·left;rw[ah (by simpa using h20)]at hI;refine⟨hI,?_⟩;rw[hS,hq];rcases hA3 with⟨_,rfl⟩|⟨h5,_⟩
  ·rfl
  ·omega
 ·right;have hall:=hR.all gB;have hperm:r.1.Perm A:=(List.perm_ext_iff_of_nodup hdn (Cb hA1)).2 fun x=>⟨fun h=>(hA2 x).2 (hdm x h),fun h=>hall x ((hA2 x).1 h)⟩
  have hlen:=hperm.length_eq;rcases hA3 with⟨h5,_⟩|⟨h5,O2,rfl,hO2⟩
  ·omega
  have hsort:A=ua r.1:=DZ (hperm.symm.trans (Av _).symm) (hA1.imp fun h=>ey h) (Bo _);obtain⟨q1,hq1,O1,rfl,hO1⟩:=(Lm hsort gB hAp).get;rw[az (by simpa using h20)]at hI;have hF:zy r.1=some ():=by
   unfold zy;rw[ah];refine⟨gB,fun x hx=>?_⟩;have hp:=hAp x ((hA2 x).2 (hdm x hx));have:=hp.1;exact⟨gB,fun y hy=>by have:=hp.2 y hy;omega⟩
  rw[hF,aa,hq1]at hI;exact⟨A,O1,O2,⟨h5,hA1,hA2,hI,by rw[hS,hq],hO1,hO2,hgb,hE⟩⟩
def Ej(a ac:fP)(i:Nat):Bool:=decide (0<=ac.getD i default)&&decide (ac.getD i default<a.length)&&(i==0||decide (ac.getD (i-1) default<ac.getD i default))
def CY(a ac:fP)(i:Nat):Bool:=a.getD (ac.getD i default).toNat default==2
theorem AL{a ac:fP}{i:Nat}{v:Int}(hv:ac.getD i default=v):Ej a ac i=true<->0<=v/\v<a.length/\(i=0\/ac.getD (i-1) default<v):=by
 subst hv;unfold Ej;simp only[bF,ak,eR,cN,and_assoc]
theorem KN{a ac:fP}{i:Nat}{v:Int}(hv:ac.getD i default=v):CY a ac i=true<->a.getD v.toNat default=2:=by
 subst hv;unfold CY;simp only[cN]
theorem JI{a ac:fP}{i:Nat}{v:Int}(hv:ac.getD i default=v):(Ej a ac i&&CY a ac i)=true<->(0<=v/\v<a.length/\(i=0\/ac.getD (i-1) default<v))/\a.getD v.toNat default=2:=by rw[bF,AL hv,KN hv]
def uR(a ac:fP):Bool:=iJ a&&(List.range ac.length).all fun i=>Ej a ac i&&CY a ac i
theorem Ll{a ac:fP}(hl:ac.length<=1000):uI a ac=some (uR a ac):=by
 unfold uI uR;rw[vi,aa];cases ha:iJ a with
 |false=>rfl
 |true=>
  rw[ah rfl,bV];have key:=rR (xs:=List.range ac.length) (p:=fun i=>Ej a ac i&&CY a ac i) (f:=qv a ac) (fun i x hi hi2 hx he=>by
   rw[cu]at hi hi2;have:x=i:=by rw[<-he];simp[av,hi]
   subst this;simp only[qv];rw[ah (by simpa using hi),ah gB];simp only[aq];rw[jE (n:=(x:Int)+1) gB gB];obtain⟨v,hv⟩:∃v,ac.getD x default=v:=⟨_,rfl⟩;have hB:=JI (a:=a) hv;simp only[hv];by_cases h1:v<0
   ·rw[ah (by simpa using h1),az (by rw[hB];omega)];rfl
   ·rw[az (by simpa using h1)];by_cases h2:(a.length:Int)<=v
    ·rw[ah (by simpa using h2),az (by rw[hB];omega)];rfl
    ·rw[az (by simpa using h2),ah gB];by_cases h3:a.getD v.toNat default=2
     ·rw[az (by simp only[h3,dW];decide)];by_cases h4:0<x
      ·rw[ah (by simpa using h4),jE (n:=(x:Int)-1) gB gB,ah gB,show((x:Int)-1).toNat=x-1 by omega];by_cases h5:v<=ac.getD (x-1) default
       ·rw[ah (by simpa using h5),az (by rw[hB];omega)];rfl
       ·rw[az (by simpa using h5),ah (by rw[hB];omega)]
      ·rw[az (by simpa using h4),ah (by rw[hB];omega)]
     ·rw[ah (by simpa using h3),az (by rw[hB];exact fun h=>h3 h.2)];rfl) (by
   rw[cu];simp only[qv];rw[az (by simp)];rfl)
  exact key
theorem LY{a ac:fP}(hl:ac.length<=1000):uK a ac=some (uR a ac):=by
 unfold uK uR;rw[sj,aa];cases ha:iJ a with
 |false=>rfl
 |true=>
  have hal:=(ow.1 ha).2.1;rw[ah rfl,bV];have k1:rN ac (a.length:Int)=some ((List.range ac.length).all (Ej a ac)):=by
   unfold rN;refine rR (xs:=List.range ac.length) (p:=Ej a ac) (f:=oU ac a.length) (fun i x hi hi2 hx he=>?_) ?_
   ·rw[cu]at hi hi2;have:x=i:=by rw[<-he];simp[av,hi]
    subst this;simp only[oU];rw[ah (by simpa using hi),ah gB];simp only[aq];rw[jE (n:=(x:Int)+1) gB gB,jE (n:=(a.length:Int)-1) gB gB,oT,aa];obtain⟨v,hv⟩:∃v,ac.getD x default=v:=⟨_,rfl⟩;have hB:=AL (a:=a) hv;simp only[hv];by_cases h1:0<=v/\v<a.length
    ·rw[ah (by simp only[bF,ak];omega)];by_cases h4:0<x
     ·rw[ah (by simpa using h4),ah gB,jE (n:=(x:Int)-1) gB gB,ah gB,show((x:Int)-1).toNat=x-1 by omega];by_cases h5:v<=ac.getD (x-1) default
      ·rw[ah (by simpa using h5),az (by rw[hB];omega)];rfl
      ·rw[az (by simpa using h5),ah (by rw[hB];omega)]
     ·rw[az (by simpa using h4),ah (by rw[hB];omega)]
    ·rw[az (by simp only[bF,ak];omega),az (by rw[hB];omega)];rfl
   ·rw[cu];simp only[oU];rw[az (by simp)];rfl
  rw[k1,aa];cases hs:(List.range ac.length).all (Ej a ac)with
  |false=>
   rw[az (by decide)];congr 1;symm;rw[List.all_eq_false]at hs⊢;obtain⟨x,hx,h⟩:=hs;exact⟨x,hx,by simp[h]⟩
  |true=>
   rw[ah rfl];have hs:=cH.1 hs;have key:=rR (xs:=List.range ac.length) (p:=fun i=>Ej a ac i&&CY a ac i) (f:=qy a ac) (fun i x hi hi2 hx he=>by
    have hsx:=hs x hx;rw[cu]at hi hi2;have:x=i:=by rw[<-he];simp[av,hi]
    subst this;have hin:0<=ac.getD x default/\ac.getD x default<a.length:=by
     have:=(AL rfl).1 hsx;exact⟨this.1,this.2.1⟩
    have hB:=JI (a:=a) (ac:=ac) (i:=x) rfl;have hsx':=(AL rfl).1 hsx;simp only[qy];rw[ah (by simpa using hi),ah gB];simp only[aq];rw[jE (n:=(x:Int)+1) gB gB,ah hin];by_cases h3:a.getD (ac.getD x default).toNat default=2
    ·rw[az (by simp only[h3,dW];decide),ah (hB.2 ⟨hsx',h3⟩)]
    ·rw[ah (by simpa using h3),az (by rw[hB];exact fun h=>h3 h.2)];rfl) (by
    rw[cu];simp only[qy];rw[az (by simp)];rfl)
   exact key
theorem H_{a ac:fP}(h:uR a ac=true):iJ a=true/\tA a ac:=by
 unfold uR at h;rw[bF]at h;refine⟨h.1,fun f hf=>?_⟩;obtain⟨i,hi,rfl⟩:=cn hf;have:=cH.1 h.2 i (by simp[hi]);unfold Ej CY at this;rw[gO hi]at this;simp only[bF,ak,cN]at this;refine⟨this.1.1.1,?_⟩;have h9:¬ac[i]<0:=by omega
 unfold od;rw[az h9];have h2:=this.2;have:a.getD ac[i].toNat 0=2:=h2;rw[this];rfl
theorem yW{a ac t:fP}(hl:ac.length<=1000):qe a ac t=some (uR a ac&&lS a t):=by
 unfold qe;rw[Ll hl,aa];cases uR a ac with
 |false=>rfl
 |true=>rw[ah rfl,uj];rfl
theorem Aw{a ac t:fP}(hl:ac.length<=1000):mY a ac t=some (uR a ac&&lS a t):=by
 unfold mY;rw[LY hl,aa];cases uR a ac with
 |false=>rfl
 |true=>rw[ah rfl,qT];rfl
end Go.Proofs.YthdnkoejpdcnpaaGreat
