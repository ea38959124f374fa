/- A part of the proof about FnAcMatches (BQ, BR, BS, CA, CB, CC, CD, CE, CF, CG, CH, CI, CJ, CK, CL, CM). -/
import Derived.Test.YthdnkoejpdcnpaaGreatMae
import Derived.Test.YthdnkoejpdcnpaaGreatMai
set_option linter.all false
noncomputable section
namespace Go.Proofs.YthdnkoejpdcnpaaGreat
open Go kJ Tm
theorem Bk{ts:List fN}{n:Nat}:js true 0 ts n=[]:=by
 unfold js;simp
theorem Bj{m:Nat}:∀{ts:List fN},0<m->m<2^ts.length->js true m ts ts.length≠[]
 |[],h1,h2=>by simp at h2;omega
 |t::ts,h1,h2=>by
  rw[ai]at h2⊢;rw[Bi];by_cases hb:m.testBit 0=true
  ·rw[hb];simp
  ·have hb':m.testBit 0=false:=by simpa using hb
   rw[hb'];have:m%2=0:=by
    rw[dW]at hb';simp at hb';omega
   rw[Nat.pow_succ]at h2;have:=Bj (m:=m/2) (ts:=ts) gq gq;simpa using this
def Mk(a ac:fN)(f x:Int)(ps ts:List fN)(k:Kt)(g:Bd)(m:Nat)(o:Bd):Prop:=
 okB m ts ts.length/\∃g',RM a ac [x] (vK f (js true m ts ts.length)) g g'/\Out a ac (.s2 f ([x]::ps) (js false m ts ts.length) k) g' o
theorem AS{a ac:fN}(hac:tg a ac){f:Int}(hf:f∈ac)(ho:wD a f){ts:List fN}(ht:∀t∈ts,Sf a ac t/\t.headD 0≠f)(hs:ts.Pairwise fun a b=>kX a b<=0){m:Nat}(h1:0<m)(h2:m<2^ts.length):
 Sf a ac (vK f (js true m ts ts.length))/\parts a f (vK f (js true m ts ts.length))=js true m ts ts.length:=
 Su hac hf ho (Bj h1 h2) (hs.sublist oM) fun w hw=>ht w (oM.subset hw)
theorem JO{a ac:fN}(hac:tg a ac){f x:Int}(hf:f∈ac)(ho:wD a f){ps ts:List fN}{k:Kt}{g:Bd}(hg:yK a ac g)(hx:x<0)(h24: -24<=x)
 (ht:∀t∈ts,Sf a ac t/\t.headD 0≠f) (hs:ts.Pairwise fun a b=>kX a b<=0) (o:Bd):
 (∃m,0<m/\m<2^ts.length/\Mk a ac f x ps ts k g m o)<->∃g'',RS a ac f ([x]::ps) ts g g''/\Out a ac k g'' o:=by
 constructor
 ·rintro⟨m,h1,h2,hok,g',h3,g'',h4,h5⟩;refine⟨g'',?_,h5⟩;obtain⟨s1,s2⟩:=AS hac hf ho ht hs h1 h2;by_cases he:gK g x=[]
  ·rw[(vB hac hg hx h24 s1 he).1 h3]at h4;exact(B0 hac hf hg hx h24 he).2 ⟨_,s1,_,by rw[s2];exact uk,h4⟩
  ·obtain⟨e1,rfl⟩:=(yB hac hg hx h24 he).1 h3;exact(DV hac hf hg hx h24 he).2 ⟨_,by rw[e1,s2];exact uk,h4⟩
 ·rintro⟨g'',h1,h5⟩;have key:∀u rest g',Sf a ac u->(parts a f u++rest).Perm ts->RM a ac [x] u g g'->RS a ac f ps rest g' g''->∃m,0<m/\m<2^ts.length/\Mk a ac f x ps ts k g m o:=fun u rest g' hu hp hm hr=>by
   obtain⟨s1,s2,s3,s4⟩:=pM hac hf hu;have e:=mE (vr hp) (hs.sublist oM) s2;have hrest:rest.Perm (js false (p_ ts (parts a f u)) ts ts.length):=by
    have:=hp.trans (uk (m:=p_ ts (parts a f u)) (ts:=ts)).symm;rw[e]at this;exact(dJ _).1 this
   refine⟨p_ ts (parts a f u),Nat.pos_of_ne_zero fun h0=>?_,AX _ _,HR _ _,g',?_,g'',qA hac (.refl _) hrest hr,h5⟩
   ·rw[h0,Bk]at e;exact s3 e.symm
   ·rw[e,s4];exact hm
  by_cases he:gK g x=[]
  ·obtain⟨u,hu,rest,hp,hr⟩:=(B0 hac hf hg hx h24 he).1 h1;exact key u rest _ hu hp ((vB hac hg hx h24 hu he).2 rfl) hr
  ·obtain⟨rest,hp,hr⟩:=(DV hac hf hg hx h24 he).1 h1;exact key _ rest _ (hg.2 x hx he) hp ((yB hac hg hx h24 he).2 ⟨rfl,rfl⟩) hr
theorem DX{n:Nat}(h:n<=60):Fq .i64 1 (n:Int)=((2^n:Nat):Int):=by
 unfold Fq;have h1:2^n<=2^60:=e_ gq h;have h2:(2:Nat)^60=1152921504606846976:=by decide
 rw[aq,show min n IntKind.i64.bits=n from fK (by show n<=64;omega),Int.one_mul,show(2:Int)^n=((2^n:Nat):Int) by simp];generalize 2^n=q at *;rw[jS gq gq]
theorem Ev{f:Int}{S:List fN}:(vK f S).length<=S.length+S.flatten.length:=by
 cases S with
 |nil=>simp[vK]
 |cons u S=>have:=AU (f:=f) (us:=u::S) (by simp);omega
theorem A6{a ac:fN}{ts:List fN}(ht:∀t∈ts,Sf a ac t):ts.length<=yE ts:=by
 unfold yE;induction ts with
 |nil=>simp
 |cons t ts ih=>
  have h1:=(ht t (by simp)).1.len;have h2:=ih fun u hu=>ht u (by simp[hu])
  rw[aR,aj,ai];omega
theorem zI{S ts:List fN}(h:S.Sublist ts):yE S<=yE ts:=by
 unfold yE;induction h with
 |slnil=>exact au _
 |cons a h ih=>rw[aR,aj];omega
 |cons_cons a h ih=>rw[aR,aR,aj,aj];omega
theorem JX{a ac:fN}(hac:tg a ac){U:List Bd}{T:Prop}{recR:RT}{recM:MT}{k:Kt}{f x:Int}{ps ts:List fN}(hf:f∈ac)(ho:wD a f)(hx:x<0)(h24: -24<=x)
 (ht:∀t∈ts,Sf a ac t/\t.headD 0≠f) (hs:ts.Pairwise fun a b=>kX a b<=0) (hl:yE ts<=60)
 (hb:∀rest,rest.Sublist ts->wJ a ac U T recR (.s2 f ([x]::ps) rest k))
 {g:Bd} {fd:List Bd} (hg:yK a ac g) (hgs:∀u∈g,Small u) (hn:fd.Nodup) (hU:∀o∈fd,o∈U) (hQ:∀m o,0<m->m<2^ts.length->Mk a ac f x ps ts k g m o->o∈U):
 gz T (gF (kO recR recM f ([x]::ps) ts k a ac) (1,g,fd)) fun r=>r.2=g/\vn (fun o=>∃m,0<m/\m<2^ts.length/\Mk a ac f x ps ts k g m o) fd r.1:=by
 have hlen:ts.length<=60:=bN (A6 fun t h=>(ht t h).1) hl;have H8:∀t∈ts,Small t:=fun t h=>by
  have:=jG h;have:ts.flatten.length<=60:=hl;show t.length<1099511627776;omega
 have hp60:2^ts.length<=2^60:=e_ gq hlen;have hp1:1<=2^ts.length:=Nat.one_le_two_pow;refine gz.loop (fun q:Int×Bd×List Bd=>∃m:Nat,1<=m/\m<=2^ts.length/\q.1=m/\q.2.1=g/\vn (fun o=>∃i,0<i/\i<m/\Mk a ac f x ps ts k g i o) fd q.2.2) (fun q:Int×Bd×List Bd=>2^ts.length-q.1.toNat)
  ⟨1,gq,hp1,rfl,rfl,vn.ua fun o ⟨i,h1,h2,_⟩=>by omega⟩ ?_
 rintro⟨_,g2,fj⟩ ⟨m,h0,h1,rfl,e0,h2⟩;simp only at e0 h2;have e1:=e0.symm;clear e0;subst e1;simp only[kO];rw[ah gq,DX hlen];by_cases hj:m<2^ts.length
 ·have hm62:m<4611686018427387904:=by
   have:(2:Nat)^60=1152921504606846976:=by decide
   omega
  rw[ah (by simp only[az];omega)];refine gz.bind ((DE (ts:=ts) (m:=m) hm62 hlen H8).weak fun _=>trivial) ?_;have hw:IntKind.i64.wrap ((m:Int)+1)=((m+1:Nat):Int):=by
   have:(2:Nat)^60=1152921504606846976:=by decide
   rw[jS (n:=(m:Int)+1) gq gq];simp
  rintro r (⟨hok,rfl⟩|⟨hok,rfl⟩)
  ·simp only[aO];have hsub:=oM (b:=true) (m:=m) (ts:=ts);have hsz:=zI hsub;have hln:=hsub.length_le;have hbl:=Ev (f:=f) (S:=js true m ts ts.length);have hsz':(js true m ts ts.length).flatten.length<=yE ts:=hsz;rw[BI gq,aa];simp only[bB];rw[jS (n:=(-1:Int)-x) gq gq];have s1:=(AS hac hf ho ht hs h0 hj).1;refine gz.bind (CY hac (hb _ (oM (b:=false) (m:=m) (ts:=ts))) hx h24 s1 gq hg hgs (h2.nodup hn) (h2.mem hU fun o ⟨i,hi,him,h⟩=>hQ i o hi gq h) fun o ho=>hQ m o h0 hj ⟨hok,ho⟩) ?_;rintro⟨r1,r2⟩ ⟨e,hr⟩;simp only at e hr;rw[hw];refine .some ⟨⟨m+1,gq,gq,rfl,e,(h2.trans hr).iff fun o=>?_⟩,by simp only[aq];omega⟩;constructor
   ·rintro(⟨i,hi,him,h⟩|h)
    ·exact⟨i,hi,gq,h⟩
    ·exact⟨m,h0,gq,hok,h⟩
   ·rintro⟨i,hi,him,h⟩;by_cases e:i=m
    ·subst e;exact .inr h.2
    ·exact .inl ⟨i,hi,gq,h⟩
  ·simp only[av,aI];rw[hw];refine .some ⟨⟨m+1,gq,gq,rfl,rfl,h2.iff fun o=>?_⟩,by simp only[aq];omega⟩;constructor
   ·rintro⟨i,hi,him,h⟩;exact⟨i,hi,gq,h⟩
   ·rintro⟨i,hi,him,h⟩;by_cases e:i=m
    ·subst e;exact absurd h.1 hok
    ·exact⟨i,hi,gq,h⟩
 ·obtain rfl:m=2^ts.length:=by omega
  rw[ay (by simp)];refine .some ⟨rfl,h2.iff fun o=>?_⟩;exact⟨fun⟨i,h1,h2,h⟩=>⟨i,h1,h2,h⟩,fun⟨i,h1,h2,h⟩=>⟨i,h1,h2,h⟩⟩
theorem Ag{m0 m1:fN}{fd:List Bd}{l1:Bd}:iO m0 m1 fd l1=some (decide (20<fd.length)):=by
 unfold iO;congr 1;refine dH.2 ⟨fun h=>by omega,fun h=>by omega⟩
theorem E2{a ac:fN}(hac:tg a ac){U:List Bd}{T:Prop}{recR:RT}{recM:MT}{k:Kt}{f:Int}{ps ts:List fN}(hf:f∈ac)(ho:wD a f)(hps:∀p∈ps,Wf a 1 p/\p.headD 0≠f)
 (ht:AO a ac f ts) (hk:ps=[]->wJ a ac U T recR k)
 (hm:∀p ps',ps=p::ps'->0<=p.headD 0->∀(j:Nat)(h:j<ts.length),yO a ac U T recM p ts[j] (.s1 f (p::ps') ts (j:Nat) k))
 (hb:∀p ps',ps=p::ps'->p.headD 0<0->∀rest,rest.Sublist ts->wJ a ac U T recR (.s2 f (p::ps') rest k))
 {g:Bd} {fd:List Bd} (hg:yK a ac g) (hgs:∀u∈g,Small u) (hn:fd.Nodup) (hU:∀o∈fd,o∈U) (hQ:∀o,(∃g',RS a ac f ps ts g g'/\Out a ac k g' o)->o∈U):
 gz T (iB recR recM f ps ts k a ac fd g) fun r=>r.2=g/\vn (fun o=>∃g',RS a ac f ps ts g g'/\Out a ac k g' o) fd r.1:=by
 obtain⟨ht1,ht2,ht3⟩:=ht;unfold iB
 match ps,hps,hk,hm,hb,hQ with
 |[],hps,hk,hm,hb,hQ=>
  rw[ah (by decide)];refine gz.ite (fun hc=>?_) fun hc=>?_
  ·have hts:ts=[]:=by
    have:ts.length=0:=by simpa using hc
    exact bV this
   subst hts;have hQ':∀o,Out a ac k g o<->∃g',RS a ac f [] [] g g'/\Out a ac k g' o:=fun o=>
    ⟨fun h=>⟨g,(BZ hac).2 ⟨rfl,rfl⟩,h⟩,fun⟨g',h1,h2⟩=>by rw[<-((BZ hac).1 h1).2];exact h2⟩
   refine gz.bind (hk rfl g fd hg hgs hn hU fun o ho=>hQ o ((hQ' o).1 ho)) ?_;rintro⟨r1,r2⟩ ⟨e,hr⟩;exact .some ⟨e,hr.iff hQ'⟩
  ·refine .some ⟨rfl,vn.ua fun o ⟨g',h1,_⟩=>?_⟩;rw[((BZ hac).1 h1).1]at hc;simp at hc
 |p::ps,hps,hk,hm,hb,hQ=>
  rw[ay (by simp only[ai,dF];omega)];refine gz.ite (fun hc=>?_) fun hc=>?_
  ·refine .some ⟨rfl,vn.ua fun o ⟨g',h1,_⟩=>?_⟩;have:=Mr hac hf (fun q hq=>(hps q hq).1) h1;simp only[az]at hc;omega
  ·rw[Ag,aa];refine gz.ite (fun hc2=>?_) fun hc2=>?_
   ·exact .some ⟨rfl,vn.C6 (by simpa using hc2)⟩
   ·obtain⟨hw,hh⟩:=hps p (by simp);obtain⟨y,r,rfl,hoy,hr⟩:=Wf.pos hw;rw[ah (by simp only[ai];omega)];simp only[bB];rw[ah (by simp only[ai];omega)];refine gz.ite (fun hc3=>?_) fun hc3=>?_
    ·have hy:0<=y:=by simpa using hc3
     have hyf:y≠f:=by simpa using hh
     have H8:∀t∈ts,Small t:=fun t h=>by
      have:=jG h;have:ts.flatten.length<=60:=ht3;show t.length<1099511627776;omega
     have hlen:=A6 fun t h=>(ht1 t h).1
     have e:=DW hac (r:=r) (ps:=ps) (ts:=ts) (k:=k) hg hy hyf;refine(JW hac gq H8 (hm _ _ rfl hy) hg hgs hn hU fun i o ho=>hQ o ((e o).1 ⟨i,ho⟩)).mono fun r hr=>⟨hr.1,hr.2.iff e⟩
    ·have hy:y<0:=by
      have:¬0<=y:=by simpa using hc3
      omega
     have:mV a y=0:=by unfold mV;rw[ah hy]
     rw[aX,this]at hr;have:=hr.zero;subst this;have e:=JO hac hf ho (ps:=ps) (k:=k) hg hy hoy.1 ht1 ht2;refine(JX hac hf ho hy hoy.1 ht1 ht2 ht3 (hb _ _ rfl hy) hg hgs hn hU fun m o h1 h2 h3=>hQ o ((e o).1 ⟨m,h1,h2,h3⟩)).mono fun r hr=>⟨hr.1,hr.2.iff e⟩
theorem DD{a ac:fN}(hac:tg a ac)(ha:iz a=true){f:Int}(hf:f∈ac){t:fN}(h:Wf a 1 t)(hl:t.length<=60)(hs:Small ac)(hh:t.headD 0=f):
 lg (a,ac) t=some (jt ((parts a f t).map (form a ac))):=by
 refine gz.eq ?_;obtain⟨h0,h2⟩:=hac f hf;obtain⟨c1,c2⟩:=mD h2 h0 h;have hpo:=(iX h2 h0 _ (au _) h).2.1;unfold lg k_;rw[rP ha h2 h0 h hl hh,aa];refine gz.bind (P:=(·=jt ((parts a f t).map (form a ac)))) ?_ fun _ e=>.some e
 generalize hus:parts a f t=us at *;refine gz.loop (fun q:Int×List fN=>∃j:Nat,j<=us.length/\q.1=j/\q.2=(us.take j).map (form a ac)) (fun q:Int×List fN=>us.length-q.1.toNat) ⟨0,gq,rfl,by simp⟩ ?_;rintro⟨_,_⟩ ⟨j,h3,rfl,rfl⟩;simp only[lP];by_cases hj:j<us.length
 ·rw[ah (by simpa using hj),ah gq];simp only[aq,gH hj];have hu:=hpo _ (aC hj);rw[wq hac hs ha hu.1 gq,aa];refine gz.need (by rw[aK,aW];omega) (.some ⟨⟨j+1,gq,jS gq gq,?_⟩,?_⟩)
  ·simp only[];rw[aJ hj,aS];rfl
  ·simp only[];rw[jS (n:=(j:Int)+1) gq gq];omega
 ·obtain rfl:j=us.length:=by omega
  rw[ay (by simp),bh,A7 (by rw[aK];omega) (fun x hx=>by
   obtain⟨w,hw,rfl⟩:=aY.1 hx;have:=hpo w hw;rw[(jR hac _ (au _) this.1).2.1];omega)]
  exact .some rfl
theorem wJ.weak{a ac:fN}{U:List Bd}{T T':Prop}{recR:RT}{k:Kt}(h:wJ a ac U T recR k)(ht:T'->T):wJ a ac U T' recR k:=fun g fd h1 h2 h3 h4 h5=>(h g fd h1 h2 h3 h4 h5).weak ht
theorem yO.weak{a ac:fN}{U:List Bd}{T T':Prop}{recM:MT}{p t:fN}{k:Kt}(h:yO a ac U T recM p t k)(ht:T'->T):yO a ac U T' recM p t k:=fun g fd h1 h2 h3 h4 h5=>(h g fd h1 h2 h3 h4 h5).weak ht
theorem yN.drop{a:fN}{ps:List fN}(h:yN a ps):yN a (ps.drop 1):=⟨fun p hp=>h.1 p (dY _ _ hp),bN (zI (eE _ _)) h.2⟩
theorem yN.mem{a:fN}{ps:List fN}(h:yN a ps){p:fN}(hp:p∈ps):Wf a 1 p/\p.length<=60:=⟨h.1 p hp,by
 have:=jG hp;have h2:ps.flatten.length<=60:=h.2;omega⟩
theorem AO.sub{a ac:fN}{f:Int}{ts ts':List fN}(h:AO a ac f ts)(hs:ts'.Sublist ts):AO a ac f ts':=⟨fun t ht=>h.1 t (hs.subset ht),h.2.1.sublist hs,bN (zI hs) h.2.2⟩
theorem AO.mem{a ac:fN}{f:Int}{ts:List fN}(h:AO a ac f ts){t:fN}(ht:t∈ts):Sf a ac t/\t.length<=60:=⟨(h.1 t ht).1,by
 have:=jG ht;have h2:ts.flatten.length<=60:=h.2.2;omega⟩
theorem zH{p:fN}{ps:List fN}:yE (p::ps)=p.length+yE ps:=by unfold yE;rw[aR,aj]
theorem MN{ps qs:List fN}(h:ps.Perm qs):yE ps=yE qs:=h.flatten.length_eq
theorem OX{a ac:fN}{fd:List Bd}{g:Bd}:vn (Out a ac .rc g) fd (if vg g∈fd then fd else fd++[vg g]):=by
 split
 ·rename_i h;refine⟨⟨[],by simp,fun o ho=>by cases ho⟩,id,fun _ o ho=>?_⟩;have:o=vg g:=ho;rw[this];exact h
 ·rename_i h;refine⟨⟨[vg g],rfl,fun o ho=>?_⟩,fun hn=>?_,fun _ o ho=>?_⟩
  ·have:o=vg g:=by simpa using ho
   exact this
  ·rw[dA];exact⟨hn,by simp,fun x hx y hy e=>h (by rw[<-(by simpa using hy:y=vg g),<-e];exact hx)⟩
  ·have:o=vg g:=ho;rw[this];simp
theorem xz{a ac:fN}(hac:tg a ac){U:List Bd}{n:Nat}{T:Prop}{recR:RT}{recM:MT}(h1:∀k,Kp a ac k->wJ a ac U (wK k+1<=n) recR k)
 (h2:∀p t k,Wf a 1 p->p.length<=60->Sf a ac t->t.length<=60->Kp a ac k->yO a ac U (3*p.length+wK k<=n) recM p t k) {k:Kt} (hk:Kp a ac k) {f:Int} {ps ts:List fN} (hf:f∈ac) (ho:wD a f) (hps:yN a ps) (hpf:∀p∈ps,p.headD 0≠f)
 (ht:AO a ac f ts) (hT:T->3*yE ps+wK k+1<=n)
 {g:Bd} {fd:List Bd} (hg:yK a ac g) (hgs:∀u∈g,Small u) (hn:fd.Nodup) (hU:∀o∈fd,o∈U) (hQ:∀o,(∃g',RS a ac f ps ts g g'/\Out a ac k g' o)->o∈U):
 gz T (iB recR recM f ps ts k a ac fd g) fun r=>r.2=g/\vn (fun o=>∃g',RS a ac f ps ts g g'/\Out a ac k g' o) fd r.1:=by
 refine E2 hac hf ho (fun p hp=>⟨hps.1 p hp,hpf p hp⟩) ht (fun e=>(h1 k hk).weak fun t=>by have:=hT t;omega) (fun p ps' e hp j hj=>?_) (fun p ps' e hp rest hr=>?_) hg hgs hn hU hQ
 ·subst e;refine(h2 p ts[j] (.s1 f (p::ps') ts (j:Nat) k) (hps.mem (by simp)).1 (hps.mem (by simp)).2 (ht.mem (aC hj)).1 (ht.mem (aC hj)).2 ⟨hf,ho,hps,hpf,ht,by simp,gq,gq,hk⟩).weak fun t=>?_
  have:=hT t;rw[zH]at this;show 3*p.length+(1+3*yE ps'+wK k)<=n;omega
 ·subst e;refine(h1 (.s2 f (p::ps') rest k) ⟨hf,ho,hps,hpf,ht.sub hr,by simp,hk⟩).weak fun t=>?_
  have:=hT t;have:=(hps.mem (p:=p) (by simp)).1.len;rw[zH]at *;show 1+3*yE ps'+wK k+1<=n;omega
theorem En{a ac:fN}(hac:tg a ac){U:List Bd}{n:Nat}{T:Prop}{recR:RT}{recM:MT}(h1:∀k,Kp a ac k->wJ a ac U (wK k+1<=n) recR k)
 (h2:∀p t k,Wf a 1 p->p.length<=60->Sf a ac t->t.length<=60->Kp a ac k->yO a ac U (3*p.length+wK k<=n) recM p t k) {k:Kt} (hk:Kp a ac k) {ps ts:List fN} (hps:yN a ps)
 (ht:∀t∈ts,Sf a ac t) (hts:yE ts<=60) (hl:ps.length=ts.length) (hT:T->3*yE ps+wK k+1<=n)
 {g:Bd} {fd:List Bd} (hg:yK a ac g) (hgs:∀u∈g,Small u) (hn:fd.Nodup) (hU:∀o∈fd,o∈U) (hQ:∀o,(∃g',RA a ac ps ts g g'/\Out a ac k g' o)->o∈U):
 gz T (jv recR recM ps ts k a ac fd g) fun r=>r.2=g/\vn (fun o=>∃g',RA a ac ps ts g g'/\Out a ac k g' o) fd r.1:=by
 refine Lt hac hl (fun e=>(h1 k hk).weak fun t=>by have:=hT t;omega) (fun hp=>?_) hg hgs hn hU hQ
 match ps,ts,hl,hps,ht,hts with
 |p::ps,t::ts,hl,hps,ht,hts=>
  have hlt:t.length<=60:=by rw[zH]at hts;omega
  refine(h2 p t (.al (p::ps) (t::ts) k) (hps.mem (by simp)).1 (hps.mem (by simp)).2 (ht t (by simp)) hlt ⟨hps,ht,hts,hl,by simp,hk⟩).weak fun t=>?_
  have:=hT t;rw[zH]at this;show 3*p.length+(1+3*yE ps+wK k)<=n;omega
theorem B6{a ac t:fN}(h:t.length<=60):Small t:=by show t.length<1099511627776;omega
theorem xV{a:fN}{f:Int}(h2:mV a f=2)(h0:0<=f){t:fN}(h:Wf a 1 t)(hh:t.headD 0=f):yE (parts a f t)+1<=t.length:=by
 have h3:=(iX h2 h0 _ (au _) h).2.2;have h4:=(nE h2 h0 h hh).2;unfold yE;omega
theorem Ej{a ac:fN}(hac:tg a ac)(hs:Small ac)(ha:iz a=true){U:List Bd}(hU0:W0 U):∀n:Nat,(∀k,Kp a ac k->wJ a ac U (wK k+1<=n) (mU n).1 k)/\
 (∀p t k,Wf a 1 p->p.length<=60->Sf a ac t->t.length<=60->Kp a ac k->yO a ac U (3*p.length+wK k<=n) (mU n).2 p t k)
 |0=>⟨fun k hk g fd _ _ _ _ _=>⟨fun a h=>(by cases h),fun h=>absurd h gq⟩,fun p t k hp _ _ _ _ g fd _ _ _ _ _=>⟨fun a h=>(by cases h),fun h=>(by have:=hp.len;omega)⟩⟩
 |n+1=>by
  obtain⟨h1,h2⟩:=Ej hac hs ha hU0 n;refine⟨fun k hk g fd hg hgs hn hU hQ=>?_,fun p t k hp hpl ht htl hk g fd hg hgs hn hU hQ=>?_⟩
  ·match k,hk,hQ with
   |.rc,hk,hQ=>
    show gz _ ((iV a ac fd g).map fun r=>(r,g)) _;rw[E1 hg.1 (bN (xd hn hU) hU0.len) fun o ho=>hU0.small o (hU o ho)];exact .some ⟨rfl,OX⟩
   |.al ps ts k,⟨k1,k2,k3,k4,k5,k6⟩,hQ=>
    show gz _ (kL (mU n).1 (mU n).2 ps ts k a ac fd g) _;unfold kL;rw[ah gq,ah gq];refine gz.bind (P:=fun r=>r.2=g/\vn (fun o=>∃g',RA a ac (ps.drop 1) (ts.drop 1) g g'/\Out a ac k g' o) fd r.1) (En hac h1 h2 k6 k1.drop (fun t ht=>k2 t (dY _ _ ht)) (bN (zI (eE _ _)) k3) (by simp[k4]) (fun t=>?_) hg hgs hn hU hQ) fun r hr=>.some hr
    have t:1+3*yE (ps.drop 1)+wK k+1<=n+1:=t;omega
   |.s1 f ps ts j k,⟨k1,k2,k3,k4,k5,k6,k7,k8,k9⟩,hQ=>
    show gz _ (jJ (mU n).1 (mU n).2 f ps ts j k a ac fd g) _;have hlen:ts.length<=60:=bN (A6 fun t h=>(k5.1 t h).1) k5.2.2;unfold jJ;rw[ah gq,ah gq,jS (n:=j+1) gq gq,ah gq,show(j+1).toNat=j.toNat+1 by omega,E0 (by rw[aW];omega) (by rw[bK];omega),aa,<-dS];refine gz.bind (P:=fun r=>r.2=g/\vn (fun o=>∃g',RS a ac f (ps.drop 1) (ts.eraseIdx j.toNat) g g'/\Out a ac k g' o) fd r.1) (xz hac h1 h2 k9 k1 k2 k3.drop (fun p hp=>k4 p (dY _ _ hp)) (k5.sub (eR _ _)) (fun t=>?_) hg hgs hn hU hQ) fun r hr=>.some hr
    have t:1+3*yE (ps.drop 1)+wK k+1<=n+1:=t;omega
   |.s2 f ps ts k,⟨k1,k2,k3,k4,k5,k6,k9⟩,hQ=>
    show gz _ (jK (mU n).1 (mU n).2 f ps ts k a ac fd g) _;unfold jK;rw[ah gq];refine gz.bind (P:=fun r=>r.2=g/\vn (fun o=>∃g',RS a ac f (ps.drop 1) ts g g'/\Out a ac k g' o) fd r.1) (xz hac h1 h2 k9 k1 k2 k3.drop (fun p hp=>k4 p (dY _ _ hp)) k5 (fun t=>?_) hg hgs hn hU hQ) fun r hr=>.some hr
    have t:1+3*yE (ps.drop 1)+wK k+1<=n+1:=t;omega
  ·show gz _ (kM (mU n).1 (mU n).2 p t k a ac fd g) _;unfold kM;rw[Ag,aa];refine gz.ite (fun hc2=>.some ⟨rfl,vn.C6 (by simpa using hc2)⟩) fun hc2=>?_
   obtain⟨y,r,rfl,hoy,hr⟩:=Wf.pos hp;rw[aX]at hr;rw[ah (by simp only[ai];omega)];simp only[bB];have hlen:(y::r).length=r.length+1:=rfl;refine gz.ite (fun hc=>?_) fun hc=>?_
   ·have hy:y<0:=by simpa using hc
    have:mV a y=0:=by unfold mV;rw[ah hy]
    rw[this]at hr;have:=hr.zero;subst this;have hy2:=hoy.1;rw[jS (n:=(-1:Int)-y) gq gq];exact gz.bind (CY hac ((h1 k hk).weak fun t=>by simp only[ai,bG]at t;omega) hy hoy.1 ht gq hg hgs hn hU hQ) fun r hr=>.some hr
   ·have hy:0<=y:=by
     have:¬y<0:=by simpa using hc
     omega
    obtain⟨z,s,rfl,hoz,hsr⟩:=Wf.pos ht.1;rw[aX]at hsr;rw[ah (by simp only[ai];omega)];refine gz.ite (fun hc3=>?_) fun hc3=>?_
    ·have hne:y≠z:=by simpa using hc3
     exact .some ⟨rfl,vn.ua fun o ⟨g',h3,_⟩=>hne (by have:=Im hac hp hy h3;simpa using this.symm)⟩
    ·have he:y=z:=by simpa using hc3
     subst he;rw[Ah hs,aa];refine gz.ite (fun hc4=>?_) fun hc4=>?_
     ·have hf:y∈ac:=by simpa using hc4
      obtain⟨k0,k2⟩:=hac y hf;obtain⟨s1,s2,s3,s4⟩:=pM hac hf ht;rw[rP ha k2 k0 hp hpl rfl,aa];have hpo:=(iX k2 k0 _ (au _) hp);have hps:=xV k2 k0 hp rfl;have hts:=xV k2 k0 ht.1 rfl;have hpc:=(mD k2 k0 hp).1;refine gz.bind ((DF (ps:=parts a y (y::r)) gq fun q hq=>(hpo.2.1 q hq).1.len).weak fun _=>trivial) fun qs hq=>?_
      rw[DD hac ha hf ht.1 htl hs rfl,aa,sY fun w hw=>(s1 w hw).1.2,yD s2];have hmem:∀q∈qs,Wf a 1 q/\q.headD 0≠y:=fun q hqm=>⟨(hpo.2.1 q (hq.mem_iff.1 hqm)).1,(hpo.2.1 q (hq.mem_iff.1 hqm)).2.1⟩
      have e:∀o,(∃g',RS a ac y qs (parts a y (y::s)) g g'/\Out a ac k g' o)<->∃g',RM a ac (y::r) (y::s) g g'/\Out a ac k g' o:=fun o=>by
       constructor
       ·rintro⟨g',h3,h4⟩;exact⟨g',(Mn hac hf hp ht rfl).2 (qA hac hq (.refl _) h3),h4⟩
       ·rintro⟨g',h3,h4⟩;exact⟨g',qA hac hq.symm (.refl _) ((Mn hac hf hp ht rfl).1 h3),h4⟩
      have hsz:=MN hq;refine gz.bind (xz hac h1 h2 hk hf hoy ⟨fun q hq=>(hmem q hq).1,gq⟩ (fun q hq=>(hmem q hq).2) ⟨s1,s2,gq⟩ (fun t=>?_) hg hgs hn hU fun o ho=>hQ o ((e o).1 ho)) fun r hr=>.some ⟨hr.1,hr.2.iff e⟩
      omega
     ·have hf:y∉ac:=by simpa using hc4
      obtain⟨us,l1,rfl,w1⟩:=kg hr;obtain⟨vs,l2,rfl,w2⟩:=kg hsr;rw[AG ha hpl hp l1 w1,aa,AG ha htl ht.1 l2 w2,aa];have e:∀o,(∃g',RA a ac us vs g g'/\Out a ac k g' o)<->∃g',RM a ac (y::us.flatten) (y::vs.flatten) g g'/\Out a ac k g' o:=fun o=>by
       constructor
       ·rintro⟨g',h3,h4⟩;exact⟨g',(Mo hac hf hy l1 w1 l2 w2).2 h3,h4⟩
       ·rintro⟨g',h3,h4⟩;exact⟨g',(Mo hac hf hy l1 w1 l2 w2).1 h3,h4⟩
      have hv:∀v∈vs,Sf a ac v:=by
       have h5:=ht.2;rw[rO hac hf l2 w2]at h5;have h6:vs.map (form a ac)=vs:=By (a:=a) (by rw[aK]) (fun u hu=>by
        obtain⟨w,hw,rfl⟩:=aY.1 hu;exact(rT hac (w2 w hw)).1) w2 (by simpa using h5)
       intro v hv;rw[<-h6]at hv;obtain⟨w,hw,rfl⟩:=aY.1 hv;exact rT hac (w2 w hw)
      simp only[ai]at hpl htl;refine gz.bind (En hac h1 h2 hk ⟨w1,by show us.flatten.length<=60;omega⟩ hv (by show vs.flatten.length<=60;omega) gq (fun t=>?_) hg hgs hn hU fun o ho=>hQ o ((e o).1 ho)) fun r hr=>.some ⟨hr.1,hr.2.iff e⟩
      have t:3*(us.flatten.length+1)+wK k<=n+1:=t;show 3*us.flatten.length+wK k+1<=n;omega
def GV(vals:List fN)(g:Bd):Prop:=(∀x:Int,x< -4->gK g x=[])/\∀x:Int,x<0->gK g x≠[]->gK g x∈vals
theorem Ls{a ac:fN}{vals:List fN}{g:Bd}(hg:yK a ac g)(h:GV vals g):g∈SA vals:=Pf hg.1 h.1 h.2
theorem RK{a ac:fN}{vals:List fN}{g g':Bd}{vs:fN}(he:Ext a ac g g' vs)(h:GV vals g)(h4:∀x∈vs, -4<=x)(hv:∀x∈vs,x<0->gK g' x∈vals):GV vals g':=by
 refine⟨fun x hx=>?_,fun x hx hn=>?_⟩
 ·rw[he.out x gq fun hm=>by have:=h4 x hm;omega];exact h.1 x hx
 ·by_cases hm:x∈vs
  ·exact hv x hm hx
  ·rw[he.out x hx hm]at hn⊢;exact h.2 x hx hn
theorem U8{a ac:fN}(hac:tg a ac){vals:List fN}{p t:fN}(hp:Wf a 1 p)(h4:∀x∈p, -4<=x)(hV:∀u,Vl a ac t u->u∈vals){g g':Bd}(hr:RM a ac p t g g')(h:GV vals g):GV vals g':=
 RK hr.1 h h4 fun x hx h0=>hV _ (by
  have:=Hx hac p.length (au _) hp (fun x hx h0=>hr.1.sf x hx h0) x hx h0;rwa [hr.2]at this)
def Ku(L:List Bd):Prop:=L.Pairwise fun a b=>lG a b<0
theorem Au{L:List Bd}(h:Ku L):L.Nodup:=h.imp fun hab e=>by rw[e,zU]at hab;omega
theorem O_{L:List Bd}(h:Ku L){g:Bd}{k:Nat}(hk:k<=L.length)(h1:∀x∈L.drop k,lG g x<0)(h2:∀j,∀hj:j<L.length,j+1=k->lG L[j] g<0):
 Ku (L.take k++[g]++L.drop k)/\∀x,x∈L.take k++[g]++L.drop k<->x=g\/x∈L:=by
 have h3:∀x∈L.take k,lG x g<0:=fun x hx=>by
  obtain⟨i,hi,rfl⟩:=ck hx;rw[aW]at hi;rw[eC];have hk1:=h2 (k-1) gq gq;by_cases e:i=k-1
  ·subst e;exact hk1
  ·have:=dK.1 h i (k-1) gq gq gq;exact(sn (eo this) (eo hk1)).2 (.inl this)
 constructor
 ·unfold Ku;rw[aL,fc];refine⟨h.sublist (List.take_sublist _ _),?_,fun x hx y hy=>?_⟩
  ·rw[b_,fq];exact⟨h1,h.sublist (eE _ _)⟩
  ·rw[b_,bw]at hy;rcases hy with rfl|hy
   ·exact h3 x hx
   ·exact(sn (eo (h3 x hx)) (eo (h1 y hy))).2 (.inl (h3 x hx))
 ·intro x;conv=>rhs;rw[<-bP k L]
  simp only[aM,bw,cS,or_false];constructor
  ·rintro((h|h)|h)
   ·exact .inr (.inl h)
   ·exact .inl h
   ·exact .inr (.inr h)
  ·rintro(h|h|h)
   ·exact .inl (.inr h)
   ·exact .inl (.inl h)
   ·exact .inr h
theorem CF{l l':List fN}(h:l.Perm l'):jt l=jt l':=mE ((iK l).trans (h.trans (iK l').symm)) (jo _) (jo _)
theorem CE{a ac:fN}(hac:tg a ac){f:Int}(hf:f∈ac){u:fN}(h:Wf a 1 u):((parts a f (form a ac u)).map (form a ac)).Perm ((parts a f u).map (form a ac)):=by
 have hs:=rT hac h;rw[sY fun w hw=>((pM hac hf hs).1 w hw).1.2];obtain⟨x,r,rfl,ho,hr⟩:=Wf.pos h;have hh:=(jR hac _ (au _) h).2.2;by_cases hx:x=f
 ·subst hx;rw[sB hac hf h];exact iK _
 ·rw[ku hx,ey];obtain⟨z,s,hz,_⟩:=Wf.pos hs.1;rw[hz]at hh⊢;have:z=x:=by simpa using hh
  rw[ku gq]
theorem BA{a ac:fN}(hac:tg a ac){σ:Int->fN}:∀(N:Nat){p:fN},p.length<=N->Wf a 1 p->(∀x∈p,x<0->Wf a 1 (σ x))->form a ac (Tm.sub (fun x=>form a ac (σ x)) p)=form a ac (Tm.sub σ p)
 |0,p,hl,h,_=>by have:=h.len;omega
 |N+1,p,hl,h,hσ=>by
  obtain⟨y,r,rfl,ho,hr⟩:=Wf.pos h;rw[aX]at hr;have hτ:∀x∈y::r,x<0->Wf a 1 (form a ac (σ x)):=fun x hx h0=>(rT hac (hσ x hx h0)).1
  by_cases hy:y<0
  ·have:mV a y=0:=by unfold mV;rw[ah hy]
   rw[this]at hr;have:=hr.zero;subst this;rw[sub_one hy,sub_one hy];exact xN hac _ (au _) (hσ y (by simp) hy)
  ·by_cases hac':y∈ac
   ·obtain⟨k0,k2⟩:=hac y hac';have w1:Wf a 1 (Tm.sub (fun x=>form a ac (σ x)) (y::r)):=h.sub hτ;have w2:Wf a 1 (Tm.sub σ (y::r)):=h.sub hσ;have e1:=t_ k2 k0 _ (au _) h hτ;have e2:=t_ k2 k0 _ (au _) h hσ;rw[pT hy]at w1 w2 e1 e2⊢;rw[pT hy,rN hac hac' w1,rN hac hac' w2,e1,e2];congr 1;refine CF ?_;have hq:∀qs:List fN,(∀q∈qs,q∈parts a y (y::r))->((qs.flatMap fun q=>parts a y (Tm.sub (fun x=>form a ac (σ x)) q)).map (form a ac)).Perm ((qs.flatMap fun q=>parts a y (Tm.sub σ q)).map (form a ac)):=fun qs=>by
     induction qs with
     |nil=>intro _;exact .refl _
     |cons q qs ih=>
      intro hm;rw[bH,bH,aS,aS];refine List.Perm.append ?_ (ih fun q hq=>hm q (by simp[hq]));have hq:=hm q (by simp);have hpo:=(iX k2 k0 _ (au _) h).2.1 q hq;have hlt:=(nE k2 k0 h rfl).1 q hq;have hσq:∀x∈q,x<0->Wf a 1 (σ x):=fun x hx hx0=>hσ x ((sC k2 k0 _ (au _) h x hx0).2 (bX.2 ⟨q,hq,hx⟩)) hx0
      obtain⟨v,s,rfl,_,hs⟩:=Wf.pos hpo.1;by_cases hv:v<0
      ·have:mV a v=0:=by unfold mV;rw[ah hv]
       rw[aX,this]at hs;have:=hs.zero;subst this;rw[sub_one hv,sub_one hv];exact CE hac hac' (hσq v (by simp) hv)
      ·have hvf:v≠y:=by simpa using hpo.2.1
       have ih:=BA hac N (σ:=σ) (by simp only[ai]at hl hlt⊢;omega) hpo.1 hσq;rw[pT hv,pT hv]at ih⊢;rw[ku hvf,ku hvf,ey,ey,ih]
    exact hq _ fun q h=>h
   ·obtain⟨us,h1,rfl,hu⟩:=kg hr;have hσu:∀v∈us,∀x∈v,x<0->Wf a 1 (σ x):=fun v hv x hx hx0=>hσ x (by simp only[bw,bX];exact .inr ⟨v,hv,hx⟩) hx0
    have e:∀τ:Int->fN,(∀v∈us,∀x∈v,x<0->Wf a 1 (τ x))->form a ac (Tm.sub τ (y::us.flatten))=y::(us.map fun v=>form a ac (Tm.sub τ v)).flatten:=fun τ hτ=>by
     rw[pT hy,zG,rO hac hac' (by rw[aK,h1]) fun v hv=>?_,c_]
     ·rfl
     ·obtain⟨w,hw,rfl⟩:=aY.1 hv;exact(hu w hw).sub fun x hx hx0=>hτ w hw x hx hx0
    rw[e _ hσu,e _ fun v hv x hx h0=>(rT hac (hσu v hv x hx h0)).1];congr 2;refine bW fun v hv=>?_
    have hlv:=jG hv;exact BA hac N (by simp only[ai]at hl;omega) (hu v hv) (hσu v hv)
theorem Dx{S ts:List fN}(h:S.Sublist ts):S.flatten.length<=ts.flatten.length:=by
 induction h with
 |slnil=>exact au _
 |cons a h ih=>rw[aR,aj];omega
 |cons_cons a h ih=>rw[aR,aR,aj,aj];omega
theorem SD{a ac:fN}(hac:tg a ac){t u:fN}(h:Vl a ac t u):Wf a 1 t->u.length<=t.length:=by
 induction h with
 |refl t=>intro _;exact au _
 |arg hx hl hw hu h ih=>
  intro _;have:=ih (hw _ hu);have:=jG hu;simp only[ai];omega
 |sub hf hh hne hs=>
  intro hw;rename_i f t S;obtain⟨h0,h2⟩:=hac f hf;obtain⟨p1,p2,p3⟩:=iX h2 h0 _ (au _) hw;have e1:=AU (f:=f) hne;have e2:=hs.length_le;have e3:=Dx hs;omega
 |part hf hh hu h ih=>
  intro hw;rename_i f t u w;obtain⟨h0,h2⟩:=hac f hf;have:=ih (Me h2 h0 hw _ hu).1;have:=(nE h2 h0 hw hh).1 _ hu;omega
theorem OV{a ac:fN}(hac:tg a ac){p t:fN}{ps ts:List fN}{g g'':Bd}(hg:yK a ac g):RA a ac (ps++[p]) (ts++[t]) g g''<->∃g',RA a ac ps ts g g'/\RM a ac p t g' g'':=by
 unfold RA RM;rw[bM,dR,Ext.split hg,aS,ey];have e:∀g',Ext a ac g g' ps.flatten->Ext a ac g' g'' p->ps.map (fun p=>form a ac (Tm.sub (gK g'') p))=ps.map (fun p=>form a ac (Tm.sub (gK g') p)):=fun g' h1 h2=>
  bW fun q hq=>by rw[h1.same h2 fun x hx _=>bX.2 ⟨q,hq,hx⟩]
 constructor
 ·rintro⟨⟨g',h1,h2⟩,h3⟩;have:=List.append_inj' h3 rfl;rw[e g' h1 h2]at this;exact⟨g',⟨h1,this.1⟩,h2,by simpa using this.2⟩
 ·rintro⟨g',⟨h1,h3⟩,h2,h4⟩;exact⟨⟨g',h1,h2⟩,by rw[e g' h1 h2,h3,h4]⟩
def M6(a ac:fN)(vals:List fN)(t:fN):Prop:=∀u,Vl a ac t u->u∈vals
def SM(a ac:fN)(vals:List fN)(f:Int)(ts:List fN):Prop:=(∀t∈ts,M6 a ac vals t)/\∀S,S≠[]->S.Sublist ts->vK f S∈vals
theorem M6.args{a ac:fN}{vals:List fN}{x:Int}{us:List fN}(h:M6 a ac vals (x::us.flatten))(hx:x∉ac)(hl:us.length=mV a x)(hw:∀v∈us,Wf a 1 v):∀u∈us,M6 a ac vals u:=
 fun u hu w hv=>h w (.arg hx hl hw hu hv)
theorem M6.parts{a ac:fN}{vals:List fN}{f:Int}{t:fN}(h:M6 a ac vals t)(hf:f∈ac)(hh:t.headD 0=f):SM a ac vals f (parts a f t):=
 ⟨fun u hu w hv=>h w (.part hf hh hu hv),fun S hne hs=>h _ (.sub hf hh hne hs)⟩
theorem SM.sub{a ac:fN}{vals:List fN}{f:Int}{ts ts':List fN}(h:SM a ac vals f ts)(hs:ts'.Sublist ts):SM a ac vals f ts':=
 ⟨fun t ht=>h.1 t (hs.subset ht),fun S hne h2=>h.2 S hne (h2.trans hs)⟩
def GS(g:Bd):Prop:=g.length=24/\∀u∈g,Small u
theorem GS.get{g:Bd}(h:GS g){j:Nat}(hj:j<24):Small (g.getD j default):=h.2 _ (qi (by rw[h.1];exact hj))
theorem Ca{a b:Bd}(ha:GS a)(hb:GS b):lW a b=some (decide (a=b)):=by
 have la:=ha.1;have lb:=hb.1;unfold lW;refine gz.eq (gz.loop (fun q:Int=>∃j:Nat,j<=24/\q=j/\a.take j=b.take j) (fun q:Int=>24-q.toNat) ⟨0,gq,rfl,by simp⟩ ?_);rintro _ ⟨j,h1,rfl,h2⟩;simp only[ou];by_cases hj:j<24
 ·rw[ah (by simp only[az];omega),ah gq,ah gq,jS (n:=(j:Int)+1) gq gq];simp only[aq];rw[jA (ha.get hj),aa];have hja:j<a.length:=by omega
  have hjb:j<b.length:=by omega
  simp only[gH hja,gH hjb];refine gz.ite (fun hc=>?_) fun hc=>?_
  ·have he:a[j]=b[j]:=by simpa using hc
   refine .some ⟨⟨j+1,gq,by simp,?_⟩,by simp only[];omega⟩;rw[aJ hja,aJ hjb,h2,he]
  ·have he:a[j]≠b[j]:=by simpa using hc
   refine .some ?_;simp only[tj];have:a≠b:=fun e=>he (by subst e;rfl)
   simp[this]
 ·obtain rfl:j=24:=by omega
  rw[ay (by simp only[az];omega)];refine .some ?_;simp only[tj];rw[bZ gq,bZ gq]at h2;simp[h2]
theorem N5{x y:fN}(h:x≠y):kX x y≠0:=fun e=>h (vt e)
theorem Hh{a b:Bd}(ha:GS a)(hb:GS b):oD a b=some (decide (lG a b<0)):=by
 have la:=ha.1;have lb:=hb.1;unfold oD;refine gz.eq (gz.loop (fun q:Int=>∃j:Nat,j<=24/\q=j/\lG a b=lG (a.drop j) (b.drop j)) (fun q:Int=>24-q.toNat) ⟨0,gq,rfl,by simp⟩ ?_);rintro _ ⟨j,h1,rfl,h2⟩;simp only[qC];by_cases hj:j<24
 ·have hja:j<a.length:=by omega
  have hjb:j<b.length:=by omega
  rw[aH hja,aH hjb,lG]at h2;rw[ah (by simp only[az];omega),ah gq,ah gq,jS (n:=(j:Int)+1) gq gq];simp only[aq];have s1:=ha.get hj;have s2:=hb.get hj;rw[jA s1,aa];simp only[gH hja,gH hjb]at s1 s2⊢;refine gz.ite (fun hc=>?_) fun hc=>?_
  ·have he:a[j]=b[j]:=by simpa using hc
   rw[he,zW,ah rfl]at h2;exact .some ⟨⟨j+1,gq,by simp,h2⟩,by simp only[];omega⟩
  ·have he:a[j]≠b[j]:=by simpa using hc
   rw[ay (N5 he)]at h2;rw[ah gq,ah gq,C_ s1 s2,aa];refine .some ?_;simp only[tj];rw[h2]
 ·obtain rfl:j=24:=by omega
  rw[ay (by simp only[az];omega)];refine .some ?_;simp only[tj];rw[h2,bp gq,bp gq];simp[lG]
theorem Fz{L:List Bd}{g:Bd}(hL:Ku L)(hg:GS g)(hs:∀x∈L,GS x)(hl:L.length<=1000000000000):gz True (mA L g) fun r=>Ku r/\∀x,x∈r<->x=g\/x∈L:=by
 unfold mA;refine gz.loop (fun q:Int=>∃k:Nat,k<=L.length/\q=k/\∀x∈L.drop k,lG g x<0) (fun q:Int=>q.toNat) ⟨L.length,gq,rfl,by simp⟩ ?_;rintro _ ⟨k,h1,rfl,h2⟩;simp only[si];have fin:(∀j,∀hj:j<L.length,j+1=k->lG L[j] g<0)->gz True (if 0<=(k:Int)/\(k:Int)<=(L.length:Int)then
  if(0+(L.take (k:Int).toNat).length)*24<=140737488355328 then
   if((L.take (k:Int).toNat).length+1)*24<=140737488355328 then
    if 0<=(k:Int)/\(k:Int)<=(L.length:Int)then
     if(((L.take (k:Int).toNat)++[g]).length+(L.drop (k:Int).toNat).length)*24<=140737488355328 then some (((L.take (k:Int).toNat)++[g])++(L.drop (k:Int).toNat))else none
    else none
   else none
  else none
  else none) fun r=>Ku r/\∀x,x∈r<->x=g\/x∈L:=fun h3=>by
  rw[ah gq];simp only[aq,aj,aW,bK,bJ];rw[ah gq,ah gq,ah gq,ah gq];exact .some (O_ hL h1 h2 h3)
 by_cases hk:0<k
 ·rw[ah (by simpa using hk),jS (n:=(k:Int)-1) gq gq,ah gq,show((k:Int)-1).toNat=k-1 by omega];have hk1:k-1<L.length:=by omega
  have hm:=aC hk1;rw[gH hk1,Ca (hs _ hm) hg,aa];refine gz.ite (fun hc=>?_) fun hc=>?_
  ·have he:L[k-1]=g:=by simpa using hc
   refine .some ⟨hL,fun x=>⟨.inr,?_⟩⟩;rintro(rfl|h)
   ·rw[<-he];exact hm
   ·exact h
  ·have he:L[k-1]≠g:=by simpa using hc
   rw[ah gq,Hh hg (hs _ hm),aa];refine gz.ite (fun hc2=>?_) fun hc2=>?_
   ·have hlt:lG g L[k-1]<0:=by simpa using hc2
    refine .some ⟨⟨k-1,gq,gq,fun x hx=>?_⟩,by simp only[];omega⟩;rw[aH hk1,show k-1+1=k by omega,bw]at hx;rcases hx with rfl|hx
    ·exact hlt
    ·exact h2 x hx
   ·have hge:¬lG g L[k-1]<0:=by simpa using hc2
    refine gz.inr ((fin fun j hj e=>?_).mono fun r hr=>hr);obtain rfl:j=k-1:=by omega
    have h5:=sR g L[k-1];have h6:lG g L[k-1]≠0:=fun e=>he (zV e).symm
    omega
 ·rw[ay (by simpa using hk)];exact gz.inr ((fin fun j hj e=>by omega).mono fun r hr=>hr)
theorem C8{g:Bd}{v:Nat}{t:fN}(hg:g.length=24)(hv:v<24):nW g (v:Int) t=some (g.set v t):=by
 unfold nW;rw[ah gq,ah gq,aq]
theorem C9{l:List fN}{i:Nat}(hl:l.length<=1000)(hi:i<l.length):mO l (i:Int)=some (l.eraseIdx i):=by
 unfold mO;rw[jS (n:=(i:Int)+1) gq gq,show((i:Int)+1).toNat=i+1 by omega,aq,ah gq,ah (by rw[aW];omega),ah gq,ah (by rw[aW,bK];omega),<-dS]
theorem Hi{l:List fN}{t:fN}(hl:l.length<=1000000)(hs:∀u∈l,Small u):gz True (mN l t) fun r=>(r<0/\t∉l)\/∃i:Nat,∃h:i<l.length,r=i/\l[i]=t:=by
 unfold mN;refine gz.loop (fun q:Int=>∃j:Nat,j<=l.length/\q=j/\t∉l.take j) (fun q:Int=>l.length-q.toNat) ⟨0,gq,rfl,by simp⟩ ?_;rintro _ ⟨j,h1,rfl,h2⟩;simp only[oR];by_cases hj:j<l.length
 ·rw[ah (by simpa using hj),ah gq,jS (n:=(j:Int)+1) gq gq];simp only[aq,gH hj];rw[jA (hs _ (aC hj)),aa];refine gz.ite (fun hc=>?_) fun hc=>?_
  ·exact .some (.inr ⟨j,hj,rfl,by simpa using hc⟩)
  ·have he:l[j]≠t:=by simpa using hc
   refine .some ⟨⟨j+1,gq,by simp,?_⟩,by simp only[];omega⟩;rw[aJ hj];simp only[aM,bq,not_or];exact⟨h2,fun e=>he e.symm⟩
 ·obtain rfl:j=l.length:=by omega
  rw[ay (by simp)];rw[bh]at h2;exact .some (.inl ⟨gq,h2⟩)
theorem FE{l gone:List fN}(hl:l.length<=1000)(hs:∀u∈l,Small u)(hg:gone.length<=1000):gz True (pG l gone) fun r=>(r.2=true/\r.1.Sublist l/\(gone++r.1).Perm l)\/(r.2=false/\∀rest,¬(gone++rest).Perm l):=by
 unfold pG;refine gz.loop (fun q:List fN×Int=>∃j:Nat,j<=gone.length/\q.2=j/\q.1.Sublist l/\(gone.take j++q.1).Perm l) (fun q:List fN×Int=>gone.length-q.2.toNat) ⟨0,gq,rfl,List.Sublist.refl _,by simp⟩ ?_;rintro⟨m,_⟩ ⟨j,h1,rfl,h2,h3⟩;simp only at h2 h3;simp only[rF];have hml:=h2.length_le;by_cases hj:j<gone.length
 ·rw[ah (by simpa using hj),ah gq,jS (n:=(j:Int)+1) gq gq];simp only[aq,gH hj];refine gz.bind (Hi gq fun u hu=>hs u (h2.subset hu)) ?_;rintro r (⟨hr,hn⟩|⟨i,hi,rfl,he⟩)
  ·rw[ah (by simpa using hr)];refine .some (.inr ⟨rfl,fun rest hp=>hn ?_⟩);have h5:(gone.take j++(gone.drop j++rest)).Perm (gone.take j++m):=by
    rw[<-aL,bP];exact hp.trans h3.symm
   have h6:=(dJ _).1 h5;rw[aH hj]at h6;exact h6.mem_iff.1 (bF _ fA)
  ·rw[ay (by simp only[az];omega),C9 gq hi,aa];refine .some ⟨⟨j+1,gq,by simp,(eR _ _).trans h2,?_⟩,by simp only[];omega⟩;have h7:(gone[j]::m.eraseIdx i).Perm m:=by
    rw[<-he];exact((kT hi).cons _).trans (de (aC hi)).symm
   rw[aJ hj,aL];exact((h7.append_left _)).trans h3
 ·obtain rfl:j=gone.length:=by omega
  rw[ay (by simp)];rw[bh]at h3;exact .some (.inl ⟨rfl,h2,h3⟩)
structure Env(a ac:fN)(vals:List fN):Prop where
 hac:tg a ac
 hs:Small ac
 ha:iz a=true
 len:vals.length<=780
 short:∀u∈vals,u.length<=60
def GB(a ac:fN)(vals:List fN)(g:Bd):Prop:=yK a ac g/\GV vals g
theorem GB.gs{a ac:fN}{vals:List fN}(hE:Env a ac vals){g:Bd}(h:GB a ac vals g):GS g:=by
 refine⟨h.1.1,fun u hu=>?_⟩;obtain⟨i,hi,rfl⟩:=ck hu;have e:gK g (-1-(i:Int))=g[i]:=by
  unfold gK;rw[show(-1-(-1-(i:Int))).toNat=i by omega];simp[ak,hi]
 by_cases h0:g[i]=[]
 ·rw[h0];show(0:Nat)<_;omega
 ·have:=hE.short _ (h.2.2 (-1-(i:Int)) gq (by rw[e];exact h0));rw[e]at this;show g[i].length<1099511627776;omega
def LB(a ac:fN)(vals:List fN)(L:List Bd):Prop:=Ku L/\∀g∈L,GB a ac vals g
theorem LB.len{a ac:fN}{vals:List fN}(hE:Env a ac vals){L:List Bd}(h:LB a ac vals L):L.length<=400000000000:=
 bN (xd (Au h.1) fun g hg=>Ls (h.2 g hg).1 (h.2 g hg).2) (Db hE.len)
theorem LB.nil{a ac:fN}{vals:List fN}:LB a ac vals []:=⟨List.Pairwise.nil,fun g h=>by cases h⟩
theorem LB.one{a ac:fN}{vals:List fN}{g:Bd}(h:GB a ac vals g):LB a ac vals [g]:=⟨List.pairwise_singleton _ _,fun x hx=>by rw[bq]at hx;rw[hx];exact h⟩
theorem Ly{a ac:fN}{vals:List fN}(hE:Env a ac vals){L:List Bd}{g:Bd}(hL:LB a ac vals L)(hg:GB a ac vals g):gz True (mA L g) fun r=>LB a ac vals r/\∀x,x∈r<->x∈L\/x=g:=
 (Fz hL.1 (hg.gs hE) (fun x hx=>(hL.2 x hx).gs hE) (by have:=hL.len hE;omega)).mono fun r hr=>⟨⟨hr.1,fun x hx=>by
  rcases(hr.2 x).1 hx with rfl|h
  ·exact hg
  ·exact hL.2 x h⟩,fun x=>by rw[hr.2 x];exact Or.comm⟩
theorem E_{I:List Bd->Prop}{T:Prop}{β:Type}{n s:Nat}(hsn:s<=n){out:List Bd}{F:List Bd×Int->Option ((List Bd×Int)⊕β)}{mk:List Bd->β}(P:Nat->Bd->Prop)
 (hF:∀(j:Nat)(o:List Bd),s<=j->j<n->I o->(∀x,x∈o<->x∈out\/∃i,s<=i/\i<j/\P i x)->gz T (F (o,(j:Int))) fun r=>∃o',r=.inl (o',(j:Int)+1)/\I o'/\∀x,x∈o'<->x∈out\/∃i,s<=i/\i<j+1/\P i x)
 (hE:∀o,F (o,(n:Int))=some (.inr (mk o))) (h0:I out):
 gz T (gF F (out,(s:Int))) fun r=>∃o,r=mk o/\I o/\∀x,x∈o<->x∈out\/∃i,s<=i/\i<n/\P i x:=by
 refine gz.loop (fun q:List Bd×Int=>∃j:Nat,s<=j/\j<=n/\q.2=j/\I q.1/\∀x,x∈q.1<->x∈out\/∃i,s<=i/\i<j/\P i x) (fun q:List Bd×Int=>n-q.2.toNat)
  ⟨s,gq,hsn,rfl,h0,fun x=>⟨.inl,fun h=>h.elim id fun⟨i,h1,h2,_⟩=>by omega⟩⟩ ?_
 rintro⟨o,_⟩ ⟨j,h1,h2,rfl,h3,h4⟩;simp only at h3 h4;by_cases hj:j<n
 ·refine(hF j o h1 hj h3 h4).mono ?_;rintro _ ⟨o',rfl,h5,h6⟩;exact⟨⟨j+1,gq,gq,by simp,h5,h6⟩,by simp only[];omega⟩
 ·obtain rfl:j=n:=by omega
  rw[hE];exact .some ⟨o,rfl,h3,h4⟩
theorem w_{out o o':List Bd}{s j:Nat}(hs:s<=j){P:Nat->Bd->Prop}(h:∀x,x∈o<->x∈out\/∃i,s<=i/\i<j/\P i x)(h':∀x,x∈o'<->x∈o\/P j x):∀x,x∈o'<->x∈out\/∃i,s<=i/\i<j+1/\P i x:=fun x=>by
 rw[h',h];constructor
 ·rintro((h|⟨i,h1,h2,h3⟩)|h)
  ·exact .inl h
  ·exact .inr ⟨i,h1,gq,h3⟩
  ·exact .inr ⟨j,hs,gq,h⟩
 ·rintro(h|⟨i,h1,h2,h3⟩)
  ·exact .inl (.inl h)
  ·by_cases e:i=j
   ·subst e;exact .inr h3
   ·exact .inl (.inr ⟨i,h1,gq,h3⟩)
theorem LQ{out o:List Bd}{s j:Nat}{P:Nat->Bd->Prop}(h:∀x,x∈o<->x∈out\/∃i,s<=i/\i<j/\P i x)(h':∀x,P j x->∃i,s<=i/\i<j/\P i x):∀x,x∈o<->x∈out\/∃i,s<=i/\i<j+1/\P i x:=fun x=>by
 rw[h];constructor
 ·rintro(h|⟨i,h1,h2,h3⟩)
  ·exact .inl h
  ·exact .inr ⟨i,h1,gq,h3⟩
 ·rintro(h|⟨i,h1,h2,h3⟩)
  ·exact .inl h
  ·by_cases e:i=j
   ·subst e;exact .inr (h' x h3)
   ·exact .inr ⟨i,h1,gq,h3⟩
theorem gz.Wv{α:Type}{t:Prop}{f:Nat->Option α}{P:α->Prop}(m:Nat)(h:∀n,gz (t/\m<=n) (f n) P):gz t (yz f) P:=
 ⟨fun x hx=>(h _).1 x (ng hx).choose_spec,fun ht=>(gz.lim (t:=True) (P:=P) m fun n=>(h n).weak fun e=>⟨ht,e⟩).2 trivial⟩
theorem SG{n:Nat}(h:n<=60):IntKind.u64.wrap (n:Int)=n:=by rw[IntKind.wrap_u64];omega
def Df(a ac:fN)(vals:List fN)(T:Prop)(rec:fN->fN->fN->fN->List fN->Option fU)(p t:fN):Prop:=
 ∀g,GB a ac vals g->gz T (rec a ac p t g) fun r=>LB a ac vals r/\∀x,x∈r<->RM a ac p t g x
def V4(ps:List fN):Prop:=∀p∈ps,∀x∈p, -4<=x
theorem V4.tail{p:fN}{ps:List fN}(h:V4 (p::ps)):V4 ps:=fun q hq=>h q (by simp[hq])
theorem D4{a ac:fN}{vals:List fN}(hE:Env a ac vals){p t:fN}(hp:Wf a 1 p)(h4:∀x∈p, -4<=x)(hV:M6 a ac vals t){g g':Bd}(hg:GB a ac vals g)(h:RM a ac p t g g'):GB a ac vals g':=
 ⟨h.1.ok hg.1,U8 hE.hac hp h4 hV h hg.2⟩
theorem Fp{rec recS sig ac f ps left i r}:qF rec recS sig ac f ps left i r=kr rec recS sig ac f ps left i r:=by
 funext ⟨o,k⟩;rfl
def S4(a ac:fN)(f:Int)(p:fN)(ps ts:List fN)(g:Bd)(j:Nat)(x:Bd):Prop:=∃h:j<ts.length,∃g',RM a ac p ts[j] g g'/\RS a ac f ps (ts.eraseIdx j) g' x
def Vv(a ac:fN)(f v:Int)(ps ts:List fN)(g:Bd)(m:Nat)(x:Bd):Prop:=RS a ac f ps (js false m ts ts.length) (gC g v (vK f (js true m ts ts.length))) x
theorem Sv{a ac:fN}(hac:tg a ac){f y:Int}{r:fN}{ps ts:List fN}{g:Bd}(hg:yK a ac g)(hy:0<=y)(hf:y≠f)(x:Bd):(∃i,0<=i/\i<ts.length/\S4 a ac f (y::r) ps ts g i x)<->RS a ac f ((y::r)::ps) ts g x:=by
 rw[Am hac hg hy hf];constructor
 ·rintro⟨i,_,h,_,g',h1,h2⟩;exact⟨ts[i],aC h,g',h1,qA hac (.refl _) (kT h) h2⟩
 ·rintro⟨t,ht,g',h1,h2⟩;obtain⟨i,h,rfl⟩:=ck ht;exact⟨i,gq,h,h,g',h1,qA hac (.refl _) (kT h).symm h2⟩
theorem O5{a ac:fN}(hac:tg a ac){f:Int}{p:fN}{ps ts:List fN}{g:Bd}{i j:Nat}{x:Bd}(hi:i<ts.length)(he:∀hj:j<ts.length,ts[i]=ts[j])(h:S4 a ac f p ps ts g j x):S4 a ac f p ps ts g i x:=by
 obtain⟨hj,g',h1,h2⟩:=h;have he:=he hj;have e1:=kT hi;have e2:=kT hj;rw[he]at e1;exact⟨hi,g',by rw[he];exact h1,qA hac (.refl _) (e2.trans e1.symm) h2⟩
theorem R4{a ac:fN}(hac:tg a ac){f v:Int}(hf:f∈ac)(ho:wD a f){ps ts:List fN}{g:Bd}(hg:yK a ac g)(hv:v<0)(h24: -24<=v)(he:gK g v=[])
 (ht:∀t∈ts,Sf a ac t/\t.headD 0≠f) (hs:ts.Pairwise fun a b=>kX a b<=0) (x:Bd):(∃i,1<=i/\i<2^ts.length/\Vv a ac f v ps ts g i x)<->RS a ac f ([v]::ps) ts g x:=by
 rw[B0 hac hf hg hv h24 he];constructor
 ·rintro⟨m,h1,h2,h3⟩;obtain⟨s1,s2⟩:=AS hac hf ho ht hs h1 h2;exact⟨_,s1,_,by rw[s2];exact uk,h3⟩
 ·rintro⟨u,hu,rest,hp,hr⟩;obtain⟨s1,s2,s3,s4⟩:=pM hac hf hu;have e:=mE (vr hp) (hs.sublist oM) s2;have hrest:rest.Perm (js false (p_ ts (parts a f u)) ts ts.length):=by
   have:=hp.trans (uk (m:=p_ ts (parts a f u)) (ts:=ts)).symm;rw[e]at this;exact(dJ _).1 this
  refine⟨p_ ts (parts a f u),Nat.pos_of_ne_zero fun h0=>?_,AX _ _,?_⟩
  ·rw[h0,Bk]at e;exact s3 e.symm
  ·unfold Vv;rw[e,s4];exact qA hac (.refl _) hrest hr
theorem MC{a ac:fN}{vals:List fN}(hE:Env a ac vals){T:Prop}{rec:fN->fN->fN->fN->List fN->Option fU}
 {recS:fN->fN->Int->List fN->List fN->List fN->List fO->Option fU} {f:Int} {p:fN} {ps ts:List fN} {i:Nat} (hl:ts.length<=60) (hi:i<ts.length) {R out:List Bd} (hR:LB a ac vals R) (h0:LB a ac vals out)
 (hS:∀g o,GB a ac vals g->LB a ac vals o->gz T (recS a ac f ps (ts.eraseIdx i) g o) fun r=>LB a ac vals r/\∀x,x∈r<->x∈o\/RS a ac f ps (ts.eraseIdx i) g x):
 gz T (gF (kr rec recS a ac f (p::ps) ts i R) (out,0)) fun r=>∃o,r=.inl (o,(i:Int)+1)/\LB a ac vals o/\∀x,x∈o<->x∈out\/∃g∈R,RS a ac f ps (ts.eraseIdx i) g x:=by
 have hRl:=hR.len hE;refine(E_ (I:=LB a ac vals) (T:=T) (n:=R.length) (s:=0) gq (out:=out) (mk:=fun o=>.inl (o,(i:Int)+1)) (fun j x=>∃h:j<R.length,RS a ac f ps (ts.eraseIdx i) R[j] x) (fun j o _ hj ho hm=>?_) (fun o=>?_) h0).mono ?_
 ·simp only[kr];rw[ah (by simpa using hj),ah (by simp only[ai];omega),C9 gq hi,aa,ah gq,jS (n:=(j:Int)+1) gq gq];simp only[aq,gH hj,List.drop_one,List.tail_cons];refine gz.bind (hS _ o (hR.2 _ (aC hj)) ho) fun r hr=>.some ⟨r,rfl,hr.1,w_ gq hm fun x=>?_⟩
  rw[hr.2 x];exact⟨fun h=>h.imp id fun h=>⟨hj,h⟩,fun h=>h.imp id fun⟨_,h⟩=>h⟩
 ·simp only[kr];rw[ay (by simp),jS (n:=(i:Int)+1) gq gq];rfl
 ·rintro _ ⟨o,rfl,h1,h2⟩;refine⟨o,rfl,h1,fun x=>?_⟩;rw[h2 x];constructor
  ·rintro(h|⟨j,_,_,hj,h⟩)
   ·exact .inl h
   ·exact .inr ⟨_,aC hj,h⟩
  ·rintro(h|⟨g,hg,h⟩)
   ·exact .inl h
   ·obtain⟨j,hj,rfl⟩:=ck hg;exact .inr ⟨j,gq,hj,hj,h⟩
theorem MD{T:Prop}{rec:fN->fN->fN->fN->List fN->Option fU}
 {recS:fN->fN->Int->List fN->List fN->List fN->List fO->Option fU} {a ac:fN} {f v:Int} {ps ts:List fN} {g:Bd} {out:List Bd} {m:Nat} (hm:m<4611686018427387904) (hl:ts.length<=60) (hg:g.length=24) (hv:v<0) (h24: -24<=v) (hfl:yE ts<=60) {P:List Bd->Prop}
 (h:gz T (recS a ac f ps (js false m ts ts.length) (gC g v (vK f (js true m ts ts.length))) out) P):
 gz T (gF (ox rec recS a ac f ([v]::ps) ts g out m) ([],[],0)) fun r=>∃o,r=.inl (o,(m:Int)+1)/\P o:=by
 have hw:IntKind.i64.wrap ((m:Int)+1)=(m:Int)+1:=jS gq gq;refine gz.loop (fun q:List fN×List fN×Int=>∃j:Nat,j<=ts.length/\q=(js true m ts j,js false m ts j,(j:Int))) (fun q:List fN×List fN×Int=>ts.length-q.2.2.toNat) ⟨0,gq,rfl⟩ ?_;rintro⟨_,_,_⟩ ⟨j,h1,he⟩;cases he;simp only[ox];have l1:=xG (b:=true) (m:=m) (n:=j) (ts:=ts);have l2:=xG (b:=false) (m:=m) (n:=j) (ts:=ts);by_cases hj:j<ts.length
 ·rw[ah (by simpa using hj),SG gq,ah gq,F4 hm gq,jS (n:=(j:Int)+1) gq gq];simp only[aq];have b1:=sj (b:=true) (m:=m) (n:=j) (ts:=ts);have b2:=sj (b:=false) (m:=m) (n:=j) (ts:=ts);cases hb:m.testBit j with
  |true=>
   rw[hb]at b1 b2;rw[ah (by rfl),ah gq,ah gq];refine .some ⟨⟨j+1,gq,?_⟩,by simp only[];omega⟩;rw[b1,b2];simp
  |false=>
   rw[hb]at b1 b2;rw[ay (by decide),ah gq,ah gq];refine .some ⟨⟨j+1,gq,?_⟩,by simp only[];omega⟩;rw[b1,b2];simp
 ·obtain rfl:j=ts.length:=by omega
  rw[ay (by simp)];refine gz.inr ?_;rw[ah (by simp only[ai];omega)];have hsub:=oM (b:=true) (m:=m) (ts:=ts);have hln:=hsub.length_le;have hsz:(js true m ts ts.length).flatten.length<=yE ts:=zI hsub;rw[B_ gq,aa];simp only[bB,List.drop_one,List.tail_cons];rw[jS (n:=(-1:Int)-v) gq gq,show(-1:Int)-v=(((-1-v).toNat:Nat):Int) by omega,C8 hg gq,aa,hw];exact gz.bind h fun r hr=>.some ⟨r,rfl,hr⟩
theorem Ce{a:fN}(ha:iz a=true){f:Int}(h2:mV a f=2)(h0:0<=f){t:fN}(hl:t.length<=60)(h:Wf a 1 t):m_ a f t=some (parts a f t):=by
 unfold m_;rw[uC ha h2 h0 hl h,aa]
theorem yQ{a ac:fN}{vals:List fN}(hE:Env a ac vals){g:Bd}(hg:GB a ac vals g){x:Int}(hx:x<0)(hn:gK g x≠[]):(gK g x).length<=60:=hE.short _ (hg.2.2 x hx hn)
theorem Cc{a ac:fN}{vals:List fN}(hE:Env a ac vals){T:Prop}{rec:fN->fN->fN->fN->List fN->Option fU}{f:Int}(hf:f∈ac)(ho:wD a f):
 ∀(n:Nat){ps ts:List fN}{g:Bd}{out:List Bd},yN a ps->(∀p∈ps,p.headD 0≠f)->V4 ps->AO a ac f ts->SM a ac vals f ts->GB a ac vals g->LB a ac vals out->(∀p∈ps,0<=p.headD 0->∀t∈ts,Df a ac vals T rec p t)->
 gz (T/\ps.length+1<=n) (iS rec n a ac f ps ts g out) fun r=>LB a ac vals r/\∀x,x∈r<->x∈out\/RS a ac f ps ts g x
 |0,ps,ts,g,out,_,_,_,_,_,_,_,_=>⟨fun _ e=>by simp[iS]at e,fun e=>by omega⟩
 |n+1,ps,ts,g,out,hps,hpf,h4,ht,hV,hg,hout,hrec=>by
  have hac:=hE.hac;obtain⟨h0,h2⟩:=hac f hf;have hlen:ts.length<=60:=bN (A6 fun t h=>(ht.1 t h).1) ht.2.2;have H8:∀t∈ts,Small t:=fun t h=>B6 (a:=a) (ac:=ac) (ht.mem h).2
  unfold iS
  match ps,hps,hpf,h4,hrec with
  |[],hps,hpf,h4,hrec=>
   rw[ah (by decide)];refine gz.ite (fun hc=>?_) fun hc=>?_
   ·have hts:ts=[]:=by
     have:ts.length=0:=by simpa using hc
     exact bV this
    subst hts;refine gz.bind ((Ly hE hout hg).weak fun _=>trivial) fun r hr=>.some ⟨hr.1,fun x=>?_⟩
    rw[hr.2 x,BZ hac];simp
   ·refine .some ⟨hout,fun x=>?_⟩;rw[BZ hac];have:ts≠[]:=fun e=>by rw[e]at hc;simp at hc
    simp[this]
  |p::ps,hps,hpf,h4,hrec=>
   rw[ay (by simp only[ai,dF];omega)];refine gz.ite (fun hc=>?_) fun hc=>?_
   ·refine .some ⟨hout,fun x=>⟨.inl,fun h=>h.elim id fun h1=>?_⟩⟩;have:=Mr hac hf (fun q hq=>hps.1 q hq) h1;simp only[az]at hc;omega
   ·have hps':yN a ps:=hps.drop;have hpf':∀p∈ps,p.headD 0≠f:=fun q hq=>hpf q (by simp[hq])
    have hrec':∀ts':List fN,ts'.Sublist ts->∀q∈ps,0<=q.headD 0->∀t∈ts',Df a ac vals T rec q t:=fun ts' hs q hq hh t ht=>hrec q (by simp[hq]) hh t (hs.subset ht)
    have step:∀ts':List fN,ts'.Sublist ts->∀g o,GB a ac vals g->LB a ac vals o->gz (T/\(p::ps).length+1<=n+1) (iS rec n a ac f ps ts' g o) fun r=>LB a ac vals r/\∀x,x∈r<->x∈o\/RS a ac f ps ts' g x:=fun ts' hs g o hg ho'=>
     (Cc hE hf ho n hps' hpf' h4.tail (ht.sub hs) (hV.sub hs) hg ho' (hrec' ts' hs)).weak fun t=>⟨t.1,by have:=t.2;simp only[ai]at this;omega⟩
    obtain⟨hw,hw60⟩:=hps.mem (p:=p) (by simp);have hh:=hpf p (by simp);obtain⟨y,r,rfl,hoy,hr⟩:=Wf.pos hw;rw[ah (by simp only[ai];omega)];simp only[bB];rw[ah (by simp only[ai];omega)];refine gz.ite (fun hc3=>?_) fun hc3=>?_
    ·have hy:0<=y:=by simpa using hc3
     have hyf:y≠f:=by simpa using hh
     have e:=Sv hac (f:=f) (y:=y) (r:=r) (ps:=ps) (ts:=ts) hg.1 hy hyf;refine(E_ (I:=LB a ac vals) (T:=T/\((y::r)::ps).length+1<=n+1) (n:=ts.length) (s:=0) gq (out:=out) (mk:=fun o=>o) (S4 a ac f (y::r) ps ts g) (fun j o _ hj hlo hm=>?_) (fun o=>?_) hout).mono ?_
     ·have run:∀q:Bd->(List Bd×Int)->Option ((List Bd×Int)⊕((List Bd×Int)⊕List Bd)),True->gz (T/\((y::r)::ps).length+1<=n+1) ((rec a ac (y::r) (ts.getD j default) g).bind fun r_2=>gF (kr rec (iS rec n) a ac f ((y::r)::ps) ts (j:Int) r_2) (o,0)) fun r'=>∃o',r'=.inl (o',(j:Int)+1)/\LB a ac vals o'/\∀x,x∈o'<->x∈out\/∃i,0<=i/\i<j+1/\S4 a ac f (y::r) ps ts g i x:=fun _ _=>by
       rw[gH hj];refine gz.bind ((hrec (y::r) (by simp) hy _ (aC hj) g hg).weak fun t=>t.1) fun R hR=>?_
       refine(MC hE hlen hj hR.1 hlo (step _ (eR _ _))).mono ?_;rintro _ ⟨o',rfl,k1,k2⟩;refine⟨o',rfl,k1,w_ gq hm fun x=>?_⟩;rw[k2 x];constructor
       ·rintro(h|⟨g',hg',h⟩)
        ·exact .inl h
        ·exact .inr ⟨hj,g',(hR.2 g').1 hg',h⟩
       ·rintro(h|⟨_,g',hg',h⟩)
        ·exact .inl h
        ·exact .inr ⟨g',(hR.2 g').2 hg',h⟩
      have run:=run (fun _ _=>none) trivial;simp only[ov,Fp,bB];rw[ah (by simpa using hj)];refine gz.ite (fun hc=>?_) fun hc=>?_
      ·have hj0:0<j:=by simpa using hc
       rw[ah gq,jS (n:=(j:Int)-1) gq gq,ah gq,show((j:Int)-1).toNat=j-1 by omega,aq,jA (H8 _ (qi hj)),aa];refine gz.ite (fun hc2=>?_) fun hc2=>?_
       ·have he:ts[j]=ts[j-1]:=by
         have:ts.getD j default=ts.getD (j-1) default:=by simpa using hc2
         rwa [gH hj,gH (show j-1<ts.length by omega)]at this
        rw[jS (n:=(j:Int)+1) gq gq];exact .some ⟨o,rfl,hlo,LQ hm fun x hx=>⟨j-1,gq,gq,O5 hac gq (fun _=>he.symm) hx⟩⟩
       ·rw[ah gq];exact run
      ·rw[ah gq,aq];exact run
     ·simp only[ov];rw[ay (by simp)];rfl
     ·rintro _ ⟨o,rfl,k1,k2⟩;exact⟨k1,fun x=>by rw[k2 x,e x]⟩
    ·have hy:y<0:=by
      have:¬0<=y:=by simpa using hc3
      omega
     have hz:mV a y=0:=by unfold mV;rw[ah hy]
     rw[aX,hz]at hr;have:=hr.zero;subst this;have hy24:=hoy.1;have hgl:=hg.1.1;have hget:g.getD (-1-y).toNat default=gK g y:=rfl;rw[ah (by simp only[ai];omega),jS (n:=(-1:Int)-y) gq gq,ah gq,hget];refine gz.ite (fun hc5=>?_) fun hc5=>?_
     ·have he:gK g y≠[]:=fun e=>by rw[e]at hc5;simp at hc5
      have hsf:=hg.1.2 y hy he;rw[ah gq,Ce hE.ha h2 h0 (yQ hE hg hy he) hsf.1,aa];have hpc:=(mD h2 h0 hsf.1).1;have hbl:=yQ hE hg hy he;refine gz.bind ((FE (l:=ts) (gone:=parts a f (gK g y)) gq H8 gq).weak fun _=>trivial) ?_;rintro⟨rest,b⟩ (⟨rfl,k1,k2⟩|⟨rfl,k2⟩)
      ·simp only[aO];rw[ah (by simp only[ai];omega)];simp only at k1 k2;refine gz.bind (step rest k1 g out hg hout) fun r hr=>.some ⟨hr.1,fun x=>?_⟩
       rw[hr.2 x,DV hac hf hg.1 hy hy24 he];refine or_congr_right ⟨fun h=>⟨rest,k2,h⟩,fun⟨rest',k3,h⟩=>?_⟩;exact qA hac (.refl _) ((dJ _).1 (k3.trans k2.symm)) h
      ·simp only[av,aI];refine .some ⟨hout,fun x=>⟨.inl,fun h=>h.elim id fun h1=>?_⟩⟩;obtain⟨rest,k3,_⟩:=(DV hac hf hg.1 hy hy24 he).1 h1;exact absurd k3 (k2 rest)
     ·have he:gK g y=[]:=by
       have:¬0<((gK g y).length:Int):=by simpa using hc5
       exact bV gq
      have e:=R4 hac hf ho (ps:=ps) (ts:=ts) hg.1 hy hy24 he ht.1 ht.2.1;have hp60:2^ts.length<=2^60:=e_ gq hlen;have hp2:(2:Nat)^60=1152921504606846976:=by decide
      refine(E_ (I:=LB a ac vals) (T:=T/\([y]::ps).length+1<=n+1) (n:=2^ts.length) (s:=1) Nat.one_le_two_pow (out:=out) (mk:=fun o=>o) (Vv a ac f y ps ts g) (fun j o hj1 hj hlo hm=>?_) (fun o=>?_) hout).mono ?_
      ·simp only[ow];rw[SG hlen,ah gq,DX hlen,ah (by simp only[az];omega)];obtain⟨s1,s2⟩:=AS hac hf ho ht.1 ht.2.1 gq hj;have hgb:GB a ac vals (gC g y (vK f (js true j ts ts.length))):=⟨ET hg.1 hy hy24 s1,by
        have hb:∀m,m<0->gK (gC g y (vK f (js true j ts ts.length))) m=if m=y then vK f (js true j ts ts.length)else gK g m:=fun m hm=>oL hy gq hm
        refine⟨fun x hx=>?_,fun x hx hn=>?_⟩
        ·have:=h4 [y] (by simp) y (by simp);rw[hb x gq,ay gq];exact hg.2.1 x hx
        ·rw[hb x hx]at hn⊢;split
         ·exact hV.2 _ (Bj gq hj) oM
         ·rename_i hne;rw[ay hne]at hn;exact hg.2.2 x hx hn⟩
       refine(MD gq hlen hgl hy hy24 ht.2.2 (step _ oM _ o hgb hlo)).mono ?_;rintro _ ⟨o',rfl,k1,k2⟩;exact⟨o',rfl,k1,w_ gq hm k2⟩
      ·simp only[ow];rw[SG hlen,ah gq,DX hlen,ay (by simp)];rfl
      ·rintro _ ⟨o,rfl,k1,k2⟩;exact⟨k1,fun x=>by rw[k2 x,e x]⟩
theorem Cd{a ac:fN}{vals:List fN}(hE:Env a ac vals){T:Prop}{rec:fN->fN->fN->fN->List fN->Option fU}{f:Int}(hf:f∈ac)(ho:wD a f){ps ts:List fN}{g:Bd}{out:List Bd}
 (hps:yN a ps) (hpf:∀p∈ps,p.headD 0≠f) (h4:V4 ps) (ht:AO a ac f ts) (hV:SM a ac vals f ts) (hg:GB a ac vals g) (hout:LB a ac vals out) (hrec:∀p∈ps,0<=p.headD 0->∀t∈ts,Df a ac vals T rec p t):
 gz T (pY rec a ac f ps ts g out) fun r=>LB a ac vals r/\∀x,x∈r<->x∈out\/RS a ac f ps ts g x:=
 gz.Wv (ps.length+1) fun n=>Cc hE hf ho n hps hpf h4 ht hV hg hout hrec
theorem O4{a ac:fN}(hac:tg a ac){y:Int}{vs:List fN}(hf:y∉ac)(l2:vs.length=mV a y)(w2:∀v∈vs,Wf a 1 v)(h:form a ac (y::vs.flatten)=y::vs.flatten):∀v∈vs,Sf a ac v:=by
 rw[rO hac hf l2 w2]at h;have h6:vs.map (form a ac)=vs:=By (a:=a) (by rw[aK]) (fun u hu=>by
  obtain⟨w,hw,rfl⟩:=aY.1 hu;exact(rT hac (w2 w hw)).1) w2 (by simpa using h)
 intro v hv;rw[<-h6]at hv;obtain⟨w,hw,rfl⟩:=aY.1 hv;exact rT hac (w2 w hw)
theorem Pp{a ac:fN}{vals:List fN}(hE:Env a ac vals){k:Nat}(hk:k<1000000000000){R out:List Bd}(hR:LB a ac vals R)(h0:LB a ac vals out):
 gz True (gF (nC (k:Int) R) (out,0)) fun r=>∃o,r=.inl (o,(k:Int)+1)/\LB a ac vals o/\∀x,x∈o<->x∈out\/x∈R:=by
 have hRl:=hR.len hE;refine(E_ (I:=LB a ac vals) (T:=True) (n:=R.length) (s:=0) gq (out:=out) (mk:=fun o=>.inl (o,(k:Int)+1)) (fun j x=>∃h:j<R.length,x=R[j]) (fun j o _ hj ho hm=>?_) (fun o=>?_) h0).mono ?_
 ·simp only[nC];rw[ah (by simpa using hj),ah gq,jS (n:=(j:Int)+1) gq gq];simp only[aq,gH hj];refine gz.bind (Ly hE ho (hR.2 _ (aC hj))) fun r hr=>.some ⟨r,rfl,hr.1,w_ gq hm fun x=>?_⟩
  rw[hr.2 x];exact⟨fun h=>h.imp id fun h=>⟨hj,h⟩,fun h=>h.imp id fun⟨_,h⟩=>h⟩
 ·simp only[nC];rw[ay (by simp),jS (n:=(k:Int)+1) gq gq];rfl
 ·rintro _ ⟨o,rfl,h1,h2⟩;refine⟨o,rfl,h1,fun x=>?_⟩;rw[h2 x];constructor
  ·rintro(h|⟨j,_,_,hj,rfl⟩)
   ·exact .inl h
   ·exact .inr (aC hj)
  ·rintro(h|h)
   ·exact .inl h
   ·obtain⟨j,hj,rfl⟩:=ck h;exact .inr ⟨j,gq,hj,hj,rfl⟩
theorem As{a ac:fN}{vals:List fN}(hE:Env a ac vals):∀(n:Nat){p t:fN},Wf a 1 p->p.length<=60->(∀x∈p, -4<=x)->Sf a ac t->t.length<=60->M6 a ac vals t->Df a ac vals (p.length<=n) (kQ n) p t
 |0,p,t,hp,_,_,_,_,_=>fun g hg=>⟨fun _ e=>by simp[kQ]at e,fun e=>by have:=hp.len;omega⟩
 |n+1,p,t,hp,hpl,h4,ht,htl,hV=>by
  intro g hg;have hac:=hE.hac;have ha:=hE.ha;have hgl:=hg.1.1;obtain⟨y,r,rfl,hoy,hr⟩:=Wf.pos hp;rw[aX]at hr;have hlen:(y::r).length=r.length+1:=rfl;have hp0:(0:Nat)<=0/\(0:Int)<((y::r).length:Int):=by omega
  unfold kQ;rw[ah hp0];simp only[bB];refine gz.ite (fun hc=>?_) fun hc=>?_
  ·have hy:y<0:=by simpa using hc
   have hz:mV a y=0:=by unfold mV;rw[ah hy]
   rw[hz]at hr;have:=hr.zero;subst this;have hy24:=hoy.1;have hget:g.getD (-1-y).toNat default=gK g y:=rfl;rw[ah hp0,jS (n:=(-1:Int)-y) gq gq,ah gq,hget];have hb:(-1:Int)-y=(((-1-y).toNat:Nat):Int):=by omega
   refine gz.ite (fun hc5=>?_) fun hc5=>?_
   ·have he:gK g y=[]:=by
     have:(gK g y).length=0:=by simpa using hc5
     exact bV this
    have hgb:RM a ac [y] t g (gC g y t):=(vB hac hg.1 hy hy24 ht he).2 rfl;rw[hb,C8 hgl gq,aa,ah gq];refine .some ⟨LB.one (D4 hE hp h4 hV hg hgb),fun x=>?_⟩;rw[bq,vB hac hg.1 hy hy24 ht he];rfl
   ·have he:gK g y≠[]:=fun e=>by rw[e]at hc5;simp at hc5
    have H8:Small (gK g y):=B6 (a:=a) (ac:=ac) (yQ hE hg hy he);rw[ah gq,jA H8,aa];refine gz.ite (fun hc6=>?_) fun hc6=>?_
    ·have e:gK g y=t:=by simpa using hc6
     rw[ah gq];refine .some ⟨LB.one hg,fun x=>?_⟩;rw[bq,yB hac hg.1 hy hy24 he];exact⟨fun h=>⟨e,h⟩,fun h=>h.2⟩
    ·have e:gK g y≠t:=by simpa using hc6
     refine .some ⟨LB.nil,fun x=>?_⟩;rw[yB hac hg.1 hy hy24 he];simp[e]
  ·have hy:0<=y:=by
    have:¬y<0:=by simpa using hc
    omega
   obtain⟨z,s,rfl,hoz,hsr⟩:=Wf.pos ht.1;rw[aX]at hsr;have ht0:(0:Nat)<=0/\(0:Int)<((z::s).length:Int):=by simp only[ai];omega
   rw[ah hp0,ah ht0];refine gz.ite (fun hc3=>?_) fun hc3=>?_
   ·have hne:y≠z:=by simpa using hc3
    refine .some ⟨LB.nil,fun x=>⟨fun h=>(by cases h),fun h3=>absurd (by have:=Im hac hp hy h3;simpa using this.symm) hne⟩⟩
   ·have he:y=z:=by simpa using hc3
    subst he;rw[ah hp0,qx hE.hs,aa];refine gz.ite (fun hc4=>?_) fun hc4=>?_
    ·have hf:y∈ac:=by simpa using hc4
     obtain⟨k0,k2⟩:=hac y hf;obtain⟨s1,s2,s3,s4⟩:=pM hac hf ht;have hpo:=iX k2 k0 _ (au _) hp;have hps:=xV k2 k0 hp rfl;have hts:=xV k2 k0 ht.1 rfl;have hlt:=(nE k2 k0 hp rfl).1;rw[ah hp0,ah hp0,uC ha k2 k0 hpl hp,aa,ah hp0,Ce ha k2 k0 htl ht.1,aa];have h4':V4 (parts a y (y::r)):=fun q hq x hx=>by
      by_cases hx0:x<0
      ·exact h4 x ((sC k2 k0 _ (au _) hp x hx0).2 (bX.2 ⟨q,hq,hx⟩))
      ·omega
     have hVs:=hV.parts hf rfl;refine gz.bind (Cd hE (T:=(y::r).length<=n+1) hf hoy ⟨fun q hq=>(hpo.2.1 q hq).1,gq⟩ (fun q hq=>(hpo.2.1 q hq).2.1) h4' ⟨s1,s2,gq⟩ hVs hg LB.nil fun q hq hq0 t' ht' g' hg'=>?_) fun r' hr'=>.some ⟨hr'.1,fun x=>?_⟩
     ·have hq1:=hpo.2.1 q hq;have hq2:=hlt q hq;have hq3:=(AO.mem (a:=a) (ac:=ac) (f:=y) ⟨s1,s2,gq⟩ ht');exact(As hE n hq1.1 gq (h4' q hq) hq3.1 hq3.2 (hVs.1 t' ht') g' hg').weak fun e=>by omega
     ·rw[hr'.2 x,Mn hac hf hp ht rfl];simp
    ·have hf:y∉ac:=by simpa using hc4
     obtain⟨us,l1,rfl,w1⟩:=kg hr;obtain⟨vs,l2,rfl,w2⟩:=kg hsr;have h33:=vJ ha y;have hsv:=O4 hac hf l2 w2 ht.2;have e1:=uc (r:=[]) (i:=0) ha hpl (by simp) hoy l1 w1;have e2:=uc (r:=[]) (i:=0) ha htl (by simp) hoz l2 w2;have hpl1:=oH us ((0:Int)+1);have hpl2:=oH vs ((0:Int)+1);rw[show((0:Nat):Int)=0 from rfl]at e1 e2;have hVs:=hV.args hf l2 w2;simp only[ai]at hpl htl;rw[ah gq];simp only[e1,e2,aa];refine gz.loop (fun q:List Bd×Int=>∃j:Nat,j<=us.length/\q.2=j/\LB a ac vals q.1/\∀x,x∈q.1<->RA a ac (us.take j) (vs.take j) g x) (fun q:List Bd×Int=>us.length-q.2.toNat)
      ⟨0,gq,rfl,LB.one hg,fun x=>by simp[G6 hac]⟩ ?_
     rintro⟨out,_⟩ ⟨j,h1,rfl,h2,h3⟩;simp only at h2 h3;simp only[rG];by_cases hj:j<us.length
     ·have hj2:j<vs.length:=by omega
      rw[ah (by simp only[az,hpl1];omega)];have hd1:=mG (t:=y::us.flatten) (r:=[]) (x:=y) (i:=0) (by simp) hj;have hd2:=mG (t:=y::vs.flatten) (r:=[]) (x:=y) (i:=0) (by simp) hj2;have hg1:=oG us ((0:Int)+1) j hj;have hg2:=oG vs ((0:Int)+1) j hj2;have hw1:=w1 _ (aC hj);have hw2:=w2 _ (aC hj2);have hsub1:=kY ha (show Small (y::us.flatten) by show List.length _<_;simp only[ai];omega) hd1 hw1;have hsub2:=kY ha (show Small (y::vs.flatten) by show List.length _<_;simp only[ai];omega) hd2 hw2;have hle1:us[j].length<=us.flatten.length:=jG (aC hj);have hle2:vs[j].length<=vs.flatten.length:=jG (aC hj2);have hol:=h2.len hE;have h4j:∀x∈us[j], -4<=x:=fun x hx=>h4 x (dg _ (bX.2 ⟨_,aC hj,hx⟩))
      refine(E_ (I:=LB a ac vals) (T:=(y::us.flatten).length<=n+1) (n:=out.length) (s:=0) gq (out:=[]) (mk:=fun o=>.inl (o,(j:Int)+1)) (fun k x=>∃h:k<out.length,RM a ac us[j] vs[j] out[k] x) (fun k o _ hk ho hm=>?_) (fun o=>?_) LB.nil).mono ?_
      ·simp only[oT];rw[ah (by simpa using hk),ah (by rw[hpl1];omega)];simp only[aq];rw[hg1,show(0:Int)+1+((us.take j).flatten.length:Int)=((0+1+(us.take j).flatten.length:Nat):Int) by omega,hsub1,aa,ah (by rw[hpl2];omega),
        hg2,show(0:Int)+1+((vs.take j).flatten.length:Int)=((0+1+(vs.take j).flatten.length:Nat):Int) by omega,hsub2,aa,ah gq,gH hk]
       refine gz.bind ((As hE n hw1 gq h4j (hsv _ (aC hj2)) gq (hVs _ (aC hj2)) _ (h2.2 _ (aC hk))).weak fun e=>by simp only[ai]at e;omega) fun R hR=>?_
       refine((Pp hE gq hR.1 ho).weak fun _=>trivial).mono ?_;rintro _ ⟨o',rfl,k1,k2⟩;refine⟨o',rfl,k1,w_ gq hm fun x=>?_⟩;rw[k2 x,hR.2 x];exact⟨fun h=>h.imp id fun h=>⟨hk,h⟩,fun h=>h.imp id fun⟨_,h⟩=>h⟩
      ·simp only[oT];rw[ay (by simp),jS (n:=(j:Int)+1) gq gq];rfl
      ·rintro _ ⟨o,rfl,k1,k2⟩;refine⟨⟨j+1,gq,by simp,k1,fun x=>?_⟩,by simp only[];omega⟩;rw[aJ hj,aJ hj2,OV hac hg.1,k2 x];constructor
       ·rintro(h|⟨k,_,_,hk,h⟩)
        ·cases h
        ·exact⟨_,(h3 _).1 (aC hk),h⟩
       ·rintro⟨g',h5,h6⟩;obtain⟨k,hk,rfl⟩:=ck ((h3 _).2 h5);exact .inr ⟨k,gq,hk,hk,h6⟩
     ·obtain rfl:j=us.length:=by omega
      rw[ay (by simp only[az,hpl1];omega)];refine gz.inr (.some ⟨h2,fun x=>?_⟩);rw[h3 x,bh,show us.length=vs.length by omega,bh,Mo hac hf hy l1 w1 l2 w2]
theorem CG{a ac:fN}{vals:List fN}(hE:Env a ac vals){p t:fN}(hp:Wf a 1 p)(hpl:p.length<=60)(h4:∀x∈p, -4<=x)(ht:Sf a ac t)(htl:t.length<=60)(hV:M6 a ac vals t){g:Bd}(hg:GB a ac vals g):
 gz True (oy a ac p t g) fun r=>LB a ac vals r/\∀x,x∈r<->RM a ac p t g x:=
 gz.lim p.length fun n=>As hE n hp hpl h4 ht htl hV g hg
def NC(a ac t:fN):Prop:=∀x r,Wf a 1 (x::r)->(x::r)<:+:t->x∈ac->(parts a x (x::r)).length<=6
theorem NC.sub{a ac t u:fN}(h:NC a ac t)(hu:u<:+:t):NC a ac u:=fun x r hw hi hx=>h x r hw (hi.trans hu) hx
theorem xk{a:fN}{f:Int}(h2:mV a f=2)(h0:0<=f):∀(N:Nat){t:fN},t.length<=N->Wf a 1 t->∀v∈parts a f t,v<:+:t
 |0,t,hl,h=>by have:=h.len;omega
 |N+1,t,hl,h=>by
  intro w hw;obtain⟨x,r,rfl,ho,hr⟩:=Wf.pos h;by_cases hx:x=f
  ·subst hx;rw[aX,h2]at hr;obtain⟨us,h1,rfl,h3⟩:=kg hr;obtain⟨u,v,rfl⟩:=oI h1;have hu:=h3 u (by simp);have hv:=h3 v (by simp);simp only[aR,bY,bf,ai,aj]at hl hw⊢;rw[oA h2 hu hv,aM]at hw;rcases hw with hw|hw
   ·exact(xk h2 h0 N gq hu w hw).trans ⟨[x],v,by simp⟩
   ·exact(xk h2 h0 N gq hv w hw).trans ⟨x::u,[],by simp⟩
  ·rw[ku hx,bq]at hw;rw[hw];exact List.infix_refl _
theorem L4{a ac:fN}(hac:tg a ac):∀(N:Nat){t:fN},t.length<=N->Wf a 1 t->NC a ac t->Fw a ac (form a ac t)
 |0,t,hl,h,_=>by have:=h.len;omega
 |N+1,t,hl,h,hn=>by
  obtain⟨x,r,rfl,ho,hr⟩:=Wf.pos h;rw[aX]at hr;have hfo:=jR hac _ (au _) h;obtain⟨y,s,e,_,_⟩:=Wf.pos hfo.1;have hy:y=x:=by
   have:=hfo.2.2;rw[e]at this;simpa using this
  subst hy;by_cases hx:y∈ac
  ·obtain⟨h0,h2⟩:=hac y hx;have hp:=sB hac hx h;have hpo:=(iX h2 h0 _ (au _) h).2.1;have hlt:=(nE h2 h0 h rfl).1;rw[e]at hp⊢;refine .ac hx ?_ fun u hu=>?_
   ·rw[hp,qZ,aK];exact hn y r h (List.infix_refl _) hx
   ·rw[hp]at hu;obtain⟨v,hv,rfl⟩:=aY.1 ((iK _).mem_iff.1 hu);have:=hlt v hv;exact L4 hac N (by simp only[ai]at hl this;omega) (hpo v hv).1 (hn.sub (xk h2 h0 _ (au _) h v hv))
  ·obtain⟨us,h1,rfl,hu⟩:=kg hr;rw[rO hac hx h1 hu];have hw:∀u∈us.map (form a ac),Wf a 1 u:=fun u hv=>by
    obtain⟨w,hw,rfl⟩:=aY.1 hv;exact(jR hac _ (au _) (hu w hw)).1
   refine .na hx fun u hv=>?_
   rw[<-h1,show us.length=(us.map (form a ac)).length by simp,vY hw]at hv;obtain⟨w,hw,rfl⟩:=aY.1 hv;have:=jG hw;refine L4 hac N (by simp only[ai]at hl;omega) (hu w hw) (hn.sub ?_);obtain⟨p,q,hpq⟩:=List.append_of_mem hw;exact⟨y::p.flatten,q.flatten,by rw[hpq];simp⟩
def CO(a ac t:fN)(i:Nat):Bool:=decide (t.getD i default∈ac)&&decide (6<(parts a (t.getD i default) (Gr a (t.drop i)).1).length)
def HT(a ac t:fN):Bool:=(List.range t.length).any (CO a ac t)
theorem Rq{a ac t:fN}(hw:Wf a 1 t)(h:HT a ac t=false):NC a ac t:=fun x r hx hi hac=>by
 obtain⟨p,q,e⟩:=hi;unfold HT at h;have hlen:=aN List.length e;simp only[aj,ai]at hlen;have hd:t.drop p.length=(x::r)++q:=by rw[<-e,aL];exact eu
 have hg:t.getD p.length default=x:=by rw[<-e];simp[ak]
 have:=fE.1 h p.length (by simp;omega);unfold CO at this;rw[hg,hd,yV hx]at this;simpa[hac]using this
theorem zf{a ac:fN}(hac:tg a ac)(hs:Small ac)(ha:iz a=true){t:fN}(h:Wf a 1 t)(hl:t.length<=60):iP (a,ac) t=some (HT a ac t):=by
 unfold iP;have hm:∀x∈t, -24<=x:=fun x hx=>(h.all x hx).1
 have key:=BT (xs:=List.range t.length) (p:=CO a ac t) (f:=jW (a,ac) t) (y:=true) (n:=false) (fun i x hi hi2 hx he=>by
  rw[cc]at hi hi2;have:x=i:=by rw[<-he];simp[ak,hi]
  subst this;obtain⟨p,u,q,e1,e2,e3⟩:=h.place hi;have hd:t.drop x=u++q:=by rw[<-e2];exact(aN (List.drop p.length) e1).trans eu
  obtain⟨y,r,hy,_⟩:=Wf.pos e3;have hg:t.getD x default=y:=by rw[e1,hy,<-e2];simp[ak]
  have hul:u.length<=t.length:=by have:=aN List.length e1;simp only[aj]at this;omega
  simp only[jW];rw[ah (by simpa using hi),ah gq,aq,Ah hs,aa,jS (n:=(x:Int)+1) gq gq];unfold CO;rw[hg,hd,yV e3];by_cases hyac:y∈ac
  ·obtain⟨h0,h2⟩:=hac y hyac;simp only[hyac,bl,cr,aO];rw[qu ha (B6 (a:=a) (ac:=ac) hl) hm hd e3,aa,rP ha h2 h0 e3 gq (by rw[hy];rfl),aa];by_cases h6:6<(parts a y u).length
   ·rw[ah (by simp only[az];omega),ah (by simpa using h6)];rfl
   ·rw[ay (by simp only[az];omega),ay (by simpa using h6)]
  ·simp[hyac]) (by
  rw[cc];simp only[jW];rw[ay (by simp)];rfl)
 rw[key];congr 1;unfold HT;split<;>simp_all
theorem FB{a ac:fN}(hac:tg a ac)(hs:Small ac)(ha:iz a=true){t:fN}(h:Wf a 1 t)(hl:t.length<=60):mB a ac t=some (!HT a ac t):=by
 unfold mB;have key:=BT (xs:=List.range t.length) (p:=CO a ac t) (f:=nY a ac t) (y:=false) (n:=true) (fun i x hi hi2 hx he=>by
  rw[cc]at hi hi2;have:x=i:=by rw[<-he];simp[ak,hi]
  subst this;obtain⟨p,u,q,e1,e2,e3⟩:=h.place hi;have hd:t.drop x=u++q:=by rw[<-e2];exact(aN (List.drop p.length) e1).trans eu
  obtain⟨y,r,hy,_⟩:=Wf.pos e3;have hg:t.getD x default=y:=by rw[e1,hy,<-e2];simp[ak]
  have hul:u.length<=t.length:=by have:=aN List.length e1;simp only[aj]at this;omega
  simp only[nY];rw[ah (by simpa using hi),ah gq,aq,qx hs,aa,jS (n:=(x:Int)+1) gq gq];unfold CO;rw[hg,hd,yV e3];by_cases hyac:y∈ac
  ·obtain⟨h0,h2⟩:=hac y hyac;simp only[hyac,bl,cr,aO];have hpp:jL a y t (x:Int)=some (parts a y u):=gz.eq (gz.lim u.length fun n=>we ha h2 h0 hl n hd e3);rw[ah gq,hpp,aa];by_cases h6:6<(parts a y u).length
   ·rw[ah (by simp only[az];omega),ah (by simpa using h6)];rfl
   ·rw[ay (by simp only[az];omega),ay (by simpa using h6)]
  ·simp[hyac]) (by
  rw[cc];simp only[nY];rw[ay (by simp)];rfl)
 rw[key];congr 1;unfold HT;split<;>simp_all
def g0:Bd:=List.replicate 24 []
theorem BE(x:Int):gK g0 x=[]:=by
 unfold gK g0;rw[ak,dO];split<;>rfl
theorem Vp{a ac:fN}{vals:List fN}:GB a ac vals g0:=⟨⟨by simp[g0],fun x _ h=>absurd (BE x) h⟩,fun x _=>BE x,fun x _ h=>absurd (BE x) h⟩
def xA(a ac t:fN):List fN:=(Np a ac (form a ac t).length (form a ac t)).filter fun u=>decide (u.length<=60)
theorem Ld{a ac t:fN}(hac:tg a ac)(hs:Small ac)(ha:iz a=true)(ht:Wf a 1 t)(hl:t.length<=60)(hn:NC a ac t):Env a ac (xA a ac t)/\M6 a ac (xA a ac t) (form a ac t):=by
 obtain⟨f1,f2,f3⟩:=jR hac _ (au _) ht;refine⟨⟨hac,hs,ha,?_,fun u hu=>by simpa using(dy.1 hu).2⟩,fun u hv=>dy.2 ⟨D2 hac _ f1 (au _) hv,?_⟩⟩
 ·have h1:=D1 hac _ f1 (au _) (L4 hac _ (au _) ht hn);have h2:=eP (fun u:fN=>decide (u.length<=60)) (Np a ac (form a ac t).length (form a ac t));unfold xA;omega
 ·have:=SD hac hv f1;simp only[az];omega
def PL(o:Bd):Prop:=o.length=24/\∀u∈o,u.length<=60
theorem G5{a ac:fN}{vals:List fN}(hE:Env a ac vals){g:Bd}(h:GB a ac vals g):PL (vg g):=by
 refine⟨zw,fun u hu=>?_⟩;unfold vg at hu;obtain⟨i,hi,rfl⟩:=aY.1 hu;split
 ·simp
 ·rename_i hn;have e:gK g (-1-(i:Int))=g.getD i []:=by
   unfold gK;rw[show(-1-(-1-(i:Int))).toNat=i by omega]
  have:=hE.short _ (h.2.2 (-1-(i:Int)) gq (by rw[e];exact hn));rwa [e]at this
theorem PL.gs{o:Bd}(h:PL o):GS o:=⟨h.1,fun u hu=>by have:=h.2 u hu;show u.length<1099511627776;omega⟩
theorem MH{g:Bd}(hg:g.length=24):oF g=some (vg g):=by
 unfold oF;refine gz.eq (gz.loop (fun q:List fN×Int=>∃j:Nat,j<=24/\q.2=j/\q.1=(vg g).take j) (fun q:List fN×Int=>24-q.2.toNat) ⟨0,gq,rfl,by simp⟩ ?_);rintro⟨_,_⟩ ⟨j,h1,rfl,rfl⟩;simp only[qE];by_cases hj:j<24
 ·have hp:j<(vg g).length:=by rw[zw];exact hj
  have e:=zu (g:=g) hj;rw[gH hp]at e;rw[ah (by simp only[az];omega),ah gq,jS (n:=(j:Int)+1) gq gq,jS (n:=(-1:Int)-(j:Int)) gq gq];simp only[aq];have hgd:g.getD j default=g.getD j []:=rfl;refine gz.ite (fun hc=>?_) fun hc=>?_
  ·have h0:g.getD j []=[]:=by
    have:(g.getD j default).length=0:=by simpa using hc
    exact bV this
   rw[ah h0]at e;refine gz.need (by rw[aW];omega) (.some ⟨⟨j+1,gq,by simp,?_⟩,by simp only[];omega⟩);simp only[];rw[aJ hp,e]
  ·have h0:g.getD j []≠[]:=fun h=>by rw[hgd,h]at hc;simp at hc
   rw[ay h0]at e;rw[ah gq];refine gz.need (by rw[aW];omega) (.some ⟨⟨j+1,gq,by simp,?_⟩,by simp only[];omega⟩);simp only[];rw[aJ hp,e,hgd]
 ·obtain rfl:j=24:=by omega
  rw[ay (by simp only[az];omega)];refine .some ?_;simp only[tj];rw[bZ (by rw[zw];omega)]
def II(a ac p t:fN)(o:Bd):Prop:=∃g',RM a ac p (form a ac t) g0 g'/\o=vg g'
theorem Nu{a ac p t:fN}(hac:tg a ac)(hs:Small ac)(ha:iz a=true)(hp:Wf a 1 p)(hpl:p.length<=60)(h4:∀x∈p, -4<=x)(ht:Wf a 1 t)(hl:t.length<=60)(hn:NC a ac t):
 gz True (xD p (form a ac t) .rc a ac [] g0) fun r=>vn (II a ac p t) [] r.1:=by
 obtain⟨hE,hV⟩:=Ld hac hs ha ht hl hn;obtain⟨f1,f2,f3⟩:=jR hac _ (au _) ht;have hU:W0 (((SA (xA a ac t)).map vg).filter fun o=>decide (o.length<=24/\∀u∈o,Small u)):=by
  refine⟨?_,fun g hg=>by simpa using(dy.1 hg).2⟩;refine bN (eP _ _) ?_;rw[aK];exact Db hE.len
 refine gz.lim (3*p.length+1) fun n=>?_
 have h:=(Ej hac hs ha hU n).2 p (form a ac t) .rc hp hpl (rT hac ht) gq trivial g0 [] (Vp (vals:=xA a ac t)).1 (fun u hu=>by
  have:u=[]:=by unfold g0 at hu;exact(dN.1 hu).2
  rw[this];show(0:Nat)<_;omega) List.nodup_nil (fun o h=>by cases h) (fun o ⟨g',h1,h2⟩=>by
  have hgb:=D4 hE hp h4 hV Vp h1;have h2:o=vg g':=h2;have hpl:=G5 hE hgb;rw[h2];refine dy.2 ⟨aY.2 ⟨g',Ls hgb.1 hgb.2,rfl⟩,?_⟩;simp only[az];exact⟨by have:=hpl.1;omega,hpl.gs.2⟩)
 exact(h.weak fun e=>e).mono fun r hr=>hr.2
theorem FA{l:List fN}(hl:l.length<=1000)(hs:∀u∈l,Small u):mM l=some l:=by
 unfold mM;refine gz.eq (gz.loop (fun q:List fN×Int=>∃j:Nat,j<=l.length/\q.2=j/\q.1=l.take j) (fun q:List fN×Int=>l.length-q.2.toNat) ⟨0,gq,rfl,by simp⟩ ?_);rintro⟨_,_⟩ ⟨j,h1,rfl,rfl⟩;simp only[oQ];by_cases hj:j<l.length
 ·rw[ah (by simpa using hj),ah gq,jS (n:=(j:Int)+1) gq gq];simp only[aq,gH hj];rw[se (hs _ (aC hj)),aa];refine gz.need (by rw[aW];omega) (.some ⟨⟨j+1,gq,by simp,?_⟩,by simp only[];omega⟩);simp only[];rw[aJ hj]
 ·obtain rfl:j=l.length:=by omega
  rw[ay (by simp)];refine .some ?_;simp only[tj];rw[bh]
def Pu(x o:Bd):Prop:=o.length<=24/\∀k,o.getD k []=je x k
def A9(A O:List Bd):Prop:=O.length=A.length/\∀(i:Nat)(h:i<A.length)(h':i<O.length),Pu A[i] O[i]
theorem C5{A O:List Bd}{j:Nat}{o:Bd}(hj:j<A.length)(h:A9 (A.take j) O)(ho:Pu A[j] o):A9 (A.take (j+1)) (O++[o]):=by
 have hl:O.length=j:=by rw[h.1,aW];omega
 refine⟨by simp only[aj,aW,bJ];omega,fun i h1 h2=>?_⟩;rw[aW]at h1;rw[eC];by_cases e:i=j
 ·subst e;rw[List.getElem_append_right gq];simpa[hl]using ho
 ·rw[List.getElem_append_left gq];have:=h.2 i (by rw[aW];omega) gq;rwa [eC]at this
theorem Jo{r:List Bd×Bd}{A:List Bd}(hA:A=rV r.1)(hl:A.length<=1000)(hP:∀x∈A,PL x):gz True (gF (jX r) ([],0)) fun q=>∃O,q=(O,true)/\A9 A O:=by
 have hlen:r.1.length=A.length:=by rw[hA,xW]
 refine gz.loop (fun q:List Bd×Int=>∃j:Nat,j<=A.length/\q.2=j/\A9 (A.take j) q.1) (fun q:List Bd×Int=>A.length-q.2.toNat) ⟨0,gq,rfl,by simp[A9]⟩ ?_;rintro⟨O,_⟩ ⟨j,h1,rfl,h2⟩;simp only at h2;have hOl:O.length=j:=by rw[h2.1,aW];omega
 simp only[jX];by_cases hj:j<A.length
 ·rw[ah (by simp only[az];omega),ah gq,jS (n:=(j:Int)+1) gq gq,<-hA];simp only[aq,gH hj];have hp:=hP _ (aC hj);refine gz.bind (AM (by have:=hp.1;omega) hp.2) fun o ho=>gz.need gq (.some ⟨⟨j+1,gq,by simp,C5 hj h2 ho⟩,by simp only[];omega⟩)
 ·obtain rfl:j=A.length:=by omega
  rw[ay (by simp only[az];omega)];refine .some ⟨O,rfl,?_⟩;rwa [bh]at h2
theorem JV{A:List Bd}(hl:A.length<=1000)(hP:∀x∈A,PL x):gz True (gF (nB A) ([],0)) fun q=>∃O,q=(O,true)/\A9 A O:=by
 refine gz.loop (fun q:List Bd×Int=>∃j:Nat,j<=A.length/\q.2=j/\A9 (A.take j) q.1) (fun q:List Bd×Int=>A.length-q.2.toNat) ⟨0,gq,rfl,by simp[A9]⟩ ?_;rintro⟨O,_⟩ ⟨j,h1,rfl,h2⟩;simp only at h2;have hOl:O.length=j:=by rw[h2.1,aW];omega
 simp only[nB];by_cases hj:j<A.length
 ·rw[ah (by simp only[az];omega),ah gq,jS (n:=(j:Int)+1) gq gq];simp only[aq,gH hj];have hp:=hP _ (aC hj);unfold rD;rw[FA (by have:=hp.1;omega) hp.gs.2,aa,aa];refine gz.bind (uL (by have:=hp.1;omega) hp.2) fun o ho=>gz.need gq (.some ⟨⟨j+1,gq,by simp,C5 hj h2 ho⟩,by simp only[];omega⟩)
 ·obtain rfl:j=A.length:=by omega
  rw[ay (by simp only[az];omega)];refine .some ⟨O,rfl,?_⟩;rwa [bh]at h2
structure SU(a ac p t:fN)(A O1 O2:List Bd):Prop where
 W2:A.length<=20
 Xj:Ku A
 mem:∀x,x∈A<->II a ac p t x
 impl:gZ (a,ac) p t=some (O1,true)
 spec:iL a ac p t=some (O2,true)
 o1:A9 A O1
 o2:A9 A O2
 gb:∀g',RM a ac p (form a ac t) g0 g'->GB a ac (xA a ac t) g'
 env:Env a ac (xA a ac t)
theorem Nt{a ac p t:fN}(hac:tg a ac)(hs:Small ac)(ha:iz a=true)(hp:Wf a 1 p)(hpl:p.length<=60)(h4:∀x∈p, -4<=x)(ht:Wf a 1 t)(hl:t.length<=60):
 (gZ (a,ac) p t=some ([],false)/\iL a ac p t=some ([],false))\/∃A O1 O2,SU a ac p t A O1 O2:=by
 have e1:iP (a,ac) p=some (HT a ac p):=zf hac hs ha hp hpl;have e2:mB a ac p=some (!HT a ac p):=FB hac hs ha hp hpl;have e3:iP (a,ac) t=some (HT a ac t):=zf hac hs ha ht hl;have e4:mB a ac t=some (!HT a ac t):=FB hac hs ha ht hl;by_cases c1:HT a ac p=true
 ·refine .inl ⟨?_,?_⟩
  ·unfold gZ;rw[e1,c1];rfl
  ·unfold iL;rw[e2,c1];rfl
 have c1:HT a ac p=false:=by simpa using c1
 by_cases c2:HT a ac t=true
 ·refine .inl ⟨?_,?_⟩
  ·unfold gZ;rw[e1,c1,e3,c2];rfl
  ·unfold iL;rw[e2,c1,e4,c2];rfl
 have c2:HT a ac t=false:=by simpa using c2
 have hn:=Rq ht c2;obtain⟨hE,hV⟩:=Ld hac hs ha ht hl hn;obtain⟨f1,f2,f3⟩:=jR hac _ (au _) ht;obtain⟨r,hr,hR⟩:=(Nu hac hs ha hp hpl h4 ht hl hn).get;obtain⟨W,hW,hWL,hWm⟩:=(CG hE hp hpl h4 (rT hac ht) gq hV (Vp (a:=a) (ac:=ac))).get;have hgb:∀g',RM a ac p (form a ac t) g0 g'->GB a ac (xA a ac t) g':=fun g' h=>D4 hE hp h4 hV Vp h
 have hWl:=hWL.len hE;have hWp:∀g∈W,PL (vg g):=fun g hg=>G5 hE (hWL.2 g hg)
 have hrec:∀x,II a ac p t x<->∃g∈W,x=vg g:=fun x=>⟨fun⟨g,h1,h2⟩=>⟨g,(hWm g).2 h1,h2⟩,fun⟨g,h1,h2⟩=>⟨g,(hWm g).1 h1,h2⟩⟩
 have hI:gZ (a,ac) p t=(iO a ac r.1 r.2).bind fun r_4=>if r_4=true then some ([],false)else(xE r.1).bind fun u=>gF (jX r) ([],0):=by
  unfold gZ;rw[e1,c1,e3,c2,aa,aa,ay (by decide),ay (by decide),wq hac hs ha ht hl,aa];have:xD p (form a ac t) Kt.rc a ac [] (List.replicate 24 [])=some r:=hr;rw[this,aa]
 have hS:iL a ac p t=gF (lJ W) ([],0):=by
  unfold iL;rw[e2,c1,e4,c2,aa,aa,ah (by decide),ah (by decide),vl hac hs ha ht hl,aa];have:oy a ac p (form a ac t) (List.replicate 24 [])=some W:=hW;rw[this,aa]
 have hdn:r.1.Nodup:=hR.nodup List.nodup_nil;have hdm:∀x∈r.1,II a ac p t x:=by
  obtain⟨ext,e,q⟩:=hR.pre;rw[bt]at e;rw[e];exact q
 have key:gz True (gF (lJ W) ([],0)) fun q=>∃A,Ku A/\(∀x,x∈A<->II a ac p t x)/\((20<A.length/\q=([],false))\/(A.length<=20/\∃O,q=(O,true)/\A9 A O)):=by
  refine gz.loop (fun q:List Bd×Int=>∃j:Nat,j<=W.length/\q.2=j/\Ku q.1/\∀x,x∈q.1<->∃g∈W.take j,x=vg g) (fun q:List Bd×Int=>W.length-q.2.toNat) ⟨0,gq,rfl,List.Pairwise.nil,by simp⟩ ?_;rintro⟨A,_⟩ ⟨j,h1,rfl,h2,h3⟩;simp only at h2 h3;have hAp:∀x∈A,PL x:=fun x hx=>by
   obtain⟨g,hg,rfl⟩:=(h3 x).1 hx;exact hWp g (bE hg)
  have hAl:A.length<=W.length:=by
   have:=xd (U:=W.map vg) (Au h2) fun x hx=>by
    obtain⟨g,hg,rfl⟩:=(h3 x).1 hx;exact aY.2 ⟨g,bE hg,rfl⟩
   rwa [aK]at this
  simp only[lJ];by_cases hj:j<W.length
  ·have hm:=aC hj;rw[ah (by simpa using hj),ah gq,jS (n:=(j:Int)+1) gq gq];simp only[aq,gH hj];rw[MH (hWL.2 _ hm).1.1,aa];refine gz.bind (Fz h2 (hWp _ hm).gs (fun x hx=>(hAp x hx).gs) gq) fun A' hA'=>.some ⟨⟨j+1,gq,by simp,hA'.1,fun x=>?_⟩,by simp only[];omega⟩
   rw[hA'.2 x,h3 x,aJ hj];constructor
   ·rintro(h|⟨g,hg,h⟩)
    ·exact⟨W[j],cV _ (bq.2 rfl),h⟩
    ·exact⟨g,bF _ hg,h⟩
   ·rintro⟨g,hg,h⟩;rcases aM.1 hg with hg|hg
    ·exact .inr ⟨g,hg,h⟩
    ·rw[bq]at hg;rw[hg]at h;exact .inl h
  ·obtain rfl:j=W.length:=by omega
   rw[ay (by simp)];rw[bh]at h3;refine gz.inr ?_;have h3':∀x,x∈A<->II a ac p t x:=fun x=>by rw[h3 x,hrec x]
   refine gz.ite (fun hc=>?_) fun hc=>?_
   ·have h20:(20:Int)<A.length:=by simpa using hc
    exact .some ⟨A,h2,h3',.inl ⟨gq,rfl⟩⟩
   ·have h20:(A.length:Int)<=20:=by simpa using hc
    have h20:A.length<=20:=by omega
    exact(JV gq hAp).mono fun q hq=>⟨A,h2,h3',.inr ⟨h20,hq⟩⟩
 obtain⟨q,hq,A,hA1,hA2,hA3⟩:=key.get;have hdl:r.1.length<=A.length:=xd hdn fun x hx=>(hA2 x).2 (hdm x hx)
 have hAp:∀x∈A,PL x:=fun x hx=>by
  obtain⟨g,hg,rfl⟩:=(hA2 x).1 hx;exact G5 hE (hgb g hg)
 rw[Ag,aa]at hI;by_cases h20:20<r.1.length
 ·left;rw[ah (by simpa using h20)]at hI;refine⟨hI,?_⟩;rw[hS,hq];rcases hA3 with⟨_,rfl⟩|⟨h5,_⟩
  ·rfl
  ·omega
 ·right;have hall:=hR.all gq;have hperm:r.1.Perm A:=(List.perm_ext_iff_of_nodup hdn (Au hA1)).2 fun x=>⟨fun h=>(hA2 x).2 (hdm x h),fun h=>hall x ((hA2 x).1 h)⟩
  have hlen:=hperm.length_eq;rcases hA3 with⟨h5,_⟩|⟨h5,O2,rfl,hO2⟩
  ·omega
  have hsort:A=rV r.1:=B9 (hperm.symm.trans (yC _).symm) (hA1.imp fun h=>eo h) (zF _);obtain⟨q1,hq1,O1,rfl,hO1⟩:=(Jo hsort gq hAp).get;rw[ay (by simpa using h20)]at hI;have hF:xE r.1=some ():=by
   unfold xE;rw[ah];refine⟨gq,fun x hx=>?_⟩;have hp:=hAp x ((hA2 x).2 (hdm x hx));have:=hp.1;exact⟨gq,fun y hy=>by have:=hp.2 y hy;omega⟩
  rw[hF,aa,hq1]at hI;exact⟨A,O1,O2,⟨h5,hA1,hA2,hI,by rw[hS,hq],hO1,hO2,hgb,hE⟩⟩
def Cp(a ac:fN)(i:Nat):Bool:=decide (0<=ac.getD i default)&&decide (ac.getD i default<a.length)&&(i==0||decide (ac.getD (i-1) default<ac.getD i default))
def A_(a ac:fN)(i:Nat):Bool:=a.getD (ac.getD i default).toNat default==2
theorem yP{a ac:fN}{i:Nat}{v:Int}(hv:ac.getD i default=v):Cp a ac i=true<->0<=v/\v<a.length/\(i=0\/ac.getD (i-1) default<v):=by
 subst hv;unfold Cp;simp only[bL,az,eO,dF,and_assoc]
theorem IJ{a ac:fN}{i:Nat}{v:Int}(hv:ac.getD i default=v):A_ a ac i=true<->a.getD v.toNat default=2:=by
 subst hv;unfold A_;simp only[dF]
theorem HB{a ac:fN}{i:Nat}{v:Int}(hv:ac.getD i default=v):(Cp a ac i&&A_ a ac i)=true<->(0<=v/\v<a.length/\(i=0\/ac.getD (i-1) default<v))/\a.getD v.toNat default=2:=by rw[bL,yP hv,IJ hv]
def uj(a ac:fN):Bool:=iz a&&(List.range ac.length).all fun i=>Cp a ac i&&A_ a ac i
theorem Jn{a ac:fN}(hl:ac.length<=1000):sH a ac=some (uj a ac):=by
 unfold sH uj;rw[wj,aa];cases ha:iz a with
 |false=>rfl
 |true=>
  rw[ah rfl,cr];have key:=uw (xs:=List.range ac.length) (p:=fun i=>Cp a ac i&&A_ a ac i) (f:=pe a ac) (fun i x hi hi2 hx he=>by
   rw[cc]at hi hi2;have:x=i:=by rw[<-he];simp[ak,hi]
   subst this;simp only[pe];rw[ah (by simpa using hi),ah gq];simp only[aq];rw[jS (n:=(x:Int)+1) gq gq];obtain⟨v,hv⟩:∃v,ac.getD x default=v:=⟨_,rfl⟩;have hB:=HB (a:=a) hv;simp only[hv];by_cases h1:v<0
   ·rw[ah (by simpa using h1),ay (by rw[hB];omega)];rfl
   ·rw[ay (by simpa using h1)];by_cases h2:(a.length:Int)<=v
    ·rw[ah (by simpa using h2),ay (by rw[hB];omega)];rfl
    ·rw[ay (by simpa using h2),ah gq];by_cases h3:a.getD v.toNat default=2
     ·rw[ay (by simp only[h3,dQ];decide)];by_cases h4:0<x
      ·rw[ah (by simpa using h4),jS (n:=(x:Int)-1) gq gq,ah gq,show((x:Int)-1).toNat=x-1 by omega];by_cases h5:v<=ac.getD (x-1) default
       ·rw[ah (by simpa using h5),ay (by rw[hB];omega)];rfl
       ·rw[ay (by simpa using h5),ah (by rw[hB];omega)]
      ·rw[ay (by simpa using h4),ah (by rw[hB];omega)]
     ·rw[ah (by simpa using h3),ay (by rw[hB];exact fun h=>h3 h.2)];rfl) (by
   rw[cc];simp only[pe];rw[ay (by simp)];rfl)
  exact key
theorem JT{a ac:fN}(hl:ac.length<=1000):sI a ac=some (uj a ac):=by
 unfold sI uj;rw[qv,aa];cases ha:iz a with
 |false=>rfl
 |true=>
  have hal:=(oO.1 ha).2.1;rw[ah rfl,cr];have k1:qh ac (a.length:Int)=some ((List.range ac.length).all (Cp a ac)):=by
   unfold qh;refine uw (xs:=List.range ac.length) (p:=Cp a ac) (f:=nV ac a.length) (fun i x hi hi2 hx he=>?_) ?_
   ·rw[cc]at hi hi2;have:x=i:=by rw[<-he];simp[ak,hi]
    subst this;simp only[nV];rw[ah (by simpa using hi),ah gq];simp only[aq];rw[jS (n:=(x:Int)+1) gq gq,jS (n:=(a.length:Int)-1) gq gq,pz,aa];obtain⟨v,hv⟩:∃v,ac.getD x default=v:=⟨_,rfl⟩;have hB:=yP (a:=a) hv;simp only[hv];by_cases h1:0<=v/\v<a.length
    ·rw[ah (by simp only[bL,az];omega)];by_cases h4:0<x
     ·rw[ah (by simpa using h4),ah gq,jS (n:=(x:Int)-1) gq gq,ah gq,show((x:Int)-1).toNat=x-1 by omega];by_cases h5:v<=ac.getD (x-1) default
      ·rw[ah (by simpa using h5),ay (by rw[hB];omega)];rfl
      ·rw[ay (by simpa using h5),ah (by rw[hB];omega)]
     ·rw[ay (by simpa using h4),ah (by rw[hB];omega)]
    ·rw[ay (by simp only[bL,az];omega),ay (by rw[hB];omega)];rfl
   ·rw[cc];simp only[nV];rw[ay (by simp)];rfl
  rw[k1,aa];cases hs:(List.range ac.length).all (Cp a ac)with
  |false=>
   rw[ay (by decide)];congr 1;symm;rw[List.all_eq_false]at hs⊢;obtain⟨x,hx,h⟩:=hs;exact⟨x,hx,by simp[h]⟩
  |true=>
   rw[ah rfl];have hs:=cM.1 hs;have key:=uw (xs:=List.range ac.length) (p:=fun i=>Cp a ac i&&A_ a ac i) (f:=pn a ac) (fun i x hi hi2 hx he=>by
    have hsx:=hs x hx;rw[cc]at hi hi2;have:x=i:=by rw[<-he];simp[ak,hi]
    subst this;have hin:0<=ac.getD x default/\ac.getD x default<a.length:=by
     have:=(yP rfl).1 hsx;exact⟨this.1,this.2.1⟩
    have hB:=HB (a:=a) (ac:=ac) (i:=x) rfl;have hsx':=(yP rfl).1 hsx;simp only[pn];rw[ah (by simpa using hi),ah gq];simp only[aq];rw[jS (n:=(x:Int)+1) gq gq,ah hin];by_cases h3:a.getD (ac.getD x default).toNat default=2
    ·rw[ay (by simp only[h3,dQ];decide),ah (hB.2 ⟨hsx',h3⟩)]
    ·rw[ah (by simpa using h3),ay (by rw[hB];exact fun h=>h3 h.2)];rfl) (by
    rw[cc];simp only[pn];rw[ay (by simp)];rfl)
   exact key
theorem FY{a ac:fN}(h:uj a ac=true):iz a=true/\tg a ac:=by
 unfold uj at h;rw[bL]at h;refine⟨h.1,fun f hf=>?_⟩;obtain⟨i,hi,rfl⟩:=ck hf;have:=cM.1 h.2 i (by simp[hi]);unfold Cp A_ at this;rw[gH hi]at this;simp only[bL,az,dF]at this;refine⟨this.1.1.1,?_⟩;have h9:¬ac[i]<0:=by omega
 unfold mV;rw[ay h9];have h2:=this.2;have:a.getD ac[i].toNat 0=2:=h2;rw[this];rfl
theorem EZ{a ac t:fN}(hl:ac.length<=1000):qe a ac t=some (uj a ac&&lS a t):=by
 unfold qe;rw[Jn hl,aa];cases uj a ac with
 |false=>rfl
 |true=>rw[ah rfl,vm];rfl
theorem uD{a ac t:fN}(hl:ac.length<=1000):kf a ac t=some (uj a ac&&lS a t):=by
 unfold kf;rw[JT hl,aa];cases uj a ac with
 |false=>rfl
 |true=>rw[ah rfl,nQ];rfl
end Go.Proofs.YthdnkoejpdcnpaaGreat
