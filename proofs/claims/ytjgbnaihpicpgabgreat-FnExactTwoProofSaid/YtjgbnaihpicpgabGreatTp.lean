/- A part of the proof about FnExactTwoProof (VL, VM, VR, VO). -/
import Derived.Test.YtjgbnaihpicpgabGreatTm
import Derived.Test.YtjgbnaihpicpgabGreatTn
import Derived.Test.YtjgbnaihpicpgabGreatTo
set_option linter.all false
namespace Go.Proofs.YtjgbnaihpicpgabGreat
open Go oq Tm
open Un hiding Bd
def dfO(a:gI)(bs:LL):Option gI:=bs.find? fun u=>!(u==a)
def C6(bs:LL):LL->Option gM
 |[]=>none
 |a::dz'=>match dfO a bs with|some u=>some (a,u)|none=>C6 bs dz'
theorem V4{a u:gI}{bs:LL}(h:dfO a bs=some u):u∈bs:=List.mem_of_find?_eq_some h
theorem Lo{bs:LL}:∀{dz':LL}{a u:gI},C6 bs dz'=some (a,u)->a∈dz'/\u∈bs
 |x::dz',a,u,h=>by
  rw[C6]at h;split at h
  ·rename_i w hw;cases h;exact⟨bf,V4 hw⟩
  ·obtain⟨h1,h2⟩:=Lo h;exact⟨aX _ h1,h2⟩
theorem yI{α:Type}[Inhabited α]{xs q:List α}{i:Nat}{m:α}(hq:xs.drop i=m::q):i<xs.length/\xs.getD i default=m/\xs.drop (i+1)=q/\m∈xs:=by
 obtain⟨h1,h2,h3⟩:=drop_cons hq;exact⟨h1,h2,h3,by rw[<-h2];exact jP h1⟩
theorem Dw{ts:LL}{t:gI}(hl:ts.length<=60)(hs:∀u∈ts,u.length<=60):t_ ts t=some (match dfO t ts with|some u=>(u,true)|none=>([],false)):=by
 have key:∀(q:LL){i:Nat},ts.drop i=q->iL (mP ts t) (i:Int)=some (match q.find? (fun u=>!(u==t))with|some u=>(u,true)|none=>([],false)):=by
  intro q;induction q with
  |nil=>
   intro i hq;have hi:ts.length<=i:=by simpa using hq
   refine iK ?_;rw[mP,aj (by simp only[au];omega)];rfl
  |cons m q ih=>
   intro i hq;obtain⟨hi,hm,hq',hmm⟩:=yI hq;have hml:=hs m hmm;have hw:IntKind.i64.wrap ((i:Int)+1)=((i+1:Nat):Int):=by rw[kM iA iA];rfl
   have e0:mP ts t (i:Int)=if(m==t)=true then some (.inl ((i+1:Nat):Int))else some (.inr (m,true)):=by
    rw[mP,ah (by simp only[au];omega),ah iA,ai,hm,qi (by show List.length _<_;omega),aa,hw];rfl
   rw[List.find?_cons];by_cases c:(m==t)=true
   ·rw[ah c]at e0;rw[c];exact(iZ e0).trans (ih hq')
   ·rw[aj c]at e0;have c':(m==t)=false:=by simpa using c
    rw[c'];exact iK e0
 exact key ts (i:=0) rfl
theorem Hj{dz' bs:LL}(ha:dz'.length<=60)(hb:bs.length<=60)(hs:∀u∈dz',u.length<=60):uk dz' bs=some (match C6 bs dz' with|some p=>(p.1,p.2,true)|none=>([],[],false)):=by
 have inner:∀{i:Nat}{a:gI},i<dz'.length->dz'.getD i default=a->∀(q:LL){k:Nat},bs.drop k=q->iL (lH dz' bs i) (k:Int)=some (match q.find? (fun u=>!(u==a))with|some u=>.inr (a,u,true)|none=>.inl ((i+1:Nat):Int)):=by
  intro i a hi hai q;have hal:a.length<=60:=hs a (by rw[<-hai];exact jP hi);induction q with
  |nil=>
   intro k hq;have hk:bs.length<=k:=by simpa using hq
   refine iK ?_;rw[lH,aj (by simp only[au];omega),kM iA iA];rfl
  |cons m q ih=>
   intro k hq;obtain⟨hk,hm,hq',hmm⟩:=yI hq;have hw:IntKind.i64.wrap ((k:Int)+1)=((k+1:Nat):Int):=by rw[kM iA iA];rfl
   have e0:lH dz' bs i (k:Int)=if(a==m)=true then some (.inl ((k+1:Nat):Int))else some (.inr (.inr (a,m,true))):=by
    rw[lH,ah (by simp only[au];omega),ah iA,ah iA,ai,ai,hai,hm,pg (by show List.length _<_;omega),aa,hw];by_cases c:(a==m)=true
    ·rw[ah c,ah c]
    ·rw[aj c,aj c,ah iA,ah iA];rfl
   rw[List.find?_cons];by_cases c:(a==m)=true
   ·rw[ah c]at e0;have c':(m==a)=true:=by simp only[bC]at c⊢;exact c.symm
    rw[c'];exact(iZ e0).trans (ih hq')
   ·rw[aj c]at e0;have c':(m==a)=false:=by simp only[bC,bV]at c⊢;exact fun e=>c e.symm
    rw[c'];exact iK e0
 have outer:∀(q:LL){i:Nat},dz'.drop i=q->iL (mU dz' bs) (i:Int)=some (match C6 bs q with|some p=>(p.1,p.2,true)|none=>([],[],false)):=by
  intro q;induction q with
  |nil=>
   intro i hq;have hi:dz'.length<=i:=by simpa using hq
   refine iK ?_;rw[mU,aj (by simp only[au];omega)];rfl
  |cons m q ih=>
   intro i hq;obtain⟨hi,hm,hq',hmm⟩:=yI hq;have e:=inner hi hm bs (k:=0) rfl;have e0:mU dz' bs (i:Int)=iL (lH dz' bs i) 0:=by rw[mU,ah (by simp only[au];omega)]
   rw[show(0:Int)=((0:Nat):Int)from rfl,e]at e0;rw[C6];unfold dfO;cases hf:bs.find? (fun u=>!(u==m))with
   |some u=>rw[hf]at e0;exact iK e0
   |none=>rw[hf]at e0;exact(iZ e0).trans (ih hq')
 exact outer dz' (i:=0) rfl
def Vg(sys:Sys)(steps:Int):List Pk->Option (Pk×gI×gI)
 |[]=>none
 |x::xs=>match C6 (Bb sys x.2.2.1 steps) (Bb sys x.2.1 steps)with|some p=>some (x,p.1,p.2)|none=>Vg sys steps xs
def QB(o:Option (Pk×gI×gI)):Pk×gI×gI×Bool:=match o with|some p=>(p.1,p.2.1,p.2.2,true)|none=>(pk0.1,[],[],false)
theorem OU{sys:Sys}{steps:Int}:∀{xs:List Pk}{p:Pk×gI×gI},Vg sys steps xs=some p->p.1∈xs/\p.2.1∈Bb sys p.1.2.1 steps/\p.2.2∈Bb sys p.1.2.2.1 steps
 |x::xs,p,h=>by
  rw[Vg]at h;split at h
  ·rename_i w hw;cases h;obtain⟨h1,h2⟩:=Lo (a:=w.1) (u:=w.2) hw;exact⟨bf,h1,h2⟩
  ·obtain⟨h1,h2⟩:=OU h;exact⟨aX _ h1,h2⟩
theorem OA(sys:Sys):(Rw sys).1.length<=64:=by
 unfold Rw;cases h:HP sys (Vf sys sys.2.length) []with
 |none=>simp
 |some o=>exact FR h (by simp)
theorem W_{sys:Sys}(h:(Rw sys).2=false):(Rw sys).1=[]:=by
 unfold Rw at h⊢;cases e:HP sys (Vf sys sys.2.length) []with
 |none=>rfl
 |some o=>rw[e]at h;cases h
theorem On{sys:Sys}{t:gI}{steps:Int}(h:¬(0<=steps/\steps<=20)):Bb sys t steps=[]:=by
 unfold Bb;rw[aj];intro c;exact h (xp.1 c).2.2
theorem OV{sys:Sys}{steps:Int}(h:¬(0<=steps/\steps<=20)):∀xs:List Pk,Vg sys steps xs=none
 |[]=>rfl
 |x::xs=>by rw[Vg,On h,On h];exact OV h xs
noncomputable def BV(sys:Sys)(steps:Int):Option (Pk×gI×gI):=if kC sys=true then Vg sys steps (Rw sys).1 else none
theorem FF{sys:Sys}{steps:Int}{R:List Pk×Bool}(hR:R.1.length<=64)(h2:R.2=true):∀(q:List Pk){i:Nat},R.1.drop i=q->iL (lK sys steps R) (i:Int)=some (QB (Vg sys steps q)):=by
 intro q;induction q with
 |nil=>
  intro i hq;have hi:R.1.length<=i:=by simpa using hq
  refine iK ?_;rw[lK,ah h2,aj (by simp only[au];omega)];rfl
 |cons x q ih=>
  intro i hq;obtain⟨hi,hx,hq',_⟩:=yI hq;have hw:IntKind.i64.wrap ((i:Int)+1)=((i+1:Nat):Int):=by rw[kM iA iA];rfl
  have e0:lK sys steps R (i:Int)=match C6 (Bb sys x.2.2.1 steps) (Bb sys x.2.1 steps)with|some p=>some (.inr (QB (some (x,p.1,p.2))))|none=>some (.inl ((i+1:Nat):Int)):=by
   rw[lK,ah h2,ah (by simp only[au];omega),ah iA,ai,hx,ym,aa,ah iA,ym,aa,Hj (FN _ _ _) (FN _ _ _) (fun u hu=>Tx hu),aa,hw];cases C6 (Bb sys x.2.2.1 steps) (Bb sys x.2.1 steps)with
   |some p=>simp only[aA];rw[ah iA];rfl
   |none=>rfl
  rw[Vg];cases hu:C6 (Bb sys x.2.2.1 steps) (Bb sys x.2.1 steps)with
  |some p=>rw[hu]at e0;exact iK e0
  |none=>rw[hu]at e0;exact(iZ e0).trans (ih hq')
theorem Dc(sys:Sys)(steps:Int):tG sys steps=some (QB (BV sys steps)):=by
 unfold tG BV;rw[Db,aa];have off:∀R:List Pk×Bool,R.2=false->iL (lK sys steps R) 0=some (QB none):=fun R h=>iK (by rw[lK,aj (by rw[h];simp)];rfl)
 by_cases hs:kC sys=true
 ·rw[ah hs,ah hs];cases h2:(Rw sys).2 with
  |true=>exact FF (OA sys) h2 _ (i:=0) rfl
  |false=>rw[off _ h2,W_ h2];rfl
 ·rw[aj hs,aj hs,off _ rfl]
theorem FB{sys:Sys}{steps:Int}{R:List Pk×Bool}(hR:R.1.length<=64):∀(q:List Pk){i:Nat},R.1.drop i=q->iL (nZ sys steps R) (i:Int)=some (QB (Vg sys steps q)):=by
 intro q;induction q with
 |nil=>
  intro i hq;have hi:R.1.length<=i:=by simpa using hq
  refine iK ?_;rw[nZ,aj (by simp only[au];omega)];rfl
 |cons x q ih=>
  intro i hq;obtain⟨hi,hx,hq',_⟩:=yI hq;have hw:IntKind.i64.wrap ((i:Int)+1)=((i+1:Nat):Int):=by rw[kM iA iA];rfl
  have inner:∀(dz':LL){k:Nat},(Bb sys x.2.1 steps).drop k=dz'->iL (n_ R i (Bb sys x.2.2.1 steps) (Bb sys x.2.1 steps)) (k:Int)=some (match C6 (Bb sys x.2.2.1 steps) dz' with|some p=>.inr (QB (some (x,p.1,p.2)))|none=>.inl ((i+1:Nat):Int)):=by
   have hnl:=FN sys x.2.1 steps;intro dz';induction dz' with
   |nil=>
    intro k hk;have hk':(Bb sys x.2.1 steps).length<=k:=by simpa using hk
    refine iK ?_;rw[n_,aj (by simp only[au];omega),hw];rfl
   |cons a dz' ih2=>
    intro k hk;obtain⟨hkl,ha,hk',_⟩:=yI hk;have hwk:IntKind.i64.wrap ((k:Int)+1)=((k+1:Nat):Int):=by rw[kM iA iA];rfl
    have e1:n_ R i (Bb sys x.2.2.1 steps) (Bb sys x.2.1 steps) (k:Int)=match dfO a (Bb sys x.2.2.1 steps)with|some u=>some (.inr (.inr (QB (some (x,a,u)))))|none=>some (.inl ((k+1:Nat):Int)):=by
     rw[n_,ah (by simp only[au];omega),ah iA,ai,ai,ha,hx,Dw (FN _ _ _) (fun u hu=>Tx hu),aa,hwk];cases dfO a (Bb sys x.2.2.1 steps)<;>rfl
    rw[C6];cases hu:dfO a (Bb sys x.2.2.1 steps)with
    |some u=>rw[hu]at e1;exact iK e1
    |none=>rw[hu]at e1;exact(iZ e1).trans (ih2 hk')
  have e0:nZ sys steps R (i:Int)=match C6 (Bb sys x.2.2.1 steps) (Bb sys x.2.1 steps)with|some p=>some (.inr (QB (some (x,p.1,p.2))))|none=>some (.inl ((i+1:Nat):Int)):=by
   have:=inner (Bb sys x.2.1 steps) (k:=0) rfl;rw[nZ,ah (by simp only[au];omega),ah iA,ai,hx,yg,aa,yg,aa];refine Eq.trans this ?_;cases C6 (Bb sys x.2.2.1 steps) (Bb sys x.2.1 steps)<;>rfl
  rw[Vg];cases hu:C6 (Bb sys x.2.2.1 steps) (Bb sys x.2.1 steps)with
  |some p=>rw[hu]at e0;exact iK e0
  |none=>rw[hu]at e0;exact(iZ e0).trans (ih hq')
theorem Ec(steps:Int):uK steps=some (dpB steps):=by
 unfold uK dpB;by_cases h:0<=steps<;>simp[h]
theorem C9(sys:Sys)(steps:Int):tu sys steps=some (QB (BV sys steps)):=by
 unfold tu BV;rw[vj,aa];by_cases hs:kC sys=true
 ·rw[ah hs,ah hs,Ec,aa];by_cases hd:dpB steps=true
  ·rw[ah hd,Fj hs,aa];exact FB (OA sys) _ (i:=0) rfl
  ·rw[aj hd,OV (fun c=>hd (V6.2 c))];rfl
 ·rw[aj hs,aj hs];rfl
theorem DJ:∀{us:LL}{i k:Nat},k<us.length->(wU i us).getD k default=((i+(us.take k).flatten.length:Nat):Int)
 |[],i,k,h=>by simp at h
 |u::us,i,0,h=>by simp[wU]
 |u::us,i,k+1,h=>by
  rw[wU,fN,DJ (by simpa using h),cC,cg,ak];congr 1;omega
theorem Dt{a t:gI}(ha:kL a=true)(hl:t.length<=60){i:Nat}{x:Int}{w r:gI}(ht:t.drop i=(x::w)++r)(hw:Wv a 1 (x::w)):mD a t i=some (wU (i+1) (qD a (mV a x) w)):=by
 have hlt:x<a.length/\Wv a (mV a x) w:=by
  have:=Wv.jS.1 hw;rw[bU]at this;exact this
 have hs:Small t:=by show t.length<_;omega
 have h3:=wC ha x;have hll:=bP List.length ht;simp at hll;have hi:i<t.length:=by omega
 have hx:t.getD i default=x:=by
  rw[ay hi,bz]at ht;rw[jb hi];exact(cG ht).1
 have hd1:t.drop (i+1)=w++r:=by
  rw[ay hi,bz]at ht;exact(cG ht).2
 unfold mD;rw[ah iA,ai,hx,sY ha hlt.1,aa,show IntKind.i64.wrap ((i:Int)+1)=((i+1:Nat):Int) by rw[kM iA iA];rfl];have key:∀(k:Nat){q o:gI}{i:Nat},Wv a k q->t.drop i=q++r->k+o.length<=3->iL (kV a t) (o,(i:Int),(k:Int))=some (o++wU i (qD a k q)):=by
  intro k;induction k with
  |zero=>
   intro q o i hq hd ho;refine iK ?_;rw[kV,aj (by simp),qD,wU,aT];rfl
  |succ k ih=>
   intro q o i hq hd ho;rw[cP]at hq;obtain⟨u,v,rfl,w1,w2⟩:=hq.split;have hll:=bP List.length hd;have:=w1.len;rw[cV,ak,ak]at hll;rw[aF]at hd;have hd':t.drop (i+u.length)=v++r:=by rw[<-List.drop_drop,hd,bS]
   have e:BS a (u++v) 1=some v:=w1.skip v;have e2:(u++v).take ((u++v).length-v.length)=u:=by rw[ak,dB];simp
   have e3:qD a (k+1) (u++v)=u::qD a k v:=by rw[qD,e];simp only;rw[e2]
   refine(iZ ?_).trans (b:=iL (kV a t) (o++[(i:Int)],((i+u.length:Nat):Int),(k:Int))) ?_
   ·rw[kV,ah (by simp only[au];omega),ah iA,uX ha hs hd w1,aa];have e5:IntKind.i64.wrap (((k+1:Nat):Int)-1)=(k:Int):=by rw[kM iA iA];omega
    rw[e5,show(t.length:Int)-(v++r).length=((i+u.length:Nat):Int) by rw[ak];omega]
   ·rw[ih w2 hd' (by rw[ak,aU];omega),e3,wU,aF];rfl
 have:=key (mV a x) (q:=w) (o:=[]) (i:=i+1) hlt.2 hd1 (by simpa using h3);rw[aZ]at this;exact this
theorem TM{a:gI}:∀{k:Nat}{t:gI},Wf a k t->∀u∈qD a k t,Wf a 1 u
 |0,t,h,u,hu=>by simp[qD]at hu
 |k+1,t,h,u,hu=>by
  rw[cP]at h;obtain⟨v,w,rfl,h1,h2⟩:=h.split;have e:BS a (v++w) 1=some w:=(uz h1).skip w;have e2:(v++w).take ((v++w).length-w.length)=v:=by rw[ak,dB];simp
  have e3:qD a (k+1) (v++w)=v::qD a k w:=by rw[qD,e];simp only;rw[e2]
  rw[e3]at hu;rcases bA.1 hu with rfl|hu
  ·exact h1
  ·exact TM h2 u hu
theorem DW{a t:gI}(ha:kL a=true)(hl:t.length<=60){i:Nat}{x:Int}{w r:gI}(ht:t.drop i=(x::w)++r)(hw:Wf a 1 (x::w)):sS a t i=some (wU (i+1) (qD a (mV a x) w)):=by
 have hlt:Iy a x/\Wf a (mV a x) w:=by
  have:=Wf.jS.1 hw;rw[bU]at this;exact this
 have hs:Small t:=by show t.length<_;omega
 have h3:=wC ha x;have hll:=bP List.length ht;simp at hll;have hi:i<t.length:=by omega
 have hx:t.getD i default=x:=by
  rw[ay hi,bz]at ht;rw[jb hi];exact(cG ht).1
 have hd1:t.drop (i+1)=w++r:=by
  rw[ay hi,bz]at ht;exact(cG ht).2
 unfold sS;rw[ah iA,ai,hx,zo ha,aa,ah hlt.1,show IntKind.i64.wrap ((i:Int)+1)=((i+1:Nat):Int) by rw[kM iA iA];rfl];have key:∀(k:Nat){q o:gI}{i:Nat},Wf a k q->t.drop i=q++r->k+o.length<=3->iL (oP a t) (o,(i:Int),(k:Int))=some (o++wU i (qD a k q)):=by
  intro k;induction k with
  |zero=>
   intro q o i hq hd ho;refine iK ?_;rw[oP,aj (by simp),qD,wU,aT];rfl
  |succ k ih=>
   intro q o i hq hd ho;rw[cP]at hq;obtain⟨u,v,rfl,w1,w2⟩:=hq.split;have hll:=bP List.length hd;have:=w1.len;rw[cV,ak,ak]at hll;rw[aF]at hd;have hd':t.drop (i+u.length)=v++r:=by rw[<-List.drop_drop,hd,bS]
   have e:BS a (u++v) 1=some v:=(uz w1).skip v;have e2:(u++v).take ((u++v).length-v.length)=u:=by rw[ak,dB];simp
   have e3:qD a (k+1) (u++v)=u::qD a k v:=by rw[qD,e];simp only;rw[e2]
   refine(iZ ?_).trans (b:=iL (oP a t) (o++[(i:Int)],((i+u.length:Nat):Int),(k:Int))) ?_
   ·rw[oP,ah (by simp only[au];omega),ah iA,sH ha hs iA,Aj hd w1,aa];have e5:IntKind.i64.wrap (((k+1:Nat):Int)-1)=(k:Int):=by rw[kM iA iA];omega
    rw[e5,show(t.length:Int)-(v++r).length=((i+u.length:Nat):Int) by rw[ak];omega]
   ·rw[ih w2 hd' (by rw[ak,aU];omega),e3,wU,aF];rfl
 have:=key (mV a x) (q:=w) (o:=[]) (i:=i+1) hlt.2 hd1 (by simpa using h3);rw[aZ]at this;exact this
theorem GG{a t u r:gI}(ha:kL a=true)(hl:t.length<=60){j p:Nat}(hd:t.drop j=u++r)(hu:Wf a 1 u):uL a t j p=some (decide (j<=p/\p<j+u.length)):=by
 have hll:=bP List.length hd;have:=hu.len;simp at hll;unfold uL;by_cases h:j<=p
 ·rw[ah (by simpa using h),uX ha (by show t.length<_;omega) hd (uz hu),aa];congr 1;rw[eL];omega
 ·rw[aj (by simpa using h)];congr 1;rw[eq_comm,cm];omega
theorem Hh{a t u r:gI}(ha:kL a=true)(hl:t.length<=60){j p:Nat}(hd:t.drop j=u++r)(hu:Wf a 1 u):sJ a t j p=some (decide (j<=p/\p<j+u.length)):=by
 have hll:=bP List.length hd;have:=hu.len;simp at hll;unfold sJ;rw[sH ha (by show t.length<_;omega) iA,Aj hd hu,aa,kM iA iA,jT,aa];congr 1;rw[eW];simp only[bh,au];omega
inductive PR(a t:gI):Nat->List Nat->Nat->Prop
 |nil {p:Nat}:PR a t p [] p
 |cons {p k q:Nat} {ks:List Nat} {x:Int} {w r:gI} (hd:t.drop p=(x::w)++r) (hw:Wf a 1 (x::w)) (hk:k<(qD a (mV a x) w).length) (h:PR a t (p+1+((qD a (mV a x) w).take k).flatten.length) ks q):PR a t p (k::ks) q
theorem PW{a t:gI}(ha:kL a=true)(hl:t.length<=60){P:LL}{i0 iY:Nat}{r:gI}(hd:t.drop i0=P.flatten++r)(wP:∀u∈P,Wf a 1 u)(hP:P.length<=3)(hend:iY<i0+P.flatten.length){path:gI}(hp:path.length<=1000)(p:Int):
 ∀(us pre:LL),P=pre++us->i0+pre.flatten.length<=iY->∃(k j:Nat)(u r':gI),k<P.length/\j=i0+(P.take k).flatten.length/\t.drop j=u++r'/\Wf a 1 u/\j<=iY/\iY<j+u.length/\
  iL (qW a t iY path p (wU i0 P)) (pre.length:Int)=some (.inl (path++[(k:Int)],(j:Int)))/\iL (rJ a t iY path p (wU i0 P)) (pre.length:Int)=some (.inl (path++[(k:Int)],(j:Int))):=by
 intro us;induction us with
 |nil=>intro pre e h;rw[aT]at e;subst e;omega
 |cons u us ih=>
  intro pre e h;have hlen:pre.length<P.length:=by rw[e];simp
  have htk:P.take pre.length=pre:=by rw[e,ef]
  have hget:(wU i0 P).getD pre.length default=((i0+pre.flatten.length:Nat):Int):=by rw[DJ hlen,htk]
  have hdj:t.drop (i0+pre.flatten.length)=u++(us.flatten++r):=by rw[<-List.drop_drop,hd,e,dO,cg,aF,bS,aF]
  have hu:Wf a 1 u:=wP u (by rw[e];simp);have hin1:=GG ha hl (p:=iY) hdj hu;have hin2:=Hh ha hl (p:=iY) hdj hu;have hol:(wU i0 P).length=P.length:=zf _ _;have hw:IntKind.i64.wrap ((pre.length:Int)+1)=((pre.length+1:Nat):Int):=by rw[kM iA iA];rfl
  by_cases c:iY<i0+pre.flatten.length+u.length
  ·refine⟨pre.length,i0+pre.flatten.length,u,us.flatten++r,hlen,by rw[htk],hdj,hu,h,c,iK ?_,iK ?_⟩
   ·rw[qW,ah (by simp only[au];omega),ah iA,ai,hget,hin1,aa,ah (by simp only[au];omega),ah iA];rfl
   ·rw[rJ,ah (by simp only[au];omega),ah iA,ai,hget,hin2,aa,ah (by simp only[au];omega),ah iA,ah iA];rfl
  ·obtain⟨k,j,u',r',q1,q2,q3,q4,q5,q6,q7,q8⟩:=ih (pre++[u]) (by rw[e,aF];rfl) (by rw[dO,ak,cg,gw,aT];omega);have e1:(((pre++[u]).length:Nat):Int)=((pre.length+1:Nat):Int):=by simp
   rw[e1]at q7 q8;refine⟨k,j,u',r',q1,q2,q3,q4,q5,q6,(iZ ?_).trans q7,(iZ ?_).trans q8⟩
   ·rw[qW,ah (by simp only[au];omega),ah iA,ai,hget,hin1,aa,aj (by simp only[au];omega),hw]
   ·rw[rJ,ah (by simp only[au];omega),ah iA,ai,hget,hin2,aa,aj (by simp only[au];omega),hw]
abbrev nI(ks:List Nat):gI:=ks.map fun k:Nat=>(k:Int)
theorem Qq{a t:gI}(ha:kL a=true)(hl:t.length<=60){iY:Nat}:∀(n:Nat){p:Nat}{u r path:gI},iY-p=n->p<=iY->t.drop p=u++r->Wf a 1 u->iY<p+u.length->path.length<=p->
 ∃ks,PR a t p ks iY/\iL (qV a t iY) (path,(p:Int))=some (path++nI ks)/\iL (rI a t iY) (path,(p:Int))=some (path++nI ks):=by
 intro n;induction n using Nat.strongRecOn with
 |_ n ih=>
  intro p u r path hn hp hd hu hend hpl;by_cases c:p=iY
  ·subst c;refine⟨[],.nil,iK ?_,iK ?_⟩
   ·rw[qV,aj (by simp)];simp
   ·rw[rI,aj (by simp)];simp
  ·obtain⟨x,w,rfl,hox,hw⟩:=hu.pos;rw[bU]at hw;have h3:=wC ha x;obtain⟨i1,i2,i3⟩:=wN (uz hw);have hll:=bP List.length hd;simp at hll;have hpt:p<t.length:=by omega
   have hd1:t.drop (p+1)=(qD a (mV a x) w).flatten++r:=by
    rw[i1];rw[ay hpt,bz]at hd;exact(cG hd).2
   have hend':iY<p+1+(qD a (mV a x) w).flatten.length:=by rw[i1];simp at hend;omega
   obtain⟨k,j,u',r',q1,q2,q3,q4,q5,q6,q7,q8⟩:=PW ha hl hd1 (TM hw) (by rw[i2];exact h3) hend' (path:=path) iA (p:Int) (qD a (mV a x) w) [] rfl (by simp;omega);obtain⟨ks,r1,r2,r3⟩:=ih (iY-j) iA (p:=j) (u:=u') (r:=r') (path:=path++[(k:Int)]) rfl q5 q3 q4 q6 (by rw[ak,aU];omega);refine⟨k::ks,.cons hd hu q1 (by rw[<-q2];exact r1),?_,?_⟩
   ·refine(iZ (s':=(path++[(k:Int)],(j:Int))) ?_).trans (by rw[r2,aF];rfl);rw[qV,ah (by simp only[dV,dP];omega),Dt ha hl hd (uz hu),aa];exact q7
   ·refine(iZ (s':=(path++[(k:Int)],(j:Int))) ?_).trans (by rw[r3,aF];rfl);rw[rI,ah (by simp only[dV,dP];omega),DW ha hl hd hu,aa];exact q8
theorem Qp{a t:gI}(ht:jq a t=true){iY:Nat}(h:iY<t.length):∃ks,PR a t 0 ks iY/\uN a t iY=some (nI ks)/\sO a t iY=some (nI ks):=by
 obtain⟨ha,t1,t2,t3⟩:=ja.1 ht;obtain⟨ks,r1,r2,r3⟩:=Qq ha t2 (iY:=iY) iY (p:=0) (u:=t) (r:=[]) (path:=[]) iA iA (by simp) t3 iA (by simp);refine⟨ks,r1,r2,?_⟩;unfold sO wg rB;rw[oN,ht,aa,ah rfl,kM iA iA,jT,aa,aa,aa,ah (by simp only[bh,au];omega)];have:xE a t iY=some (nI ks):=r3;rw[this];rfl
theorem MV{a t:gI}(ha:kL a=true)(hl:t.length<=60){path:gI}(hpl:path.length<=1000){p q:Nat}{ks:List Nat}(h:PR a t p ks q):∀{i:Nat},path.drop i=nI ks->i+ks.length=path.length->
 iL (qd a t path) ((p:Int),(i:Int))=some (q:Int)/\iL (qk a t path) ((p:Int),(i:Int))=some (q:Int):=by
 induction h with
 |nil=>
  intro i hd hi;have hi':i=path.length:=by simpa using hi
  refine⟨iK ?_,iK ?_⟩
  ·rw[qd,aj (by simp only[au];omega)];rfl
  ·rw[qk,aj (by simp only[au];omega)];rfl
 |@cons p k q ks x w r hd hw hk h ih=>
  intro i hdp hi;rw[aN]at hi;have hi':i<path.length:=by omega
  have hki:path.getD i default=(k:Int):=by
   rw[ay hi']at hdp;rw[jb hi'];exact(cG hdp).1
  have hdp':path.drop (i+1)=nI ks:=by
   rw[ay hi']at hdp;exact(cG hdp).2
  obtain⟨j1,j2⟩:=ih hdp' iA;have hwi:IntKind.i64.wrap ((i:Int)+1)=((i+1:Nat):Int):=by rw[kM iA iA];rfl
  have h3:=wC ha x;have hP:(qD a (mV a x) w).length<=3:=by
   have hw':=(Wf.jS.1 hw).2;rw[bU]at hw';rw[(wN (uz hw')).2.1];exact h3
  have hol:=zf (p+1) (qD a (mV a x) w);refine⟨(iZ ?_).trans j1,(iZ ?_).trans j2⟩
  ·rw[qd,ah (by simp only[au];omega),ah iA,Dt ha hl hd (uz hw),aa,ai,hki,aj (by simp only[au];omega),aj (by simp only[au];omega),ah iA,ai,DJ hk,hwi]
  ·rw[qk,ah (by simp only[au];omega),DW ha hl hd hw,aa,ah iA,ai,hki,kM iA iA,jT,aa,ah (by simp only[bh,au];omega),ah iA,ah iA,ai,DJ hk,hwi]
theorem PR.len{a t:gI}{p q:Nat}{ks:List Nat}(h:PR a t p ks q):p+ks.length<=q:=by
 induction h with
 |nil=>simp
 |cons hd hw hk h ih=>rw[aN];omega
theorem MU{a t:gI}(ht:jq a t=true){ks:List Nat}{q:Nat}(h:PR a t 0 ks q)(hq:q<=100):qS a t (nI ks)=some (q:Int)/\rq a t (nI ks)=some (q:Int):=by
 obtain⟨ha,t1,t2,t3⟩:=ja.1 ht;have:=h.len;obtain⟨j1,j2⟩:=MV ha t2 (path:=nI ks) (by simp;omega) h (i:=0) rfl (by simp);unfold qS rq;rw[oI,oN,ht,aa,aa,ah rfl,ah rfl];exact⟨j1,j2⟩
theorem OC{a:gI}{τ:Sb}:∀{k:Nat}{t:gI},Wf a k t->(∀x∈t,x<0->Wf a 1 (τ x))->qD a k (sub τ t)=(qD a k t).map (sub τ)
 |0,t,h,_=>rfl
 |k+1,t,h,hτ=>by
  rw[cP]at h;obtain⟨u,v,rfl,h1,h2⟩:=h.split;have p1:∀{u v:gI},Wv a 1 u->qD a (k+1) (u++v)=u::qD a k v:=fun{u v} hu=>by
   have e2:(u++v).take ((u++v).length-v.length)=u:=by rw[ak,dB];simp
   rw[qD,hu.skip v];simp only;rw[e2]
  have hu':Wf a 1 (sub τ u):=h1.sub fun x hx h0=>hτ x (bp _ hx) h0
  rw[mu,p1 (uz hu'),p1 (uz h1),OC h2 fun x hx h0=>hτ x (bM _ hx) h0];rfl
theorem Lh(τ:Sb):∀us:LL,sub τ us.flatten=(us.map (sub τ)).flatten
 |[]=>rfl
 |u::us=>by rw[cg,mu,Lh,aK,cg]
theorem PR.sub{a l:gI}{τ:Sb}(hτ:∀x∈l,x<0->Wf a 1 (τ x)){p q:Nat}{ks:List Nat}(h:PR a l p ks q):PR a (Tm.sub τ l) (Tm.sub τ (l.take p)).length ks (Tm.sub τ (l.take q)).length:=by
 induction h with
 |nil=>exact .nil
 |@cons p k q ks x w r hd hw hk h ih=>
  have hx:¬x<0:=fun h0=>by rw[yB h0]at hk;simp[qD]at hk
  have hw':=(Wf.jS.1 hw).2;rw[bU]at hw';have hsp:l=l.take p++((x::w)++r):=by rw[<-hd,bL]
  have hin:∀y∈x::w,y∈l:=fun y hy=>by rw[hsp];exact bM _ (bp _ hy)
  have hsl:Tm.sub τ l=Tm.sub τ (l.take p)++((x::Tm.sub τ w)++Tm.sub τ r):=by
   conv=>lhs;rw[hsp]
   rw[mu,mu,jN,aj hx];rfl
  have hd':(Tm.sub τ l).drop (Tm.sub τ (l.take p)).length=(x::Tm.sub τ w)++Tm.sub τ r:=by rw[hsl,bS]
  have hws:Wf a 1 (x::Tm.sub τ w):=by
   have:=hw.sub (σ:=τ) fun y hy h0=>hτ y (hin y hy) h0
   rw[jN,aj hx]at this;exact this
  have hp:=OC (τ:=τ) hw' fun y hy h0=>hτ y (hin y (aX _ hy)) h0
  refine .cons hd' hws (by rw[hp,aJ];exact hk) ?_;have hfl:(qD a (mV a x) w).flatten=w:=(wN (uz hw')).1;have e1:l.take (p+1+((qD a (mV a x) w).take k).flatten.length)=l.take p++(x::((qD a (mV a x) w).take k).flatten):=by
   have hpl:(l.take p).length=p:=by
    have:=bP List.length hd;simp at this⊢;omega
   have hw2:w=((qD a (mV a x) w).take k).flatten++((qD a (mV a x) w).drop k).flatten:=by rw[<-dO,bL,hfl]
   have hl2:l=(l.take p++(x::((qD a (mV a x) w).take k).flatten))++(((qD a (mV a x) w).drop k).flatten++r):=by
    conv=>lhs;rw[hsp,hw2]
    simp
   conv=>lhs;rw[hl2]
   refine er ?_;rw[ak,aN,hpl];omega
  have e2:(Tm.sub τ (l.take p)).length+1+((qD a (mV a x) (Tm.sub τ w)).take k).flatten.length=(Tm.sub τ (l.take (p+1+((qD a (mV a x) w).take k).flatten.length))).length:=by
   rw[e1,mu,jN,aj hx,hp,<-bO,<-Lh];simp only[ak,aU];omega
  rw[e2];exact ih
end Go.Proofs.YtjgbnaihpicpgabGreat
namespace Go.Proofs.YtjgbnaihpicpgabGreat
open Go oq Tm
abbrev HY:=gI×List zL
theorem zY(s:Sys)(t:gI)(i rule:Int):sP s t i rule=some (rR (mq s t i rule)):=by
 unfold sP rB mq;rw[wm,aa];cases h1:kC s with
 |false=>simp[rR]
 |true=>
  cases h2:jq s.1 t with
  |false=>simp[rR]
  |true=>
   obtain⟨_,h7,h8,_⟩:=ja.1 h2;obtain⟨_,h9,_⟩:=mj.1 h1;simp only[dZ,aA,jT,aa,bk,eB,kM (n:=(t.length:Int)-1) iA iA,kM (n:=(s.2.length:Int)-1) iA iA];by_cases h3:0<=i
   ·by_cases h4:i<t.length
    ·by_cases h5:0<=rule
     ·by_cases h6:rule<s.2.length
      ·have:=z_ h1 h2 (i:=i.toNat) (rule:=rule.toNat) iA iA;rw[show((i.toNat:Nat):Int)=i by omega,show((rule.toNat:Nat):Int)=rule by omega]at this;simp[h3,h4,h5,h6,this,show i<=(t.length:Int)-1 by omega,show rule<=(s.2.length:Int)-1 by omega]
      ·simp[h3,h4,h5,h6,rR,show i<=(t.length:Int)-1 by omega,show ¬rule<=(s.2.length:Int)-1 by omega]
     ·simp[h3,h4,h5,rR,show i<=(t.length:Int)-1 by omega]
    ·simp[h3,h4,rR,show ¬i<=(t.length:Int)-1 by omega]
   ·simp[h3,rR]
theorem zZ(s:Sys)(w:gI×List zL):sQ s w=some (D5 s w):=by
 unfold sQ D5;rw[wm,aa];cases h1:kC s with
 |false=>simp
 |true=>
  cases h2:jq s.1 w.1 with
  |false=>simp
  |true=>
   by_cases h3:60<(w.2.length:Int)
   ·simp[h3,show ¬w.2.length<=60 by omega]
   ·simp only[dZ,aA,h3,aS,aq,aE,show w.2.length<=60 by omega,aL,cq];rw[Q1 (s:=s) (w:=w) (fun t i x hi hx=>?_) (fun t=>by simp[uj])];simp only[uj,show(i:Int)<w.2.length by omega,aL,aA,show(0:Int)<=i by omega,bk,ai,hx,zY,aa,kM (n:=(i:Int)+1) iA iA];cases hs:mq s t x.1 x.2.1 with
    |none=>simp[rR]
    |some u=>
     have:=xL hs;simp only[rR,aA,pg (show Small u by show u.length<_;omega),aa];cases(u==x.2.2)<;>simp
theorem Fs{w:gI×List zL}(h:Z5 w):wj w=some (Ag (PL w)):=by
 unfold wj Ag PL;have hl:=h.len;simp only[aJ];by_cases h0:w.2.length=0
 ·simp only[h0,Int.ofNat_zero,cp,aA];rw[jI (show w.1.length<_ by have:=h.from';omega),aa]
 ·have:((w.2.length:Int)==0)=false:=bV.2 iA;simp only[this,aq,aE,h0,kM (n:=(w.2.length:Int)-1) iA iA];rw[ah iA,show((w.2.length:Int)-1).toNat=w.2.length-1 by omega];have hlt:w.2.length-1<w.2.length:=by omega
  have e:((w.2.map fun s=>(s.2.1,s.1,false,s.2.2)).getD (w.2.length-1) default)=((w.2.getD (w.2.length-1) default).2.1,(w.2.getD (w.2.length-1) default).1,false,(w.2.getD (w.2.length-1) default).2.2):=by rw[jb (by simpa using hlt),jb hlt,eN]
  rw[e,jI (show List.length _<_ by have:=h.to _ (jP hlt);omega),aa]
theorem CE{w:gI×List zL}(h:Z5 w):kI w=some (Ag (PL w)):=by
 unfold kI Ag PL;have hl:=h.len;simp only[aJ];by_cases h0:w.2.length=0
 ·simp[h0]
 ·simp only[show(0:Int)<w.2.length by omega,aL,aA,h0,aE,kM (n:=(w.2.length:Int)-1) iA iA];rw[ah iA,show((w.2.length:Int)-1).toNat=w.2.length-1 by omega];have hlt:w.2.length-1<w.2.length:=by omega
  rw[jb (xs:=w.2.map _) (by simpa using hlt),jb hlt,eN]
def Cp(o:Option HY):HY×Bool:=match o with|some w=>(w,true)|none=>(([],[]),false)
def Mw(a b:HY):Option HY:=if Ag (PL a)=b.1/\a.2.length+b.2.length<=60 then some (a.1,a.2++b.2)else none
theorem wW{l:List zL}(hl:l.length<=60)(h:∀x∈l,x.2.2.length<=60):nC l=some l:=by
 unfold nC;refine DA (mk:=fun i out=>(out,i)) (xs:=l) (g:=id) (out0:=[]) (fun i out x hi hx hg ho=>?_) ?_
 ·have:=h x hx;simp at ho;simp only[pR,show(i:Int)<l.length by omega,aL,aA,show(0:Int)<=i by omega,bk,ai,hg,jI (show x.2.2.length<_ by omega),aa,kM (n:=(i:Int)+1) iA iA,
   show(out.length+1)*40<=140737488355328 by omega,id]
 ·simp[pR]
theorem Bi{s:Sys}{a b:HY}(ha:D5 s a=true)(hb:D5 s b=true):qj s a b=some (Cp (Mw a b)):=by
 have sa:=D6 ha;have sb:=D6 hb;have l1:=sa.len;have l2:=sb.len;have l3:=sa.from';have hend:=sa.ch.end';unfold qj Mw;rw[zZ,aa,ah ha,zZ,aa,ah hb,Fs sa,aa,pg (show(Ag (PL a)).length<_ by omega),aa];by_cases he:Ag (PL a)=b.1
 ·simp only[he,cp,aA,eB,kM (n:=(a.2.length:Int)+(b.2.length:Int)) iA iA];by_cases hl:a.2.length+b.2.length<=60
  ·rw[aj (by simp;omega),jI (show a.1.length<_ by omega),aa,wW l1 sa.to,aa,wW l2 sb.to,aa,ah iA,ah hl];rfl
  ·rw[ah (by simp;omega),aj hl];rfl
 ·have:(Ag (PL a)==b.1)=false:=by simpa using he
  simp only[this,he,aq,aE,false_and];rfl
theorem TQ(s:Sys)(steps:Int)(t u:gI):nQ s steps [t,u]=some (tT s t steps&&tT s u steps):=by
 unfold nQ tT;rw[vj,aa];cases hs:kC s with
 |false=>simp
 |true=>
  simp only[aA,cq];by_cases h1:steps<0
  ·rw[ah (by simpa using h1)];have:¬(0<=steps/\steps<=20):=by omega
   simp[this]
  ·rw[aj (by simpa using h1)];by_cases h2:20<steps
   ·rw[ah (by simpa using h2)];have:¬(0<=steps/\steps<=20):=by omega
    simp[this]
   ·rw[aj (by simpa using h2)];have h3:0<=steps/\steps<=20:=by omega
    have e2:jX s [t,u] 2=some (.inr true):=by simp[jX]
    have e0:jX s [t,u] 0=some (if jq s.1 t=true then .inl 1 else .inr false):=by
     rw[jX,ah (by simp),ah (by simp),show [t,u].getD (0:Int).toNat default=t from rfl,oI,aa,kM (n:=0+1) (by decide) (by decide)];cases jq s.1 t<;>rfl
    have e1:jX s [t,u] 1=some (if jq s.1 u=true then .inl 2 else .inr false):=by
     rw[jX,ah (by simp),ah (by simp),show [t,u].getD (1:Int).toNat default=u from rfl,oI,aa,kM (n:=1+1) (by decide) (by decide)];cases jq s.1 u<;>rfl
    cases ht:jq s.1 t with
    |true=>
     rw[ht,ah rfl]at e0;rw[iZ e0];cases hu:jq s.1 u with
     |true=>rw[hu,ah rfl]at e1;rw[iZ e1,iK e2];simp[h3]
     |false=>rw[hu,aj (by simp)]at e1;rw[iK e1];simp
    |false=>
     rw[ht,aj (by simp)]at e0;rw[iK e0];simp
theorem zA{x:zL}{w0:gI}{w1:List zL}(hx:x.2.2.length<=60)(hw:w1.length<=1000):lS x w0 w1=some (w1++[x]):=by
 unfold lS;rw[mK (by show List.length _<_;omega),aa,ah iA]
theorem Dv{r:gI}{L:List zL}(hl:L.length<=200)(hx:∀x∈L,x.2.2.length<=60):iL (nk r L) (0,[])=some (r,L.reverse):=by
 have h0:((0:Nat),([]:List zL))=((fun i:Nat=>(i,L.reverse.take i)) 0):=by simp
 rw[h0];refine nc (n:=L.length) (fun i:Nat=>(i,L.reverse.take i)) (fun i hi=>?_) ?_
 ·have hi':i<L.reverse.length:=by simpa using hi
  have e:L.getD (L.length-1-i) default=L.reverse[i]:=by rw[jb iA,List.getElem_reverse]
  rw[nk,ah hi,e];have:=zA (x:=L.reverse[i]) (w0:=r) (w1:=L.reverse.take i) (hx _ (by rw[<-List.mem_reverse];exact bw hi')) (by rw[bF];omega);rw[show lS ((L.reverse[i]).1,(L.reverse[i]).2.1,(L.reverse[i]).2.2) r (L.reverse.take i)=_ from this,aa,bB hi']
 ·rw[nk,aj iA,bI (by simp)];rfl
theorem Ju{r:gI}{L:List zL}(hl:L.length<=200)(hx:∀x∈L,x.2.2.length<=60):iL (rM L r) (IntKind.i64.wrap ((L.length:Int)-1),[])=some (r,L.reverse):=by
 have h0:(IntKind.i64.wrap ((L.length:Int)-1),([]:List zL))=((fun i:Nat=>((L.length:Int)-1-(i:Int),L.reverse.take i)) 0):=by rw[kM iA iA];simp
 rw[h0];refine nc (n:=L.length) (fun i:Nat=>((L.length:Int)-1-(i:Int),L.reverse.take i)) (fun i hi=>?_) ?_
 ·have hi':i<L.reverse.length:=by simpa using hi
  have e:L.getD ((L.length:Int)-1-(i:Int)).toNat default=L.reverse[i]:=by rw[show((L.length:Int)-1-(i:Int)).toNat=L.length-1-i by omega,jb iA,List.getElem_reverse]
  have hxl:=hx (L.reverse[i]) (by rw[<-List.mem_reverse];exact bw hi');rw[rM,ah (by simp only[au];omega),ah iA,ah iA,ah iA,e,jI (by show List.length _<_;omega),aa,ah (by rw[bF];omega),kM iA iA,bB hi',
   show(L.length:Int)-1-(i:Int)-1=(L.length:Int)-1-((i+1:Nat):Int) by omega]
 ·rw[rM,aj (by simp only[au];omega),bI (by simp)];rfl
theorem R6.ZR{s:Sys}{steps:Int}{A:List I6}(h:R6 s steps A){j:Nat}(hj:j<A.length)(h0:0<j):(st6 (zM A j)).2.2.length<=60:=by
 obtain⟨p,_,_,_,p4⟩:=(h.el j hj).up h0;have:=(h.el j hj).tm;show(zM A j).2.2.2.2.1.length<=60;rw[p4];exact(ja.1 this).2.2.1
theorem EE{s:Sys}{steps:Int}{A:List I6}(h:R6 s steps A){j:Nat}(hj:j<A.length):sB A j=some ((zM A 0).1,(IS A j j).reverse):=by
 have hl:=h.len;have hp:=h.pos;have hr:=h.sm;unfold sB;rw[ah iA,show(A.getD 0 default).1=(zM A 0).1 from rfl,mK (by have:=(h.el 0 hp).tm;have:=(ja.1 this).2.2.1;show List.length _<_;omega),aa];have key:∀(f k:Nat)(o:List zL),k<A.length->k<=f->o.length+f<=100->(∀x∈o,x.2.2.length<=60)->iL (nj A (zM A 0).1) ((k:Int),o)=some ((zM A 0).1,(o++IS A f k).reverse):=by
  intro f;induction f with
  |zero=>
   intro k o hk hf ho hx;have:k=0:=by omega
   subst this;refine iK ?_;rw[nj,aj (by simp),IS,aT];unfold ku;rw[aa,Dv iA hx];rfl
  |succ f ih=>
   intro k o hk hf ho hx;by_cases h0:k=0
   ·subst h0;refine iK ?_;rw[nj,aj (by simp),IS,ah rfl,aT];unfold ku;rw[aa,Dv iA hx];rfl
   ·obtain⟨p,p1,p2,_,_⟩:=(h.el k hk).up iA;have p1':(A.getD k default).2.1=(p:Int):=p1;have i1:=ih p (o++[st6 (zM A k)]) iA iA (by rw[ak,aU];omega) (fun x hx'=>by
     rcases aG.1 hx' with c|c
     ·exact hx x c
     ·rw[aR.1 c];exact h.ZR hk iA)
    refine(iZ ?_).trans (i1.trans ?_)
    ·rw[nj,ah (by simp only[au];omega),ah iA,ah iA,ah iA,ai,p1'];rfl
    ·rw[IS,aj h0,p1,ai,aF];rfl
 have:=key j j [] hj (aC _) (by simp;omega) (by simp);rw[aZ]at this;exact this
theorem ER{s:Sys}{steps:Int}{A:List I6}{b:Bool}(h:R6 s steps A){j:Nat}(hj:j<A.length):uV (m1 A,m2 A,m3 A,m4 A,b) j=some ((zM A 0).1,(IS A j j).reverse):=by
 have hl:=h.len;have hp:=h.pos;have hr:=h.sm;unfold uV;have g2:∀{k:Nat},k<A.length->(m2 A).getD k default=(zM A k).2.1:=fun hk=>wH (g:=fun x:I6=>x.2.1) hk
 have g3:∀{k:Nat},k<A.length->(m3 A).getD k default=st6 (zM A k):=fun hk=>wH (g:=fun x:I6=>(x.2.2.1,x.2.2.2.1,x.2.2.2.2.1)) hk
 have g1:(m1 A).getD 0 default=(zM A 0).1:=wH (g:=fun x:I6=>x.1) hp;have stop:∀(o:List zL),o.length<=100->(∀x∈o,x.2.2.length<=60)->oQ (m1 A,m2 A,m3 A,m4 A,b) (((0:Nat):Int),o)=some (.inr ((zM A 0).1,o.reverse)):=fun o ho hx=>by
  have hroot:(zM A 0).2.1= -1:=(h.el 0 hp).root rfl;rw[oQ];simp only[aJ,ai,g2 hp,hroot,g1];rw[ah iA,aj (by simp),ah iA,jI (by have:=(h.el 0 hp).tm;have:=(ja.1 this).2.2.1;show List.length _<_;omega),aa,Ju iA hx];rfl
 have key:∀(f k:Nat)(o:List zL),k<A.length->k<=f->o.length+f<=100->(∀x∈o,x.2.2.length<=60)->iL (oQ (m1 A,m2 A,m3 A,m4 A,b)) ((k:Int),o)=some ((zM A 0).1,(o++IS A f k).reverse):=by
  intro f;induction f with
  |zero=>
   intro k o hk hf ho hx;have:k=0:=by omega
   subst this;rw[iK (stop o iA hx),IS,aT]
  |succ f ih=>
   intro k o hk hf ho hx;by_cases h0:k=0
   ·subst h0;rw[iK (stop o iA hx),IS,ah rfl,aT]
   ·obtain⟨p,p1,p2,_,_⟩:=(h.el k hk).up iA;have i1:=ih p (o++[st6 (zM A k)]) iA iA (by rw[ak,aU];omega) (fun x hx'=>by
     rcases aG.1 hx' with c|c
     ·exact hx x c
     ·rw[aR.1 c];exact h.ZR hk iA)
    refine(iZ ?_).trans (i1.trans ?_)
    ·rw[oQ];simp only[aJ,ai,g2 hk,g3 hk,p1];rw[ah iA,ah (by simp),ah iA,ah iA,ah iA]
    ·rw[IS,aj h0,p1,ai,aF];rfl
 have:=key j j [] hj (aC _) (by simp;omega) (by simp);rw[aZ]at this;exact this
theorem Fg(s:Sys)(t u:gI)(steps:Int):∃o:Option HY,sN s t u steps=some (Cp o)/\uT s t u steps=some (Cp o)/\∀w,o=some w->D5 s w=true/\w.1=t:=by
 unfold sN uT xB;rw[TQ,aa,wo,wo,aa];cases ht:tT s t steps with
 |false=>exact⟨none,rfl,rfl,fun w h=>by cases h⟩
 |true=>
  cases hu:tT s u steps with
  |false=>exact⟨none,rfl,rfl,fun w h=>by cases h⟩
  |true=>
   obtain⟨A,b,h,hA0,e1,e2⟩:=LS ht;have hl:=h.len;have hsm0:=h.sm;have E7:∀r∈A,Small r.1:=fun r hr=>by have:=hsm0 r hr;show r.1.length<_;omega
   have hsm1:∀t∈m1 A,Small t:=fun t ht=>by
    obtain⟨y,hy,rfl⟩:=a_.1 ht;exact E7 y hy
   have hfs:=sX (l:=m1 A) (by simp;omega) hsm1 u;have hff:nV (fun y=>y==u) (m1 A)=nV (fun r:I6=>r.1==u) A:=by
    unfold nV;rw[List.findIdx?_map];rfl
   simp only[dZ,aA,aa];rw[e1,e2,aa,aa,xW hl E7,hfs,hff,aa,aa];by_cases hneg:nV (fun r:I6=>r.1==u) A<0
   ·rw[ah (by simpa using hneg),ah (by simpa using hneg)];exact⟨none,rfl,rfl,fun w h=>by cases h⟩
   ·rw[aj (by simpa using hneg),aj (by simpa using hneg)];have hlt:=(Es (p:=fun r:I6=>r.1==u) (xs:=A)).2;obtain⟨j,hj⟩:∃j:Nat,nV (fun r:I6=>r.1==u) A=j:=⟨(nV (fun r:I6=>r.1==u) A).toNat,iA⟩;rw[hj]at hlt⊢;have hj':j<A.length:=by omega
    rw[EE h hj',ER h hj',aa,aa];refine⟨some ((zM A 0).1,(IS A j j).reverse),rfl,rfl,fun w hw=>?_⟩;cases hw;obtain⟨q1,q2⟩:=NB h j j hj' (aC _);obtain⟨r1,r2,r3⟩:=xp.1 ht;refine⟨EX.2 ⟨r1,by rw[hA0];exact r2,?_,q1⟩,hA0⟩;have:=NA A j j;rw[List.length_reverse];omega
end Go.Proofs.YtjgbnaihpicpgabGreat
namespace Go.Proofs.YtjgbnaihpicpgabGreat
open Go oq Tm
open Un hiding Bd
theorem OI(σ:Sb)(o:gI):∀t:gI,BM o (sub σ t)=sub (fun x=>BM o (σ x)) t
 |[]=>rfl
 |x::t=>by
  have ih:=OI σ o t;rw[jN,jN,<-ih];unfold BM;rw[aQ];congr 1;by_cases h:x<0
  ·rw[ah h,ah h]
  ·rw[aj h,aj h];simp[Cu,h]
theorem TU{a o:gI}(ho:o.length<=24):∀{t:gI}{k:Nat},Wv a k t->(∀y∈t,y<0->y∈o)->Wf a k (BM o t)
 |[],k,h,_=>by
  have:=h.len;obtain rfl:k=0:=by simpa using this
  exact Wf.nil
 |x::t,0,h,_=>by have:=h.zero;cases this
 |x::t,k+1,h,hm=>by
  obtain⟨h1,h2⟩:=Wv.jS.1 h;show Wf a (k+1) (Cu o x::BM o t);have e:Iy a (Cu o x)/\mV a (Cu o x)=mV a x:=by
   unfold Cu;by_cases hx:x<0
   ·rw[ah hx];have:=List.idxOf_lt_length_of_mem (hm x (bf ..) hx);exact⟨⟨iA,iA⟩,by rw[yB hx,yB iA]⟩
   ·rw[aj hx];exact⟨⟨iA,h1⟩,rfl⟩
  refine Wf.jS.2 ⟨e.1,?_⟩;rw[e.2];exact TU ho h2 fun y hy=>hm y (aX _ hy)
theorem OB{sys:Sys}:∀{xs:List h_}{out o:List Pk},HP sys xs out=some o->∀y∈o,y∈out\/∃x∈xs,(Rx sys x).2=true/\y=(Rx sys x).1
 |[],out,o,h,y,hy=>by cases h;exact .inl hy
 |x::xs,out,o,h,y,hy=>by
  rw[HP]at h;split at h
  ·next h2=>
   split at h
   ·cases h
   ·rcases OB h y hy with c|⟨z,hz,c⟩
    ·rcases aG.1 c with c|c
     ·exact .inl c
     ·exact .inr ⟨x,bf ..,h2,by simpa using c⟩
    ·exact .inr ⟨z,aX _ hz,c⟩
  ·cases h
theorem W9{sys:Sys}{y:Pk}(h:y∈(Rw sys).1):∃x,MtG sys x/\(Rx sys x).2=true/\y=(Rx sys x).1:=by
 unfold Rw at h;split at h
 ·next o ho=>
  rcases OB ho y h with c|⟨x,hx,c⟩
  ·cases c
  ·exact⟨x,TG _ (aC _) x hx,c⟩
 ·cases h
structure PkF(sys:Sys)(y:Pk)(ov i un:Nat):Prop where
 yD:ov<sys.2.length
 hun:un<sys.2.length
 hi:i<(sys.2.getD ov default).1.length
 agL:y.2.2.2=((i:Int),(un:Int),(ov:Int))
 top:jq sys.1 y.1=true
 sb:∃τ:Sb,(∀x∈(sys.2.getD ov default).1,x<0->Wf sys.1 1 (τ x))/\y.1=sub τ (sys.2.getD ov default).1
theorem TJ{sys:Sys}(hs:kC sys=true){y:Pk}(hy:y∈(Rw sys).1):∃ov i un,PkF sys y ov i un:=by
 obtain⟨x,⟨ov,i,un,rfl,yD,hi,hun,hm⟩,h2,rfl⟩:=W9 hy;refine⟨ov,i,un,?_⟩;obtain⟨ha,hn,hrs⟩:=mj.1 hs;obtain⟨k1,k2,k3,k4⟩:=lX.1 (hrs _ (jP yD));obtain⟨m1,m2,m3,m4⟩:=lX.1 (hrs _ (jP hun));obtain⟨_,a1,a2,a3⟩:=ja.1 k1;obtain⟨_,b1,b2,b3⟩:=ja.1 k2;obtain⟨_,c1,c2,c3⟩:=ja.1 m1;obtain⟨_,d1,d2,d3⟩:=ja.1 m2;obtain⟨p,s,q,e,hp,hw⟩:=a3.place hi;have h:Ov sys.1 (sys.2.getD ov default).1 (sys.2.getD ov default).2 (sys.2.getD un default).1 (sys.2.getD un default).2 p s q:=⟨ha,e,hw,a3,b3,c3,d3,a2,b2,c2,d2,k4,m4⟩;subst hp;have hx:¬(sys.2.getD ov default).1.getD p.length default<0:=fun c=>by unfold HO at hm;rw[ah c]at hm;cases hm
 have hne:¬(ov=un/\p.length=0):=fun c=>by
  have ho:jR sys ov (p.length:Int) un=some (.inr ()):=by
   unfold jR;rw[ah (by simp only[bC];omega),ah (by simp only[bC];omega)]
  unfold HO at hm;rw[aj hx,ho]at hm;cases hm
 rcases Ir h yD hun rfl rfl hx hne with⟨b1',b2',σ1,σ2,e1,e2,e3,hb⟩|⟨e1,e2⟩
 ·have ev:=Dx h yD hun rfl rfl hb e1;have ev':Rx sys ((ov:Int),(p.length:Int),(un:Int))=Xa σ1 (sys.2.getD ov default).1 (sys.2.getD ov default).2 (ze p q (sys.2.getD un default).2) (p.length:Int) un ov:=by unfold Rx;rw[ev];rfl
  rw[ev']at h2⊢;unfold Xa at h2⊢;by_cases c:(sub σ1 (sys.2.getD ov default).1).length<=60/\(sub σ1 (sys.2.getD ov default).2).length<=60/\(sub σ1 (ze p q (sys.2.getD un default).2)).length<=60/\(nO [] (sub σ1 (sys.2.getD ov default).1)).length<=24
  ·rw[ah c]at h2⊢;obtain⟨ρ,hn⟩:=hb.bn1;have hin:∀{x:Int},x∈(sys.2.getD ov default).1->x<0->∀y∈σ1 x,y<0->y∈nO [] (sub σ1 (sys.2.getD ov default).1):=fun{x} hx h0 y hy hy0=>CS (qw.2 ⟨x,hx,.inl ⟨h0,hy⟩⟩) hy0
   have hsl:Wv sys.1 1 (sub σ1 (sys.2.getD ov default).1):=(uz a3).sub fun x _ hx=>hn.wv x hx
   refine⟨yD,hun,hi,rfl,?_,fun x=>BM (nO [] (sub σ1 (sys.2.getD ov default).1)) (σ1 x),fun x hx h0=>TU c.2.2.2 (hn.wv x h0) (hin hx h0),OI _ _ _⟩;refine ja.2 ⟨ha,?_,?_,TU c.2.2.2 hsl fun y hy h0=>CS hy h0⟩
   ·have:=hsl.len;simpa[BM]using this
   ·simpa[BM]using c.1
  ·rw[aj c]at h2;cases h2
 ·exfalso;unfold HO at hm;rw[aj hx,e1]at hm;cases hm
theorem QI{sys:Sys}(hs:kC sys=true){y:Pk}{ov i un:Nat}(h:PkF sys y ov i un):∃(path:gI)(q:Nat),q<y.1.length/\
 uN sys.1 (sys.2.getD ov default).1 (i:Int)=some path/\sO sys.1 (sys.2.getD ov default).1 (i:Int)=some path/\
 qS sys.1 y.1 path=some (q:Int)/\rq sys.1 y.1 path=some (q:Int):=by
 obtain⟨ha,hn,hrs⟩:=mj.1 hs;obtain⟨k1,k2,k3,k4⟩:=lX.1 (hrs _ (jP h.yD));obtain⟨ks,hp,e1,e2⟩:=Qp k1 h.hi;obtain⟨τ,hτ,ht⟩:=h.sb;have hq:=hp.sub hτ;rw[dA,XD,<-ht]at hq;have hlt:(sub τ ((sys.2.getD ov default).1.take i)).length<y.1.length:=by
  have e:sub τ (sys.2.getD ov default).1=sub τ ((sys.2.getD ov default).1.take i)++sub τ ((sys.2.getD ov default).1.drop i):=by rw[<-mu,bL]
  rw[ht,e,ak];cases hd:(sys.2.getD ov default).1.drop i with
  |nil=>have:=h.hi;have:=List.drop_eq_nil_iff.1 hd;omega
  |cons x r=>
   rw[jN,ak];have hx:x∈(sys.2.getD ov default).1:=cU (i:=i) (by rw[hd];exact bf ..);by_cases h0:x<0
   ·rw[ah h0];have:=(hτ x hx h0).len;omega
   ·rw[aj h0,aU];omega
 have h60:=(ja.1 h.top).2.2.1;obtain⟨f1,f2⟩:=MU h.top hq iA;exact⟨_,_,hlt,e1,e2,f1,f2⟩
abbrev Nd:=Int×gI×LL×gI
def Rv(l:List zL):gI:=l.flatMap fun x=>[x.1,x.2.1]
theorem FO:∀l:List zL,(Rv l).length=2*l.length
 |[]=>rfl
 |x::l=>by
  have:=FO l;simp only[Rv,cQ,ak,aN,bH]at *;omega
theorem KP{l:List zL}{i:Nat}(hi:i<l.length):Rv (l.take (i+1))=Rv (l.take i)++[(l.getD i default).1,(l.getD i default).2.1]:=by rw[bB hi,jb hi];simp only[Rv,fO,cQ,List.flatMap_nil,aT]
def zF(w:HY):Nd:=(1,Rv w.2,[w.1],[])
theorem Dd{w:HY}(hl:w.2.length<=60):tH w=some (Rv w.2):=by
 unfold tH;have A:=nc (n:=w.2.length) (fun i=>(Rv (w.2.take i),(i:Int))) (c:=Rv w.2) (f:=qo w) (fun i hi=>by
  have e:=FO (w.2.take i);rw[bF]at e;rw[qo,ah (by simp only[au];omega),ah iA,ah iA,ah iA,ai,kM iA iA,KP hi];rfl) (by
  rw[qo,aj (by simp),cj];rfl)
 exact A
theorem yO{w:HY}(hl:w.2.length<=60):me w=some (Rv w.2):=by
 unfold me;have A:=nc (n:=w.2.length) (fun i=>(Rv (w.2.take i),(i:Int))) (c:=Rv w.2) (f:=lq w) (fun i hi=>by
  have e:=FO (w.2.take i);rw[bF]at e;rw[lq,ah (by simp only[au];omega),ah iA,ah iA,ai,kM iA iA,KP hi];rfl) (by
  rw[lq,aj (by simp),cj];rfl)
 exact A
theorem J8{t:gI}(hl:t.length<=60):kO t=some t:=by
 unfold kO;refine(pS.UI (t:=True) (P:=(·=t)) ?_ fun h=>?_).eq
 ·rw[ah iA];exact .some rfl
 ·subst h;simp
theorem xN{w:HY}(h1:1<=w.1.length)(h2:w.1.length<=60)(hl:w.2.length<=60):od w=some (zF w):=by
 unfold od vX rD;rw[ah (by simp only[au];omega),jT];simp only[aa];rw[ah (by simp only[bh,au];omega),Dd hl,aa,jI (show w.1.length<_ by omega),aa];rfl
theorem zX{w:HY}(h1:1<=w.1.length)(h2:w.1.length<=60)(hl:w.2.length<=60):l_ w=some (zF w):=by
 unfold l_ oa vT;rw[ah (by simp only[au];omega),ah (by simp only[au];omega)];simp only[aa];rw[ah (by simp only[au];omega),yO hl,aa,J8 h2,aa];rfl
theorem Ci{w:HY}(h1:w.1.length<=60)(hl:w.2.length<=60)(h:∀x∈w.2,x.2.2.length<=60):qT w=some w:=by
 unfold qT;rw[mK (show w.1.length<_ by omega),aa];refine DA (mk:=fun i out=>(i,out)) (xs:=w.2) (g:=id) (out0:=[]) (fun i out x hi hx hg ho=>?_) ?_
 ·simp at ho;rw[qM,ah (by simp only[au];omega),ah iA,ai,hg,zA (x:=(x.1,x.2.1,x.2.2)) (h x hx) iA,aa,kM iA iA];rfl
 ·simp[qM]
theorem Cj{a b:HY}(sa:Z5 a)(sb:Z5 b):oJ a b=some (Cp (Mw a b)):=by
 have l1:=sa.len;have l2:=sb.len;have l3:=sa.from';have hend:=sa.ch.end';unfold oJ Mw;rw[CE sa,aa,qi (show(Ag (PL a)).length<_ by omega),aa];by_cases he:Ag (PL a)=b.1
 ·simp only[he,cp,aA,eB,kM (n:=(a.2.length:Int)+(b.2.length:Int)) iA iA];by_cases hl:a.2.length+b.2.length<=60
  ·rw[aj (by simp;omega),Ci l3 l1 sa.to,aa,ah hl];refine DA (mk:=fun i out=>(i,out)) (xs:=b.2) (g:=id) (out0:=a.2) (fun i out x hi hx hg ho=>?_) ?_
   ·rw[qN,ah (by simp only[au];omega),ah iA,ai,hg,zA (x:=(x.1,x.2.1,x.2.2)) (sb.to x hx) iA,aa,kM iA iA];rfl
   ·simp[qN,Cp]
  ·rw[ah (by simp;omega),aj hl];rfl
 ·have:(Ag (PL a)==b.1)=false:=by simpa using he
  simp only[this,he,aq,aE,false_and];rfl
def MS(o:Option HY):Int×gI×LL×gI×Bool:=match o with|some w=>((zF w).1,(zF w).2.1,(zF w).2.2.1,(zF w).2.2.2,true)|none=>(0,[],[],[],false)
theorem KU{s:Sys}(hs:kC s=true){t:gI}(ht:jq s.1 t=true){k rule:Nat}(hk:k<t.length)(hr:rule<s.2.length)(u:gI)(steps:Int):
 ∃o:Option HY,oc s t k rule u steps=some (MS o)/\rH s t k rule u steps=some (Cp o)/\∀w,o=some w->w.1=t/\w.2.length<=60:=by
 obtain⟨_,t1,t2,_⟩:=ja.1 ht;have es:mq s t k rule=ux s t k rule:=by unfold mq;rw[ah ⟨⟨hs,ht⟩,iA,iA⟩,ai,ai]
 have e0:kI (t,[])=some t:=by simp[kI]
 unfold oc rH oU;rw[mK (show t.length<_ by omega),aa,zY,aa,e0,aa,Bg hs ht hk hr,aa,es];cases h:ux s t k rule with
 |none=>
  obtain⟨o',_,e2,_⟩:=Fg s [] u steps;refine⟨none,?_,?_,fun w hw=>by cases hw⟩
  ·simp[rR,MS]
  ·simp[rR,e2,Cp]
 |some w=>
  obtain⟨o',e1,e2,hw⟩:=Fg s w u steps;have ew:kI (t,[((k:Int),(rule:Int),w)])=some w:=by simp[kI,kM (n:=0) (by decide) (by decide)]
  have sm:w.length<=60:=xL (es.trans h);have wb:D5 s (t,[((k:Int),(rule:Int),w)])=true:=EX.2 ⟨hs,ht,by simp,by simp[nX,es,h]⟩;simp only[rR,aA,bH,aa];rw[aj (by decide),zA (x:=((k:Int),(rule:Int),w)) sm (by simp),aa];simp only[aa,aA,aZ];rw[ew,aa,e1,e2,aa,aa];cases o' with
  |none=>exact⟨none,by simp[Cp,MS],by simp[Cp],fun w hw=>by cases hw⟩
  |some b=>
   obtain⟨hb,_⟩:=hw b rfl;refine⟨Mw (t,[((k:Int),(rule:Int),w)]) b,?_,?_,fun c hc=>?_⟩
   ·simp only[Cp,aA];rw[Cj (D6 wb) (D6 hb),aa];unfold Mw;split
    ·next c=>
     simp only[Cp];rw[zX t1 t2 (by have h:=c.2;simp only[ak,aN,bH]at h⊢;omega),aa];rfl
    ·simp[Cp,l_,oa,vT,MS]
   ·simp only[Cp,aA];rw[Bi wb hb,aa];rfl
   ·unfold Mw at hc;split at hc
    ·next h=>cases hc;exact⟨rfl,by have h:=h.2;simp only[ak,aN,bH]at h⊢;omega⟩
    ·cases hc
structure GN(n:Nd)(m:Nat):Prop where
 kd:1<=n.1/\n.1<=12
 ns:n.2.1.length<=200
 ts:n.2.2.1.length<=60
 tl:∀t∈n.2.2.1,1<=t.length/\t.length<=60
 fl:n.2.2.2.length<=64
 fr:∀x∈n.2.2.2,0<=x/\x<m
theorem LB{n:Nd}{m:Nat}(h:GN n m)(hm:m<=64):qE n m=some true:=by
 obtain⟨h1,h2,h3,h4,h5,h6⟩:=h;unfold qE;rw[aj (by simp only[au];omega),jT,aa,ah (by simp only[bh,au];exact h1),aj (by simp only[au];omega),aj (by simp only[au];omega),aj (by simp only[au];omega)];refine nc (n:=n.2.2.1.length) (fun i=>(i:Int)) (fun i hi=>?_) ?_
 ·obtain⟨a,b⟩:=h4 _ (jP hi);rw[uf,ah (by simp only[au];omega),ah iA,ai,rD,jT];simp only[aa];rw[ah (by simp only[bh,au];omega),kM iA iA];rfl
 ·rw[uf,aj (by simp)];have A:=nc (n:=n.2.2.2.length) (fun i=>(i:Int)) (c:=true) (f:=oL n m) (fun i hi=>by
   obtain⟨a,b⟩:=h6 _ (jP hi);rw[oL,ah (by simp only[au];omega),ah iA,ai,kM (n:=(m:Int)-1) iA iA,jT,aa,ah (by simp only[bh,au];omega),kM iA iA];rfl) (by
   rw[oL,aj (by simp)];rfl)
  have A':iL (oL n m) 0=some true:=A;rw[A'];rfl
theorem HX{n:Nd}{m:Nat}(h:GN n m)(hm:m<=64):qE (n.1,n.2.1,n.2.2.1,n.2.2.2) m=some true:=LB h hm
def GP(p:List Nd):Prop:=∀i,i<p.length->GN (p.getD i default) i
theorem KF{p:List Nd}(h:GP p)(hl:p.length<=64):sI p=some true:=by
 unfold sI;refine nc (n:=p.length) (fun i=>(i:Int)) (fun i hi=>?_) ?_
 ·rw[si,ah (by simp only[au];omega),ah iA,ai,HX (h i hi) iA,aa,ah rfl,kM iA iA];rfl
 ·rw[si,aj (by simp)];rfl
theorem FC{n:Nd}{m:Nat}(h:GN n m):lu n=some n:=by
 obtain⟨h1,h2,h3,h4,h5,h6⟩:=h;unfold lu;rw[jI (show n.2.1.length<_ by omega),aa,A9 h3 (fun t ht=>show t.length<_ by have:=h4 t ht;omega),aa,jI (show n.2.2.2.length<_ by omega),aa]
theorem BD{n:Nd}{m:Nat}(h:GN n m):lu (n.1,n.2.1,n.2.2.1,n.2.2.2)=some n:=FC h
theorem HM{p:List Nd}(h:GP p)(hl:p.length<=64):qm p=some p:=by
 unfold qm;refine DA (mk:=fun i out=>(i,out)) (xs:=p) (g:=id) (out0:=[]) (fun i out x hi hx hg ho=>?_) ?_
 ·simp at ho;rw[qn,ah (by simp only[au];omega),ah iA,ai,BD (h i hi),aa,ah iA,kM iA iA,hg];rfl
 ·simp[qn]
theorem IK{p:List Nd}{n:Nd}(h:GP p)(hl:p.length<64)(hn:GN n p.length):rm p (n.1,n.2.1,n.2.2.1,n.2.2.2)=some (p++[n],true):=by
 unfold rm;rw[aj (by simp only[au];omega),KF h iA,aa,ah rfl,HX hn iA,aa,ah rfl,HM h iA,aa,BD hn,aa,ah iA]
theorem P_{p:List Nd}(h:GP p)(hl:p.length<64)(h0:0<p.length):uU p=some (p,true):=by
 unfold uU;have A:=nc (n:=p.length) (fun i=>((i:Int),p.take i)) (c:=(p,true)) (f:=rG p) (fun i hi=>by
  have gp:GP (p.take i):=fun j hj=>by
   rw[bF]at hj;have:=h j iA;rwa [List.getD_eq_getElem?_getD,List.getElem?_take_of_lt iA,<-List.getD_eq_getElem?_getD]
  have gn:GN (p.getD i default) (p.take i).length:=by rw[bF,gB iA];exact h i hi
  rw[rG,ah (by simp only[au];omega),ah iA,ai,IK gp (by rw[bF];omega) gn,aa,ah rfl,kM iA iA,bB hi,jb hi];rfl) (by
  rw[rG,aj (by simp),cj,fc iA];rfl)
 exact A
end Go.Proofs.YtjgbnaihpicpgabGreat
