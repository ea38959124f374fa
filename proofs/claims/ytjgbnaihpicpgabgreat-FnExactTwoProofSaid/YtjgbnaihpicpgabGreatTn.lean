/- A part of the proof about FnExactTwoProof (VF, VG, VH, VI, VJ, VK). -/
import Derived.Test.YtjgbnaihpicpgabGreatTg
import Derived.Test.YtjgbnaihpicpgabGreatTi
import Derived.Test.YtjgbnaihpicpgabGreatTj
import Derived.Test.YtjgbnaihpicpgabGreatTl
import Derived.Test.YtjgbnaihpicpgabGreatTm
set_option linter.all false
noncomputable section
namespace Go.Proofs.YtjgbnaihpicpgabGreat
open Go oq Tm
open Un hiding Bd
section
variable{a:gI}{N:Pl}{b:List gI}{σ:Sb}{r:Int->Nat}
def xb(σ:Sb)(t:gI):gI:=if(sub σ t).length<=60 then sub σ t else []
theorem IF{t:gI}{i:Nat}(h:¬i<t.length):t.take i=t:=bI iA
theorem pS.ZI{α:Type}{t:Prop}{P:α->Prop}(h:¬t):pS t (none:Option α) P:=⟨fun b hb=>(nomatch hb),fun ht=>absurd ht h⟩
theorem Cz(hc:UC a N)(h:Bn a N b σ r):∀(n:Nat){t:gI}{R:Nat},t.length<=200->(∀y∈t, -(N.n:Int)<=y)->(∀y∈t,y<0->bg b y≠[]->r y<R)->pS (R<n) (pz n t b) (·=xb σ t)
 |0,t,R,_,_,_=>pS.ZI iA
 |n+1,t,R,hl,hn,hr=>by
  rw[pz];refine pS.loop (fun s=>∃i:Nat,s=(sub σ (t.take i),(i:Int))/\i<=t.length/\(sub σ (t.take i)).length<=60) (fun s=>t.length-s.2.toNat) ⟨0,by simp[sub],iA,by simp[sub]⟩ ?_;rintro _ ⟨i,rfl,hi,h60⟩;rw[vW];by_cases hlt:i<t.length
  ·have hm:t.getD i default=t[i]:=jb hlt;have hmt:t[i]∈t:=bw hlt;have hst:=Hp (σ:=σ) hlt;have hle:(sub σ (t.take (i+1))).length<=(sub σ t).length:=BW;have hw:IntKind.i64.wrap ((i:Int)+1)=((i+1:Nat):Int):=by rw[kM iA iA];rfl
   rw[ah (by simp only[au];omega),ah ⟨iA,iA⟩,ai,hm,hw];have app:∀{v:gI},sub σ (t.take (i+1))=sub σ (t.take i)++v->pS (R<n+1) (if(decide (60<((sub σ (t.take i)++v).length:Int)))=true then Option.map Sum.inr (some [])else some (.inl (sub σ (t.take i)++v,((i+1:Nat):Int))))
    (Cn (fun s=>∃i:Nat,s=(sub σ (t.take i),(i:Int))/\i<=t.length/\(sub σ (t.take i)).length<=60) (fun s=>t.length-s.2.toNat) (·=xb σ t) (t.length-((i:Int)).toNat)):=fun{v} hv=>by
    rw[<-hv];by_cases c:60<(sub σ (t.take (i+1))).length
    ·rw[ah (by simp only[au];omega)];refine .some ?_;show []=xb σ t;unfold xb;rw[aj iA]
    ·rw[aj (by simp only[au];omega)];refine .some ⟨⟨i+1,rfl,iA,iA⟩,?_⟩;show t.length-(((i+1:Nat):Int)).toNat<t.length-((i:Int)).toNat;omega
   by_cases h0:t[i]<0
   ·rw[ah h0]at hst;obtain⟨e1,e2,e3⟩:=HL hc h0 (hn _ hmt);rw[aj (show ¬decide (0<=t[i])=true by simpa using h0),e1,ah (show 0<= -1-t[i]/\ -1-t[i]<48/\ -1-t[i]<(b.length:Int)from⟨e2,e3,by rw[h.len,hc.KO];exact e3⟩)];by_cases hb:bg b t[i]=[]
    ·have hb':b.getD (-1-t[i]).toNat default=[]:=hb;rw[h.Rs _ h0 hb]at hst;rw[hb',ah (by simp),ah iA];exact app hst
    ·have hb':¬((b.getD (-1-t[i]).toNat default).length:Int)=0:=by
      have:0<(b.getD (-1-t[i]).toNat default).length:=cw.2 hb;omega
     rw[aj (show ¬(((b.getD (-1-t[i]).toNat default).length:Int)==0)=true by simpa using hb')];obtain⟨w1,w2⟩:=h.tm _ h0 hb;have ih:=Cz hc h n (t:=bg b t[i]) (R:=r t[i]) (by have:=hc.small w2;omega) w2.le (fun y hy hy0 hby=>h.rk _ h0 hb y hy hy0 hby);refine pS.bind (ih.weak fun hR=>by have:=hr _ hmt h0 hb;omega) ?_;intro z hz;have hv:=h.val _ h0 hb;have hpos:1<=(sub σ (bg b t[i])).length:=(w1.sub fun x _ hx=>h.wv x hx).len;by_cases c:(sub σ (bg b t[i])).length<=60
     ·have hz':z=σ t[i]:=by rw[hz,hv];unfold xb;rw[ah c]
      subst hz';rw[aj (by rw[hv];simp only[bC];omega),ah (by rw[hv];omega)];exact app hst
     ·have hz':z=[]:=by rw[hz];unfold xb;rw[aj c]
      subst hz';rw[ah (by simp)];refine .some ?_;show []=xb σ t;unfold xb;rw[aj];have:(sub σ (t.take (i+1))).length=(sub σ (t.take i)).length+(σ t[i]).length:=by rw[hst,ak]
      rw[hv]at this;omega
   ·rw[aj h0]at hst;rw[ah (show decide (0<=t[i])=true by simp only[au];omega),ah iA];exact app hst
  ·rw[aj (by simp only[au];omega)];refine .some ?_;show sub σ (t.take i)=xb σ t;rw[IF hlt]at h60⊢;unfold xb;rw[ah h60]
theorem AZ(hc:UC a N)(h:Bn a N b σ r){t:gI}(hl:t.length<=200)(hn:∀y∈t, -(N.n:Int)<=y):pE t b=some (xb σ t):=by
 obtain⟨M,hM⟩:=BL r t;exact(pS.lim (t:=True) (M+1) fun n=>(Cz hc h n hl hn (R:=M) fun y hy _ _=>hM y hy).weak fun c=>by omega).eq
def HQ(σ:Sb)(out t:gI)(z:gI⊕gM):Prop:=if(out++sub σ t).length<=60 then z=.inl (out++sub σ t)else ∃o,z=.inr ([],o)
theorem Aq(hc:UC a N)(h:Bn a N b σ r)(u0:gI):∀(n:Nat){t out:gI}{R:Nat},t.length<=200->out.length<=60->(∀y∈t, -(N.n:Int)<=y)->(∀y∈t,y<0->bg b y≠[]->r y<R)->pS (R<n) (kS n out t u0 b) (HQ σ out t)
 |0,t,out,R,_,_,_,_=>pS.ZI iA
 |n+1,t,out,R,hl,ho,hn,hr=>by
  rw[kS];refine pS.loop (fun s=>∃i:Nat,s=(out++sub σ (t.take i),(i:Int))/\i<=t.length/\(out++sub σ (t.take i)).length<=60) (fun s=>t.length-s.2.toNat) ⟨0,by simp[sub],iA,by simpa[sub]using ho⟩ ?_;rintro _ ⟨i,rfl,hi,h60⟩;rw[pV];by_cases hlt:i<t.length
  ·have hm:t.getD i default=t[i]:=jb hlt;have hmt:t[i]∈t:=bw hlt;have hst:=Hp (σ:=σ) hlt;have hle:(sub σ (t.take (i+1))).length<=(sub σ t).length:=BW;have hw:IntKind.i64.wrap ((i:Int)+1)=((i+1:Nat):Int):=by rw[kM iA iA];rfl
   rw[ah (by simp only[au];omega),ah ⟨iA,iA⟩,ai,hm,hw];have app:sub σ (t.take (i+1))=sub σ (t.take i)++[t[i]]->pS (R<n+1) (if(((out++sub σ (t.take i)).length:Int)==60)=true then Option.map Sum.inr (some (.inr ([],out++sub σ (t.take i))))else
    if((out++sub σ (t.take i)).length+1)*8<=140737488355328 then some (.inl ((out++sub σ (t.take i))++[t[i]],((i+1:Nat):Int)))else none)
    (Cn (fun s=>∃i:Nat,s=(out++sub σ (t.take i),(i:Int))/\i<=t.length/\(out++sub σ (t.take i)).length<=60) (fun s=>t.length-s.2.toNat) (HQ σ out t) (t.length-((i:Int)).toNat)):=fun hv=>by
    have hln:(sub σ (t.take (i+1))).length=(sub σ (t.take i)).length+1:=by rw[hv,ak,aU]
    rw[ak]at h60;by_cases c:(out++sub σ (t.take i)).length=60
    ·rw[ah (by simp only[bC];omega)];refine .some ?_;show HQ σ out t _;rw[ak]at c;unfold HQ;rw[ak,aj iA];exact⟨_,rfl⟩
    ·rw[aj (by simp only[bC];omega),ah (by rw[ak];omega),aF,<-hv];rw[ak]at c;refine .some ⟨⟨i+1,rfl,iA,by rw[ak];omega⟩,?_⟩;show t.length-(((i+1:Nat):Int)).toNat<t.length-((i:Int)).toNat;omega
   by_cases h0:t[i]<0
   ·rw[ah h0]at hst;obtain⟨e1,e2,e3⟩:=HL hc h0 (hn _ hmt);rw[ah (show decide (t[i]<0)=true by simpa using h0),e1,ah (show 0<= -1-t[i]/\ -1-t[i]<48/\ -1-t[i]<(b.length:Int)from⟨e2,e3,by rw[h.len,hc.KO];exact e3⟩)];by_cases hb:bg b t[i]=[]
    ·have hb':b.getD (-1-t[i]).toNat default=[]:=hb;rw[h.Rs _ h0 hb]at hst;rw[hb',ah (show([]:gI).isEmpty=true from rfl)];exact app hst
    ·have hb':¬(b.getD (-1-t[i]).toNat default).isEmpty=true:=by rw[List.isEmpty_iff];exact hb
     rw[aj hb'];obtain⟨w1,w2⟩:=h.tm _ h0 hb;have ih:=Aq hc h u0 n (t:=bg b t[i]) (out:=out++sub σ (t.take i)) (R:=r t[i]) (by have:=hc.small w2;omega) h60 w2.le (fun y hy hy0 hby=>h.rk _ h0 hb y hy hy0 hby);refine pS.bind (ih.weak fun hR=>by have:=hr _ hmt h0 hb;omega) ?_;intro z hz;have hv:=h.val _ h0 hb;rw[hv]at hst;have e5:(out++sub σ (t.take i))++sub σ (bg b t[i])=out++sub σ (t.take (i+1)):=by rw[aF,<-hst]
     unfold HQ at hz;rw[e5]at hz;by_cases c:(out++sub σ (t.take (i+1))).length<=60
     ·rw[ah c]at hz;subst hz;refine .some ⟨⟨i+1,rfl,iA,c⟩,?_⟩;show t.length-(((i+1:Nat):Int)).toNat<t.length-((i:Int)).toNat;omega
     ·rw[aj c]at hz;obtain⟨o,rfl⟩:=hz;refine .some ?_;show HQ σ out t _;rw[ak]at c;unfold HQ;rw[ak,aj iA];exact⟨_,rfl⟩
   ·rw[aj h0]at hst;rw[aj (show ¬decide (t[i]<0)=true by simpa using h0)];exact app hst
  ·rw[aj (by simp only[au];omega)];refine .some ?_;show HQ σ out t (.inl (out++sub σ (t.take i)));rw[IF hlt]at h60⊢;unfold HQ;rw[ah h60]
theorem vi(hc:UC a N)(h:Bn a N b σ r)(u0:gI){t:gI}(hl:t.length<=200)(hn:∀y∈t, -(N.n:Int)<=y):
 ∃z,jF t u0 b=some z/\if(sub σ t).length<=60 then z=.inl (sub σ t)else ∃o,z=.inr ([],o):=by
 obtain⟨M,hM⟩:=BL r t;obtain⟨z,h1,h2⟩:=(pS.lim (t:=True) (M+1) fun n=>(Aq hc h u0 n hl (out:=[]) (by simp) hn (R:=M) fun y hy _ _=>hM y hy).weak fun c=>by omega).get;refine⟨z,h1,?_⟩;unfold HQ at h2;rw[aZ]at h2;exact h2
end
def Ea(x:Int):Int:=if x<0 then x-24 else x
def FG(t:gI):gI:=t.map Ea
theorem Di(t:gI):(FG t).length=t.length:=by simp[FG]
theorem Vr{x:Int}:Ea x<0<->x<0:=by unfold Ea;split<;>omega
theorem Vq(a:gI)(x:Int):mV a (Ea x)=mV a x:=by
 unfold Ea;split
 ·rename_i h;rw[yB h,yB iA]
 ·rfl
theorem LO{a:gI}:∀{t:gI}{k:Nat},Wv a k t->Wv a k (FG t)
 |[],k,h=>by
  have:=h.len;have hk:k=0:=by simpa using this
  subst hk;exact Wv.nil
 |x::t,0,h=>by have:=h.zero;cases this
 |x::t,k+1,h=>by
  obtain⟨h1,h2⟩:=Wv.jS.1 h;show Wv a (k+1) (Ea x::FG t);refine Wv.jS.2 ⟨?_,by rw[Vq];exact LO h2⟩;unfold Ea;split<;>omega
theorem uz{a:gI}:∀{t:gI}{k:Nat},Wf a k t->Wv a k t
 |[],k,h=>by
  have:=h.len;have hk:k=0:=by simpa using this
  subst hk;exact Wv.nil
 |x::t,0,h=>by have:=h.zero;cases this
 |x::t,k+1,h=>by
  obtain⟨h1,h2⟩:=Wf.jS.1 h;exact Wv.jS.2 ⟨h1.2,uz h2⟩
theorem Du{t:gI}(hl:t.length<=60)(hn:∀y∈t, -24<=y):nP t=some (FG t):=by
 unfold nP;have e1:jE t=some t:=by
  unfold jE;refine(pS.UI (t:=True) (P:=(·=t)) ?_ fun h=>?_).eq
  ·rw[ah iA];exact .some rfl
  ·subst h;simp
 rw[e1,aa];have h0:((0:Int),t)=((fun i:Nat=>((i:Int),(t.take i).map Ea++t.drop i)) 0):=by simp
 rw[h0];refine nc (n:=t.length) (fun i:Nat=>((i:Int),(t.take i).map Ea++t.drop i)) (fun i hi=>?_) ?_
 ·have hg:((t.take i).map Ea++t.drop i).length=t.length:=by simp;omega
  have hti:((t.take i).map Ea).length=i:=by simp;omega
  have hd:=ay hi;have ht:t.take (i+1)=t.take i++[t[i]]:=by rw[bB hi]
  have hge:((t.take i).map Ea++t.drop i).getD i default=t[i]:=by rw[List.getD_eq_getElem?_getD,bJ iA,hti,cN,hd];rfl
  have hw:IntKind.i64.wrap ((i:Int)+1)=((i+1:Nat):Int):=by rw[kM iA iA];rfl
  have hmt:=hn _ (bw hi);rw[vO,ah (by simp only[au];omega),ah ⟨iA,by rw[hg];omega⟩,ai,hge,hw];have e3:(t.take (i+1)).map Ea++t.drop (i+1)=(t.take i).map Ea++(Ea t[i]::t.drop (i+1)):=by rw[ht,aQ,aF];rfl
  by_cases h0:t[i]<0
  ·rw[ah (by simpa using h0),kM iA iA,e3,hd,eI _ _ iA,hti,cN,bG];unfold Ea;rw[ah h0]
  ·have haw:Ea t[i]=t[i]:=by unfold Ea;rw[aj h0]
   rw[haw,<-hd]at e3;rw[aj (by simpa using h0),e3]
 ·rw[vO,aj (by simp),cj,eO,aT];rfl
theorem DX{t:gI}(hl:t.length<=60)(hn:∀y∈t, -24<=y):ru t 24=some (FG t):=by
 unfold ru;have h0:(([]:gI),(0:Int))=((fun i:Nat=>((t.take i).map Ea,(i:Int))) 0):=by simp
 rw[h0];refine nc (n:=t.length) (fun i:Nat=>((t.take i).map Ea,(i:Int))) (fun i hi=>?_) ?_
 ·have hti:((t.take i).map Ea).length=i:=by simp;omega
  have ht:t.take (i+1)=t.take i++[t[i]]:=by rw[bB hi]
  have hw:IntKind.i64.wrap ((i:Int)+1)=((i+1:Nat):Int):=by rw[kM iA iA];rfl
  have hmt:=hn _ (bw hi);rw[ta,ah (by simp only[au];omega),ah iA,ai,jb hi,hw,ht,aQ];by_cases h0:t[i]<0
  ·rw[ah (by simpa using h0),ah iA,kM iA iA];have:Ea t[i]=t[i]-24:=by unfold Ea;rw[ah h0]
   rw[aK,this];rfl
  ·rw[aj (by simpa using h0),ah iA];have:Ea t[i]=t[i]:=by unfold Ea;rw[aj h0]
   rw[aK,this];rfl
 ·rw[ta,aj (by simp),cj];rfl
theorem Vp{a t:gI}(hw:Wf a 1 t)(hl:t.length<=60):Lt a (FG t):=⟨LO (uz hw),by rw[Di];exact hl,fun y hy=>by
 obtain⟨x,hx,rfl⟩:=a_.1 hy;have:=(hw.all x hx).1;unfold Ea;split<;>omega⟩
theorem abc{a t:gI}(hw:Wf a 1 t)(hl:t.length<=60):Lt a t:=⟨uz hw,hl,fun y hy=>by have:=(hw.all y hy).1;omega⟩
theorem Ky{a p u s v:gI}(ha:kL a=true)(hu:Wv a 1 u)(hl:(p++(u++s)).length<=60)(hv:v.length<=60):
 tA a (p++(u++s)) (p.length:Int) v=some (if(p++(v++s)).length<=60 then(p++(v++s),true)else([],false)):=by
 have hd:(p++(u++s)).drop p.length=u++s:=bS;have hl':=hl;simp only[ak]at hl';unfold tA;rw[ah (by simp only[ak];omega),uX ha (by show List.length _<_;omega) hd hu,aa];have e1:((p++(u++s)).length:Int)-s.length=((p.length+u.length:Nat):Int):=by simp;omega
 rw[e1,ah (by simp;omega),ai,ai,ef,<-List.drop_drop,hd,bS];rw[yT (by simp) (by intro w hw;simp at hw;rcases hw with rfl|rfl|rfl<;>omega),aa];have e2:[p,v,s].flatten=p++(v++s):=by simp
 rw[e2];by_cases h:(p++(v++s)).length<=60
 ·rw[aj (by simp only[au];omega),ah h]
 ·rw[ah (by simp only[au];omega),aj h]
theorem WV(s:gI)(x:Int):∃m,E9 s x=s++m:=by
 unfold E9;split
 ·exact⟨[x],rfl⟩
 ·exact⟨[],(aT _).symm⟩
theorem Aw(s:gI)(x:Int)(t:gI):nO s (x::t)=nO (E9 s x) t:=rfl
theorem Oo(s t u:gI):nO s (t++u)=nO (nO s t) u:=List.foldl_append
theorem Jg:∀(t s:gI),∃m,nO s t=s++m
 |[],s=>⟨[],(aT _).symm⟩
 |x::t,s=>by
  obtain⟨m,h⟩:=WV s x;obtain⟨m',h'⟩:=Jg t (E9 s x);exact⟨m++m',by rw[Aw,h',h,aF]⟩
theorem WU{t s:gI}{y:Int}(h:y∈s):y∈nO s t:=by
 obtain⟨m,e⟩:=Jg t s;rw[e];exact bp _ h
theorem CS:∀{t s:gI}{y:Int},y∈t->y<0->y∈nO s t
 |x::t,s,y,h,h0=>by
  rw[Aw];rcases bA.1 h with rfl|h
  ·refine WU ?_;unfold E9;by_cases c:y∈s
   ·rw[aj (fun k=>k.2 c)];exact c
   ·rw[ah ⟨h0,c⟩];simp
  ·exact CS h h0
theorem Ot:∀{t s:gI},(∀y∈s,y<0)->∀y∈nO s t,y<0
 |[],s,h=>h
 |x::t,s,h=>by
  rw[Aw];refine Ot fun y hy=>?_
  unfold E9 at hy;split at hy
  ·rename_i c;rcases aG.1 hy with hy|hy
   ·exact h y hy
   ·rw[aR.1 hy];exact c.1
  ·exact h y hy
theorem Ax:∀{t s:gI},s.Nodup->(nO s t).Nodup
 |[],s,h=>h
 |x::t,s,h=>by
  rw[Aw];refine Ax ?_;unfold E9;split
  ·rename_i c;exact cc.2 ⟨h,by simp,fun y hy z hz e=>by rw[aR.1 hz]at e;exact c.2 (e▸hy)⟩
  ·exact h
theorem FP:∀{t s:gI},(nO s t).length<=s.length+t.length
 |[],s=>by simp[nO]
 |x::t,s=>by
  rw[Aw];have h:=FP (t:=t) (s:=E9 s x);have:(E9 s x).length<=s.length+1:=by unfold E9;split<;>simp
  rw[aN];omega
theorem GU:∀{t s:gI},(∀y∈t,y<0->y∈s)->nO s t=s
 |[],s,_=>rfl
 |x::t,s,h=>by
  have e:E9 s x=s:=by
   unfold E9;rw[aj];exact fun c=>c.2 (h x bf c.1)
  rw[Aw,e];exact GU fun y hy=>h y (aX _ hy)
theorem O1{t s:gI}{i:Nat}(hi:i<t.length):nO s (t.take (i+1))=E9 (nO s (t.take i)) t[i]:=by rw[bB hi,Oo];rfl
theorem N_{o m:gI}{x:Int}(h:x∈o):(o++m).idxOf x=o.idxOf x:=by rw[List.idxOf_append,ah h]
theorem HJ{s:gI}(hs:Small s)(v:Int):jH s v=some (if v∈s then(s.idxOf v:Int)else -1):=by
 have h1:jH s v=some (nV (fun x=>v==x) s):=by
  unfold jH;refine AR (fun i x hi hx hg=>?_) ?_
  ·have hs':s.length<1099511627776:=hs;rw[kQ,ah (by simp only[au];omega),ah ⟨iA,iA⟩,ai,hg,kM iA iA];by_cases h:v=x
   ·rw[ah (by simpa using h),ah (by simpa using h)];rfl
   ·rw[aj (by simpa using h),aj (by simpa using h)]
  ·rw[kQ,aj (by simp)];rfl
 rw[h1];congr 1;unfold nV;by_cases h:v∈s
 ·rw[ah h];have e:s.findIdx? (fun x=>v==x)=some (s.idxOf v):=by
   refine List.findIdx?_eq_some_iff_findIdx_eq.2 ⟨ek.2 h,?_⟩;unfold List.idxOf;congr 1;funext x;exact eW.2 (by simp only[bC];exact eq_comm)
  rw[e]
 ·rw[aj h];have e:s.findIdx? (fun x=>v==x)=none:=ff.2 fun x hx=>by simp only[bV];rintro rfl;exact h hx
  rw[e]
theorem TS{out:List gI}{v:Nat}{t s:gI}(hl:t.length<=60)(hs:s.length<=200)(ho:out.length<=3)(hv:v<=3):
 iL (oY out v t) (s,0,t)=some (.inl (nO s t,out++[BM (nO s t) t],((v+1:Nat):Int))):=by
 have h0:(s,(0:Int),t)=((fun i:Nat=>(nO s (t.take i),(i:Int),(t.take i).map (Cu (nO s t))++t.drop i)) 0):=by simp[nO]
 rw[h0];refine nc (n:=t.length) (fun i:Nat=>(nO s (t.take i),(i:Int),(t.take i).map (Cu (nO s t))++t.drop i)) (fun i hi=>?_) ?_
 ·have hg:((t.take i).map (Cu (nO s t))++t.drop i).length=t.length:=by simp;omega
  have hti:((t.take i).map (Cu (nO s t))).length=i:=by simp;omega
  have hd:=ay hi;have ht:t.take (i+1)=t.take i++[t[i]]:=by rw[bB hi]
  have hge:((t.take i).map (Cu (nO s t))++t.drop i).getD i default=t[i]:=by rw[List.getD_eq_getElem?_getD,bJ iA,hti,cN,hd];rfl
  have hw:IntKind.i64.wrap ((i:Int)+1)=((i+1:Nat):Int):=by rw[kM iA iA];rfl
  have e3:(t.take (i+1)).map (Cu (nO s t))++t.drop (i+1)=(t.take i).map (Cu (nO s t))++(Cu (nO s t) t[i]::t.drop (i+1)):=by rw[ht,aQ,aF];rfl
  have hset:∀y,((t.take i).map (Cu (nO s t))++t.drop i).set i y=(t.take i).map (Cu (nO s t))++(y::t.drop (i+1)):=fun y=>by rw[hd,eI _ _ iA,hti,cN,bG]
  have hoi:(nO s (t.take i)).length<=260:=by
   have:=FP (t:=t.take i) (s:=s);simp at this;omega
  obtain⟨m,hm⟩:=Jg (t.drop (i+1)) (nO s (t.take (i+1)));have hfin:nO s t=nO s (t.take (i+1))++m:=by rw[<-hm,<-Oo,bL]
  rw[oY,ah (by simp only[au];omega),ah ⟨iA,by rw[hg];omega⟩,ai,hge,hw,e3];have hod:=O1 (s:=s) hi;by_cases h1:0<=t[i]
  ·have e:Cu (nO s t) t[i]=t[i]:=by unfold Cu;rw[aj iA]
   have e4:nO s (t.take (i+1))=nO s (t.take i):=by rw[hod];unfold E9;rw[aj (fun c=>by omega)]
   rw[ah (by simpa using h1),e,<-hd,e4]
  ·rw[aj (by simpa using h1),HJ (by show List.length _<_;omega),aa];by_cases h2:t[i]∈nO s (t.take i)
   ·have e4:nO s (t.take (i+1))=nO s (t.take i):=by rw[hod];unfold E9;rw[aj (fun c=>c.2 h2)]
    have hidx:=ek.2 h2;have e5:Cu (nO s t) t[i]= -1-((nO s (t.take i)).idxOf t[i]:Int):=by unfold Cu;rw[ah iA,hfin,e4,N_ h2]
    rw[ah h2,aj (by simp only[au];omega),kM iA iA,hset,e5,e4]
   ·have e4:nO s (t.take (i+1))=nO s (t.take i)++[t[i]]:=by rw[hod];unfold E9;rw[ah ⟨iA,h2⟩]
    have e5:Cu (nO s t) t[i]= -1-((nO s (t.take i)).length:Int):=by unfold Cu;rw[ah iA,hfin,e4,N_ (by simp),List.idxOf_append,aj h2];simp
    rw[aj h2,ah (by simp),ah iA,kM iA iA,hset,e5,e4]
 ·rw[oY,aj (by simp),ah iA,cj,eO,aT,kM iA iA];rfl
theorem J7{t:gI}(hl:t.length<=60):jE t=some t:=by
 unfold jE;refine(pS.UI (t:=True) (P:=(·=t)) ?_ fun h=>?_).eq
 ·rw[ah iA];exact .some rfl
 ·subst h;simp
theorem ED{p q w:gI}(hp:p.length<=60)(hq:q.length<=60)(hw:w.length<=60)(vq:∀y∈q,y<0->y∈p)(vw:∀y∈w,y<0->y∈p):
 sA [p,q,w]=some [BM (nO [] p) p,BM (nO [] p) q,BM (nO [] p) w]:=by
 unfold sA;have hol:(nO [] p).length<=60:=by have:=FP (t:=p) (s:=[]);simp at this;omega
 have one:∀(s:gI)(out:List gI)(v:Nat)(t:gI),[p,q,w].getD v default=t->v<3->t.length<=60->s.length<=200->out.length<=3->oX [p,q,w] (s,out,(v:Int))=some (.inl (nO s t,out++[BM (nO s t) t],((v+1:Nat):Int))):=fun s out v t ht hv hl hs ho=>by
  rw[oX,ah (by simp only[au,aN,bH];omega),ah ⟨iA,by simp only[aN,bH];omega⟩,ai,ht,J7 hl,aa];exact TS hl hs ho iA
 have o2:nO (nO [] p) q=nO [] p:=GU fun y hy h0=>CS (vq y hy h0) h0
 have o3:nO (nO [] p) w=nO [] p:=GU fun y hy h0=>CS (vw y hy h0) h0
 have s1:=one [] [] 0 p rfl iA hp (by simp) (by simp);have s2:=one (nO [] p) [BM (nO [] p) p] 1 q rfl iA hq iA (by simp);have s3:=one (nO [] p) [BM (nO [] p) p,BM (nO [] p) q] 2 w rfl iA hw iA (by simp);rw[o2]at s2;rw[o3]at s3;refine(iZ s1).trans ((iZ s2).trans ((iZ s3).trans (iK ?_)));rw[oX,aj (by simp)];rfl
theorem HU{t:gI}(hl:t.length<=60):tJ t=some (nO [] t):=by
 unfold tJ;have h0:(([]:gI),(0:Int))=((fun i:Nat=>(nO [] (t.take i),(i:Int))) 0):=by simp[nO]
 rw[h0];refine nc (n:=t.length) (fun i:Nat=>(nO [] (t.take i),(i:Int))) (fun i hi=>?_) ?_
 ·have hw:IntKind.i64.wrap ((i:Int)+1)=((i+1:Nat):Int):=by rw[kM iA iA];rfl
  have hoi:(nO [] (t.take i)).length<=60:=by
   have:=FP (t:=t.take i) (s:=[]);simp at this;omega
  have hod:=O1 (s:=[]) hi;rw[tc,ah (by simp only[au];omega),ah iA,ai,jb hi,hw,hod];unfold E9;by_cases h0:t[i]<0
  ·rw[ah (by simpa using h0),A5 (by show List.length _<_;omega),aa];by_cases h1:t[i]∈nO [] (t.take i)
   ·rw[ah (by simpa using h1),aj (fun c=>c.2 h1)]
   ·rw[aj (by simpa using h1),ah iA,ah ⟨h0,h1⟩]
  ·rw[aj (by simpa using h0),aj (fun c=>h0 c.1)]
 ·rw[tc,aj (by simp),cj];rfl
theorem M5{o t out:gI}{i:Nat}(ho:o.length<=60)(hn:o.Nodup)(hi:i<t.length)(hl:t.length<=60)(hout:out.length<=60)(hin:t[i]<0->t[i]∈o):
 iL (rE o t out i) (t[i],0)=some (.inl (out++[Cu o t[i]],((i+1:Nat):Int))):=by
 have hw:IntKind.i64.wrap ((i:Int)+1)=((i+1:Nat):Int):=by rw[kM iA iA];rfl
 by_cases h0:t[i]<0
 ·have hm:=hin h0;have hx:=ek.2 hm;have hst:(t[i],(0:Int))=((fun k:Nat=>((if o.idxOf t[i]<k then -1-(o.idxOf t[i]:Int)else t[i]),(k:Int))) 0):=by simp
  rw[hst];refine nc (n:=o.length) (fun k:Nat=>((if o.idxOf t[i]<k then -1-(o.idxOf t[i]:Int)else t[i]),(k:Int))) (fun k hk=>?_) ?_
  ·have hwk:IntKind.i64.wrap ((k:Int)+1)=((k+1:Nat):Int):=by rw[kM iA iA];rfl
   rw[rE,ah (by simp only[au];omega),ai,jb hi,ah (by simpa using h0),ah iA,ai,jb hk,hwk];by_cases h1:o[k]=t[i]
   ·have e:o.idxOf t[i]=k:=by rw[<-h1];exact hn.idxOf_getElem k hk
    rw[ah (by simpa using h1),kM iA iA,e,ah iA]
   ·have e:o.idxOf t[i]≠k:=fun e=>h1 (by subst e;exact List.getElem_idxOf hx)
    rw[aj (by simpa using h1)];by_cases c:o.idxOf t[i]<k
    ·rw[ah c,ah iA]
    ·rw[aj c,aj iA]
  ·rw[rE,aj (by simp),ah hx,ah iA,hw];unfold Cu;rw[ah h0];rfl
 ·have e:Cu o t[i]=t[i]:=by unfold Cu;rw[aj h0]
  refine iK ?_;rw[rE,ai,jb hi,aj (show ¬decide (t[i]<0)=true by simpa using h0),hw,e,ah (show(out.length+1)*8<=140737488355328 by omega)];split<;>rfl
theorem CX{o t:gI}(ho:o.length<=60)(hn:o.Nodup)(hl:t.length<=60)(hin:∀y∈t,y<0->y∈o):tI o t=some (BM o t):=by
 unfold tI;have h0:(([]:gI),(0:Int))=((fun i:Nat=>((t.take i).map (Cu o),(i:Int))) 0):=by simp
 rw[h0];refine nc (n:=t.length) (fun i:Nat=>((t.take i).map (Cu o),(i:Int))) (fun i hi=>?_) ?_
 ·have ht:t.take (i+1)=t.take i++[t[i]]:=by rw[bB hi]
  rw[vY,ah (by simp only[au];omega),ah iA,ai,jb hi,M5 ho hn hi hl (by simp;omega) (hin _ (bw hi)),ht,aQ];rfl
 ·rw[vY,aj (by simp),cj];rfl
theorem Kw{p:gI}(hp:p.length<=60)(h0:0<p.length):∃m,ki (BM (nO [] p) p)=some m/\decide (m< -24)=decide (24<((nO [] p).length:Int)):=by
 have hl:(BM (nO [] p) p).length=p.length:=by simp[BM]
 obtain⟨m,h1,h2⟩:=(A3 (x:=BM (nO [] p) p) iA (by show List.length _<_;omega)).get;refine⟨m,h1,?_⟩;rw[eL];constructor
 ·intro hm;refine dg fun c=>?_
  have: -24<=m:=(h2 (-24)).2 fun y hy=>by
   obtain⟨x,hx,rfl⟩:=a_.1 hy;unfold Cu;by_cases hx0:x<0
   ·rw[ah hx0];have:=ek.2 (CS (s:=[]) hx hx0);omega
   ·rw[aj hx0];omega
  omega
 ·intro hm;refine dg fun c=>?_
  have h3:=(h2 (-24)).1 iA;have hk:24<(nO [] p).length:=by omega
  have hmem:(nO [] p)[24]∈nO [] p:=bw hk;have hin:(nO [] p)[24]∈p:=(Jh hmem).elim (fun c=>by cases c) id;have hneg:=Ot (t:=p) (s:=[]) (by simp) _ hmem;have:=h3 _ (a_.2 ⟨_,hin,rfl⟩);unfold Cu at this;rw[ah hneg,(Ax (t:=p) fe).idxOf_getElem 24 hk]at this;omega
structure O6(a s t:gI)(b1 b2:List gI)(σ1 σ2:Sb):Prop where
 bn1:∃r,Bn a (N0 a s t) b1 σ1 r
 bn2:∃r,Bn a (N0 a s t) b2 σ2 r
 sol:∀τ,zW a b1 τ<->zW a b2 τ
 eq1:sub σ1 s=sub σ1 t
 eq2:sub σ2 s=sub σ2 t
theorem Ni{a s t:gI}(ha:kL a=true)(hs:Lt a s)(ht:Lt a t):
 (∃b1 b2 σ1 σ2,kR s t a GS=some (.inl b1)/\nS a s t GS=some (true,b2)/\O6 a s t b1 b2 σ1 σ2)\/
 (∃b1 b2,kR s t a GS=some (.inr b1)/\nS a s t GS=some (false,b2)):=by
 obtain⟨z,e1,R1⟩:=Mq ha hs ht;obtain⟨⟨f,b2⟩,e2,R2⟩:=M9 ha hs ht;cases z with
 |inl b1=>
  obtain⟨⟨σ1,r1,h1⟩,S1,_⟩:=R1.yes rfl;have q1:=(S1 σ1).1 h1.self;cases f with
  |false=>exact absurd q1.2 (R2.no rfl σ1 q1.1)
  |true=>
   obtain⟨⟨σ2,r2,h2⟩,S2,_⟩:=R2.yes rfl;have q2:=(S2 σ2).1 h2.self;exact .inl ⟨b1,b2,σ1,σ2,e1,e2,⟨r1,h1⟩,⟨r2,h2⟩,fun τ=>(S1 τ).trans (S2 τ).symm,q1.2,q2.2⟩
 |inr b1=>
  cases f with
  |false=>exact .inr ⟨b1,b2,e1,e2⟩
  |true=>
   obtain⟨⟨σ2,r2,h2⟩,S2,_⟩:=R2.yes rfl;have q2:=(S2 σ2).1 h2.self;exact absurd q2.2 (R1.no rfl σ2 q2.1)
abbrev Pk:=gI×gI×gI×Int×Int×Int
abbrev pk0:Pk×Bool:=(([],[],[],0,0,0),false)
structure Ov(a:gI)(l r l' r' p s q:gI):Prop where
 sg:kL a=true
 split:l=p++(s++q)
 ws:Wf a 1 s
 wl:Wf a 1 l
 wr:Wf a 1 r
 wl':Wf a 1 l'
 wr':Wf a 1 r'
 ll:l.length<=60
 lr:r.length<=60
 ll':l'.length<=60
 lr':r'.length<=60
 vr:∀x∈r,x<0->x∈l
 vr':∀x∈r',x<0->x∈l'
section
variable{a l r l' r' p s q:gI}{b1 b2:List gI}{σ1 σ2:Sb}
theorem Ov.ls(h:Ov a l r l' r' p s q):s.length<=60:=by have:=h.ll;rw[h.split]at this;simp only[ak]at this;omega
theorem Ov.toks(h:Ov a l r l' r' p s q):Lt a s/\Lt a (FG l'):=⟨abc h.ws h.ls,Vp h.wl' h.ll'⟩
def ze(p q r':gI):gI:=p++(FG r'++q)
def Xa(σ:Sb)(l r mid:gI)(i un ov:Int):Pk×Bool:=
 if(sub σ l).length<=60/\(sub σ r).length<=60/\(sub σ mid).length<=60/\(nO [] (sub σ l)).length<=24 then
  ((BM (nO [] (sub σ l)) (sub σ l),BM (nO [] (sub σ l)) (sub σ mid),BM (nO [] (sub σ l)) (sub σ r),i,un,ov),true)
 else pk0
theorem aaT{N:Pl}{ρ1 ρ2:Int->Nat}(h1:Bn a N b1 σ1 ρ1)(h2:Bn a N b2 σ2 ρ2)(h:∀τ,zW a b1 τ<->zW a b2 τ)(l r mid:gI)(i un ov:Int):Xa σ1 l r mid i un ov=Xa σ2 l r mid i un ov:=by
 obtain⟨k1,k2,k3,k4,k5⟩:=Oy h1 h2 h l mid [];obtain⟨m1,m2,m3,m4,m5⟩:=Oy h1 h2 h l r [];unfold Xa;rw[k1,k2,k3,k4,k5,m4,m5]
theorem Ik{t:gI}(h:Wf a 1 t):∀y∈t, -48<=y:=fun y hy=>by have:=(h.all y hy).1;omega
theorem Yo{t:gI}(h:Wf a 1 t):∀y∈FG t, -48<=y:=fun y hy=>by
 obtain⟨x,hx,rfl⟩:=a_.1 hy;have:=(h.all x hx).1;unfold Ea;split<;>omega
theorem Ov.aaB(h:Ov a l r l' r' p s q):∀y∈ze p q r', -48<=y:=fun y hy=>by
 have hl:=Ik h.wl;rw[h.split]at hl;unfold ze at hy;rcases aG.1 hy with hy|hy
 ·exact hl y (bp _ hy)
 ·rcases aG.1 hy with hy|hy
  ·exact Yo h.wr' y hy
  ·exact hl y (bM _ (bM _ hy))
theorem Ov.Wu(h:Ov a l r l' r' p s q):(ze p q r').length<=200:=by
 have:=h.ll;rw[h.split]at this;have:=h.lr';unfold ze;simp only[ak,Di]at *;omega
theorem Ov.ae9{σ:Sb}(h:Ov a l r l' r' p s q)(he:sub σ s=sub σ (FG l')):∀y∈sub σ (ze p q r'),y<0->y∈sub σ l:=fun y hy h0=>by
 rw[h.split,mu,mu];unfold ze at hy;rw[mu,mu]at hy;rcases aG.1 hy with hy|hy
 ·exact bp _ hy
 ·rcases aG.1 hy with hy|hy
  ·refine bM _ (bp _ ?_);rw[he];obtain⟨x,hx,⟨hx0,hyx⟩|⟨hx0,rfl⟩⟩:=qw.1 hy
   ·obtain⟨z,hz,rfl⟩:=a_.1 hx;exact qw.2 ⟨Ea z,a_.2 ⟨z,h.vr' z hz (Vr.1 hx0),rfl⟩,.inl ⟨hx0,hyx⟩⟩
   ·exact absurd h0 hx0
  ·exact bM _ (bM _ hy)
theorem Ov.vrr{σ:Sb}(h:Ov a l r l' r' p s q):∀y∈sub σ r,y<0->y∈sub σ l:=fun y hy h0=>by
 obtain⟨x,hx,⟨hx0,hyx⟩|⟨hx0,rfl⟩⟩:=qw.1 hy
 ·exact qw.2 ⟨x,h.vr x hx hx0,.inl ⟨hx0,hyx⟩⟩
 ·exact absurd h0 hx0
theorem Ao{σ:Sb}{t:gI}(h:1<=(sub σ t).length):(((xb σ t).length:Int)==0)=true<->¬(sub σ t).length<=60:=by
 unfold xb;rw[bC];split
 ·rename_i c;constructor
  ·intro e;omega
  ·intro e;exact absurd c e
 ·rename_i c;simp[c]
end
section
variable{sys:Sys}{l r l' r' p s q:gI}{b1 b2:List gI}{σ1 σ2:Sb}{ov un:Nat}
theorem Ov.drop{a:gI}(h:Ov a l r l' r' p s q):l.drop p.length=s++q:=by rw[h.split,bS]
theorem Ov.take{a:gI}(h:Ov a l r l' r' p s q):l.take p.length=p:=by rw[h.split,ef]
theorem Ov.tail{a:gI}(h:Ov a l r l' r' p s q):l.drop (l.length-q.length)=q:=by
 rw[h.split];have:(p++(s++q)).length-q.length=(p++s).length:=by simp only[ak];omega
 rw[this,<-aF,bS]
theorem Ov.lens{a:gI}(h:Ov a l r l' r' p s q):p.length+s.length+q.length=l.length/\1<=s.length:=by
 refine⟨?_,h.ws.len⟩;have:=bP List.length h.split;simp only[ak]at this;omega
theorem Ov.smL{a:gI}(h:Ov a l r l' r' p s q):Small l:=by have:=h.ll;show l.length<_;omega
theorem Fc(h:Ov sys.1 l r l' r' p s q)(yD:ov<sys.2.length)(hun:un<sys.2.length)(eo:sys.2.getD ov default=(l,r))(eu:sys.2.getD un default=(l',r')){z:Bool×List gI}(hz:nS sys.1 s (FG l') GS=some z):
 nJ sys ov (p.length:Int) un=some z:=by
 obtain⟨k1,k2⟩:=h.lens;unfold nJ;rw[ah iA,ai,eo];simp only;rw[BU h.sg h.ll h.drop (uz h.ws),aa,ah iA,ah iA,ai,eu];simp only;rw[DX h.ll' (fun y hy=>(h.wl'.all y hy).1),aa,show((l.length:Int)-q.length).toNat=l.length-q.length by omega,ai,BX h.drop iA,hz];rfl
theorem CA(h:Ov sys.1 l r l' r' p s q)(yD:ov<sys.2.length)(hun:un<sys.2.length)(eo:sys.2.getD ov default=(l,r))(eu:sys.2.getD un default=(l',r')){z:Bool×List gI}(hz:nS sys.1 s (FG l') GS=some z)
 (hx:¬l.getD p.length default<0) (hne:¬(ov=un/\p.length=0)):kK sys ov (p.length:Int) un=some z.1:=by
 obtain⟨k1,k2⟩:=h.lens;have hll:=h.ll;unfold kK;rw[ah iA,ai,eo];simp only;rw[kM iA iA,jT,aa,ah (by simp;omega),ah iA,ai,aj (by simpa using hx),Fc h yD hun eo eu hz];simp only[aa];by_cases c1:((p.length:Int)==0)=true
 ·have c2:¬((ov:Int)==(un:Int))=true:=by simp only[bC]at c1⊢;omega
  rw[ah c1,aj c2]
 ·rw[aj c1]
theorem A7(h:Ov sys.1 l r l' r' p s q)(yD:ov<sys.2.length)(hun:un<sys.2.length)(eo:sys.2.getD ov default=(l,r))(eu:sys.2.getD un default=(l',r')){z:List gI⊕List gI}(hz:kR s (FG l') sys.1 GS=some z)
 (hne:¬(ov=un/\p.length=0)):jR sys ov (p.length:Int) un=some (Sum.elim (fun b=>.inl (sys.1,b)) (fun _=>.inr ()) z):=by
 have body:(if 0<=(ov:Int)/\(ov:Int)<(sys.2.length:Int)then
  (kX sys.1 ((sys.2.getD (ov:Int).toNat default).1) (p.length:Int)).bind fun r_3=>
  if 0<=(un:Int)/\(un:Int)<(sys.2.length:Int)then
   (nP ((sys.2.getD (un:Int).toNat default).1)).bind fun r_4=>
   (nR r_3 r_4 sys.1 (List.replicate 48 [])).bind fun r_5=>
   if r_5.1=true then
    some (.inl (sys.1,r_5.2))
   else
    some (.inr ())
  else none
  else none)=some (Sum.elim (fun b=>Sum.inl (sys.1,b)) (fun _=>Sum.inr ()) z):=by
  rw[ah iA,ai,eo];simp only;rw[zR h.sg h.smL h.drop (uz h.ws),aa,ah iA,ai,eu];simp only;rw[Du h.ll' (fun y hy=>(h.wl'.all y hy).1),aa];unfold nR;rw[hz];cases z<;>rfl
 unfold jR;by_cases c1:((ov:Int)==(un:Int))=true
 ·have c2:¬((p.length:Int)==0)=true:=by simp only[bC]at c1⊢;omega
  rw[ah c1,aj c2];exact body
 ·rw[aj c1];exact body
theorem Ir(h:Ov sys.1 l r l' r' p s q)(yD:ov<sys.2.length)(hun:un<sys.2.length)(eo:sys.2.getD ov default=(l,r))(eu:sys.2.getD un default=(l',r'))(hx:¬l.getD p.length default<0)(hne:¬(ov=un/\p.length=0)):
 (∃b1 b2 σ1 σ2,jR sys ov (p.length:Int) un=some (.inl (sys.1,b1))/\kK sys ov (p.length:Int) un=some true/\nJ sys ov (p.length:Int) un=some (true,b2)/\O6 sys.1 s (FG l') b1 b2 σ1 σ2)\/
 (jR sys ov (p.length:Int) un=some (.inr ())/\kK sys ov (p.length:Int) un=some false):=by
 rcases Ni h.sg h.toks.1 h.toks.2 with⟨b1,b2,σ1,σ2,e1,e2,hb⟩|⟨b1,b2,e1,e2⟩
 ·exact .inl ⟨b1,b2,σ1,σ2,A7 h yD hun eo eu e1 hne,CA h yD hun eo eu e2 hx hne,Fc h yD hun eo eu e2,hb⟩
 ·exact .inr ⟨A7 h yD hun eo eu e1 hne,CA h yD hun eo eu e2 hx hne⟩
theorem Jv(h:Ov sys.1 l r l' r' p s q)(yD:ov<sys.2.length)(hun:un<sys.2.length)(eo:sys.2.getD ov default=(l,r))(eu:sys.2.getD un default=(l',r'))(hb:O6 sys.1 s (FG l') b1 b2 σ1 σ2)(ht:nJ sys ov (p.length:Int) un=some (true,b2)):
 pF sys ov (p.length:Int) un=some (Xa σ2 l r (ze p q r') (p.length:Int) un ov):=by
 obtain⟨k1,k2⟩:=h.lens;have hll:=h.ll;have hlr':=h.lr';have hlr:=h.lr;obtain⟨ρ,hn⟩:=hb.bn2;have hc:=Om h.sg h.toks.1 h.toks.2;have hlo:∀{t:gI},(∀y∈t, -48<=y)->∀y∈t, -((N0 sys.1 s (FG l')).n:Int)<=y:=fun h y hy=>h y hy
 have hsl:1<=(sub σ2 l).length:=((uz h.wl).sub fun x _ hx=>hn.wv x hx).len;have hsr:1<=(sub σ2 r).length:=((uz h.wr).sub fun x _ hx=>hn.wv x hx).len;have hmw:1<=(sub σ2 (FG r')).length:=((LO (uz h.wr')).sub fun x _ hx=>hn.wv x hx).len;have E7:1<=(sub σ2 (ze p q r')).length:=by unfold ze;rw[mu,mu];simp only[ak];omega
 have hfl:(xb σ2 l).length<=60:=by
  unfold xb;split
  ·rename_i c;exact c
  ·simp
 unfold pF;rw[ht,aa,ah iA,ai,eo];simp only;rw[BU h.sg h.ll h.drop (uz h.ws),aa,ah iA,ai,h.take,ah iA,ah iA,ai,eu];simp only;rw[DX h.lr' (fun y hy=>(h.wr'.all y hy).1),aa,ah (by rw[Di];omega),AZ hc hn iA (hlo (Ik h.wl)),aa,ah iA,
  show((l.length:Int)-q.length).toNat=l.length-q.length by omega,h.tail,ah (by rw[ak,Di];omega),aF,show p++(FG r'++q)=ze p q r' from rfl,
  AZ hc hn h.Wu (hlo h.aaB),aa,AZ hc hn iA (hlo (Ik h.wr)),aa,HU hfl,aa]
 unfold Xa;by_cases c1:(sub σ2 l).length<=60
 ·rw[aj (fun c=>(Ao hsl).1 c c1)];by_cases c2:(sub σ2 (ze p q r')).length<=60
  ·rw[aj (fun c=>(Ao E7).1 c c2)];by_cases c3:(sub σ2 r).length<=60
   ·rw[aj (fun c=>(Ao hsr).1 c c3)];have f1:xb σ2 l=sub σ2 l:=ah c1;have f2:xb σ2 (ze p q r')=sub σ2 (ze p q r'):=ah c2;have f3:xb σ2 r=sub σ2 r:=ah c3;rw[f1,f2,f3];by_cases c4:(nO [] (sub σ2 l)).length<=24
    ·have hin:∀{t:gI},(∀y∈t,y<0->y∈sub σ2 l)->∀y∈t,y<0->y∈nO [] (sub σ2 l):=fun h y hy h0=>CS (h y hy h0) h0
     rw[aj (by simp only[au];omega),CX iA (Ax fe) c1 (hin fun y hy _=>hy),aa,CX iA (Ax fe) c2 (hin (h.ae9 hb.eq2)),aa,
      CX iA (Ax fe) c3 (hin h.vrr),aa,ah ⟨c1,c3,c2,c4⟩]
    ·rw[ah (by simp only[au];omega),aj (fun c=>c4 c.2.2.2)]
   ·rw[ah ((Ao hsr).2 c3),aj (fun c=>c3 c.2.1)]
  ·rw[ah ((Ao E7).2 c2),aj (fun c=>c2 c.2.2.1)]
 ·rw[ah ((Ao hsl).2 c1),aj (fun c=>c1 c.1)]
theorem Dx(h:Ov sys.1 l r l' r' p s q)(yD:ov<sys.2.length)(hun:un<sys.2.length)(eo:sys.2.getD ov default=(l,r))(eu:sys.2.getD un default=(l',r'))(hb:O6 sys.1 s (FG l') b1 b2 σ1 σ2)(ho:jR sys ov (p.length:Int) un=some (.inl (sys.1,b1))):
 oD sys ov (p.length:Int) un=some (Xa σ1 l r (ze p q r') (p.length:Int) un ov):=by
 obtain⟨k1,k2⟩:=h.lens;have hll:=h.ll;have hlr':=h.lr';have hlr:=h.lr;obtain⟨ρ,hn⟩:=hb.bn1;have hc:=Om h.sg h.toks.1 h.toks.2;have hlo:∀{t:gI},(∀y∈t, -48<=y)->∀y∈t, -((N0 sys.1 s (FG l')).n:Int)<=y:=fun h y hy=>h y hy
 have hsl:1<=(sub σ1 l).length:=((uz h.wl).sub fun x _ hx=>hn.wv x hx).len;have hws:Wv sys.1 1 (sub σ1 s):=(uz h.ws).sub fun x _ hx=>hn.wv x hx
 have hlop:∀y∈p, -48<=y:=fun y hy=>Ik h.wl y (by rw[h.split];exact bp _ hy)
 have esl:sub σ1 l=sub σ1 p++(sub σ1 s++sub σ1 q):=by rw[h.split,mu,mu]
 have esm:sub σ1 (ze p q r')=sub σ1 p++(sub σ1 (FG r')++sub σ1 q):=by unfold ze;rw[mu,mu]
 obtain⟨z1,e1,q1⟩:=vi hc hn sys.1 (t:=l) iA (hlo (Ik h.wl));obtain⟨z2,e2,q2⟩:=vi hc hn sys.1 (t:=r) iA (hlo (Ik h.wr));obtain⟨z3,e3,q3⟩:=vi hc hn sys.1 (t:=FG r') (by rw[Di];omega) (hlo (Yo h.wr'));obtain⟨z4,e4,q4⟩:=vi hc hn sys.1 (t:=p) iA (hlo hlop);have aw:=Du h.lr' (fun y hy=>(h.wr'.all y hy).1);unfold oD;rw[ho,aa];simp only[eC];rw[ah iA,ai,eo];simp only;rw[e1,aa];have hfail:∀{g:gI->Option (Pk×Bool)},True:=fun{g}=>trivial
 unfold Xa;by_cases c1:(sub σ1 l).length<=60
 ·rw[ah c1]at q1;subst q1;simp only[eC];rw[e2,aa];by_cases c2:(sub σ1 r).length<=60
  ·rw[ah c2]at q2;subst q2;simp only[eC];rw[ah iA,ai,eu];simp only;rw[aw,aa,e3,aa];by_cases c3:(sub σ1 (FG r')).length<=60
   ·rw[ah c3]at q3;subst q3;simp only[eC];have hpl:(sub σ1 p).length<=60:=by rw[esl]at c1;simp only[ak]at c1;omega
    rw[ah hpl]at q4;subst q4;have e5:mG l (p.length:Int) sys.1 b1=some ((sub σ1 p).length:Int):=by
     unfold mG;rw[ah iA,ai,h.take,e4,aa];rfl
    rw[e5,aa,esl,Ky h.sg hws (by rw[<-esl];exact c1) c3,aa,<-esl,<-esm];by_cases c4:(sub σ1 (ze p q r')).length<=60
    ·rw[ah c4];simp only[aA];rw[ED c1 c4 c2 (h.ae9 hb.eq1) h.vrr,aa];obtain⟨m,m1,m2⟩:=Kw c1 iA;rw[ah ⟨iA,by simp⟩,show [BM (nO [] (sub σ1 l)) (sub σ1 l),BM (nO [] (sub σ1 l)) (sub σ1 (ze p q r')),BM (nO [] (sub σ1 l)) (sub σ1 r)].getD 0 default=BM (nO [] (sub σ1 l)) (sub σ1 l)from rfl,m1,aa,m2];by_cases c5:(nO [] (sub σ1 l)).length<=24
     ·rw[aj (by simp only[au];omega),ah ⟨iA,by simp⟩,ah ⟨iA,by simp⟩,ah ⟨c1,c2,c4,c5⟩];rfl
     ·rw[ah (by simp only[au];omega),aj (fun c=>c5 c.2.2.2)]
    ·rw[aj c4,aj (show ¬((sub σ1 l).length<=60/\(sub σ1 r).length<=60/\(sub σ1 (ze p q r')).length<=60/\(nO [] (sub σ1 l)).length<=24)from fun c=>c4 c.2.2.1)];rfl
   ·rw[aj c3]at q3;obtain⟨o,rfl⟩:=q3;simp only[eZ];rw[aj];intro c;have:=c.2.2.1;rw[esm]at this;simp only[ak]at this;omega
  ·rw[aj c2]at q2;obtain⟨o,rfl⟩:=q2;simp only[eZ];rw[ah iA,ai,eu];simp only;rw[aw,aa,e3,aa,aj (show ¬((sub σ1 l).length<=60/\(sub σ1 r).length<=60/\(sub σ1 (ze p q r')).length<=60/\(nO [] (sub σ1 l)).length<=24)from fun c=>c2 c.2.1)];cases z3<;>rfl
 ·rw[aj c1]at q1;obtain⟨o,rfl⟩:=q1;simp only[eZ];rw[e2,aa,aj (show ¬((sub σ1 l).length<=60/\(sub σ1 r).length<=60/\(sub σ1 (ze p q r')).length<=60/\(nO [] (sub σ1 l)).length<=24)from fun c=>c1 c.1)];have e6:∀(f:gI×gI×gI×Int×Int×Int->Pk×Bool),True:=fun _=>trivial
  cases z2 with
  |inl x=>
   simp only[eC];rw[ah iA,ai,eu];simp only;rw[aw,aa,e3,aa];cases z3<;>rfl
  |inr x=>
   simp only[eZ];rw[ah iA,ai,eu];simp only;rw[aw,aa,e3,aa];cases z3<;>rfl
theorem Qr(h:Ov sys.1 l r l' r' p s q)(yD:ov<sys.2.length)(hun:un<sys.2.length)(eo:sys.2.getD ov default=(l,r))(eu:sys.2.getD un default=(l',r'))(hx:¬l.getD p.length default<0)(hne:¬(ov=un/\p.length=0)):
 (∃b1 z,jR sys ov (p.length:Int) un=some (.inl (sys.1,b1))/\kK sys ov (p.length:Int) un=some true/\oD sys ov (p.length:Int) un=some z/\pF sys ov (p.length:Int) un=some z)\/
 (jR sys ov (p.length:Int) un=some (.inr ())/\kK sys ov (p.length:Int) un=some false):=by
 rcases Ir h yD hun eo eu hx hne with⟨b1,b2,σ1,σ2,e1,e2,e3,hb⟩|e
 ·refine .inl ⟨b1,_,e1,e2,Dx h yD hun eo eu hb e1,?_⟩;rw[Jv h yD hun eo eu hb e3];obtain⟨r1,n1⟩:=hb.bn1;obtain⟨r2,n2⟩:=hb.bn2;rw[aaT n1 n2 hb.sol]
 ·exact .inr e
end
def HO(sys:Sys)(ov i un:Nat):Bool:=
 if(sys.2.getD ov default).1.getD i default<0 then false else match jR sys ov i un with|some (.inl _)=>true|_=>false
structure MtF(sys:Sys)(ov i un:Nat):Prop where
 meets:kK sys ov i un=some (HO sys ov i un)
 lap:¬(sys.2.getD ov default).1.getD i default<0->∃z,jR sys ov i un=some z/\(HO sys ov i un=true->∃y,z=.inl y)/\(HO sys ov i un=false->z=.inr ())
 W8:HO sys ov i un=true->∃z,oD sys ov i un=some z/\pF sys ov i un=some z
theorem GR{sys:Sys}(hs:kC sys=true){ov i un:Nat}(yD:ov<sys.2.length)(hi:i<(sys.2.getD ov default).1.length)(hun:un<sys.2.length):MtF sys ov i un:=by
 obtain⟨ha,hn,hrs⟩:=mj.1 hs;obtain⟨k1,k2,k3,k4⟩:=lX.1 (hrs _ (jP yD));obtain⟨m1,m2,m3,m4⟩:=lX.1 (hrs _ (jP hun));obtain⟨_,a1,a2,a3⟩:=ja.1 k1;obtain⟨_,b1,b2,b3⟩:=ja.1 k2;obtain⟨_,c1,c2,c3⟩:=ja.1 m1;obtain⟨_,d1,d2,d3⟩:=ja.1 m2;obtain⟨p,s,q,e,hp,hw⟩:=a3.place hi;have h:Ov sys.1 (sys.2.getD ov default).1 (sys.2.getD ov default).2 (sys.2.getD un default).1 (sys.2.getD un default).2 p s q:=⟨ha,e,hw,a3,b3,c3,d3,a2,b2,c2,d2,k4,m4⟩;subst hp;by_cases hx:(sys.2.getD ov default).1.getD p.length default<0
 ·have hB:HO sys ov p.length un=false:=by unfold HO;rw[ah hx]
  refine⟨?_,fun c=>absurd hx c,fun c=>by rw[hB]at c;cases c⟩;rw[hB];unfold kK;rw[ah iA,ai,kM iA iA,jT,aa,ah (by simp only[bh,au];omega),ah iA,ai,ah (by simpa using hx)]
 ·by_cases hne:ov=un/\p.length=0
  ·have ho:jR sys ov (p.length:Int) un=some (.inr ()):=by
    unfold jR;rw[ah (by simp only[bC];omega),ah (by simp only[bC];omega)]
   have hB:HO sys ov p.length un=false:=by unfold HO;rw[aj hx,ho]
   refine⟨?_,fun _=>⟨_,ho,(fun c=>absurd (hB.symm.trans c) (by decide)),fun _=>rfl⟩,fun c=>by rw[hB]at c;cases c⟩;rw[hB];unfold kK;rw[ah iA,ai,kM iA iA,jT,aa,ah (by simp only[bh,au];omega),ah iA,ai,aj (by simpa using hx),ah (by simp only[bC];omega),ah (by simp only[bC];omega)]
  ·rcases Qr h yD hun rfl rfl hx hne with⟨y,z,e1,e2,e3,e4⟩|⟨e1,e2⟩
   ·have hB:HO sys ov p.length un=true:=by unfold HO;rw[aj hx,e1]
    exact⟨by rw[hB];exact e2,fun _=>⟨_,e1,fun _=>⟨_,rfl⟩,fun c=>absurd (hB.symm.trans c) (by decide)⟩,fun _=>⟨z,e3,e4⟩⟩
   ·have hB:HO sys ov p.length un=false:=by unfold HO;rw[aj hx,e1]
    exact⟨by rw[hB];exact e2,fun _=>⟨_,e1,(fun c=>absurd (hB.symm.trans c) (by decide)),fun _=>rfl⟩,fun c=>by rw[hB]at c;cases c⟩
def Wk(sys:Sys)(ov i:Nat):Nat->List h_
 |0=>[]
 |k+1=>(if HO sys ov i (sys.2.length-(k+1))=true then [((ov:Int),(i:Int),((sys.2.length-(k+1):Nat):Int))]else [])++Wk sys ov i k
def Vo(sys:Sys)(ov:Nat):Nat->List h_
 |0=>[]
 |k+1=>Wk sys ov ((sys.2.getD ov default).1.length-(k+1)) sys.2.length++Vo sys ov k
def Vf(sys:Sys):Nat->List h_
 |0=>[]
 |k+1=>Vo sys (sys.2.length-(k+1)) (sys.2.getD (sys.2.length-(k+1)) default).1.length++Vf sys k
section
variable{sys:Sys}(hs:kC sys=true)
include hs
theorem Ip{ov i:Nat}(yD:ov<sys.2.length)(hi:i<(sys.2.getD ov default).1.length):∀k,k<=sys.2.length->zS sys ov i k=some (Wk sys ov i k)
 |0,_=>rfl
 |k+1,hk=>by
  have hf:=GR hs yD hi (un:=sys.2.length-(k+1)) iA;rw[zS,Wk,Ip yD hi k iA];by_cases hx:(sys.2.getD ov default).1.getD i default<0
  ·have hB:HO sys ov i (sys.2.length-(k+1))=false:=by unfold HO;rw[ah hx]
   rw[ah (by simpa using hx),hB];rfl
  ·rw[aj (by simpa using hx)];obtain⟨z,e,q1,q2⟩:=hf.lap hx;rw[e,aa];cases hB:HO sys ov i (sys.2.length-(k+1))with
   |true=>obtain⟨y,rfl⟩:=q1 hB;rfl
   |false=>rw[q2 hB];rfl
theorem Io{ov:Nat}(yD:ov<sys.2.length):∀k,k<=(sys.2.getD ov default).1.length->EG sys ov k=some (Vo sys ov k)
 |0,_=>rfl
 |k+1,hk=>by rw[EG,Vo,Ip hs yD iA _ (aC _),aa,Io yD k iA];rfl
theorem Iq:∀k,k<=sys.2.length->EH sys k=some (Vf sys k)
 |0,_=>rfl
 |k+1,hk=>by rw[EH,Vf,Io hs iA _ (aC _),aa,Iq k iA];rfl
end
def Rx(sys:Sys)(x:Int×Int×Int):Pk×Bool:=(oD sys x.1 x.2.1 x.2.2).getD pk0
def HP(sys:Sys):List h_->List Pk->Option (List Pk)
 |[],out=>some out
 |x::xs,out=>if(Rx sys x).2=true then if out.length=64 then none else HP sys xs (out++[(Rx sys x).1])else none
theorem Jl(sys:Sys):∀(xs ys:List h_)(out:List Pk),HP sys (xs++ys) out=(HP sys xs out).bind (HP sys ys)
 |[],ys,out=>rfl
 |x::xs,ys,out=>by
  rw[bz,HP,HP];split
  ·split
   ·rfl
   ·exact Jl sys xs ys _
  ·rfl
theorem FR{sys:Sys}:∀{xs:List h_}{out o:List Pk},HP sys xs out=some o->out.length<=64->o.length<=64
 |[],out,o,h,hl=>by cases h;exact hl
 |x::xs,out,o,h,hl=>by
  rw[HP]at h;split at h
  ·split at h
   ·cases h
   ·exact FR h (by rw[ak,aU];omega)
  ·cases h
def MtG(sys:Sys)(x:Int×Int×Int):Prop:=∃ov i un:Nat,x=((ov:Int),(i:Int),(un:Int))/\ov<sys.2.length/\i<(sys.2.getD ov default).1.length/\un<sys.2.length/\HO sys ov i un=true
theorem Yj{sys:Sys}{ov i:Nat}(yD:ov<sys.2.length)(hi:i<(sys.2.getD ov default).1.length):∀k,k<=sys.2.length->∀x∈Wk sys ov i k,MtG sys x
 |0,_,x,h=>by cases h
 |k+1,hk,x,h=>by
  rw[Wk]at h;rcases aG.1 h with h|h
  ·split at h
   ·rename_i hB;exact⟨ov,i,_,aR.1 h,yD,hi,iA,hB⟩
   ·cases h
  ·exact Yj yD hi k iA x h
theorem X0{sys:Sys}{ov:Nat}(yD:ov<sys.2.length):∀k,k<=(sys.2.getD ov default).1.length->∀x∈Vo sys ov k,MtG sys x
 |0,_,x,h=>by cases h
 |k+1,hk,x,h=>by
  rw[Vo]at h;rcases aG.1 h with h|h
  ·exact Yj yD iA _ (aC _) x h
  ·exact X0 yD k iA x h
theorem TG{sys:Sys}:∀k,k<=sys.2.length->∀x∈Vf sys k,MtG sys x
 |0,_,x,h=>by cases h
 |k+1,hk,x,h=>by
  rw[Vf]at h;rcases aG.1 h with h|h
  ·exact X0 iA _ (aC _) x h
  ·exact TG k iA x h
def Rw(sys:Sys):List Pk×Bool:=match HP sys (Vf sys sys.2.length) []with|some o=>(o,true)|none=>([],false)
theorem FA{sys:Sys}(hs:kC sys=true){els:List h_}(hg:∀x∈els,MtG sys x):∀(xs:List h_){j:Nat}{out:List Pk},els.drop j=xs->out.length<=64->
 iL (og sys els) (j,out)=some (match HP sys xs out with|some o=>(o,true)|none=>([],false)):=by
 intro xs;induction xs with
 |nil=>
  intro j out hd ho;have hj:els.length<=j:=by simpa using hd
  refine iK ?_;rw[og,aj iA];rfl
 |cons x xs ih=>
  intro j out hd ho;have hj:j<els.length:=by
   refine dg fun c=>?_
   rw[eH iA]at hd;cases hd
  have hx:els.getD j default=x:=by
   rw[ay hj]at hd;rw[jb hj];exact(cG hd).1
  have hd':els.drop (j+1)=xs:=by
   rw[ay hj]at hd;exact(cG hd).2
  obtain⟨ov,i,un,ex,h1,h2,h3,hB⟩:=hg x (by rw[<-hx];exact jP hj);obtain⟨z,e1,_⟩:=(GR hs h1 h2 h3).W8 hB;have hv:Rx sys x=z:=by unfold Rx;rw[ex];simp only;rw[e1];rfl
  have e0:og sys els (j,out)=if z.2=true then(if out.length=64 then some (.inr ([],false))else some (.inl (j+1,out++[z.1])))else some (.inr ([],false)):=by
   rw[og,ah hj,hx,ex];simp only;rw[e1,aa];by_cases c1:z.2=true
   ·rw[ah c1,ah c1];by_cases c2:out.length=64
    ·rw[ah (by simp only[bC];omega),ah c2];rfl
    ·rw[aj (by simp only[bC];omega),aj c2,ah iA]
   ·rw[aj c1,aj c1];rfl
  rw[HP,hv];by_cases c1:z.2=true
  ·rw[ah c1]at e0⊢;by_cases c2:out.length=64
   ·rw[ah c2]at e0⊢;exact iK e0
   ·rw[aj c2]at e0⊢;exact(iZ e0).trans (ih hd' (by rw[ak,aU];omega))
  ·rw[aj c1]at e0⊢;exact iK e0
theorem Fj{sys:Sys}(hs:kC sys=true):vQ sys=some (Rw sys):=by
 unfold vQ xX Ef;rw[aa,Iq hs _ (aC _),aa];exact FA hs (TG _ (aC _)) _ (by simp) (by simp)
theorem M8{sys:Sys}(hs:kC sys=true){ov i:Nat}(yD:ov<sys.2.length)(hi:i<(sys.2.getD ov default).1.length):∀(k:Nat){out:List Pk},k<=sys.2.length->out.length<=64->
 iL (lE sys ov i) (out,((sys.2.length-k:Nat):Int))=some (match HP sys (Wk sys ov i k) out with|some o=>.inl (o,((i+1:Nat):Int))|none=>.inr (.inr ([],false))):=by
 obtain⟨_,hn,hrs⟩:=mj.1 hs;have hil:i<60:=by
  obtain⟨_,_,a2,_⟩:=ja.1 (lX.1 (hrs _ (jP yD))).1;omega
 intro k;induction k with
 |zero=>
  intro out hk ho;refine iK ?_;rw[lE,aj (by simp only[au];omega),kM iA iA];rfl
 |succ k ih=>
  intro out hk ho;have hun:sys.2.length-(k+1)<sys.2.length:=by omega
  have hf:=GR hs yD hi hun;have hw:IntKind.i64.wrap (((sys.2.length-(k+1):Nat):Int)+1)=((sys.2.length-k:Nat):Int):=by rw[kM iA iA];omega
  rw[Wk];cases hB:HO sys ov i (sys.2.length-(k+1))with
  |false=>
   have e0:lE sys ov i (out,((sys.2.length-(k+1):Nat):Int))=some (.inl (out,((sys.2.length-k:Nat):Int))):=by rw[lE,ah (by simp only[au];omega),hf.meets,aa,hB,aj (by simp),hw]
   refine(iZ e0).trans ?_;rw[ih iA ho];rfl
  |true=>
   obtain⟨z,e1,e2⟩:=hf.W8 hB;have hv:Rx sys ((ov:Int),(i:Int),((sys.2.length-(k+1):Nat):Int))=z:=by unfold Rx;simp only;rw[e1];rfl
   rw[ah rfl,dD,HP,hv];have e0:lE sys ov i (out,((sys.2.length-(k+1):Nat):Int))=if z.2=true then(if out.length=64 then some (.inr (.inr (.inr ([],false))))else some (.inl (out++[z.1],((sys.2.length-k:Nat):Int))))else some (.inr (.inr (.inr ([],false)))):=by
    rw[lE,ah (by simp only[au];omega),hf.meets,aa,hB,ah rfl,e2,aa,hw];by_cases c1:z.2=true
    ·rw[ah c1,ah c1];by_cases c2:out.length=64
     ·rw[ah (by simp only[bC];omega),ah c2];rfl
     ·rw[aj (by simp only[bC];omega),aj c2,ah iA]
    ·rw[aj c1,aj c1];rfl
   by_cases c1:z.2=true
   ·rw[ah c1]at e0⊢;by_cases c2:out.length=64
    ·rw[ah c2]at e0⊢;exact iK e0
    ·rw[aj c2]at e0⊢;exact(iZ e0).trans (ih iA (by rw[ak,aU];omega))
   ·rw[aj c1]at e0⊢;exact iK e0
theorem M7{sys:Sys}(hs:kC sys=true){ov:Nat}(yD:ov<sys.2.length):∀(k:Nat){out:List Pk},k<=(sys.2.getD ov default).1.length->out.length<=64->
 iL (ny sys ov) (out,(((sys.2.getD ov default).1.length-k:Nat):Int))=some (match HP sys (Vo sys ov k) out with|some o=>.inl (o,((ov+1:Nat):Int))|none=>.inr ([],false)):=by
 obtain⟨_,hn,hrs⟩:=mj.1 hs;intro k;induction k with
 |zero=>
  intro out hk ho;refine iK ?_;rw[ny,ah iA,ai,aj (by simp only[au];omega),kM iA iA];rfl
 |succ k ih=>
  intro out hk ho;have hi:(sys.2.getD ov default).1.length-(k+1)<(sys.2.getD ov default).1.length:=by omega
  have e:=M8 hs yD hi sys.2.length (out:=out) (aC _) ho;rw[cN]at e;rw[Vo,Jl];have e0:ny sys ov (out,(((sys.2.getD ov default).1.length-(k+1):Nat):Int))=iL (lE sys ov (((sys.2.getD ov default).1.length-(k+1):Nat):Int)) (out,0):=by rw[ny,ah iA,ai,ah (by simp only[au];omega)]
  rw[show(0:Int)=((0:Nat):Int)from rfl,e]at e0;cases hp:HP sys (Wk sys ov ((sys.2.getD ov default).1.length-(k+1)) sys.2.length) out with
  |none=>rw[hp]at e0;exact iK e0
  |some o=>
   rw[hp]at e0;refine(iZ e0).trans ?_;have:=ih (out:=o) iA (FR hp ho);rw[show(((sys.2.getD ov default).1.length-(k+1)+1:Nat):Int)=(((sys.2.getD ov default).1.length-k:Nat):Int) by omega];exact this
theorem M6{sys:Sys}(hs:kC sys=true):∀(k:Nat){out:List Pk},k<=sys.2.length->out.length<=64->
 iL (oO sys) (out,((sys.2.length-k:Nat):Int))=some (match HP sys (Vf sys k) out with|some o=>(o,true)|none=>([],false)):=by
 intro k;induction k with
 |zero=>
  intro out hk ho;refine iK ?_;rw[oO,aj (by simp only[au];omega)];rfl
 |succ k ih=>
  intro out hk ho;have yD:sys.2.length-(k+1)<sys.2.length:=by omega
  have e:=M7 hs yD (sys.2.getD (sys.2.length-(k+1)) default).1.length (out:=out) (aC _) ho;rw[cN]at e;rw[Vf,Jl];have e0:oO sys (out,((sys.2.length-(k+1):Nat):Int))=iL (ny sys ((sys.2.length-(k+1):Nat):Int)) (out,0):=by rw[oO,ah (by simp only[au];omega)]
  rw[show(0:Int)=((0:Nat):Int)from rfl,e]at e0;cases hp:HP sys (Vo sys (sys.2.length-(k+1)) (sys.2.getD (sys.2.length-(k+1)) default).1.length) out with
  |none=>rw[hp]at e0;exact iK e0
  |some o=>
   rw[hp]at e0;refine(iZ e0).trans ?_;have:=ih (out:=o) iA (FR hp ho);rw[show((sys.2.length-(k+1)+1:Nat):Int)=((sys.2.length-k:Nat):Int) by omega];exact this
theorem Db(sys:Sys):tF sys=some (if kC sys=true then Rw sys else([],false)):=by
 unfold tF;rw[rZ,aa];by_cases hs:kC sys=true
 ·rw[ah hs,ah hs];unfold xD;have:=M6 hs sys.2.length (out:=[]) (aC _) (by simp);rw[cN]at this;rw[show(0:Int)=((0:Nat):Int)from rfl,this];rfl
 ·rw[aj hs,aj hs]
end Go.Proofs.YtjgbnaihpicpgabGreat
