/- A part of the proof about FnOneForm (VF, VG, VH, VI, VJ, VK, VX, VS, OB, OC, OE, OF). -/
import Derived.Test.YtjgbnaihpicpgaaGreatOh
import Derived.Test.YtjgbnaihpicpgaaGreatOj
import Derived.Test.YtjgbnaihpicpgaaGreatOk
import Derived.Test.YtjgbnaihpicpgaaGreatOl
import Derived.Test.YtjgbnaihpicpgaaGreatOn
import Derived.Test.YtjgbnaihpicpgaaGreatOo
import Derived.Test.YtjgbnaihpicpgaaGreatOp
set_option linter.all false
noncomputable section
namespace Go.Proofs.YtjgbnaihpicpgaaGreat
open Go ng Tm
open Un hiding Bd
section
variable{a:gB}{N:Pl}{b:List gB}{σ:Sb}{r:Int->Nat}
def tF(σ:Sb)(t:gB):gB:=if(sub σ t).length<=60 then sub σ t else []
theorem EP{t:gB}{i:Nat}(h:¬i<t.length):t.take i=t:=cg h_
theorem jN.T2{α:Type}{t:Prop}{P:α->Prop}(h:¬t):jN t (none:Option α) P:=⟨fun b hb=>(nomatch hb),fun ht=>absurd ht h⟩
theorem zI(hc:UC a N)(h:Bn a N b σ r):∀(n:Nat){t:gB}{R:Nat},t.length<=200->(∀y∈t, -(N.n:Int)<=y)->(∀y∈t,y<0->bg b y≠[]->r y<R)->jN (R<n) (ny n t b) (·=tF σ t)
 |0,t,R,_,_,_=>jN.T2 h_
 |n+1,t,R,hl,hn,hr=>by
  rw[ny];refine jN.loop (fun s=>∃i:Nat,s=(sub σ (t.take i),(i:Int))/\i<=t.length/\(sub σ (t.take i)).length<=60) (fun s=>t.length-s.2.toNat) ⟨0,by simp[sub],h_,by simp[sub]⟩ ?_;rintro _ ⟨i,rfl,hi,h60⟩;rw[sO];by_cases hlt:i<t.length
  ·have hm:t.getD i default=t[i]:=iI hlt;have hmt:t[i]∈t:=bB hlt;have hst:=DS (σ:=σ) hlt;have hle:(sub σ (t.take (i+1))).length<=(sub σ t).length:=yQ;have hw:IntKind.i64.wrap ((i:Int)+1)=((i+1:Nat):Int):=by rw[lz h_ h_];rfl
   rw[ah (by simp only[av];omega),ah ⟨h_,h_⟩,au,hm,hw];have app:∀{v:gB},sub σ (t.take (i+1))=sub σ (t.take i)++v->jN (R<n+1) (if(decide (60<((sub σ (t.take i)++v).length:Int)))=true then Option.map Sum.inr (some [])else some (.inl (sub σ (t.take i)++v,((i+1:Nat):Int))))
    (yc (fun s=>∃i:Nat,s=(sub σ (t.take i),(i:Int))/\i<=t.length/\(sub σ (t.take i)).length<=60) (fun s=>t.length-s.2.toNat) (·=tF σ t) (t.length-((i:Int)).toNat)):=fun{v} hv=>by
    rw[<-hv];by_cases c:60<(sub σ (t.take (i+1))).length
    ·rw[ah (by simp only[av];omega)];refine .some ?_;show []=tF σ t;unfold tF;rw[aj h_]
    ·rw[aj (by simp only[av];omega)];refine .some ⟨⟨i+1,rfl,h_,h_⟩,?_⟩;show t.length-(((i+1:Nat):Int)).toNat<t.length-((i:Int)).toNat;omega
   by_cases h0:t[i]<0
   ·rw[ah h0]at hst;obtain⟨e1,e2,e3⟩:=Eg hc h0 (hn _ hmt);rw[aj (show ¬decide (0<=t[i])=true by simpa using h0),e1,ah (show 0<= -1-t[i]/\ -1-t[i]<48/\ -1-t[i]<(b.length:Int)from⟨e2,e3,by rw[h.len,hc.GX];exact e3⟩)];by_cases hb:bg b t[i]=[]
    ·have hb':b.getD (-1-t[i]).toNat default=[]:=hb;rw[h.Mz _ h0 hb]at hst;rw[hb',ah (by simp),ah h_];exact app hst
    ·have hb':¬((b.getD (-1-t[i]).toNat default).length:Int)=0:=by
      have:0<(b.getD (-1-t[i]).toNat default).length:=cc.2 hb;omega
     rw[aj (show ¬(((b.getD (-1-t[i]).toNat default).length:Int)==0)=true by simpa using hb')];obtain⟨w1,w2⟩:=h.tm _ h0 hb;have ih:=zI hc h n (t:=bg b t[i]) (R:=r t[i]) (by have:=hc.small w2;omega) w2.le (fun y hy hy0 hby=>h.rk _ h0 hb y hy hy0 hby);refine jN.bind (ih.weak fun hR=>by have:=hr _ hmt h0 hb;omega) ?_;intro z hz;have hv:=h.val _ h0 hb;have hpos:1<=(sub σ (bg b t[i])).length:=(w1.sub fun x _ hx=>h.wv x hx).len;by_cases c:(sub σ (bg b t[i])).length<=60
     ·have hz':z=σ t[i]:=by rw[hz,hv];unfold tF;rw[ah c]
      subst hz';rw[aj (by rw[hv];simp only[bw];omega),ah (by rw[hv];omega)];exact app hst
     ·have hz':z=[]:=by rw[hz];unfold tF;rw[aj c]
      subst hz';rw[ah (by simp)];refine .some ?_;show []=tF σ t;unfold tF;rw[aj];have:(sub σ (t.take (i+1))).length=(sub σ (t.take i)).length+(σ t[i]).length:=by rw[hst,ai]
      rw[hv]at this;omega
   ·rw[aj h0]at hst;rw[ah (show decide (0<=t[i])=true by simp only[av];omega),ah h_];exact app hst
  ·rw[aj (by simp only[av];omega)];refine .some ?_;show sub σ (t.take i)=tF σ t;rw[EP hlt]at h60⊢;unfold tF;rw[ah h60]
theorem xG(hc:UC a N)(h:Bn a N b σ r){t:gB}(hl:t.length<=200)(hn:∀y∈t, -(N.n:Int)<=y):nA t b=some (tF σ t):=by
 obtain⟨M,hM⟩:=yG r t;exact(jN.V2 (t:=True) (M+1) fun n=>(zI hc h n hl hn (R:=M) fun y hy _ _=>hM y hy).weak fun c=>by omega).eq
def Ei(σ:Sb)(out t:gB)(z:gB⊕gD):Prop:=if(out++sub σ t).length<=60 then z=.inl (out++sub σ t)else ∃o,z=.inr ([],o)
theorem wO(hc:UC a N)(h:Bn a N b σ r)(u0:gB):∀(n:Nat){t out:gB}{R:Nat},t.length<=200->out.length<=60->(∀y∈t, -(N.n:Int)<=y)->(∀y∈t,y<0->bg b y≠[]->r y<R)->jN (R<n) (kj n out t u0 b) (Ei σ out t)
 |0,t,out,R,_,_,_,_=>jN.T2 h_
 |n+1,t,out,R,hl,ho,hn,hr=>by
  rw[kj];refine jN.loop (fun s=>∃i:Nat,s=(out++sub σ (t.take i),(i:Int))/\i<=t.length/\(out++sub σ (t.take i)).length<=60) (fun s=>t.length-s.2.toNat) ⟨0,by simp[sub],h_,by simpa[sub]using ho⟩ ?_;rintro _ ⟨i,rfl,hi,h60⟩;rw[nN];by_cases hlt:i<t.length
  ·have hm:t.getD i default=t[i]:=iI hlt;have hmt:t[i]∈t:=bB hlt;have hst:=DS (σ:=σ) hlt;have hle:(sub σ (t.take (i+1))).length<=(sub σ t).length:=yQ;have hw:IntKind.i64.wrap ((i:Int)+1)=((i+1:Nat):Int):=by rw[lz h_ h_];rfl
   rw[ah (by simp only[av];omega),ah ⟨h_,h_⟩,au,hm,hw];have app:sub σ (t.take (i+1))=sub σ (t.take i)++[t[i]]->jN (R<n+1) (if(((out++sub σ (t.take i)).length:Int)==60)=true then Option.map Sum.inr (some (.inr ([],out++sub σ (t.take i))))else
    if((out++sub σ (t.take i)).length+1)*8<=140737488355328 then some (.inl ((out++sub σ (t.take i))++[t[i]],((i+1:Nat):Int)))else none)
    (yc (fun s=>∃i:Nat,s=(out++sub σ (t.take i),(i:Int))/\i<=t.length/\(out++sub σ (t.take i)).length<=60) (fun s=>t.length-s.2.toNat) (Ei σ out t) (t.length-((i:Int)).toNat)):=fun hv=>by
    have hln:(sub σ (t.take (i+1))).length=(sub σ (t.take i)).length+1:=by rw[hv,ai,aX]
    rw[ai]at h60;by_cases c:(out++sub σ (t.take i)).length=60
    ·rw[ah (by simp only[bw];omega)];refine .some ?_;show Ei σ out t _;rw[ai]at c;unfold Ei;rw[ai,aj h_];exact⟨_,rfl⟩
    ·rw[aj (by simp only[bw];omega),ah (by rw[ai];omega),aH,<-hv];rw[ai]at c;refine .some ⟨⟨i+1,rfl,h_,by rw[ai];omega⟩,?_⟩;show t.length-(((i+1:Nat):Int)).toNat<t.length-((i:Int)).toNat;omega
   by_cases h0:t[i]<0
   ·rw[ah h0]at hst;obtain⟨e1,e2,e3⟩:=Eg hc h0 (hn _ hmt);rw[ah (show decide (t[i]<0)=true by simpa using h0),e1,ah (show 0<= -1-t[i]/\ -1-t[i]<48/\ -1-t[i]<(b.length:Int)from⟨e2,e3,by rw[h.len,hc.GX];exact e3⟩)];by_cases hb:bg b t[i]=[]
    ·have hb':b.getD (-1-t[i]).toNat default=[]:=hb;rw[h.Mz _ h0 hb]at hst;rw[hb',ah (show([]:gB).isEmpty=true from rfl)];exact app hst
    ·have hb':¬(b.getD (-1-t[i]).toNat default).isEmpty=true:=by rw[List.isEmpty_iff];exact hb
     rw[aj hb'];obtain⟨w1,w2⟩:=h.tm _ h0 hb;have ih:=wO hc h u0 n (t:=bg b t[i]) (out:=out++sub σ (t.take i)) (R:=r t[i]) (by have:=hc.small w2;omega) h60 w2.le (fun y hy hy0 hby=>h.rk _ h0 hb y hy hy0 hby);refine jN.bind (ih.weak fun hR=>by have:=hr _ hmt h0 hb;omega) ?_;intro z hz;have hv:=h.val _ h0 hb;rw[hv]at hst;have e5:(out++sub σ (t.take i))++sub σ (bg b t[i])=out++sub σ (t.take (i+1)):=by rw[aH,<-hst]
     unfold Ei at hz;rw[e5]at hz;by_cases c:(out++sub σ (t.take (i+1))).length<=60
     ·rw[ah c]at hz;subst hz;refine .some ⟨⟨i+1,rfl,h_,c⟩,?_⟩;show t.length-(((i+1:Nat):Int)).toNat<t.length-((i:Int)).toNat;omega
     ·rw[aj c]at hz;obtain⟨o,rfl⟩:=hz;refine .some ?_;show Ei σ out t _;rw[ai]at c;unfold Ei;rw[ai,aj h_];exact⟨_,rfl⟩
   ·rw[aj h0]at hst;rw[aj (show ¬decide (t[i]<0)=true by simpa using h0)];exact app hst
  ·rw[aj (by simp only[av];omega)];refine .some ?_;show Ei σ out t (.inl (out++sub σ (t.take i)));rw[EP hlt]at h60⊢;unfold Ei;rw[ah h60]
theorem rT(hc:UC a N)(h:Bn a N b σ r)(u0:gB){t:gB}(hl:t.length<=200)(hn:∀y∈t, -(N.n:Int)<=y):
 ∃z,jb t u0 b=some z/\if(sub σ t).length<=60 then z=.inl (sub σ t)else ∃o,z=.inr ([],o):=by
 obtain⟨M,hM⟩:=yG r t;obtain⟨z,h1,h2⟩:=(jN.V2 (t:=True) (M+1) fun n=>(wO hc h u0 n hl (out:=[]) (by simp) hn (R:=M) fun y hy _ _=>hM y hy).weak fun c=>by omega).get;refine⟨z,h1,?_⟩;unfold Ei at h2;rw[bA]at h2;exact h2
end
def yW(x:Int):Int:=if x<0 then x-24 else x
def Bc(t:gB):gB:=t.map yW
theorem Az(t:gB):(Bc t).length=t.length:=by simp[Bc]
theorem EW{x:Int}:yW x<0<->x<0:=by unfold yW;split<;>omega
theorem Qd(a:gB)(x:Int):lA a (yW x)=lA a x:=by
 unfold yW;split
 ·rename_i h;rw[uO h,uO h_]
 ·rfl
theorem EV{a:gB}:∀{t:gB}{k:Nat},Wv a k t->Wv a k (Bc t)
 |[],k,h=>by
  have:=h.len;have hk:k=0:=by simpa using this
  subst hk;exact Wv.nil
 |x::t,0,h=>by have:=h.zero;cases this
 |x::t,k+1,h=>by
  obtain⟨h1,h2⟩:=Wv.je.1 h;show Wv a (k+1) (yW x::Bc t);refine Wv.je.2 ⟨?_,by rw[Qd];exact EV h2⟩;unfold yW;split<;>omega
theorem oy{a:gB}:∀{t:gB}{k:Nat},Wf a k t->Wv a k t
 |[],k,h=>by
  have:=h.len;have hk:k=0:=by simpa using this
  subst hk;exact Wv.nil
 |x::t,0,h=>by have:=h.zero;cases this
 |x::t,k+1,h=>by
  obtain⟨h1,h2⟩:=Wf.je.1 h;exact Wv.je.2 ⟨h1.2,oy h2⟩
theorem AI{t:gB}(hl:t.length<=60)(hn:∀y∈t, -24<=y):mj t=some (Bc t):=by
 unfold mj;have e1:ja t=some t:=by
  unfold ja;refine(jN.P8 (t:=True) (P:=(·=t)) ?_ fun h=>?_).eq
  ·rw[ah h_];exact .some rfl
  ·subst h;simp
 rw[e1,aa];have h0:((0:Int),t)=((fun i:Nat=>((i:Int),(t.take i).map yW++t.drop i)) 0):=by simp
 rw[h0];refine tc (n:=t.length) (fun i:Nat=>((i:Int),(t.take i).map yW++t.drop i)) (fun i hi=>?_) ?_
 ·have hg:((t.take i).map yW++t.drop i).length=t.length:=by simp;omega
  have hti:((t.take i).map yW).length=i:=by simp;omega
  have hd:=aE hi;have ht:t.take (i+1)=t.take i++[t[i]]:=by rw[bZ hi]
  have hge:((t.take i).map yW++t.drop i).getD i default=t[i]:=by rw[List.getD_eq_getElem?_getD,bK h_,hti,cQ,hd];rfl
  have hw:IntKind.i64.wrap ((i:Int)+1)=((i+1:Nat):Int):=by rw[lz h_ h_];rfl
  have hmt:=hn _ (bB hi);rw[sK,ah (by simp only[av];omega),ah ⟨h_,by rw[hg];omega⟩,au,hge,hw];have e3:(t.take (i+1)).map yW++t.drop (i+1)=(t.take i).map yW++(yW t[i]::t.drop (i+1)):=by rw[ht,aR,aH];rfl
  by_cases h0:t[i]<0
  ·rw[ah (by simpa using h0),lz h_ h_,e3,hd,List.set_append_right _ _ h_,hti,cQ,fP];unfold yW;rw[ah h0]
  ·have haw:yW t[i]=t[i]:=by unfold yW;rw[aj h0]
   rw[haw,<-hd]at e3;rw[aj (by simpa using h0),e3]
 ·rw[sK,aj (by simp),cn,gj,bh];rfl
theorem A5{t:gB}(hl:t.length<=60)(hn:∀y∈t, -24<=y):oH t 24=some (Bc t):=by
 unfold oH;have h0:(([]:gB),(0:Int))=((fun i:Nat=>((t.take i).map yW,(i:Int))) 0):=by simp
 rw[h0];refine tc (n:=t.length) (fun i:Nat=>((t.take i).map yW,(i:Int))) (fun i hi=>?_) ?_
 ·have hti:((t.take i).map yW).length=i:=by simp;omega
  have ht:t.take (i+1)=t.take i++[t[i]]:=by rw[bZ hi]
  have hw:IntKind.i64.wrap ((i:Int)+1)=((i+1:Nat):Int):=by rw[lz h_ h_];rfl
  have hmt:=hn _ (bB hi);rw[qf,ah (by simp only[av];omega),ah h_,au,iI hi,hw,ht,aR];by_cases h0:t[i]<0
  ·rw[ah (by simpa using h0),ah h_,lz h_ h_];have:yW t[i]=t[i]-24:=by unfold yW;rw[ah h0]
   rw[aO,this];rfl
  ·rw[aj (by simpa using h0),ah h_];have:yW t[i]=t[i]:=by unfold yW;rw[aj h0]
   rw[aO,this];rfl
 ·rw[qf,aj (by simp),cn];rfl
theorem Qc{a t:gB}(hw:Wf a 1 t)(hl:t.length<=60):HE a (Bc t):=⟨EV (oy hw),by rw[Az];exact hl,fun y hy=>by
 obtain⟨x,hx,rfl⟩:=bq.1 hy;have:=(hw.all x hx).1;unfold yW;split<;>omega⟩
theorem VS{a t:gB}(hw:Wf a 1 t)(hl:t.length<=60):HE a t:=⟨oy hw,hl,fun y hy=>by have:=(hw.all y hy).1;omega⟩
theorem GC{a p u s v:gB}(ha:ku a=true)(hu:Wv a 1 u)(hl:(p++(u++s)).length<=60)(hv:v.length<=60):
 qm a (p++(u++s)) (p.length:Int) v=some (if(p++(v++s)).length<=60 then(p++(v++s),true)else([],false)):=by
 have hd:(p++(u++s)).drop p.length=u++s:=bT;have hl':=hl;simp only[ai]at hl';unfold qm;rw[ah (by simp only[ai];omega),v_ ha (by show List.length _<_;omega) hd hu,aa];have e1:((p++(u++s)).length:Int)-s.length=((p.length+u.length:Nat):Int):=by simp;omega
 rw[e1,ah (by simp;omega),au,au,dS,<-List.drop_drop,hd,bT];rw[vf (by simp) (by intro w hw;simp at hw;rcases hw with rfl|rfl|rfl<;>omega),aa];have e2:[p,v,s].flatten=p++(v++s):=by simp
 rw[e2];by_cases h:(p++(v++s)).length<=60
 ·rw[aj (by simp only[av];omega),ah h]
 ·rw[ah (by simp only[av];omega),aj h]
theorem RC(s:gB)(x:Int):∃m,B2 s x=s++m:=by
 unfold B2;split
 ·exact⟨[x],rfl⟩
 ·exact⟨[],(bh _).symm⟩
theorem wV(s:gB)(x:Int)(t:gB):mh s (x::t)=mh (B2 s x) t:=rfl
theorem Kb(s t u:gB):mh s (t++u)=mh (mh s t) u:=List.foldl_append
theorem Fi:∀(t s:gB),∃m,mh s t=s++m
 |[],s=>⟨[],(bh _).symm⟩
 |x::t,s=>by
  obtain⟨m,h⟩:=RC s x;obtain⟨m',h'⟩:=Fi t (B2 s x);exact⟨m++m',by rw[wV,h',h,aH]⟩
theorem RB{t s:gB}{y:Int}(h:y∈s):y∈mh s t:=by
 obtain⟨m,e⟩:=Fi t s;rw[e];exact aZ _ h
theorem yB:∀{t s:gB}{y:Int},y∈t->y<0->y∈mh s t
 |x::t,s,y,h,h0=>by
  rw[wV];rcases bu.1 h with rfl|h
  ·refine RB ?_;unfold B2;by_cases c:y∈s
   ·rw[aj (fun k=>k.2 c)];exact c
   ·rw[ah ⟨h0,c⟩];simp
  ·exact yB h h0
theorem Ke:∀{t s:gB},(∀y∈s,y<0)->∀y∈mh s t,y<0
 |[],s,h=>h
 |x::t,s,h=>by
  rw[wV];refine Ke fun y hy=>?_
  unfold B2 at hy;split at hy
  ·rename_i c;rcases aF.1 hy with hy|hy
   ·exact h y hy
   ·rw[aK.1 hy];exact c.1
  ·exact h y hy
theorem wW:∀{t s:gB},s.Nodup->(mh s t).Nodup
 |[],s,h=>h
 |x::t,s,h=>by
  rw[wV];refine wW ?_;unfold B2;split
  ·rename_i c;exact dA.2 ⟨h,by simp,fun y hy z hz e=>by rw[aK.1 hz]at e;exact c.2 (e▸hy)⟩
  ·exact h
theorem Cv:∀{t s:gB},(mh s t).length<=s.length+t.length
 |[],s=>by simp[mh]
 |x::t,s=>by
  rw[wV];have h:=Cv (t:=t) (s:=B2 s x);have:(B2 s x).length<=s.length+1:=by unfold B2;split<;>simp
  rw[aJ];omega
theorem DA:∀{t s:gB},(∀y∈t,y<0->y∈s)->mh s t=s
 |[],s,_=>rfl
 |x::t,s,h=>by
  have e:B2 s x=s:=by
   unfold B2;rw[aj];exact fun c=>c.2 (h x aS c.1)
  rw[wV,e];exact DA fun y hy=>h y (aP _ hy)
theorem KI{t s:gB}{i:Nat}(hi:i<t.length):mh s (t.take (i+1))=B2 (mh s (t.take i)) t[i]:=by rw[bZ hi,Kb];rfl
theorem JX{o m:gB}{x:Int}(h:x∈o):(o++m).idxOf x=o.idxOf x:=by rw[List.idxOf_append,ah h]
theorem Ef{s:gB}(hs:Small s)(v:Int):jd s v=some (if v∈s then(s.idxOf v:Int)else -1):=by
 have h1:jd s v=some (nP (fun x=>v==x) s):=by
  unfold jd;refine tU (fun i x hi hx hg=>?_) ?_
  ·have hs':s.length<1099511627776:=hs;rw[kf,ah (by simp only[av];omega),ah ⟨h_,h_⟩,au,hg,lz h_ h_];by_cases h:v=x
   ·rw[ah (by simpa using h),ah (by simpa using h)];rfl
   ·rw[aj (by simpa using h),aj (by simpa using h)]
  ·rw[kf,aj (by simp)];rfl
 rw[h1];congr 1;unfold nP;by_cases h:v∈s
 ·rw[ah h];have e:s.findIdx? (fun x=>v==x)=some (s.idxOf v):=by
   refine List.findIdx?_eq_some_iff_findIdx_eq.2 ⟨dY.2 h,?_⟩;unfold List.idxOf;congr 1;funext x;exact fC.2 (by simp only[bw];exact gy)
  rw[e]
 ·rw[aj h];have e:s.findIdx? (fun x=>v==x)=none:=eW.2 fun x hx=>by simp only[bW];rintro rfl;exact h hx
  rw[e]
theorem OP{out:List gB}{v:Nat}{t s:gB}(hl:t.length<=60)(hs:s.length<=200)(ho:out.length<=3)(hv:v<=3):
 iB (nr out v t) (s,0,t)=some (.inl (mh s t,out++[yJ (mh s t) t],((v+1:Nat):Int))):=by
 have h0:(s,(0:Int),t)=((fun i:Nat=>(mh s (t.take i),(i:Int),(t.take i).map (xY (mh s t))++t.drop i)) 0):=by simp[mh]
 rw[h0];refine tc (n:=t.length) (fun i:Nat=>(mh s (t.take i),(i:Int),(t.take i).map (xY (mh s t))++t.drop i)) (fun i hi=>?_) ?_
 ·have hg:((t.take i).map (xY (mh s t))++t.drop i).length=t.length:=by simp;omega
  have hti:((t.take i).map (xY (mh s t))).length=i:=by simp;omega
  have hd:=aE hi;have ht:t.take (i+1)=t.take i++[t[i]]:=by rw[bZ hi]
  have hge:((t.take i).map (xY (mh s t))++t.drop i).getD i default=t[i]:=by rw[List.getD_eq_getElem?_getD,bK h_,hti,cQ,hd];rfl
  have hw:IntKind.i64.wrap ((i:Int)+1)=((i+1:Nat):Int):=by rw[lz h_ h_];rfl
  have e3:(t.take (i+1)).map (xY (mh s t))++t.drop (i+1)=(t.take i).map (xY (mh s t))++(xY (mh s t) t[i]::t.drop (i+1)):=by rw[ht,aR,aH];rfl
  have hset:∀y,((t.take i).map (xY (mh s t))++t.drop i).set i y=(t.take i).map (xY (mh s t))++(y::t.drop (i+1)):=fun y=>by rw[hd,List.set_append_right _ _ h_,hti,cQ,fP]
  have hoi:(mh s (t.take i)).length<=260:=by
   have:=Cv (t:=t.take i) (s:=s);simp at this;omega
  obtain⟨m,hm⟩:=Fi (t.drop (i+1)) (mh s (t.take (i+1)));have hfin:mh s t=mh s (t.take (i+1))++m:=by rw[<-hm,<-Kb,cJ]
  rw[nr,ah (by simp only[av];omega),ah ⟨h_,by rw[hg];omega⟩,au,hge,hw,e3];have hod:=KI (s:=s) hi;by_cases h1:0<=t[i]
  ·have e:xY (mh s t) t[i]=t[i]:=by unfold xY;rw[aj h_]
   have e4:mh s (t.take (i+1))=mh s (t.take i):=by rw[hod];unfold B2;rw[aj (fun c=>by omega)]
   rw[ah (by simpa using h1),e,<-hd,e4]
  ·rw[aj (by simpa using h1),Ef (by show List.length _<_;omega),aa];by_cases h2:t[i]∈mh s (t.take i)
   ·have e4:mh s (t.take (i+1))=mh s (t.take i):=by rw[hod];unfold B2;rw[aj (fun c=>c.2 h2)]
    have hidx:=dY.2 h2;have e5:xY (mh s t) t[i]= -1-((mh s (t.take i)).idxOf t[i]:Int):=by unfold xY;rw[ah h_,hfin,e4,JX h2]
    rw[ah h2,aj (by simp only[av];omega),lz h_ h_,hset,e5,e4]
   ·have e4:mh s (t.take (i+1))=mh s (t.take i)++[t[i]]:=by rw[hod];unfold B2;rw[ah ⟨h_,h2⟩]
    have e5:xY (mh s t) t[i]= -1-((mh s (t.take i)).length:Int):=by unfold xY;rw[ah h_,hfin,e4,JX (by simp),List.idxOf_append,aj h2];simp
    rw[aj h2,ah (by simp),ah h_,lz h_ h_,hset,e5,e4]
 ·rw[nr,aj (by simp),ah h_,cn,gj,bh,lz h_ h_];rfl
theorem Ge{t:gB}(hl:t.length<=60):ja t=some t:=by
 unfold ja;refine(jN.P8 (t:=True) (P:=(·=t)) ?_ fun h=>?_).eq
 ·rw[ah h_];exact .some rfl
 ·subst h;simp
theorem BF{p q w:gB}(hp:p.length<=60)(hq:q.length<=60)(hw:w.length<=60)(vq:∀y∈q,y<0->y∈p)(vw:∀y∈w,y<0->y∈p):
 pP [p,q,w]=some [yJ (mh [] p) p,yJ (mh [] p) q,yJ (mh [] p) w]:=by
 unfold pP;have hol:(mh [] p).length<=60:=by have:=Cv (t:=p) (s:=[]);simp at this;omega
 have one:∀(s:gB)(out:List gB)(v:Nat)(t:gB),[p,q,w].getD v default=t->v<3->t.length<=60->s.length<=200->out.length<=3->nk [p,q,w] (s,out,(v:Int))=some (.inl (mh s t,out++[yJ (mh s t) t],((v+1:Nat):Int))):=fun s out v t ht hv hl hs ho=>by
  rw[nk,ah (by simp only[av,aJ,bL];omega),ah ⟨h_,by simp only[aJ,bL];omega⟩,au,ht,Ge hl,aa];exact OP hl hs ho h_
 have o2:mh (mh [] p) q=mh [] p:=DA fun y hy h0=>yB (vq y hy h0) h0
 have o3:mh (mh [] p) w=mh [] p:=DA fun y hy h0=>yB (vw y hy h0) h0
 have s1:=one [] [] 0 p rfl h_ hp (by simp) (by simp);have s2:=one (mh [] p) [yJ (mh [] p) p] 1 q rfl h_ hq h_ (by simp);have s3:=one (mh [] p) [yJ (mh [] p) p,yJ (mh [] p) q] 2 w rfl h_ hw h_ (by simp);rw[o2]at s2;rw[o3]at s3;refine(iW s1).trans ((iW s2).trans ((iW s3).trans (iL ?_)));rw[nk,aj (by simp)];rfl
theorem Ek{t:gB}(hl:t.length<=60):qu t=some (mh [] t):=by
 unfold qu;have h0:(([]:gB),(0:Int))=((fun i:Nat=>(mh [] (t.take i),(i:Int))) 0):=by simp[mh]
 rw[h0];refine tc (n:=t.length) (fun i:Nat=>(mh [] (t.take i),(i:Int))) (fun i hi=>?_) ?_
 ·have hw:IntKind.i64.wrap ((i:Int)+1)=((i+1:Nat):Int):=by rw[lz h_ h_];rfl
  have hoi:(mh [] (t.take i)).length<=60:=by
   have:=Cv (t:=t.take i) (s:=[]);simp at this;omega
  have hod:=KI (s:=[]) hi;rw[qh,ah (by simp only[av];omega),ah h_,au,iI hi,hw,hod];unfold B2;by_cases h0:t[i]<0
  ·rw[ah (by simpa using h0),xM (by show List.length _<_;omega),aa];by_cases h1:t[i]∈mh [] (t.take i)
   ·rw[ah (by simpa using h1),aj (fun c=>c.2 h1)]
   ·rw[aj (by simpa using h1),ah h_,ah ⟨h0,h1⟩]
  ·rw[aj (by simpa using h0),aj (fun c=>h0 c.1)]
 ·rw[qh,aj (by simp),cn];rfl
theorem I8{o t out:gB}{i:Nat}(ho:o.length<=60)(hn:o.Nodup)(hi:i<t.length)(hl:t.length<=60)(hout:out.length<=60)(hin:t[i]<0->t[i]∈o):
 iB (oK o t out i) (t[i],0)=some (.inl (out++[xY o t[i]],((i+1:Nat):Int))):=by
 have hw:IntKind.i64.wrap ((i:Int)+1)=((i+1:Nat):Int):=by rw[lz h_ h_];rfl
 by_cases h0:t[i]<0
 ·have hm:=hin h0;have hx:=dY.2 hm;have hst:(t[i],(0:Int))=((fun k:Nat=>((if o.idxOf t[i]<k then -1-(o.idxOf t[i]:Int)else t[i]),(k:Int))) 0):=by simp
  rw[hst];refine tc (n:=o.length) (fun k:Nat=>((if o.idxOf t[i]<k then -1-(o.idxOf t[i]:Int)else t[i]),(k:Int))) (fun k hk=>?_) ?_
  ·have hwk:IntKind.i64.wrap ((k:Int)+1)=((k+1:Nat):Int):=by rw[lz h_ h_];rfl
   rw[oK,ah (by simp only[av];omega),au,iI hi,ah (by simpa using h0),ah h_,au,iI hk,hwk];by_cases h1:o[k]=t[i]
   ·have e:o.idxOf t[i]=k:=by rw[<-h1];exact hn.idxOf_getElem k hk
    rw[ah (by simpa using h1),lz h_ h_,e,ah h_]
   ·have e:o.idxOf t[i]≠k:=fun e=>h1 (by subst e;exact List.getElem_idxOf hx)
    rw[aj (by simpa using h1)];by_cases c:o.idxOf t[i]<k
    ·rw[ah c,ah h_]
    ·rw[aj c,aj h_]
  ·rw[oK,aj (by simp),ah hx,ah h_,hw];unfold xY;rw[ah h0];rfl
 ·have e:xY o t[i]=t[i]:=by unfold xY;rw[aj h0]
  refine iL ?_;rw[oK,au,iI hi,aj (show ¬decide (t[i]<0)=true by simpa using h0),hw,e,ah (show(out.length+1)*8<=140737488355328 by omega)];split<;>rfl
theorem Aj{o t:gB}(ho:o.length<=60)(hn:o.Nodup)(hl:t.length<=60)(hin:∀y∈t,y<0->y∈o):qt o t=some (yJ o t):=by
 unfold qt;have h0:(([]:gB),(0:Int))=((fun i:Nat=>((t.take i).map (xY o),(i:Int))) 0):=by simp
 rw[h0];refine tc (n:=t.length) (fun i:Nat=>((t.take i).map (xY o),(i:Int))) (fun i hi=>?_) ?_
 ·have ht:t.take (i+1)=t.take i++[t[i]]:=by rw[bZ hi]
  rw[sQ,ah (by simp only[av];omega),ah h_,au,iI hi,I8 ho hn hi hl (by simp;omega) (hin _ (bB hi)),ht,aR];rfl
 ·rw[sQ,aj (by simp),cn];rfl
theorem GA{p:gB}(hp:p.length<=60)(h0:0<p.length):∃m,jU (yJ (mh [] p) p)=some m/\decide (m< -24)=decide (24<((mh [] p).length:Int)):=by
 have hl:(yJ (mh [] p) p).length=p.length:=by simp[yJ]
 obtain⟨m,h1,h2⟩:=(xK (x:=yJ (mh [] p) p) h_ (by show List.length _<_;omega)).get;refine⟨m,h1,?_⟩;rw[fh];constructor
 ·intro hm;refine cY fun c=>?_
  have: -24<=m:=(h2 (-24)).2 fun y hy=>by
   obtain⟨x,hx,rfl⟩:=bq.1 hy;unfold xY;by_cases hx0:x<0
   ·rw[ah hx0];have:=dY.2 (yB (s:=[]) hx hx0);omega
   ·rw[aj hx0];omega
  omega
 ·intro hm;refine cY fun c=>?_
  have h3:=(h2 (-24)).1 h_;have hk:24<(mh [] p).length:=by omega
  have hmem:(mh [] p)[24]∈mh [] p:=bB hk;have hin:(mh [] p)[24]∈p:=(Fj hmem).elim (fun c=>by cases c) id;have hneg:=Ke (t:=p) (s:=[]) (by simp) _ hmem;have:=h3 _ (bq.2 ⟨_,hin,rfl⟩);unfold xY at this;rw[ah hneg,(wW (t:=p) eV).idxOf_getElem 24 hk]at this;omega
theorem O9{a:gB}{τ:Sb}:vC a AS τ<->∀x,x<0->Wv a 1 (τ x):=by
 constructor
 ·exact fun h=>h.1
 ·exact fun h=>⟨h,fun x _ hb=>absurd (by
   show AS.getD (-1-x).toNat []=[];rw[List.getD_eq_getElem?_getD,cP];split<;>rfl) hb⟩
structure HN(a s t:gB)(b1 b2:List gB)(σ1 σ2:Sb):Prop where
 YX:∃r,Bn a (N0 a s t) b1 σ1 r
 bn2:∃r,Bn a (N0 a s t) b2 σ2 r
 sol:∀τ,vC a b1 τ<->vC a b2 τ
 Zg:sub σ1 s=sub σ1 t
 eq2:sub σ2 s=sub σ2 t
theorem Jj{a s t:gB}(ha:ku a=true)(hs:HE a s)(ht:HE a t):
 (∃b1 b2 σ1 σ2,ki s t a AS=some (.inl b1)/\mo a s t AS=some (true,b2)/\HN a s t b1 b2 σ1 σ2)\/
 (∃b1 b2,ki s t a AS=some (.inr b1)/\mo a s t AS=some (false,b2)):=by
 obtain⟨z,e1,R1⟩:=Dm ha hs ht;obtain⟨⟨f,b2⟩,e2,R2⟩:=Jb ha hs ht;cases z with
 |inl b1=>
  obtain⟨⟨σ1,r1,h1⟩,S1,_⟩:=R1.yes rfl;have q1:=(S1 σ1).1 h1.self;cases f with
  |false=>exact absurd q1.2 (R2.no rfl σ1 q1.1)
  |true=>
   obtain⟨⟨σ2,r2,h2⟩,S2,_⟩:=R2.yes rfl;have q2:=(S2 σ2).1 h2.self;exact .inl ⟨b1,b2,σ1,σ2,e1,e2,⟨r1,h1⟩,⟨r2,h2⟩,fun τ=>(S1 τ).trans (S2 τ).symm,q1.2,q2.2⟩
 |inr b1=>
  cases f with
  |false=>exact .inr ⟨b1,b2,e1,e2⟩
  |true=>
   obtain⟨⟨σ2,r2,h2⟩,S2,_⟩:=R2.yes rfl;have q2:=(S2 σ2).1 h2.self;exact absurd q2.2 (R1.no rfl σ2 q2.1)
abbrev Pk:=gB×gB×gB×Int×Int×Int
abbrev pk0:Pk×Bool:=(([],[],[],0,0,0),false)
structure Ov(a:gB)(l r l' r' p s q:gB):Prop where
 sg:ku a=true
 split:l=p++(s++q)
 ws:Wf a 1 s
 wl:Wf a 1 l
 wr:Wf a 1 r
 V7:Wf a 1 l'
 wr':Wf a 1 r'
 ll:l.length<=60
 lr:r.length<=60
 Z9:l'.length<=60
 XI:r'.length<=60
 vr:∀x∈r,x<0->x∈l
 vr':∀x∈r',x<0->x∈l'
section
variable{a l r l' r' p s q:gB}{b1 b2:List gB}{σ1 σ2:Sb}
theorem Ov.ls(h:Ov a l r l' r' p s q):s.length<=60:=by have:=h.ll;rw[h.split]at this;simp only[ai]at this;omega
theorem Ov.toks(h:Ov a l r l' r' p s q):HE a s/\HE a (Bc l'):=⟨VS h.ws h.ls,Qc h.V7 h.Z9⟩
def sG(p q r':gB):gB:=p++(Bc r'++q)
def OF(σ:Sb)(l r mid:gB)(i un ov:Int):Pk×Bool:=
 if(sub σ l).length<=60/\(sub σ r).length<=60/\(sub σ mid).length<=60/\(mh [] (sub σ l)).length<=24 then
  ((yJ (mh [] (sub σ l)) (sub σ l),yJ (mh [] (sub σ l)) (sub σ mid),yJ (mh [] (sub σ l)) (sub σ r),i,un,ov),true)
 else pk0
theorem Vl{N:Pl}{ρ1 ρ2:Int->Nat}(h1:Bn a N b1 σ1 ρ1)(h2:Bn a N b2 σ2 ρ2)(h:∀τ,vC a b1 τ<->vC a b2 τ)(l r mid:gB)(i un ov:Int):OF σ1 l r mid i un ov=OF σ2 l r mid i un ov:=by
 obtain⟨k1,k2,k3,k4,k5⟩:=Kk h1 h2 h l mid [];obtain⟨m1,m2,m3,m4,m5⟩:=Kk h1 h2 h l r [];unfold OF;rw[k1,k2,k3,k4,k5,m4,m5]
theorem Ez{t:gB}(h:Wf a 1 t):∀y∈t, -48<=y:=fun y hy=>by have:=(h.all y hy).1;omega
theorem SW{t:gB}(h:Wf a 1 t):∀y∈Bc t, -48<=y:=fun y hy=>by
 obtain⟨x,hx,rfl⟩:=bq.1 hy;have:=(h.all x hx).1;unfold yW;split<;>omega
theorem Ov.U2(h:Ov a l r l' r' p s q):∀y∈sG p q r', -48<=y:=fun y hy=>by
 have hl:=Ez h.wl;rw[h.split]at hl;unfold sG at hy;rcases aF.1 hy with hy|hy
 ·exact hl y (aZ _ hy)
 ·rcases aF.1 hy with hy|hy
  ·exact SW h.wr' y hy
  ·exact hl y (bp _ (bp _ hy))
theorem Ov.Rb(h:Ov a l r l' r' p s q):(sG p q r').length<=200:=by
 have:=h.ll;rw[h.split]at this;have:=h.XI;unfold sG;simp only[ai,Az]at *;omega
theorem Ov.So{σ:Sb}(h:Ov a l r l' r' p s q)(he:sub σ s=sub σ (Bc l')):∀y∈sub σ (sG p q r'),y<0->y∈sub σ l:=fun y hy h0=>by
 rw[h.split,kN,kN];unfold sG at hy;rw[kN,kN]at hy;rcases aF.1 hy with hy|hy
 ·exact aZ _ hy
 ·rcases aF.1 hy with hy|hy
  ·refine bp _ (aZ _ ?_);rw[he];obtain⟨x,hx,⟨hx0,hyx⟩|⟨hx0,rfl⟩⟩:=oo.1 hy
   ·obtain⟨z,hz,rfl⟩:=bq.1 hx;exact oo.2 ⟨yW z,bq.2 ⟨z,h.vr' z hz (EW.1 hx0),rfl⟩,.inl ⟨hx0,hyx⟩⟩
   ·exact absurd h0 hx0
  ·exact bp _ (bp _ hy)
theorem Ov.Y6{σ:Sb}(h:Ov a l r l' r' p s q):∀y∈sub σ r,y<0->y∈sub σ l:=fun y hy h0=>by
 obtain⟨x,hx,⟨hx0,hyx⟩|⟨hx0,rfl⟩⟩:=oo.1 hy
 ·exact oo.2 ⟨x,h.vr x hx hx0,.inl ⟨hx0,hyx⟩⟩
 ·exact absurd h0 hx0
theorem wM{σ:Sb}{t:gB}(h:1<=(sub σ t).length):(((tF σ t).length:Int)==0)=true<->¬(sub σ t).length<=60:=by
 unfold tF;rw[bw];split
 ·rename_i c;constructor
  ·intro e;omega
  ·intro e;exact absurd c e
 ·rename_i c;simp[c]
end
section
variable{sys:Sys}{l r l' r' p s q:gB}{b1 b2:List gB}{σ1 σ2:Sb}{ov un:Nat}
theorem Ov.drop{a:gB}(h:Ov a l r l' r' p s q):l.drop p.length=s++q:=by rw[h.split,bT]
theorem Ov.take{a:gB}(h:Ov a l r l' r' p s q):l.take p.length=p:=by rw[h.split,dS]
theorem Ov.tail{a:gB}(h:Ov a l r l' r' p s q):l.drop (l.length-q.length)=q:=by
 rw[h.split];have:(p++(s++q)).length-q.length=(p++s).length:=by simp only[ai];omega
 rw[this,<-aH,bT]
theorem Ov.lens{a:gB}(h:Ov a l r l' r' p s q):p.length+s.length+q.length=l.length/\1<=s.length:=by
 refine⟨?_,h.ws.len⟩;have:=bS List.length h.split;simp only[ai]at this;omega
theorem Ov.smL{a:gB}(h:Ov a l r l' r' p s q):Small l:=by have:=h.ll;show l.length<_;omega
theorem B6(h:Ov sys.1 l r l' r' p s q)(hov:ov<sys.2.length)(hun:un<sys.2.length)(eo:sys.2.getD ov default=(l,r))(eu:sys.2.getD un default=(l',r')){z:Bool×List gB}(hz:mo sys.1 s (Bc l') AS=some z):
 l_ sys ov (p.length:Int) un=some z:=by
 obtain⟨k1,k2⟩:=h.lens;unfold l_;rw[ah h_,au,eo];simp only;rw[yP h.sg h.ll h.drop (oy h.ws),aa,ah h_,ah h_,au,eu];simp only;rw[A5 h.Z9 (fun y hy=>(h.V7.all y hy).1),aa,show((l.length:Int)-q.length).toNat=l.length-q.length by omega,au,yR h.drop h_,hz];rfl
theorem zJ(h:Ov sys.1 l r l' r' p s q)(hov:ov<sys.2.length)(hun:un<sys.2.length)(eo:sys.2.getD ov default=(l,r))(eu:sys.2.getD un default=(l',r')){z:Bool×List gB}(hz:mo sys.1 s (Bc l') AS=some z)
 (hx:¬l.getD p.length default<0) (hne:¬(ov=un/\p.length=0)):jZ sys ov (p.length:Int) un=some z.1:=by
 obtain⟨k1,k2⟩:=h.lens;have hll:=h.ll;unfold jZ;rw[ah h_,au,eo];simp only;rw[lz h_ h_,lE,aa,ah (by simp;omega),ah h_,au,aj (by simpa using hx),B6 h hov hun eo eu hz];simp only[aa];by_cases c1:((p.length:Int)==0)=true
 ·have c2:¬((ov:Int)==(un:Int))=true:=by simp only[bw]at c1⊢;omega
  rw[ah c1,aj c2]
 ·rw[aj c1]
theorem uA(h:Ov sys.1 l r l' r' p s q)(hov:ov<sys.2.length)(hun:un<sys.2.length)(eo:sys.2.getD ov default=(l,r))(eu:sys.2.getD un default=(l',r')){z:List gB⊕List gB}(hz:ki s (Bc l') sys.1 AS=some z)
 (hne:¬(ov=un/\p.length=0)):jq sys ov (p.length:Int) un=some (Sum.elim (fun b=>.inl (sys.1,b)) (fun _=>.inr ()) z):=by
 have body:(if 0<=(ov:Int)/\(ov:Int)<(sys.2.length:Int)then
  (jX sys.1 ((sys.2.getD (ov:Int).toNat default).1) (p.length:Int)).bind fun r_3=>
  if 0<=(un:Int)/\(un:Int)<(sys.2.length:Int)then
   (mj ((sys.2.getD (un:Int).toNat default).1)).bind fun r_4=>
   (mm r_3 r_4 sys.1 (List.replicate 48 [])).bind fun r_5=>
   if r_5.1=true then
    some (.inl (sys.1,r_5.2))
   else
    some (.inr ())
  else none
  else none)=some (Sum.elim (fun b=>Sum.inl (sys.1,b)) (fun _=>Sum.inr ()) z):=by
  rw[ah h_,au,eo];simp only;rw[we h.sg h.smL h.drop (oy h.ws),aa,ah h_,au,eu];simp only;rw[AI h.Z9 (fun y hy=>(h.V7.all y hy).1),aa];unfold mm;rw[hz];cases z<;>rfl
 unfold jq;by_cases c1:((ov:Int)==(un:Int))=true
 ·have c2:¬((p.length:Int)==0)=true:=by simp only[bw]at c1⊢;omega
  rw[ah c1,aj c2];exact body
 ·rw[aj c1];exact body
theorem BK(h:Ov sys.1 l r l' r' p s q)(hov:ov<sys.2.length)(hun:un<sys.2.length)(eo:sys.2.getD ov default=(l,r))(eu:sys.2.getD un default=(l',r'))(hx:¬l.getD p.length default<0)(hne:¬(ov=un/\p.length=0)):
 (∃b1 b2 σ1 σ2,jq sys ov (p.length:Int) un=some (.inl (sys.1,b1))/\jZ sys ov (p.length:Int) un=some true/\l_ sys ov (p.length:Int) un=some (true,b2)/\HN sys.1 s (Bc l') b1 b2 σ1 σ2)\/
 (jq sys ov (p.length:Int) un=some (.inr ())/\jZ sys ov (p.length:Int) un=some false):=by
 rcases Jj h.sg h.toks.1 h.toks.2 with⟨b1,b2,σ1,σ2,e1,e2,hb⟩|⟨b1,b2,e1,e2⟩
 ·exact .inl ⟨b1,b2,σ1,σ2,uA h hov hun eo eu e1 hne,zJ h hov hun eo eu e2 hx hne,B6 h hov hun eo eu e2,hb⟩
 ·exact .inr ⟨uA h hov hun eo eu e1 hne,zJ h hov hun eo eu e2 hx hne⟩
theorem FA(h:Ov sys.1 l r l' r' p s q)(hov:ov<sys.2.length)(hun:un<sys.2.length)(eo:sys.2.getD ov default=(l,r))(eu:sys.2.getD un default=(l',r'))(hb:HN sys.1 s (Bc l') b1 b2 σ1 σ2)(ht:l_ sys ov (p.length:Int) un=some (true,b2)):
 nB sys ov (p.length:Int) un=some (OF σ2 l r (sG p q r') (p.length:Int) un ov):=by
 obtain⟨k1,k2⟩:=h.lens;have hll:=h.ll;have hlr':=h.XI;have hlr:=h.lr;obtain⟨ρ,hn⟩:=hb.bn2;have hc:=Ka h.sg h.toks.1 h.toks.2;have hlo:∀{t:gB},(∀y∈t, -48<=y)->∀y∈t, -((N0 sys.1 s (Bc l')).n:Int)<=y:=fun h y hy=>h y hy
 have hsl:1<=(sub σ2 l).length:=((oy h.wl).sub fun x _ hx=>hn.wv x hx).len;have hsr:1<=(sub σ2 r).length:=((oy h.wr).sub fun x _ hx=>hn.wv x hx).len;have hmw:1<=(sub σ2 (Bc r')).length:=((EV (oy h.wr')).sub fun x _ hx=>hn.wv x hx).len;have FO:1<=(sub σ2 (sG p q r')).length:=by unfold sG;rw[kN,kN];simp only[ai];omega
 have hfl:(tF σ2 l).length<=60:=by
  unfold tF;split
  ·rename_i c;exact c
  ·simp
 unfold nB;rw[ht,aa,ah h_,au,eo];simp only;rw[yP h.sg h.ll h.drop (oy h.ws),aa,ah h_,au,h.take,ah h_,ah h_,au,eu];simp only;rw[A5 h.XI (fun y hy=>(h.wr'.all y hy).1),aa,ah (by rw[Az];omega),xG hc hn h_ (hlo (Ez h.wl)),aa,ah h_,
  show((l.length:Int)-q.length).toNat=l.length-q.length by omega,h.tail,ah (by rw[ai,Az];omega),aH,show p++(Bc r'++q)=sG p q r' from rfl,
  xG hc hn h.Rb (hlo h.U2),aa,xG hc hn h_ (hlo (Ez h.wr)),aa,Ek hfl,aa]
 unfold OF;by_cases c1:(sub σ2 l).length<=60
 ·rw[aj (fun c=>(wM hsl).1 c c1)];by_cases c2:(sub σ2 (sG p q r')).length<=60
  ·rw[aj (fun c=>(wM FO).1 c c2)];by_cases c3:(sub σ2 r).length<=60
   ·rw[aj (fun c=>(wM hsr).1 c c3)];have f1:tF σ2 l=sub σ2 l:=ah c1;have f2:tF σ2 (sG p q r')=sub σ2 (sG p q r'):=ah c2;have f3:tF σ2 r=sub σ2 r:=ah c3;rw[f1,f2,f3];by_cases c4:(mh [] (sub σ2 l)).length<=24
    ·have hin:∀{t:gB},(∀y∈t,y<0->y∈sub σ2 l)->∀y∈t,y<0->y∈mh [] (sub σ2 l):=fun h y hy h0=>yB (h y hy h0) h0
     rw[aj (by simp only[av];omega),Aj h_ (wW eV) c1 (hin fun y hy _=>hy),aa,Aj h_ (wW eV) c2 (hin (h.So hb.eq2)),aa,
      Aj h_ (wW eV) c3 (hin h.Y6),aa,ah ⟨c1,c3,c2,c4⟩]
    ·rw[ah (by simp only[av];omega),aj (fun c=>c4 c.2.2.2)]
   ·rw[ah ((wM hsr).2 c3),aj (fun c=>c3 c.2.1)]
  ·rw[ah ((wM FO).2 c2),aj (fun c=>c2 c.2.2.1)]
 ·rw[ah ((wM hsl).2 c1),aj (fun c=>c1 c.1)]
theorem xq(h:Ov sys.1 l r l' r' p s q)(hov:ov<sys.2.length)(hun:un<sys.2.length)(eo:sys.2.getD ov default=(l,r))(eu:sys.2.getD un default=(l',r'))(hb:HN sys.1 s (Bc l') b1 b2 σ1 σ2)(ho:jq sys ov (p.length:Int) un=some (.inl (sys.1,b1))):
 mV sys ov (p.length:Int) un=some (OF σ1 l r (sG p q r') (p.length:Int) un ov):=by
 obtain⟨k1,k2⟩:=h.lens;have hll:=h.ll;have hlr':=h.XI;have hlr:=h.lr;obtain⟨ρ,hn⟩:=hb.YX;have hc:=Ka h.sg h.toks.1 h.toks.2;have hlo:∀{t:gB},(∀y∈t, -48<=y)->∀y∈t, -((N0 sys.1 s (Bc l')).n:Int)<=y:=fun h y hy=>h y hy
 have hsl:1<=(sub σ1 l).length:=((oy h.wl).sub fun x _ hx=>hn.wv x hx).len;have hws:Wv sys.1 1 (sub σ1 s):=(oy h.ws).sub fun x _ hx=>hn.wv x hx
 have hlop:∀y∈p, -48<=y:=fun y hy=>Ez h.wl y (by rw[h.split];exact aZ _ hy)
 have esl:sub σ1 l=sub σ1 p++(sub σ1 s++sub σ1 q):=by rw[h.split,kN,kN]
 have esm:sub σ1 (sG p q r')=sub σ1 p++(sub σ1 (Bc r')++sub σ1 q):=by unfold sG;rw[kN,kN]
 obtain⟨z1,e1,q1⟩:=rT hc hn sys.1 (t:=l) h_ (hlo (Ez h.wl));obtain⟨z2,e2,q2⟩:=rT hc hn sys.1 (t:=r) h_ (hlo (Ez h.wr));obtain⟨z3,e3,q3⟩:=rT hc hn sys.1 (t:=Bc r') (by rw[Az];omega) (hlo (SW h.wr'));obtain⟨z4,e4,q4⟩:=rT hc hn sys.1 (t:=p) h_ (hlo hlop);have aw:=AI h.XI (fun y hy=>(h.wr'.all y hy).1);unfold mV;rw[ho,aa];simp only[ei];rw[ah h_,au,eo];simp only;rw[e1,aa];have hfail:∀{g:gB->Option (Pk×Bool)},True:=fun{g}=>trivial
 unfold OF;by_cases c1:(sub σ1 l).length<=60
 ·rw[ah c1]at q1;subst q1;simp only[ei];rw[e2,aa];by_cases c2:(sub σ1 r).length<=60
  ·rw[ah c2]at q2;subst q2;simp only[ei];rw[ah h_,au,eu];simp only;rw[aw,aa,e3,aa];by_cases c3:(sub σ1 (Bc r')).length<=60
   ·rw[ah c3]at q3;subst q3;simp only[ei];have hpl:(sub σ1 p).length<=60:=by rw[esl]at c1;simp only[ai]at c1;omega
    rw[ah hpl]at q4;subst q4;have e5:lC l (p.length:Int) sys.1 b1=some ((sub σ1 p).length:Int):=by
     unfold lC;rw[ah h_,au,h.take,e4,aa];rfl
    rw[e5,aa,esl,GC h.sg hws (by rw[<-esl];exact c1) c3,aa,<-esl,<-esm];by_cases c4:(sub σ1 (sG p q r')).length<=60
    ·rw[ah c4];simp only[aC];rw[BF c1 c4 c2 (h.So hb.Zg) h.Y6,aa];obtain⟨m,m1,m2⟩:=GA c1 h_;rw[ah ⟨h_,by simp⟩,show [yJ (mh [] (sub σ1 l)) (sub σ1 l),yJ (mh [] (sub σ1 l)) (sub σ1 (sG p q r')),yJ (mh [] (sub σ1 l)) (sub σ1 r)].getD 0 default=yJ (mh [] (sub σ1 l)) (sub σ1 l)from rfl,m1,aa,m2];by_cases c5:(mh [] (sub σ1 l)).length<=24
     ·rw[aj (by simp only[av];omega),ah ⟨h_,by simp⟩,ah ⟨h_,by simp⟩,ah ⟨c1,c2,c4,c5⟩];rfl
     ·rw[ah (by simp only[av];omega),aj (fun c=>c5 c.2.2.2)]
    ·rw[aj c4,aj (show ¬((sub σ1 l).length<=60/\(sub σ1 r).length<=60/\(sub σ1 (sG p q r')).length<=60/\(mh [] (sub σ1 l)).length<=24)from fun c=>c4 c.2.2.1)];rfl
   ·rw[aj c3]at q3;obtain⟨o,rfl⟩:=q3;simp only[eO];rw[aj];intro c;have:=c.2.2.1;rw[esm]at this;simp only[ai]at this;omega
  ·rw[aj c2]at q2;obtain⟨o,rfl⟩:=q2;simp only[eO];rw[ah h_,au,eu];simp only;rw[aw,aa,e3,aa,aj (show ¬((sub σ1 l).length<=60/\(sub σ1 r).length<=60/\(sub σ1 (sG p q r')).length<=60/\(mh [] (sub σ1 l)).length<=24)from fun c=>c2 c.2.1)];cases z3<;>rfl
 ·rw[aj c1]at q1;obtain⟨o,rfl⟩:=q1;simp only[eO];rw[e2,aa,aj (show ¬((sub σ1 l).length<=60/\(sub σ1 r).length<=60/\(sub σ1 (sG p q r')).length<=60/\(mh [] (sub σ1 l)).length<=24)from fun c=>c1 c.1)];have e6:∀(f:gB×gB×gB×Int×Int×Int->Pk×Bool),True:=fun _=>trivial
  cases z2 with
  |inl x=>
   simp only[ei];rw[ah h_,au,eu];simp only;rw[aw,aa,e3,aa];cases z3<;>rfl
  |inr x=>
   simp only[eO];rw[ah h_,au,eu];simp only;rw[aw,aa,e3,aa];cases z3<;>rfl
theorem LR(h:Ov sys.1 l r l' r' p s q)(hov:ov<sys.2.length)(hun:un<sys.2.length)(eo:sys.2.getD ov default=(l,r))(eu:sys.2.getD un default=(l',r'))(hx:¬l.getD p.length default<0)(hne:¬(ov=un/\p.length=0)):
 (∃b1 z,jq sys ov (p.length:Int) un=some (.inl (sys.1,b1))/\jZ sys ov (p.length:Int) un=some true/\mV sys ov (p.length:Int) un=some z/\nB sys ov (p.length:Int) un=some z)\/
 (jq sys ov (p.length:Int) un=some (.inr ())/\jZ sys ov (p.length:Int) un=some false):=by
 rcases BK h hov hun eo eu hx hne with⟨b1,b2,σ1,σ2,e1,e2,e3,hb⟩|e
 ·refine .inl ⟨b1,_,e1,e2,xq h hov hun eo eu hb e1,?_⟩;rw[FA h hov hun eo eu hb e3];obtain⟨r1,n1⟩:=hb.YX;obtain⟨r2,n2⟩:=hb.bn2;rw[Vl n1 n2 hb.sol]
 ·exact .inr e
end
def BH(sys:Sys)(ov i un:Nat):Bool:=
 if(sys.2.getD ov default).1.getD i default<0 then false else match jq sys ov i un with|some (.inl _)=>true|_=>false
structure MtF(sys:Sys)(ov i un:Nat):Prop where
 meets:jZ sys ov i un=some (BH sys ov i un)
 lap:¬(sys.2.getD ov default).1.getD i default<0->∃z,jq sys ov i un=some z/\(BH sys ov i un=true->∃y,z=.inl y)/\(BH sys ov i un=false->z=.inr ())
 RH:BH sys ov i un=true->∃z,mV sys ov i un=some z/\nB sys ov i un=some z
theorem Dy{sys:Sys}(hs:jR sys=true){ov i un:Nat}(hov:ov<sys.2.length)(hi:i<(sys.2.getD ov default).1.length)(hun:un<sys.2.length):MtF sys ov i un:=by
 obtain⟨ha,hn,hrs⟩:=jO.1 hs;obtain⟨k1,k2,k3,k4⟩:=kr.1 (hrs _ (jB hov));obtain⟨m1,m2,m3,m4⟩:=kr.1 (hrs _ (jB hun));obtain⟨_,a1,a2,a3⟩:=ij.1 k1;obtain⟨_,b1,b2,b3⟩:=ij.1 k2;obtain⟨_,c1,c2,c3⟩:=ij.1 m1;obtain⟨_,d1,d2,d3⟩:=ij.1 m2;obtain⟨p,s,q,e,hp,hw⟩:=a3.place hi;have h:Ov sys.1 (sys.2.getD ov default).1 (sys.2.getD ov default).2 (sys.2.getD un default).1 (sys.2.getD un default).2 p s q:=⟨ha,e,hw,a3,b3,c3,d3,a2,b2,c2,d2,k4,m4⟩;subst hp;by_cases hx:(sys.2.getD ov default).1.getD p.length default<0
 ·have hB:BH sys ov p.length un=false:=by unfold BH;rw[ah hx]
  refine⟨?_,fun c=>absurd hx c,fun c=>by rw[hB]at c;cases c⟩;rw[hB];unfold jZ;rw[ah h_,au,lz h_ h_,lE,aa,ah (by simp only[a_,av];omega),ah h_,au,ah (by simpa using hx)]
 ·by_cases hne:ov=un/\p.length=0
  ·have ho:jq sys ov (p.length:Int) un=some (.inr ()):=by
    unfold jq;rw[ah (by simp only[bw];omega),ah (by simp only[bw];omega)]
   have hB:BH sys ov p.length un=false:=by unfold BH;rw[aj hx,ho]
   refine⟨?_,fun _=>⟨_,ho,(fun c=>absurd (hB.symm.trans c) (by decide)),fun _=>rfl⟩,fun c=>by rw[hB]at c;cases c⟩;rw[hB];unfold jZ;rw[ah h_,au,lz h_ h_,lE,aa,ah (by simp only[a_,av];omega),ah h_,au,aj (by simpa using hx),ah (by simp only[bw];omega),ah (by simp only[bw];omega)]
  ·rcases LR h hov hun rfl rfl hx hne with⟨y,z,e1,e2,e3,e4⟩|⟨e1,e2⟩
   ·have hB:BH sys ov p.length un=true:=by unfold BH;rw[aj hx,e1]
    exact⟨by rw[hB];exact e2,fun _=>⟨_,e1,fun _=>⟨_,rfl⟩,fun c=>absurd (hB.symm.trans c) (by decide)⟩,fun _=>⟨z,e3,e4⟩⟩
   ·have hB:BH sys ov p.length un=false:=by unfold BH;rw[aj hx,e1]
    exact⟨by rw[hB];exact e2,fun _=>⟨_,e1,(fun c=>absurd (hB.symm.trans c) (by decide)),fun _=>rfl⟩,fun c=>by rw[hB]at c;cases c⟩
def N5(sys:Sys)(ov i:Nat):Nat->List gL
 |0=>[]
 |k+1=>(if BH sys ov i (sys.2.length-(k+1))=true then [((ov:Int),(i:Int),((sys.2.length-(k+1):Nat):Int))]else [])++N5 sys ov i k
def MR(sys:Sys)(ov:Nat):Nat->List gL
 |0=>[]
 |k+1=>N5 sys ov ((sys.2.getD ov default).1.length-(k+1)) sys.2.length++MR sys ov k
def OB(sys:Sys):Nat->List gL
 |0=>[]
 |k+1=>MR sys (sys.2.length-(k+1)) (sys.2.getD (sys.2.length-(k+1)) default).1.length++OB sys k
section
variable{sys:Sys}(hs:jR sys=true)
include hs
theorem ED{ov i:Nat}(hov:ov<sys.2.length)(hi:i<(sys.2.getD ov default).1.length):∀k,k<=sys.2.length->wg sys ov i k=some (N5 sys ov i k)
 |0,_=>rfl
 |k+1,hk=>by
  have hf:=Dy hs hov hi (un:=sys.2.length-(k+1)) h_;rw[wg,N5,ED hov hi k h_];by_cases hx:(sys.2.getD ov default).1.getD i default<0
  ·have hB:BH sys ov i (sys.2.length-(k+1))=false:=by unfold BH;rw[ah hx]
   rw[ah (by simpa using hx),hB];rfl
  ·rw[aj (by simpa using hx)];obtain⟨z,e,q1,q2⟩:=hf.lap hx;rw[e,aa];cases hB:BH sys ov i (sys.2.length-(k+1))with
   |true=>obtain⟨y,rfl⟩:=q1 hB;rfl
   |false=>rw[q2 hB];rfl
theorem EC{ov:Nat}(hov:ov<sys.2.length):∀k,k<=(sys.2.getD ov default).1.length->BI sys ov k=some (MR sys ov k)
 |0,_=>rfl
 |k+1,hk=>by rw[BI,MR,ED hs hov h_ _ (aA _),aa,EC hov k h_];rfl
theorem EE:∀k,k<=sys.2.length->BJ sys k=some (OB sys k)
 |0,_=>rfl
 |k+1,hk=>by rw[BJ,OB,EC hs h_ _ (aA _),aa,EE k h_];rfl
end
def FP(sys:Sys)(x:Int×Int×Int):Pk×Bool:=(mV sys x.1 x.2.1 x.2.2).getD pk0
def D4(sys:Sys):List gL->List Pk->Option (List Pk)
 |[],out=>some out
 |x::xs,out=>if(FP sys x).2=true then if out.length=64 then none else D4 sys xs (out++[(FP sys x).1])else none
theorem Fs(sys:Sys):∀(xs ys:List gL)(out:List Pk),D4 sys (xs++ys) out=(D4 sys xs out).bind (D4 sys ys)
 |[],ys,out=>rfl
 |x::xs,ys,out=>by
  rw[bC,D4,D4];split
  ·split
   ·rfl
   ·exact Fs sys xs ys _
  ·rfl
theorem Cz{sys:Sys}:∀{xs:List gL}{out o:List Pk},D4 sys xs out=some o->out.length<=64->o.length<=64
 |[],out,o,h,hl=>by cases h;exact hl
 |x::xs,out,o,h,hl=>by
  rw[D4]at h;split at h
  ·split at h
   ·cases h
   ·exact Cz h (by rw[ai,aX];omega)
  ·cases h
def We(sys:Sys)(x:Int×Int×Int):Prop:=∃ov i un:Nat,x=((ov:Int),(i:Int),(un:Int))/\ov<sys.2.length/\i<(sys.2.getD ov default).1.length/\un<sys.2.length/\BH sys ov i un=true
theorem SQ{sys:Sys}{ov i:Nat}(hov:ov<sys.2.length)(hi:i<(sys.2.getD ov default).1.length):∀k,k<=sys.2.length->∀x∈N5 sys ov i k,We sys x
 |0,_,x,h=>by cases h
 |k+1,hk,x,h=>by
  rw[N5]at h;rcases aF.1 h with h|h
  ·split at h
   ·rename_i hB;exact⟨ov,i,_,aK.1 h,hov,hi,h_,hB⟩
   ·cases h
  ·exact SQ hov hi k h_ x h
theorem SB{sys:Sys}{ov:Nat}(hov:ov<sys.2.length):∀k,k<=(sys.2.getD ov default).1.length->∀x∈MR sys ov k,We sys x
 |0,_,x,h=>by cases h
 |k+1,hk,x,h=>by
  rw[MR]at h;rcases aF.1 h with h|h
  ·exact SQ hov h_ _ (aA _) x h
  ·exact SB hov k h_ x h
theorem OC{sys:Sys}:∀k,k<=sys.2.length->∀x∈OB sys k,We sys x
 |0,_,x,h=>by cases h
 |k+1,hk,x,h=>by
  rw[OB]at h;rcases aF.1 h with h|h
  ·exact SB h_ _ (aA _) x h
  ·exact OC k h_ x h
def DD(sys:Sys):List Pk×Bool:=match D4 sys (OB sys sys.2.length) []with|some o=>(o,true)|none=>([],false)
theorem Ci{sys:Sys}(hs:jR sys=true){els:List gL}(hg:∀x∈els,We sys x):∀(xs:List gL){j:Nat}{out:List Pk},els.drop j=xs->out.length<=64->
 iB (mJ sys els) (j,out)=some (match D4 sys xs out with|some o=>(o,true)|none=>([],false)):=by
 intro xs;induction xs with
 |nil=>
  intro j out hd ho;have hj:els.length<=j:=by simpa using hd
  refine iL ?_;rw[mJ,aj h_];rfl
 |cons x xs ih=>
  intro j out hd ho;have hj:j<els.length:=by
   refine cY fun c=>?_
   rw[en h_]at hd;cases hd
  have hx:els.getD j default=x:=by
   rw[aE hj]at hd;rw[iI hj];exact(bk hd).1
  have hd':els.drop (j+1)=xs:=by
   rw[aE hj]at hd;exact(bk hd).2
  obtain⟨ov,i,un,ex,h1,h2,h3,hB⟩:=hg x (by rw[<-hx];exact jB hj);obtain⟨z,e1,_⟩:=(Dy hs h1 h2 h3).RH hB;have hv:FP sys x=z:=by unfold FP;rw[ex];simp only;rw[e1];rfl
  have e0:mJ sys els (j,out)=if z.2=true then(if out.length=64 then some (.inr ([],false))else some (.inl (j+1,out++[z.1])))else some (.inr ([],false)):=by
   rw[mJ,ah hj,hx,ex];simp only;rw[e1,aa];by_cases c1:z.2=true
   ·rw[ah c1,ah c1];by_cases c2:out.length=64
    ·rw[ah (by simp only[bw];omega),ah c2];rfl
    ·rw[aj (by simp only[bw];omega),aj c2,ah h_]
   ·rw[aj c1,aj c1];rfl
  rw[D4,hv];by_cases c1:z.2=true
  ·rw[ah c1]at e0⊢;by_cases c2:out.length=64
   ·rw[ah c2]at e0⊢;exact iL e0
   ·rw[aj c2]at e0⊢;exact(iW e0).trans (ih hd' (by rw[ai,aX];omega))
  ·rw[aj c1]at e0⊢;exact iL e0
theorem uq{sys:Sys}(hs:jR sys=true):oY sys=some (DD sys):=by
 unfold oY uo Bh;rw[aa,EE hs _ (aA _),aa];exact Ci hs (OC _ (aA _)) _ (by simp) (by simp)
theorem Ja{sys:Sys}(hs:jR sys=true){ov i:Nat}(hov:ov<sys.2.length)(hi:i<(sys.2.getD ov default).1.length):∀(k:Nat){out:List Pk},k<=sys.2.length->out.length<=64->
 iB (kK sys ov i) (out,((sys.2.length-k:Nat):Int))=some (match D4 sys (N5 sys ov i k) out with|some o=>.inl (o,((i+1:Nat):Int))|none=>.inr (.inr ([],false))):=by
 obtain⟨_,hn,hrs⟩:=jO.1 hs;have hil:i<60:=by
  obtain⟨_,_,a2,_⟩:=ij.1 (kr.1 (hrs _ (jB hov))).1;omega
 intro k;induction k with
 |zero=>
  intro out hk ho;refine iL ?_;rw[kK,aj (by simp only[av];omega),lz h_ h_];rfl
 |succ k ih=>
  intro out hk ho;have hun:sys.2.length-(k+1)<sys.2.length:=by omega
  have hf:=Dy hs hov hi hun;have hw:IntKind.i64.wrap (((sys.2.length-(k+1):Nat):Int)+1)=((sys.2.length-k:Nat):Int):=by rw[lz h_ h_];omega
  rw[N5];cases hB:BH sys ov i (sys.2.length-(k+1))with
  |false=>
   have e0:kK sys ov i (out,((sys.2.length-(k+1):Nat):Int))=some (.inl (out,((sys.2.length-k:Nat):Int))):=by rw[kK,ah (by simp only[av];omega),hf.meets,aa,hB,aj (by simp),hw]
   refine(iW e0).trans ?_;rw[ih h_ ho];rfl
  |true=>
   obtain⟨z,e1,e2⟩:=hf.RH hB;have hv:FP sys ((ov:Int),(i:Int),((sys.2.length-(k+1):Nat):Int))=z:=by unfold FP;simp only;rw[e1];rfl
   rw[ah rfl,dN,D4,hv];have e0:kK sys ov i (out,((sys.2.length-(k+1):Nat):Int))=if z.2=true then(if out.length=64 then some (.inr (.inr (.inr ([],false))))else some (.inl (out++[z.1],((sys.2.length-k:Nat):Int))))else some (.inr (.inr (.inr ([],false)))):=by
    rw[kK,ah (by simp only[av];omega),hf.meets,aa,hB,ah rfl,e2,aa,hw];by_cases c1:z.2=true
    ·rw[ah c1,ah c1];by_cases c2:out.length=64
     ·rw[ah (by simp only[bw];omega),ah c2];rfl
     ·rw[aj (by simp only[bw];omega),aj c2,ah h_]
    ·rw[aj c1,aj c1];rfl
   by_cases c1:z.2=true
   ·rw[ah c1]at e0⊢;by_cases c2:out.length=64
    ·rw[ah c2]at e0⊢;exact iL e0
    ·rw[aj c2]at e0⊢;exact(iW e0).trans (ih h_ (by rw[ai,aX];omega))
   ·rw[aj c1]at e0⊢;exact iL e0
theorem I_{sys:Sys}(hs:jR sys=true){ov:Nat}(hov:ov<sys.2.length):∀(k:Nat){out:List Pk},k<=(sys.2.getD ov default).1.length->out.length<=64->
 iB (lT sys ov) (out,(((sys.2.getD ov default).1.length-k:Nat):Int))=some (match D4 sys (MR sys ov k) out with|some o=>.inl (o,((ov+1:Nat):Int))|none=>.inr ([],false)):=by
 obtain⟨_,hn,hrs⟩:=jO.1 hs;intro k;induction k with
 |zero=>
  intro out hk ho;refine iL ?_;rw[lT,ah h_,au,aj (by simp only[av];omega),lz h_ h_];rfl
 |succ k ih=>
  intro out hk ho;have hi:(sys.2.getD ov default).1.length-(k+1)<(sys.2.getD ov default).1.length:=by omega
  have e:=Ja hs hov hi sys.2.length (out:=out) (aA _) ho;rw[cQ]at e;rw[MR,Fs];have e0:lT sys ov (out,(((sys.2.getD ov default).1.length-(k+1):Nat):Int))=iB (kK sys ov (((sys.2.getD ov default).1.length-(k+1):Nat):Int)) (out,0):=by rw[lT,ah h_,au,ah (by simp only[av];omega)]
  rw[show(0:Int)=((0:Nat):Int)from rfl,e]at e0;cases hp:D4 sys (N5 sys ov ((sys.2.getD ov default).1.length-(k+1)) sys.2.length) out with
  |none=>rw[hp]at e0;exact iL e0
  |some o=>
   rw[hp]at e0;refine(iW e0).trans ?_;have:=ih (out:=o) h_ (Cz hp ho);rw[show(((sys.2.getD ov default).1.length-(k+1)+1:Nat):Int)=(((sys.2.getD ov default).1.length-k:Nat):Int) by omega];exact this
theorem I9{sys:Sys}(hs:jR sys=true):∀(k:Nat){out:List Pk},k<=sys.2.length->out.length<=64->
 iB (mZ sys) (out,((sys.2.length-k:Nat):Int))=some (match D4 sys (OB sys k) out with|some o=>(o,true)|none=>([],false)):=by
 intro k;induction k with
 |zero=>
  intro out hk ho;refine iL ?_;rw[mZ,aj (by simp only[av];omega)];rfl
 |succ k ih=>
  intro out hk ho;have hov:sys.2.length-(k+1)<sys.2.length:=by omega
  have e:=I_ hs hov (sys.2.getD (sys.2.length-(k+1)) default).1.length (out:=out) (aA _) ho;rw[cQ]at e;rw[OB,Fs];have e0:mZ sys (out,((sys.2.length-(k+1):Nat):Int))=iB (lT sys ((sys.2.length-(k+1):Nat):Int)) (out,0):=by rw[mZ,ah (by simp only[av];omega)]
  rw[show(0:Int)=((0:Nat):Int)from rfl,e]at e0;cases hp:D4 sys (MR sys (sys.2.length-(k+1)) (sys.2.getD (sys.2.length-(k+1)) default).1.length) out with
  |none=>rw[hp]at e0;exact iL e0
  |some o=>
   rw[hp]at e0;refine(iW e0).trans ?_;have:=ih (out:=o) h_ (Cz hp ho);rw[show((sys.2.length-(k+1)+1:Nat):Int)=((sys.2.length-k:Nat):Int) by omega];exact this
theorem Ao(sys:Sys):qn sys=some (if jR sys=true then DD sys else([],false)):=by
 unfold qn;rw[pn,aa];by_cases hs:jR sys=true
 ·rw[ah hs,ah hs];unfold tX;have:=I9 hs sys.2.length (out:=[]) (aA _) (by simp);rw[cQ]at this;rw[show(0:Int)=((0:Nat):Int)from rfl,this];rfl
 ·rw[aj hs,aj hs]
theorem OR{a o:gB}(ho:o.length<=24):∀{t:gB}{k:Nat},Wv a k t->(∀y∈t,y<0->y∈o)->Wf a k (yJ o t)
 |[],k,h,_=>by
  have:=h.len;obtain rfl:k=0:=by simpa using this
  exact Wf.nil
 |x::t,0,h,_=>by have:=h.zero;cases this
 |x::t,k+1,h,hm=>by
  obtain⟨h1,h2⟩:=Wv.je.1 h;show Wf a (k+1) (xY o x::yJ o t);have e:Eh a (xY o x)/\lA a (xY o x)=lA a x:=by
   unfold xY;by_cases hx:x<0
   ·rw[ah hx];have:=gA (hm x (aS ..) hx);exact⟨⟨h_,h_⟩,by rw[uO hx,uO h_]⟩
   ·rw[aj hx];exact⟨⟨h_,h1⟩,rfl⟩
  refine Wf.je.2 ⟨e.1,?_⟩;rw[e.2];exact OR ho h2 fun y hy=>hm y (aP _ hy)
theorem Km{sys:Sys}:∀{xs:List gL}{out o:List Pk},D4 sys xs out=some o->∀y∈o,y∈out\/∃x∈xs,(FP sys x).2=true/\y=(FP sys x).1
 |[],out,o,h,y,hy=>by cases h;exact .inl hy
 |x::xs,out,o,h,y,hy=>by
  rw[D4]at h;split at h
  ·next h2=>
   split at h
   ·cases h
   ·rcases Km h y hy with c|⟨z,hz,c⟩
    ·rcases aF.1 c with c|c
     ·exact .inl c
     ·exact .inr ⟨x,aS ..,h2,by simpa using c⟩
    ·exact .inr ⟨z,aP _ hz,c⟩
  ·cases h
theorem RJ{sys:Sys}{y:Pk}(h:y∈(DD sys).1):∃x,We sys x/\(FP sys x).2=true/\y=(FP sys x).1:=by
 unfold DD at h;split at h
 ·next o ho=>
  rcases Km ho y h with c|⟨x,hx,c⟩
  ·cases c
  ·exact⟨x,OC _ (aA _) x hx,c⟩
 ·cases h
theorem PB{a u v s:gB}(hu:Wv a 1 u)(hv:Wv a 1 v):∀{p:gB}{k:Nat},Wv a k (p++(u++s))->Wv a k (p++(v++s))
 |[],0,h=>by
  have:=h.zero;have:=hu.ne
  simp_all
 |[],k+1,h=>by
  rw[show k+1=1+k by omega]at h⊢;obtain⟨u',v',e,h1,h2⟩:=h.split;obtain⟨rfl,rfl⟩:=Wv.uniq hu h1 e;exact hv.app h2
 |x::p,0,h=>by have:=h.zero;cases this
 |x::p,k+1,h=>by
  obtain⟨h1,h2⟩:=Wv.je.1 h;exact Wv.je.2 ⟨h1,PB hu hv h2⟩
theorem yF{sys:Sys}(hs:jR sys=true){y:Pk}(hy:y∈(DD sys).1):iK sys.1 y.2.1=true/\iK sys.1 y.2.2.1=true:=by
 obtain⟨x,⟨ov,i,un,rfl,hov,hi,hun,hm⟩,h2,rfl⟩:=RJ hy;obtain⟨ha,hn,hrs⟩:=jO.1 hs;obtain⟨k1,k2,k3,k4⟩:=kr.1 (hrs _ (jB hov));obtain⟨m1,m2,m3,m4⟩:=kr.1 (hrs _ (jB hun));obtain⟨_,a1,a2,a3⟩:=ij.1 k1;obtain⟨_,b1,b2,b3⟩:=ij.1 k2;obtain⟨_,c1,c2,c3⟩:=ij.1 m1;obtain⟨_,d1,d2,d3⟩:=ij.1 m2;obtain⟨p,s,q,e,hp,hw⟩:=a3.place hi;have h:Ov sys.1 (sys.2.getD ov default).1 (sys.2.getD ov default).2 (sys.2.getD un default).1 (sys.2.getD un default).2 p s q:=⟨ha,e,hw,a3,b3,c3,d3,a2,b2,c2,d2,k4,m4⟩;subst hp;have hx:¬(sys.2.getD ov default).1.getD p.length default<0:=fun c=>by unfold BH at hm;rw[ah c]at hm;cases hm
 have hne:¬(ov=un/\p.length=0):=fun c=>by
  have ho:jq sys ov (p.length:Int) un=some (.inr ()):=by
   unfold jq;rw[ah (by simp only[bw];omega),ah (by simp only[bw];omega)]
  unfold BH at hm;rw[aj hx,ho]at hm;cases hm
 rcases BK h hov hun rfl rfl hx hne with⟨b1',b2',σ1,σ2,e1,e2,e3,hb⟩|⟨e1,e2⟩
 ·have ev:=xq h hov hun rfl rfl hb e1;have ev':FP sys ((ov:Int),(p.length:Int),(un:Int))=OF σ1 (sys.2.getD ov default).1 (sys.2.getD ov default).2 (sG p q (sys.2.getD un default).2) (p.length:Int) un ov:=by unfold FP;rw[ev];rfl
  rw[ev']at h2⊢;unfold OF at h2⊢;by_cases c:(sub σ1 (sys.2.getD ov default).1).length<=60/\(sub σ1 (sys.2.getD ov default).2).length<=60/\(sub σ1 (sG p q (sys.2.getD un default).2)).length<=60/\(mh [] (sub σ1 (sys.2.getD ov default).1)).length<=24
  ·rw[ah c]at h2⊢;obtain⟨ρ,hn⟩:=hb.YX;have hsub:∀{t:gB}{k:Nat},Wv sys.1 k t->Wv sys.1 k (sub σ1 t):=fun ht=>ht.sub fun x _ hx=>hn.wv x hx
   have hl:Wv sys.1 1 (sub σ1 (sys.2.getD ov default).1):=hsub (oy a3);have hmid:Wv sys.1 1 (sub σ1 (sG p q (sys.2.getD un default).2)):=by
    unfold sG;rw[kN,kN];rw[h.split,kN,kN]at hl;exact PB (hsub (oy hw)) (hsub (EV (oy d3))) hl
   have hr:Wv sys.1 1 (sub σ1 (sys.2.getD ov default).2):=hsub (oy b3);constructor
   ·refine ij.2 ⟨ha,?_,?_,OR c.2.2.2 hmid fun y hy h0=>yB (h.So hb.Zg y hy h0) h0⟩
    ·have:=hmid.len;simpa[yJ]using this
    ·simpa[yJ]using c.2.2.1
   ·refine ij.2 ⟨ha,?_,?_,OR c.2.2.2 hr fun y hy h0=>yB (h.Y6 y hy h0) h0⟩
    ·have:=hr.len;simpa[yJ]using this
    ·simpa[yJ]using c.2.1
  ·rw[aj c]at h2;cases h2
 ·exfalso;unfold BH at hm;rw[aj hx,e1]at hm;cases hm
theorem Cy(sys:Sys):(DD sys).1.length<=64:=by
 unfold DD;split
 ·next o ho=>exact Cz ho (by simp)
 ·simp
theorem Bj(s:Sys)(t:gB)(i rule:Int):rE s t i rule=some (pI (t_ s t i rule)):=by
 unfold rE sP t_;rw[vJ,aa];cases h1:jR s with
 |false=>simp[pI]
 |true=>
  cases h2:iK s.1 t with
  |false=>simp[pI]
  |true=>
   obtain⟨_,h7,h8,_⟩:=ij.1 h2;obtain⟨_,h9,_⟩:=jO.1 h1;simp only[eA,aC,lE,aa,bE,fV,lz (n:=(t.length:Int)-1) h_ h_,lz (n:=(s.2.length:Int)-1) h_ h_];by_cases h3:0<=i
   ·by_cases h4:i<t.length
    ·by_cases h5:0<=rule
     ·by_cases h6:rule<s.2.length
      ·have:=wD h1 h2 (i:=i.toNat) (rule:=rule.toNat) h_ h_;rw[show((i.toNat:Nat):Int)=i by omega,show((rule.toNat:Nat):Int)=rule by omega]at this;simp[h3,h4,h5,h6,this,show i<=(t.length:Int)-1 by omega,show rule<=(s.2.length:Int)-1 by omega]
      ·simp[h3,h4,h5,h6,pI,show i<=(t.length:Int)-1 by omega,show ¬rule<=(s.2.length:Int)-1 by omega]
     ·simp[h3,h4,h5,pI,show i<=(t.length:Int)-1 by omega]
    ·simp[h3,h4,pI,show ¬i<=(t.length:Int)-1 by omega]
   ·simp[h3,pI]
def zH(s:Sys)(a b:gB):Bool:=(List.range s.2.length).any fun r=>oq s a 0 r==some b
def pB(s:Sys):Nat->gB->gB->Bool
 |0,_,_=>false
 |n+1,a,b=>(a==b)||(!(decide (a.headD 0<0))&&(zH s a b||(a.headD 0==b.headD 0&&((oS s.1 (lA s.1 (a.headD 0)) a.tail).zip (oS s.1 (lA s.1 (b.headD 0)) b.tail)).all fun x=>pB s n x.1 x.2)))
theorem OH{a:gB}:∀{k:Nat}{t:gB},Wf a k t->∀u∈oS a k t,Wf a 1 u
 |0,t,h,u,hu=>by simp[oS]at hu
 |k+1,t,h,u,hu=>by
  rw[cS]at h;obtain⟨v,w,rfl,h1,h2⟩:=h.split;have e:xZ a (v++w) 1=some w:=(oy h1).skip w;have e2:(v++w).take ((v++w).length-w.length)=v:=by rw[ai,d_];simp
  have e3:oS a (k+1) (v++w)=v::oS a k w:=by rw[oS,e];simp only;rw[e2]
  rw[e3]at hu;rcases bu.1 hu with rfl|hu
  ·exact h1
  ·exact OH h2 u hu
theorem Rr{xs:LL}{u:gB}(h:u∈xs):u.length<=xs.flatten.length:=by
 obtain⟨l,r,rfl⟩:=List.append_of_mem h;simp only[eK,ct,ai];omega
theorem pW{a:gB}(ha:ku a=true){x:Int}{p:gB}(hw:Wf a 1 (x::p))(hl:(x::p).length<=60):(oS a (lA a x) p).length=lA a x/\(oS a (lA a x) p).flatten=p/\∀u∈oS a (lA a x) p,iK a u=true/\u.length<=p.length:=by
 have hp:=(Wf.je.1 hw).2;rw[ck]at hp;obtain⟨h1,h2,_⟩:=uD (oy hp);refine⟨h2,h1,fun u hu=>?_⟩;have hu1:=OH hp u hu;have hu2:=Rr hu;rw[h1]at hu2;rw[aJ]at hl;exact⟨ij.2 ⟨ha,hu1.len,h_,hu1⟩,hu2⟩
theorem FJ{α β:Type}:∀{xs:List α}{ys:List β}{x:α×β},x∈xs.zip ys->x.1∈xs/\x.2∈ys
 |[],_,x,h=>by simp at h
 |_::_,[],x,h=>by simp at h
 |a::xs,b::ys,x,h=>by
  rw[ec]at h;rcases bu.1 h with rfl|h
  ·exact⟨aS,aS⟩
  ·obtain⟨h1,h2⟩:=FJ h;exact⟨aP _ h1,aP _ h2⟩
theorem zZ{α:Type}{p q:α->Bool}:∀{xs:List α},(∀x∈xs,p x=q x)->xs.all p=xs.all q
 |[],_=>rfl
 |x::xs,h=>by rw[dG,dG,h x aS,zZ fun y hy=>h y (aP _ hy)]
theorem Fp(s:Sys)(n:Nat)(x y:Int)(p q:gB):pB s (n+1) (x::p) (y::q)=(((x::p)==(y::q))||(!(decide (x<0))&&(zH s (x::p) (y::q)||(x==y&&((oS s.1 (lA s.1 x) p).zip (oS s.1 (lA s.1 y) q)).all fun z=>pB s n z.1 z.2)))):=by rw[pB];rfl
theorem Kj{s:Sys}(ha:ku s.1=true):∀(n m:Nat){a b:gB},iK s.1 a=true->iK s.1 b=true->a.length<=n->a.length<=m->pB s n a b=pB s m a b
 |0,m,a,b,h,_,hn,_=>by have:=(ij.1 h).2.1;omega
 |n+1,0,a,b,h,_,_,hm=>by have:=(ij.1 h).2.1;omega
 |n+1,m+1,a,b,h,h',hn,hm=>by
  obtain⟨_,a1,a2,a3⟩:=ij.1 h;obtain⟨_,b1,b2,b3⟩:=ij.1 h';obtain⟨x,p,rfl,_,_⟩:=a3.pos;obtain⟨y,q,rfl,_,_⟩:=b3.pos;simp only[aJ]at hn hm;have e:=zZ (xs:=(oS s.1 (lA s.1 x) p).zip (oS s.1 (lA s.1 y) q)) (p:=fun z=>pB s n z.1 z.2) (q:=fun z=>pB s m z.1 z.2) fun z hz=>by
   obtain⟨z1,z2⟩:=FJ hz;obtain⟨k1,k2⟩:=(pW ha a3 a2).2.2 _ z1;exact Kj ha n m k1 ((pW ha b3 b2).2.2 _ z2).1 h_ h_
  rw[Fp,Fp,e]
def qj(s:Sys)(a b:gB):Bool:=pB s 60 a b
theorem xE{s:Sys}(ha:ku s.1=true){x y:Int}{p q:gB}(h:iK s.1 (x::p)=true)(h':iK s.1 (y::q)=true):qj s (x::p) (y::q)=(((x::p)==(y::q))||(!(decide (x<0))&&(zH s (x::p) (y::q)||(x==y&&((oS s.1 (lA s.1 x) p).zip (oS s.1 (lA s.1 y) q)).all fun z=>qj s z.1 z.2)))):=by
 obtain⟨_,a1,a2,a3⟩:=ij.1 h;obtain⟨_,b1,b2,b3⟩:=ij.1 h';have e:=zZ (xs:=(oS s.1 (lA s.1 x) p).zip (oS s.1 (lA s.1 y) q)) (p:=fun z=>pB s 59 z.1 z.2) (q:=fun z=>qj s z.1 z.2) fun z hz=>by
  obtain⟨z1,z2⟩:=FJ hz;obtain⟨k1,k2⟩:=(pW ha a3 a2).2.2 _ z1;simp only[aJ]at a2;exact Kj ha 59 60 k1 ((pW ha b3 b2).2.2 _ z2).1 h_ h_
 rw[<-e];exact Fp s 59 x y p q
theorem RU{s:Sys}(hs:jR s=true){x:Int}{p b:gB}(h:iK s.1 (x::p)=true)(hr:zH s (x::p) b=true):¬x<0:=fun hx=>by
 obtain⟨j,hj,he⟩:=dj.1 hr;have hj':=b_.1 hj;have:=DO (bw.1 he);rw[ON hs h (by simp) hj' (by simpa using hx)]at this;cases this
theorem Bp{n:Nat}{p:Nat->Bool}:(List.range n).any p=true<->∃j,j<n/\p j=true:=by
 rw[dj];exact⟨fun⟨j,h1,h2⟩=>⟨j,b_.1 h1,h2⟩,fun⟨j,h1,h2⟩=>⟨j,b_.2 h1,h2⟩⟩
theorem Jv{α β:Type}[Inhabited α][Inhabited β]{p:α×β->Bool}{xs:List α}{ys:List β}(hl:xs.length=ys.length):(xs.zip ys).all p=true<->∀j,j<xs.length->p (xs.getD j default,ys.getD j default)=true:=by
 rw[bN];constructor
 ·intro h j hj;refine h _ ?_;rw[iI hj,iI h_];have:=List.getElem_zip (l:=xs) (l':=ys) (i:=j) (h:=by rw[List.length_zip];omega);rw[<-this];exact bB _
 ·rintro h ⟨x,y⟩ hz;obtain⟨j,hj,e⟩:=fG hz;rw[List.length_zip]at hj;rw[List.getElem_zip]at e;have:=h j h_;rw[iI h_,iI h_,e]at this;exact this
theorem GB{s:Sys}(hs:jR s=true):∀(fu:Nat){a b:gB},iK s.1 a=true->iK s.1 b=true->jN (a.length<=fu) (mI fu s a b) (·=qj s a b)
 |0,a,b,h,h'=>⟨fun r hr=>(by cases hr),fun hl=>by have:=(ij.1 h).2.1;omega⟩
 |fu+1,a,b,h,h'=>by
  obtain⟨ha,hn,hrs⟩:=jO.1 hs;obtain⟨_,a1,a2,a3⟩:=ij.1 h;obtain⟨_,b1,b2,b3⟩:=ij.1 h';obtain⟨x,p,rfl,_,_⟩:=a3.pos;obtain⟨y,q,rfl,_,_⟩:=b3.pos;have hpe:=xE ha h h';have sa:Small (x::p):=by show List.length _<_;omega
  unfold mI;rw[mF sa,aa];refine jN.ite (fun c=>.some (by rw[hpe,c];rfl)) fun c1=>?_
  rw[ah (by simp only[aJ];omega),show(x::p).getD 0 default=x from rfl];refine jN.ite (fun c=>.some (by rw[hpe,c1,c];rfl)) fun c2=>?_
  have hx:¬x<0:=by simpa using c2
  refine jN.loop (fun i:Int=>∃k:Nat,i=k/\k<=s.2.length/\∀j,j<k->oq s (x::p) 0 j≠some (y::q)) (fun i:Int=>s.2.length-i.toNat) ⟨0,rfl,h_,h_⟩ ?_;rintro _ ⟨k,rfl,hk,hj⟩;rw[rV];by_cases hlt:k<s.2.length
  ·rw[ah (by simp only[av];omega)];have hst:=yb hs h (i:=0) (rule:=k) (by simp) hlt;rw[show((0:Nat):Int)=0 from rfl]at hst;rw[hst,aa,lz h_ h_];have nx:oq s (x::p) 0 k≠some (y::q)->jN ((x::p).length<=fu+1) (some (.inl ((k:Int)+1)):Option gO) (yc (fun i:Int=>∃k:Nat,i=k/\k<=s.2.length/\∀j,j<k->oq s (x::p) 0 j≠some (y::q)) (fun i:Int=>s.2.length-i.toNat) (·=qj s (x::p) (y::q)) (s.2.length-((k:Int)).toNat)):=fun hne=>
    .some ⟨⟨k+1,h_,h_,fun j hj'=>by
     by_cases c:j<k
     ·exact hj j c
     ·obtain rfl:j=k:=by omega
      exact hne⟩,by simp only;omega⟩
   cases hq:oq s (x::p) 0 k with
   |none=>
    simp only[pI,ak,aB];exact nx (by rw[hq];simp)
   |some u=>
    have hu:u.length<=60:=by
     have:=DQ (a:=s.1) (l:=(s.2.getD k default).1) (r:=(s.2.getD k default).2) (t:=x::p) (i:=0) (ij.1 (kr.1 (hrs _ (jB hlt))).1).2.2.2 (ij.1 (kr.1 (hrs _ (jB hlt))).2.1).2.2.2 a3 (by simp) (kr.1 (hrs _ (jB hlt))).2.2.2 hq;exact this.2
    simp only[pI,aC,mF (show Small u by show u.length<_;omega),aa];by_cases he:u=y::q
    ·have hb:(u==y::q)=true:=bw.2 he;rw[ah hb];refine .some ?_;show true=_;have hr:zH s (x::p) (y::q)=true:=Bp.2 ⟨k,hlt,by rw[hq,he];simp⟩;rw[hpe,c1,c2,hr];rfl
    ·rw[aj (by simpa using he)];exact nx (by rw[hq];simpa using he)
  ·rw[aj (by simp only[av];omega)];refine jN.inr ?_;have hk':k=s.2.length:=by omega
   have hr:zH s (x::p) (y::q)=false:=by
    rw[<-ey];intro hh;obtain⟨j,h1,h2⟩:=Bp.1 hh;exact hj j h_ (bw.1 h2)
   rw[hr]at hpe;rw[ah (by simp only[aJ];omega),ah (by simp only[aJ];omega),show(x::p).getD 0 default=x from rfl,show(y::q).getD 0 default=y from rfl];refine jN.ite (fun c=>.some ?_) fun c3=>?_
   ·have:(x==y)=false:=by simpa using c
    rw[hpe,c1,c2,this];rfl
   ·obtain rfl:x=y:=by simpa using c3
    obtain⟨P1,P2,P3⟩:=pW ha a3 a2;obtain⟨Q1,Q2,Q3⟩:=pW ha b3 b2;have hv:qj s (x::p) (x::q)=((oS s.1 (lA s.1 x) p).zip (oS s.1 (lA s.1 x) q)).all fun z=>qj s z.1 z.2:=by rw[hpe,c1,c2];simp
    rw[ta ha a2 rfl hx (oy a3),aa,ta ha b2 rfl hx (oy b3),aa];have h3:=uz ha x;generalize oS s.1 (lA s.1 x) p=P at *;generalize oS s.1 (lA s.1 x) q=Q at *;have hal:=Jv (p:=fun z:gB×gB=>qj s z.1 z.2) (P1.trans Q1.symm);refine jN.loop (fun i:Int=>∃k:Nat,i=k/\k<=P.length/\∀j,j<k->qj s (P.getD j default) (Q.getD j default)=true) (fun i:Int=>P.length-i.toNat) ⟨0,rfl,h_,h_⟩ ?_;rintro _ ⟨k,rfl,hk,hj⟩;rw[rW,vn,vn];by_cases hlt:k<P.length
    ·obtain⟨j1,r1,e1,e2⟩:=yC (t:=x::p) (us:=P) (i:=1) (k:=k) (by rw[P2];rfl) hlt;obtain⟨j2,r2,e3,e4⟩:=yC (t:=x::q) (us:=Q) (i:=1) (k:=k) (by rw[Q2];rfl) h_;have hm1:P.getD k default∈P:=jB hlt;have hm2:Q.getD k default∈Q:=jB h_;obtain⟨k1,k2⟩:=P3 _ hm1;obtain⟨k3,k4⟩:=Q3 _ hm2;rw[ah (by simp only[av];omega),ah h_,au,e1,pQ ha sa (fun z hz=>(a3.all z hz).1) e2 (ij.1 k1).2.2.2,aa,ah h_,e3,
      pQ ha (show Small (x::q) by show List.length _<_;omega) (fun z hz=>(b3.all z hz).1) e4 (ij.1 k3).2.2.2,aa]
     refine jN.bind ((GB hs fu k1 k3).weak (by simp only[aJ];omega)) fun r hr=>?_
     subst hr;refine jN.ite (fun c=>?_) fun c=>?_
     ·rw[lz h_ h_];refine .some ⟨⟨k+1,h_,h_,fun j hj'=>?_⟩,by simp only;omega⟩;by_cases c':j<k
      ·exact hj j c'
      ·obtain rfl:j=k:=by omega
       exact c
     ·refine jN.inr (.some ?_);show false=qj s (x::p) (x::q);rw[hv,gy,<-ey,hal];intro hh;rw[hh k hlt]at c;cases c
    ·rw[aj (by simp only[av];omega)];refine jN.inr (.some ?_);show true=qj s (x::p) (x::q);rw[hv,gy,hal];exact fun j hj'=>hj j h_
theorem zR{s:Sys}(hs:jR s=true){a b:gB}(h:iK s.1 a=true)(h':iK s.1 b=true):oB s a b=some (qj s a b):=
 (jN.V2 (t:=True) a.length fun n=>GB hs n h h').eq
theorem Ap{s:Sys}(hs:jR s=true){a b:gB}(h:iK s.1 a=true):qo s a b=some (zH s a b):=by
 obtain⟨ha,hn,hrs⟩:=jO.1 hs;obtain⟨_,a1,a2,a3⟩:=ij.1 h;unfold qo;have:=GP (xs:=List.range s.2.length) (p:=fun r=>oq s a 0 r==some b) (f:=oa s a b) (y:=true) (n:=false) (fun i x hi _ _ hx=>?_) ?_
 ·rw[this];show some (if zH s a b=true then true else false)=_;cases zH s a b<;>rfl
 ·rw[ej]at hi;rw[iI (by simpa using hi),fS]at hx;subst hx;have hst:t_ s a 0 (i:Int)=oq s a 0 i:=by
   unfold t_;rw[ah ⟨⟨hs,h⟩,⟨h_,h_⟩,h_,h_⟩];rfl
  rw[oa,ah (by simp only[av];omega),Bj,hst,aa,lz h_ h_];cases hq:oq s a 0 i with
  |none=>simp[pI]
  |some u=>
   have hu:u.length<=60:=zK (hst.trans hq);simp only[pI,aC,o_ (show Small u by show u.length<_;omega),aa];by_cases he:u=b
   ·subst he;simp
   ·simp[he]
 ·rw[oa,aj (by simp)];rfl
theorem Hs{s:Sys}(hs:jR s=true):∀(fu:Nat){a b:gB},iK s.1 a=true->iK s.1 b=true->jN (a.length<=fu) (kX fu s a b) (·=qj s a b)
 |0,a,b,h,h'=>⟨fun r hr=>(by cases hr),fun hl=>by have:=(ij.1 h).2.1;omega⟩
 |fu+1,a,b,h,h'=>by
  obtain⟨ha,hn,hrs⟩:=jO.1 hs;obtain⟨_,a1,a2,a3⟩:=ij.1 h;obtain⟨_,b1,b2,b3⟩:=ij.1 h';obtain⟨x,p,rfl,_,_⟩:=a3.pos;obtain⟨y,q,rfl,_,_⟩:=b3.pos;have hpe:=xE ha h h';have sa:Small (x::p):=by show List.length _<_;omega
  unfold kX;rw[o_ sa,aa];refine jN.ite (fun c=>.some (by rw[hpe,c];rfl)) fun c1=>?_
  rw[Ap hs h,aa];refine jN.ite (fun c=>.some ?_) fun cr=>?_
  ·have:=RU hs h c;rw[hpe,c1,cL this,c];rfl
  rw[ah (by simp only[aJ];omega),ah (by simp only[aJ];omega),show(x::p).getD 0 default=x from rfl,show(y::q).getD 0 default=y from rfl];refine jN.ite (fun c=>.some ?_) fun c3=>?_
  ·have:(x==y)=false:=by simpa using c
   rw[hpe,c1,cr,this];simp
  obtain rfl:x=y:=by simpa using c3
  rw[ah (by simp only[aJ];omega)];refine jN.ite (fun c=>.some (by rw[hpe,c1,c];rfl)) fun c2=>?_
  have hx:¬x<0:=by simpa using c2
  obtain⟨P1,P2,P3⟩:=pW ha a3 a2;obtain⟨Q1,Q2,Q3⟩:=pW ha b3 b2;have hv:qj s (x::p) (x::q)=((oS s.1 (lA s.1 x) p).zip (oS s.1 (lA s.1 x) q)).all fun z=>qj s z.1 z.2:=by rw[hpe,c1,c2,cr];simp
  rw[tZ ha a2 rfl hx (oy a3),aa,tZ ha b2 rfl hx (oy b3),aa];have h3:=uz ha x;generalize oS s.1 (lA s.1 x) p=P at *;generalize oS s.1 (lA s.1 x) q=Q at *;have hal:=Jv (p:=fun z:gB×gB=>qj s z.1 z.2) (P1.trans Q1.symm);refine jN.loop (fun i:Int=>∃k:Nat,i=k/\k<=P.length/\∀j,j<k->qj s (P.getD j default) (Q.getD j default)=true) (fun i:Int=>P.length-i.toNat) ⟨0,rfl,h_,h_⟩ ?_;rintro _ ⟨k,rfl,hk,hj⟩;rw[qc];by_cases hlt:k<P.length
  ·obtain⟨k1,k2⟩:=P3 _ (jB hlt);obtain⟨k3,k4⟩:=Q3 _ (jB (i:=k) h_);rw[ah (by simp only[av];omega),ah h_,ah h_,au];refine jN.bind ((Hs hs fu k1 k3).weak (by simp only[aJ];omega)) fun r hr=>?_
   subst hr;refine jN.ite (fun c=>?_) fun c=>?_
   ·rw[lz h_ h_];refine .some ⟨⟨k+1,h_,h_,fun j hj'=>?_⟩,by simp only;omega⟩;by_cases c':j<k
    ·exact hj j c'
    ·obtain rfl:j=k:=by omega
     exact c
   ·refine jN.inr (.some ?_);show false=qj s (x::p) (x::q);rw[hv,gy,<-ey,hal];intro hh;rw[hh k hlt]at c;cases c
  ·rw[aj (by simp only[av];omega)];refine jN.inr (.some ?_);show true=qj s (x::p) (x::q);rw[hv,gy,hal];exact fun j hj'=>hj j h_
theorem xU{s:Sys}(hs:jR s=true){a b:gB}(h:iK s.1 a=true)(h':iK s.1 b=true):pE s a b=some (qj s a b):=
 (jN.V2 (t:=True) a.length fun n=>Hs hs n h h').eq
def ME(t:gB):Prop:=t.Pairwise fun x y=>y<0->x≠y
def Fc(t:gB):Bool:=(List.range t.length).all fun i=>!(decide (t.getD i default<0)&&decide (t.getD i default∈t.take i))
theorem GN{t:gB}:Fc t=true<->ME t:=by
 unfold Fc ME;rw[bN,List.pairwise_iff_getElem];constructor
 ·intro h i j hi hj hij h0 he;have:=h j (b_.2 hj);rw[iI hj,cK h0,bP,dB,bR]at this;exact this (by rw[<-he];exact List.mem_take_iff_getElem.2 ⟨i,h_,rfl⟩)
 ·intro h j hj;have hj:=b_.1 hj;rw[iI hj,dB,<-ey,a_,av,av];rintro⟨h0,hm⟩;obtain⟨i,hi,e⟩:=List.mem_take_iff_getElem.1 hm;exact h i j h_ hj h_ h0 e
theorem Bg{t:gB}(hl:t.length<=60):rA t=some (Fc t):=by
 unfold rA Fc;refine qA (xs:=List.range t.length) (fun i x hi _ _ hx=>?_) ?_
 ·rw[ej]at hi;rw[iI (by simpa using hi),fS]at hx;subst hx;rw[qF,ah (by simp only[av];omega),ah h_,au,lz h_ h_];by_cases h0:t.getD i default<0
  ·rw[ah (by simpa using h0),ah h_,ua (by show List.length _<_;rw[bY];omega),aa,cK h0];by_cases hm:t.getD i default∈t.take i
   ·rw[cK hm];rfl
   ·rw[cL hm];rfl
  ·rw[aj (by simpa using h0),cL h0];rfl
 ·rw[ej,qF,aj (by simp)];rfl
theorem Ar{t:gB}(hl:t.length<=60)(n:Int):qq t n=some ((t.count n:Nat):Int):=by
 unfold qq;refine tc (n:=t.length) (fun i=>((((t.take i).count n:Nat):Int),(i:Int))) (fun i hi=>?_) ?_
 ·have hc:(t.take i).count n<=i:=cp List.count_le_length (by rw[bY];omega);rw[qg,ah (by simp only[av];omega),ah h_,au,lz (n:=(i:Int)+1) h_ h_,lz h_ h_,bZ hi,List.count_append,iI hi,List.count_singleton];by_cases h:t[i]=n
  ·rw[ah (by simpa using h),ah (by simpa using h)];rfl
  ·rw[aj (by simpa using h),aj (by simpa using h)];rfl
 ·rw[qg,aj (by simp),cn];rfl
theorem LC{t:gB}:ME t<->∀x∈t,x<0->t.count x<=1:=by
 unfold ME;induction t with
 |nil=>simp
 |cons y t ih=>
  rw[ee,ih];constructor
  ·rintro⟨h1,h2⟩ x hx h0;rw[List.count_cons];by_cases e:y=x
   ·subst e;have:t.count y=0:=List.count_eq_zero.2 fun hm=>h1 y hm h0 rfl
    rw[this];simp
   ·rw[aj (by simpa using e)];rcases bu.1 hx with rfl|hx
    ·exact absurd rfl e
    ·exact h2 x hx h0
  ·intro h;refine⟨fun x hx h0 e=>?_,fun x hx h0=>?_⟩
   ·subst e;have:=h y aS h0;rw[List.count_cons_self]at this;have:=List.count_pos_iff.2 hx;omega
   ·have:=h x (aP _ hx) h0;rw[List.count_cons]at this;omega
theorem zW{t:gB}(hl:t.length<=60):nR t=some (Fc t):=by
 have:nR t=some (t.all fun x=>!(decide (x<0)&&decide (1<t.count x))):=by
  unfold nR;refine qA (fun i x hi _ hm hx=>?_) ?_
  ·rw[pG,ah (by simp only[av];omega),ah h_,au,lz h_ h_,hx];by_cases h0:x<0
   ·rw[ah (by simpa using h0),ah h_,Ar hl,aa,cK h0];by_cases hc:1<t.count x
    ·rw[ah (by simp only[av];omega),cK hc];rfl
    ·rw[aj (by simp only[av];omega),cL hc];rfl
   ·rw[aj (by simpa using h0),cL h0];rfl
  ·rw[pG,aj (by simp)];rfl
 rw[this,aL,fC,GN,LC,bN];constructor
 ·intro h x hx h0;have:=h x hx;rw[cK h0,bP,dB,bR]at this;omega
 ·intro h x hx;rw[dB,<-ey,a_,av,av];rintro⟨h0,h1⟩;have:=h x hx h0;omega
def J2(s:Sys):Bool:=jR s&&s.2.all fun r=>Fc r.1
theorem Hf{s:Sys}(hs:jR s=true){r:gB×gB}(h:r∈s.2):r.1.length<=60:=(ij.1 (kr.1 ((jO.1 hs).2.2 r h)).1).2.2.1
theorem oU(s:Sys):kP s=some (J2 s):=by
 unfold kP J2;rw[zP,aa];cases hs:jR s with
 |false=>rfl
 |true=>
  have hn:=(jO.1 hs).2.1;rw[ah rfl,bP];have:nW s.2=some (s.2.all fun r=>Fc r.1):=by
   unfold nW;refine qA (fun i x hi _ hm hx=>?_) ?_
   ·rw[nX,ah (by simp only[av];omega),ah h_,au,lz h_ h_,hx,Bg (Hf hs hm),aa];cases Fc x.1<;>rfl
   ·rw[nX,aj (by simp)];rfl
  rw[this];rfl
theorem xj(s:Sys):mN s=some (J2 s):=by
 unfold mN J2;rw[pn,aa];cases hs:jR s with
 |false=>rfl
 |true=>
  have hn:=(jO.1 hs).2.1;rw[ah rfl,bP];refine qA (fun i x hi _ hm hx=>?_) ?_
  ·rw[mS,ah (by simp only[av];omega),ah h_,au,lz h_ h_,hx,zW (Hf hs hm),aa];cases Fc x.1<;>rfl
  ·rw[mS,aj (by simp)];rfl
def DZ(s:Sys)(q:Pk->Bool):Bool:=J2 s&&((DD s).2&&(DD s).1.all q)
theorem Bo{α:Type}{q:α->Bool}{xs:List α}:(!decide (0<=nP (fun y=>!q y) xs))=xs.all q:=by
 cases ha:xs.all q with
 |true=>
  have:nP (fun y=>!q y) xs= -1:=yo fun x hx=>by rw[bN.1 ha x hx];rfl
  rw[this];rfl
 |false=>
  obtain⟨x,hx,hxf⟩:=List.all_eq_false.1 ha;have:=za (p:=fun y=>!q y) hx (by simpa using hxf);rw[cK this];rfl
theorem Du{s:Sys}(h:J2 s=true):jR s=true:=by unfold J2 at h;exact(a_ _ _▸h).1
theorem xe(s:Sys):mM s=some (DZ s fun _=>false):=by
 unfold mM rN DZ;rw[oU,aa];cases hl:J2 s with
 |false=>rfl
 |true=>
  rw[ah rfl,uq (Du hl),aa];cases hp:(DD s).2 with
  |false=>rfl
  |true=>
   have hln:=Cy s;have hf:jr (DD s).1=some (nP (fun y:Pk=>!(fun _=>false) y) (DD s).1):=by
    unfold jr;refine tU (fun i x hi hx hg=>?_) (by simp[jH]);rw[jH,ah (by simp only[av];omega),ah h_];rfl
   unfold jG;rw[ah rfl,hf,aa,aa,Bo];rfl
theorem zQ(s:Sys):mH s=some (DZ s fun y=>y.2.1==y.2.2.1):=by
 unfold mH oW DZ;rw[oU,aa];cases hl:J2 s with
 |false=>rfl
 |true=>
  have hs:=Du hl;rw[ah rfl,uq hs,aa];cases hp:(DD s).2 with
  |false=>rfl
  |true=>
   have hln:=Cy s;have hf:jg (DD s).1=some (nP (fun y:Pk=>!(fun y:Pk=>y.2.1==y.2.2.1) y) (DD s).1):=by
    unfold jg;refine tU (fun i x hi hx hg=>?_) (by simp[jv]);have hk:=EI (yF hs hx).1;have hT:lQ x=some (x.2.1==x.2.2.1):=by
     unfold lQ;rw[mF (show Small x.2.1 by show List.length _<_;omega)];rfl
    rw[jv,ah (by simp only[av];omega),ah h_,au,hg,lz h_ h_];unfold nU;rw[show lQ (x.1,x.2.1,x.2.2.1,x.2.2.2.1,x.2.2.2.2.1,x.2.2.2.2.2)=some (x.2.1==x.2.2.1)from hT,aa,aa];show _=some (if(!(x.2.1==x.2.2.1))=true then Sum.inr (i:Int)else Sum.inl ((i:Int)+1));cases(x.2.1==x.2.2.1)<;>rfl
   unfold jt;rw[ah rfl,hf,aa,aa,Bo];rfl
theorem zO(s:Sys):jE s=some (DZ s fun y=>qj s y.2.1 y.2.2.1):=by
 unfold jE oX DZ;rw[oU,aa];cases hl:J2 s with
 |false=>rfl
 |true=>
  have hs:=Du hl;rw[ah rfl,uq hs,aa];cases hp:(DD s).2 with
  |false=>rfl
  |true=>
   have hln:=Cy s;have hf:ji (DD s).1 s.1 s.2=some (nP (fun y:Pk=>!(fun y:Pk=>qj s y.2.1 y.2.2.1) y) (DD s).1):=by
    unfold ji;refine tU (fun i x hi hx hg=>?_) (by simp[jw]);obtain⟨k1,k2⟩:=yF hs hx;rw[jw,ah (by simp only[av];omega),ah h_,au,hg,lz h_ h_];unfold nV qe;rw[show oB (s.1,s.2) x.2.1 x.2.2.1=some (qj s x.2.1 x.2.2.1)from zR hs k1 k2,aa,aa,aa];show _=some (if(!(qj s x.2.1 x.2.2.1))=true then Sum.inr (i:Int)else Sum.inl ((i:Int)+1));cases qj s x.2.1 x.2.2.1<;>rfl
   unfold ju;rw[ah rfl,hf,aa,aa,Bo];rfl
theorem zT(s:Sys):lI s=some (DZ s fun y=>qj s y.2.1 y.2.2.1):=by
 unfold lI DZ;rw[Ao,aa];cases hs:jR s with
 |false=>
  have:J2 s=false:=by unfold J2;rw[hs];rfl
  rw[this];rfl
 |true=>
  rw[ah rfl];cases hp:(DD s).2 with
  |false=>simp
  |true=>
   rw[ah rfl,xj,aa];cases hl:J2 s with
   |false=>rfl
   |true=>
    have hln:=Cy s;rw[ah rfl,bP,bP];refine qA (fun i x hi _ hm hx=>?_) ?_
    ·obtain⟨k1,k2⟩:=yF hs hm;rw[oZ,ah (by simp only[av];omega),ah h_,ah h_,au,hx,xU hs k1 k2,aa,lz h_ h_];cases qj s x.2.1 x.2.2.1<;>rfl
    ·rw[oZ,aj (by simp)];rfl
end Go.Proofs.YtjgbnaihpicpgaaGreat
namespace Go.Proofs.YtjgbnaihpicpgaaGreat
open Go ng Tm
open Un hiding Bd
open Hu hiding C
def RR(sys:Sys)(l r:T):Prop:=(fl l,fl r)∈sys.2
theorem J6{α:Type}[Inhabited α]{x:α}{xs:List α}(h:x∈xs):∃i,i<xs.length/\xs.getD i default=x:=by
 obtain⟨i,hi,e⟩:=fG h;exact⟨i,hi,by rw[iI hi];exact e⟩
theorem KF{sys:Sys}(hs:jR sys=true)(ha:sys.1=a3){t:T}{i rule:Nat}{u:gB}(hi:i<(fl t).length)(hr:rule<sys.2.length)(hw:Wf sys.1 1 (fl t))(h:oq sys (fl t) i rule=some u):
 ∃(t':T)(k:Hu.C)(L R:T)(τ:Nat->T),fl t'=u/\RR sys L R/\t=k.fill (L.sub τ)/\t'=k.fill (R.sub τ):=by
 obtain⟨_,_,hrs⟩:=jO.1 hs;have hm:sys.2.getD rule default∈sys.2:=jB hr;obtain⟨k1,k2,k3,k4⟩:=kr.1 (hrs _ hm);obtain⟨_,_,_,l3⟩:=ij.1 k1;obtain⟨_,_,_,r3⟩:=ij.1 k2;obtain⟨⟨p,s,σ,e1,e2,e3,hσ⟩,_⟩:=DQ l3 r3 hw hi k4 h;generalize sys.2.getD rule default=x at *;have l3':=oy l3;have r3':=oy r3;rw[ha]at l3' r3';obtain⟨L,eL⟩:=L5 l3';obtain⟨R,eR⟩:=L5 r3';have hv:∀n:Nat,Wv a3 1 (σ (-1-(n:Int))):=fun n=>by rw[<-ha];exact oy (hσ _ h_)
 rw[<-eL,FG fun n _=>hv n]at e2;rw[<-eR,FG fun n _=>hv n]at e3;obtain⟨k,x',rfl,q1,q2,q3⟩:=Qb e2 (vN _);have:=vY q2;subst this;exact⟨k.fill (R.sub (Sd σ)),k,L,R,Sd σ,by rw[vM,q1,q3,<-e3],by unfold RR;rw[eL,eR];exact hm,rfl,rfl⟩
theorem AE(t:T):∃x p,fl t=x::p:=by
 obtain⟨x,p,e,_⟩:=(vN t).pos;exact⟨x,p,e⟩
theorem Vk{sys:Sys}(hs:jR sys=true)(ha:sys.1=a3)(A B:T)(h:iK sys.1 (fl A)=true)(h':iK sys.1 (fl B)=true)(hp:qj sys (fl A) (fl B)=true):Pa (RR sys) A B:=by
 have hsg:=(jO.1 hs).1;have root:∀{A B:T},iK sys.1 (fl A)=true->zH sys (fl A) (fl B)=true->Pa (RR sys) A B:=fun{A B} h hr=>by
  obtain⟨j,hj,e⟩:=Bp.1 hr;obtain⟨_,t1,t2,t3⟩:=ij.1 h;obtain⟨t',k,L,R,τ,q1,q2,rfl,rfl⟩:=KF hs ha h_ hj t3 (bw.1 e);rw[<-vY q1];exact(Pa.root q2).fill k
 induction A generalizing B with
 |v n=>
  obtain⟨y,q,e⟩:=AE B;have hpe:=xE hsg (x:= -1-(n:Int)) (p:=[]) h (by rw[<-e];exact h');rw[<-e]at hpe;have hp':qj sys [-1-(n:Int)] (fl B)=true:=hp;rw[hpe,cK (by omega: -1-(n:Int)<0)]at hp';have he:[-1-(n:Int)]=fl B:=by simpa using hp'
  have:=vY (s:=.v n) he;subst this;exact .refl _
 |c=>
  obtain⟨y,q,e⟩:=AE B;have hpe:=xE hsg (x:=2) (p:=[]) h (by rw[<-e];exact h');rw[<-e]at hpe;have hp':qj sys [2] (fl B)=true:=hp;rw[hpe]at hp';simp only[fB,a_,bw]at hp';rcases hp' with he|⟨_,hr|⟨hy,_⟩⟩
  ·have:=vY (s:=.c) he;subst this;exact .refl _
  ·exact root (A:=.c) h hr
  ·cases B with
   |c=>exact .refl _
   |v m=>exfalso;have:=(bk e).1;omega
   |g a=>exfalso;have:=(bk e).1;omega
   |f a b=>exfalso;have:=(bk e).1;omega
 |g a ih=>
  obtain⟨y,q,e⟩:=AE B;have hpe:=xE hsg (x:=1) (p:=fl a) h (by rw[<-e];exact h');rw[<-e]at hpe;have hp':qj sys (1::fl a) (fl B)=true:=hp;rw[hpe]at hp';simp only[fB,a_,bw]at hp';rcases hp' with he|⟨_,hr|⟨hy,hz⟩⟩
  ·have:=vY (s:=.g a) he;subst this;exact .refl _
  ·exact root (A:=.g a) h hr
  ·cases B with
   |c=>exfalso;have:=(bk e).1;omega
   |v m=>exfalso;have:=(bk e).1;omega
   |f a b=>exfalso;have:=(bk e).1;omega
   |g b=>
    obtain rfl:=(bk e).1;obtain rfl:=(bk e).2;obtain⟨_,_,a2,a3'⟩:=ij.1 h;obtain⟨_,_,b2,b3⟩:=ij.1 h';have pa:=pW hsg (x:=1) (p:=fl a) a3' a2;have pb:=pW hsg (x:=1) (p:=fl b) b3 b2;rw[ha,Uv,RL]at hz pa;rw[ha,Uv,RL]at pb;rw[RL]at hz;rw[<-ha]at pa pb;have k1:=(pa.2.2 _ (aK.2 rfl)).1;have k2:=(pb.2.2 _ (aK.2 rfl)).1;obtain⟨m,hm⟩:=ih b k1 k2 (by simpa using hz);exact⟨_,.g hm⟩
 |f a b ih jh=>
  obtain⟨y,q,e⟩:=AE B;have hpe:=xE hsg (x:=0) (p:=fl a++fl b) h (by rw[<-e];exact h');rw[<-e]at hpe;have hp':qj sys (0::(fl a++fl b)) (fl B)=true:=hp;rw[hpe]at hp';simp only[fB,a_,bw]at hp';rcases hp' with he|⟨_,hr|⟨hy,hz⟩⟩
  ·have:=vY (s:=.f a b) he;subst this;exact .refl _
  ·exact root (A:=.f a b) h hr
  ·cases B with
   |c=>exfalso;have:=(bk e).1;omega
   |v m=>exfalso;have:=(bk e).1;omega
   |g a=>exfalso;have:=(bk e).1;omega
   |f c d=>
    obtain rfl:=(bk e).1;obtain rfl:=(bk e).2;obtain⟨_,_,a2,a3'⟩:=ij.1 h;obtain⟨_,_,b2,b3⟩:=ij.1 h';have pa:=pW hsg (x:=0) (p:=fl a++fl b) a3' a2;have pb:=pW hsg (x:=0) (p:=fl c++fl d) b3 b2;rw[ha,Uu,Vn]at hz pa;rw[ha,Uu,Vn]at pb;rw[Vn]at hz;rw[<-ha]at pa pb;have k1:=(pa.2.2 (fl a) (by simp)).1;have k2:=(pa.2.2 (fl b) (by simp)).1;have k3:=(pb.2.2 (fl c) (by simp)).1;have k4:=(pb.2.2 (fl d) (by simp)).1;simp only[ec,List.zip_nil_right,dG,List.all_nil,Bool.and_true,a_]at hz;obtain⟨m,hm⟩:=ih c k1 k3 hz.1;obtain⟨m',hm'⟩:=jh d k2 k4 hz.2;exact⟨_,.f hm hm'⟩
theorem JY{sys:Sys}{ov i un:Nat}(hun:un<sys.2.length)(hm:BH sys ov i un=true):∀k,sys.2.length-un<=k->k<=sys.2.length->((ov:Int),(i:Int),(un:Int))∈N5 sys ov i k
 |0,h,_=>by omega
 |k+1,h,h2=>by
  rw[N5];by_cases c:sys.2.length-(k+1)=un
  ·rw[c,ah hm];exact aZ _ (aK.2 rfl)
  ·exact bp _ (JY hun hm k h_ h_)
theorem Jz{sys:Sys}{ov i un:Nat}(hi:i<(sys.2.getD ov default).1.length)(hun:un<sys.2.length)(hm:BH sys ov i un=true):∀k,(sys.2.getD ov default).1.length-i<=k->k<=(sys.2.getD ov default).1.length->((ov:Int),(i:Int),(un:Int))∈MR sys ov k
 |0,h,_=>by omega
 |k+1,h,h2=>by
  rw[MR];by_cases c:(sys.2.getD ov default).1.length-(k+1)=i
  ·rw[c];exact aZ _ (JY hun hm _ h_ (aA _))
  ·exact bp _ (Jz hi hun hm k h_ h_)
theorem Ki{sys:Sys}{ov i un:Nat}(hov:ov<sys.2.length)(hi:i<(sys.2.getD ov default).1.length)(hun:un<sys.2.length)(hm:BH sys ov i un=true):∀k,sys.2.length-ov<=k->k<=sys.2.length->((ov:Int),(i:Int),(un:Int))∈OB sys k
 |0,h,_=>by omega
 |k+1,h,h2=>by
  rw[OB];by_cases c:sys.2.length-(k+1)=ov
  ·rw[c];exact aZ _ (Jz hi hun hm _ h_ (aA _))
  ·exact bp _ (Ki hov hi hun hm k h_ h_)
theorem Kn{sys:Sys}:∀{xs:List gL}{out o:List Pk},D4 sys xs out=some o->(∀y∈out,y∈o)/\∀x∈xs,(FP sys x).2=true/\(FP sys x).1∈o
 |[],out,o,h=>by cases h;exact⟨fun _ h=>h,fun _ h=>by cases h⟩
 |x::xs,out,o,h=>by
  rw[D4]at h;split at h
  ·rename_i h2;split at h
   ·cases h
   ·obtain⟨h3,h4⟩:=Kn h;refine⟨fun y hy=>h3 y (aZ _ hy),fun z hz=>?_⟩;rcases bu.1 hz with rfl|hz
    ·exact⟨h2,h3 _ (bp _ (aK.2 rfl))⟩
    ·exact h4 z hz
  ·cases h
theorem Vm{sys:Sys}(h:(DD sys).2=true){ov i un:Nat}(hov:ov<sys.2.length)(hi:i<(sys.2.getD ov default).1.length)(hun:un<sys.2.length)(hm:BH sys ov i un=true):(FP sys ((ov:Int),(i:Int),(un:Int))).2=true/\(FP sys ((ov:Int),(i:Int),(un:Int))).1∈(DD sys).1:=by
 unfold DD at h⊢;cases e:D4 sys (OB sys sys.2.length) []with
 |none=>rw[e]at h;cases h
 |some o=>exact(Kn e).2 _ (Ki hov hi hun hm _ h_ (aA _))
theorem AM:∀{t:T},ME (fl t)->t.SV
 |.v n,_=>trivial
 |.c,_=>trivial
 |.g a,h=>AM (t:=a) (ee.1 h).2
 |.f a b,h=>by
  obtain⟨h1,h2,h3⟩:=List.pairwise_append.1 (ee.1 h).2;exact⟨AM h1,AM h2,fun n ha hb=>h3 _ (vm.2 ha) _ (vm.2 hb) h_ rfl⟩
theorem CA{θ:Sb}{σ:Nat->T}:∀(k:Hu.C),(∀n:Nat,(-1-(n:Int))∈k.pre++k.B7->θ (-1-(n:Int))=fl (σ n))->sub θ k.pre=(k.sub σ).pre/\sub θ k.B7=(k.sub σ).B7
 |.hole,_=>⟨rfl,rfl⟩
 |.g k,h=>by
  obtain⟨h1,h2⟩:=CA k fun n hn=>h n (by simp only[Hu.C.pre,Hu.C.B7,bC];exact aP _ hn)
  exact⟨by simp only[Hu.C.pre,Hu.C.sub];rw[i_,aj (by decide),h1];rfl,h2⟩
 |.fl k b,h=>by
  obtain⟨h1,h2⟩:=CA k fun n hn=>h n (by
   simp only[Hu.C.pre,Hu.C.B7,bC,bu,aF]at hn⊢;rcases hn with hn|hn
   ·exact .inr (.inl hn)
   ·exact .inr (.inr (.inl hn)))
  refine⟨by simp only[Hu.C.pre,Hu.C.sub];rw[i_,aj (by decide),h1];rfl,?_⟩;simp only[Hu.C.B7,Hu.C.sub];rw[kN,h2,xI fun n hn=>h n (by simp only[Hu.C.pre,Hu.C.B7,bC,bu,aF];exact .inr (.inr (.inr (vm.2 hn))))]
 |.fr a k,h=>by
  obtain⟨h1,h2⟩:=CA k fun n hn=>h n (by
   simp only[Hu.C.pre,Hu.C.B7,bC,bu,aF]at hn⊢;rcases hn with hn|hn
   ·exact .inr (.inl (.inr hn))
   ·exact .inr (.inr hn))
  refine⟨?_,h2⟩;simp only[Hu.C.pre,Hu.C.sub];rw[i_,aj (by decide),kN,h1,xI fun n hn=>h n (by simp only[Hu.C.pre,Hu.C.B7,bC,bu,aF];exact .inr (.inl (.inl (vm.2 hn))))];rfl
theorem MT(θ:Sb):∀t:gB,sub θ (Bc t)=sub (fun x=>θ (yW x)) t
 |[]=>rfl
 |x::t=>by
  show sub θ (yW x::Bc t)=_;rw[i_,i_,MT θ t];congr 1;by_cases h0:x<0
  ·rw[ah h0,ah (EW.2 h0)]
  ·rw[aj h0,aj (fun c=>h0 (EW.1 c))];simp[yW,h0]
theorem Fv{θ:Sb}{o:gB}:∀{t:gB},(∀y∈t,y<0->y∈o)->sub (fun x=>θ (o.getD (-1-x).toNat 0)) (yJ o t)=sub θ t
 |[],_=>rfl
 |x::t,h=>by
  show sub _ (xY o x::yJ o t)=_;rw[i_,i_,Fv fun y hy h0=>h y (aP _ hy) h0];congr 1;by_cases h0:x<0
  ·have hm:=gA (h x aS h0);have e:xY o x= -1-(o.idxOf x:Int):=by unfold xY;rw[ah h0]
   rw[e,ah h_,ah h0,show(-1-(-1-(o.idxOf x:Int))).toNat=o.idxOf x by omega,List.getD_eq_getElem?_getD,az hm,fZ,List.getElem_idxOf]
  ·have e:xY o x=x:=by unfold xY;rw[aj h0]
   rw[e,aj h0,aj h0]
theorem Lf{sys:Sys}(hs:jR sys=true)(ha:sys.1=a3)(hc:DZ sys (fun y=>qj sys y.2.1 y.2.2.1)=true):zN (RR sys):=by
 unfold DZ at hc;simp only[a_]at hc;obtain⟨hll,hpk,hall⟩:=hc;unfold J2 at hll;simp only[a_]at hll;obtain⟨_,hlin⟩:=hll;have hrs:=(jO.1 hs).2.2;have ru:∀{l r:T},RR sys l r->iK sys.1 (fl l)=true/\iK sys.1 (fl r)=true/\0<=(fl l).headD 0/\∀x∈fl r,x<0->x∈fl l:=fun h=>kr.1 (hrs _ h)
 have rv:∀{l r:T},RR sys l r->∀n,r.has n->l.has n:=fun h n hn=>vm.1 ((ru h).2.2.2 _ (vm.2 hn) h_)
 refine⟨fun{l r} h=>?_,fun{l r} h=>?_,rv,?_⟩
 ·have:=(ru h).2.2.1;cases l with
  |v n=>exfalso;simp only[fl,List.headD_cons]at this;omega
  |c=>rfl
  |g a=>rfl
  |f a b=>rfl
 ·exact AM (GN.1 (bN.1 hlin _ h))
 intro l r l' r' k u σ τ h h' e hnv hu;obtain⟨ov,hov,eo⟩:=J6 h;obtain⟨un,hun,eu⟩:=J6 h';have hsp:fl l=k.pre++(fl u++k.B7):=by rw[e,vM]
 by_cases hne:ov=un/\k.pre.length=0
 ·obtain⟨rfl,hk⟩:=hne;rw[eo]at eu;have e1:=vY (bS Prod.fst eu);have e2:=vY (bS Prod.snd eu);subst e1 e2;have hk':=RK (bG.1 hk);subst hk';have e':l=u:=e;subst e';have:r.sub τ=r.sub σ:=(Hu.sub_congr fun n hn=>Hu.CG hu n (rv h n hn)).symm;show Pa (RR sys) (r.sub τ) (r.sub σ);rw[this];exact .refl _
 ·obtain⟨k1,k2,k3,k4⟩:=ru h;obtain⟨m1,m2,m3,m4⟩:=ru h';obtain⟨hsg,a1,a2,wl⟩:=ij.1 k1;obtain⟨_,b1,b2,wr⟩:=ij.1 k2;obtain⟨_,c1,c2,V7⟩:=ij.1 m1;obtain⟨_,d1,d2,wr'⟩:=ij.1 m2;have hu1:1<=(fl u).length:=(vN u).len;have hpl:k.pre.length<(fl l).length:=by rw[hsp];simp only[ai];omega
  obtain⟨p',s',q',es,hp',ws'⟩:=wl.place hpl;have hin:=es;rw[hsp]at hin;obtain⟨i1,i2⟩:=List.append_inj hin hp'.symm;have ws'':=oy ws';rw[ha]at ws'';obtain⟨i3,i4⟩:=(vN u).uniq ws'' i2;have ws:Wf sys.1 1 (fl u):=by rw[i3];exact ws'
  have hO:Ov sys.1 (fl l) (fl r) (fl l') (fl r') k.pre (fl u) k.B7:=⟨hsg,hsp,ws,wl,wr,V7,wr',a2,b2,c2,d2,k4,m4⟩;have hx:¬(fl l).getD k.pre.length default<0:=by
   have:(fl l).getD k.pre.length default=(fl u).headD 0:=by
    obtain⟨x,w,ex⟩:=AE u;rw[hsp,ex];simp[List.getD_eq_getElem?_getD]
   rw[this];cases u with
   |v n=>cases hnv
   |c=>simp[fl]
   |g a=>simp[fl]
   |f a b=>simp[fl]
  let θ:Sb:=fun x=>if -24<=x then fl (σ (-1-x).toNat)else fl (τ (-25-x).toNat)
  have hθw:∀x,Wv sys.1 1 (θ x):=fun x=>by
   rw[ha];show Wv a3 1 (if _ then _ else _);split<;>exact vN _
  have hθ1:∀n:Nat,(-24:Int)<= -1-(n:Int)->θ (-1-(n:Int))=fl (σ n):=fun n hn=>by
   show(if _ then _ else _)=_;rw[ah hn,show(-1-(-1-(n:Int))).toNat=n by omega]
  have hS:∀{t:T},Wf sys.1 1 (fl t)->sub θ (fl t)=fl (t.sub σ):=fun{t} w=>xI fun n hn=>hθ1 n ((w.all _ (vm.2 hn)).1)
  have hA:∀{t:T},Wf sys.1 1 (fl t)->sub θ (Bc (fl t))=fl (t.sub τ):=fun{t} w=>by
   rw[MT];refine xI fun n hn=>?_
   have h0:=(w.all _ (vm.2 hn)).1;have ea:yW (-1-(n:Int))= -25-(n:Int):=by unfold yW;rw[ah h_];omega
   show θ (yW (-1-(n:Int)))=_;rw[ea];show(if _ then _ else _)=_;rw[aj h_,show(-25-(-25-(n:Int))).toNat=n by omega]
  have heq:sub θ (fl u)=sub θ (Bc (fl l')):=by rw[hS ws,hA V7,hu]
  have hsol:vC sys.1 AS θ:=O9.2 fun x _=>hθw x
  obtain⟨z,z1,RP⟩:=Dm hO.sg hO.toks.1 hO.toks.2;cases z with
  |inr b=>exact absurd heq (RP.no rfl θ hsol)
  |inl b=>
   obtain⟨_,S1,_⟩:=RP.yes rfl;have hsb:vC sys.1 b θ:=(S1 θ).2 ⟨hsol,heq⟩;have ho:=uA hO hov hun eo eu z1 hne;rcases BK hO hov hun eo eu hx hne with⟨b1',b2',σ1,σ2,e1,e2,e3,hb⟩|⟨e1,e2⟩
   rotate_left
   ·rw[ho]at e1;cases e1
   rw[ho]at e1;have hbb:b=b1':=by simpa using e1
   subst hbb;have hm:BH sys ov k.pre.length un=true:=by
    unfold BH;rw[eo];simp only;rw[aj hx,ho];rfl
   obtain⟨y1,y2⟩:=Vm hpk hov (by rw[eo];exact hpl) hun hm;have ev:=xq hO hov hun eo eu hb ho;have ev':FP sys ((ov:Int),(k.pre.length:Int),(un:Int))=OF σ1 (fl l) (fl r) (sG k.pre k.B7 (fl r')) (k.pre.length:Int) un ov:=by unfold FP;simp only;rw[ev];rfl
   obtain⟨s1,s2⟩:=yF hs y2;have hpar:=bN.1 hall _ y2;rw[ev']at y1 s1 s2 hpar;unfold OF at y1 s1 s2 hpar;by_cases c:(sub σ1 (fl l)).length<=60/\(sub σ1 (fl r)).length<=60/\(sub σ1 (sG k.pre k.B7 (fl r'))).length<=60/\(mh [] (sub σ1 (fl l))).length<=24
   rotate_left
   ·rw[aj c]at y1;cases y1
   rw[ah c]at s1 s2 hpar;simp only at s1 s2 hpar;clear y1 y2 ev ev' c e1 e2 e3 hall hpk;obtain⟨ρ,hn⟩:=hb.YX;generalize hoo:mh [] (sub σ1 (fl l))=o at *;have oin:∀y∈sub σ1 (fl l),y<0->y∈o:=fun y hy h0=>by rw[<-hoo];exact yB hy h0
   have omid:∀y∈sub σ1 (sG k.pre k.B7 (fl r')),y<0->y∈o:=fun y hy h0=>oin y (hO.So hb.Zg y hy h0) h0
   have orr:∀y∈sub σ1 (fl r),y<0->y∈o:=fun y hy h0=>oin y (hO.Y6 y hy h0) h0
   have u1:=oy (ij.1 s1).2.2.2;have u2:=oy (ij.1 s2).2.2.2;rw[ha]at u1 u2;obtain⟨M,eM⟩:=L5 u1;obtain⟨N,eN⟩:=L5 u2;rw[<-eM,<-eN]at hpar;obtain⟨w,hw⟩:=Vk hs ha M N (by rw[eM];exact s1) (by rw[eN];exact s2) hpar;let μ:Sb:=fun x=>θ (o.getD (-1-x).toNat 0)
   have hμ:∀x,Wv a3 1 (μ x):=fun x=>by rw[<-ha];exact hθw _
   have g:=hw.under (Sd μ);have gM:fl (M.sub (Sd μ))=sub θ (sG k.pre k.B7 (fl r')):=by rw[<-FG fun n _=>hμ _,eM,Fv omid,hsb.MN hn]
   have gN:fl (N.sub (Sd μ))=sub θ (fl r):=by rw[<-FG fun n _=>hμ _,eN,Fv orr,hsb.MN hn]
   have lo:∀n:Nat,(-1-(n:Int))∈k.pre++k.B7->θ (-1-(n:Int))=fl (σ n):=fun n hn=>hθ1 n (by
    refine(wl.all _ ?_).1;rw[hsp];rcases aF.1 hn with hn|hn
    ·exact aZ _ hn
    ·exact bp _ (bp _ hn))
   obtain⟨p1,p2⟩:=CA k lo;have fM:M.sub (Sd μ)=(k.sub σ).fill (r'.sub τ):=vY (by
    rw[gM,vM];unfold sG;rw[kN,kN,p1,p2,hA wr'])
   have fN:N.sub (Sd μ)=r.sub σ:=vY (by rw[gN,hS wr]);rw[fM,fN]at g;exact g
def QG(G:gB->Prop)(R:List RT):Prop:=(∀y∈R,G y.1)/\(R.map (·.1)).Nodup
theorem OL{G:gB->Prop}{d:Int}:∀{us:LL}{R:List RT},(∀u∈us,G u)->QG G R->QG G (zz d us R).1
 |[],R,_,h=>h
 |u::us,R,hu,h=>by
  unfold zz;split
  ·exact OL (fun v hv=>hu v (aP _ hv)) h
  ·rename_i hn;split
   ·exact h
   ·refine OL (fun v hv=>hu v (aP _ hv)) ⟨fun y hy=>?_,?_⟩
    ·rcases aF.1 hy with hy|hy
     ·exact h.1 y hy
     ·rw[aK.1 hy];exact hu u aS
    ·rw[aR,dA];refine⟨h.2,by simp,fun a ha b hb e=>?_⟩;simp only[aO,cT,aK]at hb;subst e hb;exact hn ha
theorem I3{s:Sys}{steps:Int}{G:gB->Prop}(hG:∀t,G t->∀u∈(Ak s t).map (·.2.2),G u):∀(f k:Nat){R:List RT},QG G R->QG G (BM s steps f k R).1
 |0,k,R,h=>h
 |f+1,k,R,h=>by
  unfold BM;split
  ·rename_i hk;split
   ·exact I3 hG f _ h
   ·have hq:=OL (d:=(R.getD k default).2) (hG _ (h.1 _ (jB hk))) h;split
    ·exact I3 hG f _ hq
    ·exact hq
  ·exact h
theorem PC{a:gB}:∀{t:gB}{k:Nat},Wv a k t->(∀x∈t,Eh a x)->Wf a k t
 |t,0,h,_=>by rw[h.zero];exact Wf.nil
 |[],k+1,h,_=>by simp[Wv,xZ]at h
 |x::t,k+1,h,hx=>by
  obtain⟨h1,h2⟩:=Wv.je.1 h;exact Wf.je.2 ⟨hx x aS,PC h2 fun y hy=>hx y (aP _ hy)⟩
section
variable{sys:Sys}(hs:jR sys=true)(ha:sys.1=a3)
include hs ha
theorem Yy{t:T}(ht:iK sys.1 (fl t)=true)(h:T3 sys (fl t)=true):Nf (RR sys) t:=fun k l r σ hr e=>by
 obtain⟨_,t1,t2,t3⟩:=ij.1 ht;have hl:=(kr.1 ((jO.1 hs).2.2 _ hr)).1;obtain⟨_,_,_,wl⟩:=ij.1 hl;have hfl:fl t=k.pre++(fl (l.sub σ)++k.B7):=by rw[e,vM]
 have h1:=(vN (l.sub σ)).len;have hi:k.pre.length<(fl t).length:=by rw[hfl];simp only[ai];omega
 have hall:∀x∈fl (l.sub σ),Eh sys.1 x:=fun x hx=>t3.all x (by rw[hfl];exact bp _ (aZ _ hx))
 have hw:Wf sys.1 1 (fl (l.sub σ)):=PC (by rw[ha];exact vN _) hall;have hat:iS sys.1 (fl t) k.pre.length=fl (l.sub σ):=by rw[hfl];exact xN hw
 have hneg:=G2.1 (eX h) _ hi;rw[hat]at hneg;let θ:Sb:=fun x=>fl (σ (-1-x).toNat)
 have hθ:sub θ (fl l)=fl (l.sub σ):=xI fun n _=>by show fl (σ _)=_;rw[show(-1-(-1-(n:Int))).toNat=n by omega]
 obtain⟨b,q1,_⟩:=qP (σ:=θ) (b:=jQ) wl (by simp[jQ]) (fun n hn h0=>PC (by rw[ha];exact vN _) fun y hy=>hall y (by rw[<-hθ];exact oo.2 ⟨n,hn,.inl ⟨h0,hy⟩⟩)) fun n _ _=>.inl (uV n)
 rw[hθ]at q1;have h2:0<=B5 sys (fl (l.sub σ)):=za (p:=fun r:gB×gB=>(uW sys.1 r.1 (fl (l.sub σ)) jQ).isSome) hr (by show(uW sys.1 (fl l) _ jQ).isSome=true;rw[q1];rfl);rw[hneg]at h2;exact absurd h2 (by decide)
theorem Vd(hc:zN (RR sys)){t:gB}{steps:Int}:(V4 sys t steps).length<=1:=by
 unfold V4;split
 rotate_left
 ·simp
 rename_i hr;obtain⟨_,ht,_⟩:=Ah.1 hr;obtain⟨_,_,_,t3⟩:=ij.1 ht;have tw:=oy t3;rw[ha]at tw;obtain⟨t0,rfl⟩:=L5 tw;let G:gB->Prop:=fun u=>iK sys.1 u=true/\∃x,fl x=u/\St (RR sys) t0 x
 have hG:∀t,G t->∀u∈(Ak sys t).map (·.2.2),G u:=by
  rintro _ ⟨hx,x,rfl,hst⟩ u hu;refine⟨FC hs hx u hu,?_⟩;obtain⟨⟨i,j,u'⟩,hm,rfl⟩:=bq.1 hu;unfold Ak tL at hm;obtain⟨i',hi,hm⟩:=fj.1 hm;obtain⟨j',hj,hm⟩:=List.mem_filterMap.1 hm;obtain⟨u2,hu2,e⟩:=ay.1 hm;cases e;obtain⟨x',k,L,R,τ,q1,q2,rfl,rfl⟩:=KF hs ha (b_.1 hi) (b_.1 hj) (ij.1 hx).2.2.2 hu2;exact⟨_,q1,hst.tail ((Pa.root q2).fill k)⟩
 have hq:QG G (G6 sys (fl t0) steps).1:=I3 hG _ _ ⟨fun y hy=>by rw[aK.1 hy];exact⟨ht,t0,rfl,.nil _⟩,by simp⟩;have hnd:=hq.2.filter (T3 sys);have hmem:∀u∈(((G6 sys (fl t0) steps).1.map (·.1)).filter (T3 sys)),∃x,fl x=u/\St (RR sys) t0 x/\Nf (RR sys) x:=fun u hu=>by
  obtain⟨h1,h2⟩:=dx.1 hu;obtain⟨y,hy,rfl⟩:=bq.1 h1;obtain⟨h3,x,e,h4⟩:=hq.1 y hy;rw[<-e]at h2 h3;exact⟨x,e,h4,Yy hs ha h3 h2⟩
 generalize((G6 sys (fl t0) steps).1.map (·.1)).filter (T3 sys)=L at hnd hmem
 match L,hnd,hmem with
 |[],_,_=>simp
 |[_],_,_=>simp
 |a::b::L,hnd,hmem=>
  exfalso;obtain⟨x,e1,s1,n1⟩:=hmem a (by simp);obtain⟨y,e2,s2,n2⟩:=hmem b (by simp);have:=OA hc s1 s2 n1 n2;exact(ee.1 hnd).1 b (by simp) (by rw[<-e1,<-e2,this])
end
end Go.Proofs.YtjgbnaihpicpgaaGreat
