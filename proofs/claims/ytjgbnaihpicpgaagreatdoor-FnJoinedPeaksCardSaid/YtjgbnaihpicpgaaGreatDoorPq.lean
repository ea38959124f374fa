/- A part of the proof about FnJoinedPeaks (VF, VG, VH, VI, VJ, VK, VX, VM, VS, VT). -/
import Derived.Test.YtjgbnaihpicpgaaGreatDoorPg
import Derived.Test.YtjgbnaihpicpgaaGreatDoorPi
import Derived.Test.YtjgbnaihpicpgaaGreatDoorPj
import Derived.Test.YtjgbnaihpicpgaaGreatDoorPl
import Derived.Test.YtjgbnaihpicpgaaGreatDoorPo
import Derived.Test.YtjgbnaihpicpgaaGreatDoorPp
set_option linter.all false
noncomputable section
namespace Go.Proofs.YtjgbnaihpicpgaaGreatDoor
open Go mm Tm
open Un hiding Bd
section
variable{a:gv}{N:Pl}{b:List gv}{σ:Sb}{r:Int->Nat}
def tN(σ:Sb)(t:gv):gv:=if(sub σ t).length<=60 then sub σ t else []
theorem E8{t:gv}{i:Nat}(h:¬i<t.length):t.take i=t:=bL gY
theorem jZ.T6{α:Type}{t:Prop}{P:α->Prop}(h:¬t):jZ t (none:Option α) P:=⟨fun b hb=>(nomatch hb),fun ht=>absurd ht h⟩
theorem zY(hc:UC a N)(h:Bn a N b σ r):∀(n:Nat){t:gv}{R:Nat},t.length<=200->(∀y∈t, -(N.n:Int)<=y)->(∀y∈t,y<0->bg b y≠[]->r y<R)->jZ (R<n) (nE n t b) (·=tN σ t)
 |0,t,R,_,_,_=>jZ.T6 gY
 |n+1,t,R,hl,hn,hr=>by
  rw[nE];refine jZ.loop (fun s=>∃i:Nat,s=(sub σ (t.take i),(i:Int))/\i<=t.length/\(sub σ (t.take i)).length<=60) (fun s=>t.length-s.2.toNat) ⟨0,by simp[sub],gY,by simp[sub]⟩ ?_;rintro _ ⟨i,rfl,hi,h60⟩;rw[sR];by_cases hlt:i<t.length
  ·have hm:t.getD i default=t[i]:=iG hlt;have hmt:t[i]∈t:=bC hlt;have hst:=D1 (σ:=σ) hlt;have hle:(sub σ (t.take (i+1))).length<=(sub σ t).length:=zj;have hw:IntKind.i64.wrap ((i:Int)+1)=((i+1:Nat):Int):=by rw[lg gY gY];rfl
   rw[ah (by simp only[av];omega),ah ⟨gY,gY⟩,aq,hm,hw];have app:∀{v:gv},sub σ (t.take (i+1))=sub σ (t.take i)++v->jZ (R<n+1) (if(decide (60<((sub σ (t.take i)++v).length:Int)))=true then Option.map Sum.inr (some [])else some (.inl (sub σ (t.take i)++v,((i+1:Nat):Int))))
    (zL (fun s=>∃i:Nat,s=(sub σ (t.take i),(i:Int))/\i<=t.length/\(sub σ (t.take i)).length<=60) (fun s=>t.length-s.2.toNat) (·=tN σ t) (t.length-((i:Int)).toNat)):=fun{v} hv=>by
    rw[<-hv];by_cases c:60<(sub σ (t.take (i+1))).length
    ·rw[ah (by simp only[av];omega)];refine .some ?_;show []=tN σ t;unfold tN;rw[ak gY]
    ·rw[ak (by simp only[av];omega)];refine .some ⟨⟨i+1,rfl,gY,gY⟩,?_⟩;show t.length-(((i+1:Nat):Int)).toNat<t.length-((i:Int)).toNat;omega
   by_cases h0:t[i]<0
   ·rw[ah h0]at hst;obtain⟨e1,e2,e3⟩:=Ep hc h0 (hn _ hmt);rw[ak (show ¬decide (0<=t[i])=true by simpa using h0),e1,ah (show 0<= -1-t[i]/\ -1-t[i]<48/\ -1-t[i]<(b.length:Int)from⟨e2,e3,by rw[h.len,hc.Hg];exact e3⟩)];by_cases hb:bg b t[i]=[]
    ·have hb':b.getD (-1-t[i]).toNat default=[]:=hb;rw[h.MV _ h0 hb]at hst;rw[hb',ah (by simp),ah gY];exact app hst
    ·have hb':¬((b.getD (-1-t[i]).toNat default).length:Int)=0:=by
      have:0<(b.getD (-1-t[i]).toNat default).length:=cq.2 hb;omega
     rw[ak (show ¬(((b.getD (-1-t[i]).toNat default).length:Int)==0)=true by simpa using hb')];obtain⟨w1,w2⟩:=h.tm _ h0 hb;have ih:=zY hc h n (t:=bg b t[i]) (R:=r t[i]) (by have:=hc.small w2;omega) w2.le (fun y hy hy0 hby=>h.rk _ h0 hb y hy hy0 hby);refine jZ.bind (ih.weak fun hR=>by have:=hr _ hmt h0 hb;omega) ?_;intro z hz;have hv:=h.val _ h0 hb;have hpos:1<=(sub σ (bg b t[i])).length:=(w1.sub fun x _ hx=>h.wv x hx).len;by_cases c:(sub σ (bg b t[i])).length<=60
     ·have hz':z=σ t[i]:=by rw[hz,hv];unfold tN;rw[ah c]
      subst hz';rw[ak (by rw[hv];simp only[bw];omega),ah (by rw[hv];omega)];exact app hst
     ·have hz':z=[]:=by rw[hz];unfold tN;rw[ak c]
      subst hz';rw[ah (by simp)];refine .some ?_;show []=tN σ t;unfold tN;rw[ak];have:(sub σ (t.take (i+1))).length=(sub σ (t.take i)).length+(σ t[i]).length:=by rw[hst,ai]
      rw[hv]at this;omega
   ·rw[ak h0]at hst;rw[ah (show decide (0<=t[i])=true by simp only[av];omega),ah gY];exact app hst
  ·rw[ak (by simp only[av];omega)];refine .some ?_;show sub σ (t.take i)=tN σ t;rw[E8 hlt]at h60⊢;unfold tN;rw[ah h60]
theorem xX(hc:UC a N)(h:Bn a N b σ r){t:gv}(hl:t.length<=200)(hn:∀y∈t, -(N.n:Int)<=y):nF t b=some (tN σ t):=by
 obtain⟨M,hM⟩:=za r t;exact(jZ.Zo (t:=True) (M+1) fun n=>(zY hc h n hl hn (R:=M) fun y hy _ _=>hM y hy).weak fun c=>by omega).eq
def Er(σ:Sb)(out t:gv)(z:gv⊕gz):Prop:=if(out++sub σ t).length<=60 then z=.inl (out++sub σ t)else ∃o,z=.inr ([],o)
theorem xj(hc:UC a N)(h:Bn a N b σ r)(u0:gv):∀(n:Nat){t out:gv}{R:Nat},t.length<=200->out.length<=60->(∀y∈t, -(N.n:Int)<=y)->(∀y∈t,y<0->bg b y≠[]->r y<R)->jZ (R<n) (jT n out t u0 b) (Er σ out t)
 |0,t,out,R,_,_,_,_=>jZ.T6 gY
 |n+1,t,out,R,hl,ho,hn,hr=>by
  rw[jT];refine jZ.loop (fun s=>∃i:Nat,s=(out++sub σ (t.take i),(i:Int))/\i<=t.length/\(out++sub σ (t.take i)).length<=60) (fun s=>t.length-s.2.toNat) ⟨0,by simp[sub],gY,by simpa[sub]using ho⟩ ?_;rintro _ ⟨i,rfl,hi,h60⟩;rw[nQ];by_cases hlt:i<t.length
  ·have hm:t.getD i default=t[i]:=iG hlt;have hmt:t[i]∈t:=bC hlt;have hst:=D1 (σ:=σ) hlt;have hle:(sub σ (t.take (i+1))).length<=(sub σ t).length:=zj;have hw:IntKind.i64.wrap ((i:Int)+1)=((i+1:Nat):Int):=by rw[lg gY gY];rfl
   rw[ah (by simp only[av];omega),ah ⟨gY,gY⟩,aq,hm,hw];have app:sub σ (t.take (i+1))=sub σ (t.take i)++[t[i]]->jZ (R<n+1) (if(((out++sub σ (t.take i)).length:Int)==60)=true then Option.map Sum.inr (some (.inr ([],out++sub σ (t.take i))))else
    if((out++sub σ (t.take i)).length+1)*8<=140737488355328 then some (.inl ((out++sub σ (t.take i))++[t[i]],((i+1:Nat):Int)))else none)
    (zL (fun s=>∃i:Nat,s=(out++sub σ (t.take i),(i:Int))/\i<=t.length/\(out++sub σ (t.take i)).length<=60) (fun s=>t.length-s.2.toNat) (Er σ out t) (t.length-((i:Int)).toNat)):=fun hv=>by
    have hln:(sub σ (t.take (i+1))).length=(sub σ (t.take i)).length+1:=by rw[hv,ai,aL]
    rw[ai]at h60;by_cases c:(out++sub σ (t.take i)).length=60
    ·rw[ah (by simp only[bw];omega)];refine .some ?_;show Er σ out t _;rw[ai]at c;unfold Er;rw[ai,ak gY];exact⟨_,rfl⟩
    ·rw[ak (by simp only[bw];omega),ah (by rw[ai];omega),aG,<-hv];rw[ai]at c;refine .some ⟨⟨i+1,rfl,gY,by rw[ai];omega⟩,?_⟩;show t.length-(((i+1:Nat):Int)).toNat<t.length-((i:Int)).toNat;omega
   by_cases h0:t[i]<0
   ·rw[ah h0]at hst;obtain⟨e1,e2,e3⟩:=Ep hc h0 (hn _ hmt);rw[ah (show decide (t[i]<0)=true by simpa using h0),e1,ah (show 0<= -1-t[i]/\ -1-t[i]<48/\ -1-t[i]<(b.length:Int)from⟨e2,e3,by rw[h.len,hc.Hg];exact e3⟩)];by_cases hb:bg b t[i]=[]
    ·have hb':b.getD (-1-t[i]).toNat default=[]:=hb;rw[h.MV _ h0 hb]at hst;rw[hb',ah (show([]:gv).isEmpty=true from rfl)];exact app hst
    ·have hb':¬(b.getD (-1-t[i]).toNat default).isEmpty=true:=by rw[List.isEmpty_iff];exact hb
     rw[ak hb'];obtain⟨w1,w2⟩:=h.tm _ h0 hb;have ih:=xj hc h u0 n (t:=bg b t[i]) (out:=out++sub σ (t.take i)) (R:=r t[i]) (by have:=hc.small w2;omega) h60 w2.le (fun y hy hy0 hby=>h.rk _ h0 hb y hy hy0 hby);refine jZ.bind (ih.weak fun hR=>by have:=hr _ hmt h0 hb;omega) ?_;intro z hz;have hv:=h.val _ h0 hb;rw[hv]at hst;have e5:(out++sub σ (t.take i))++sub σ (bg b t[i])=out++sub σ (t.take (i+1)):=by rw[aG,<-hst]
     unfold Er at hz;rw[e5]at hz;by_cases c:(out++sub σ (t.take (i+1))).length<=60
     ·rw[ah c]at hz;subst hz;refine .some ⟨⟨i+1,rfl,gY,c⟩,?_⟩;show t.length-(((i+1:Nat):Int)).toNat<t.length-((i:Int)).toNat;omega
     ·rw[ak c]at hz;obtain⟨o,rfl⟩:=hz;refine .some ?_;show Er σ out t _;rw[ai]at c;unfold Er;rw[ai,ak gY];exact⟨_,rfl⟩
   ·rw[ak h0]at hst;rw[ak (show ¬decide (t[i]<0)=true by simpa using h0)];exact app hst
  ·rw[ak (by simp only[av];omega)];refine .some ?_;show Er σ out t (.inl (out++sub σ (t.take i)));rw[E8 hlt]at h60⊢;unfold Er;rw[ah h60]
theorem rZ(hc:UC a N)(h:Bn a N b σ r)(u0:gv){t:gv}(hl:t.length<=200)(hn:∀y∈t, -(N.n:Int)<=y):
 ∃z,jb t u0 b=some z/\if(sub σ t).length<=60 then z=.inl (sub σ t)else ∃o,z=.inr ([],o):=by
 obtain⟨M,hM⟩:=za r t;obtain⟨z,h1,h2⟩:=(jZ.Zo (t:=True) (M+1) fun n=>(xj hc h u0 n hl (out:=[]) (by simp) hn (R:=M) fun y hy _ _=>hM y hy).weak fun c=>by omega).get;refine⟨z,h1,?_⟩;unfold Er at h2;rw[bp]at h2;exact h2
end
def zT(x:Int):Int:=if x<0 then x-24 else x
def BY(t:gv):gv:=t.map zT
theorem AG(t:gv):(BY t).length=t.length:=by simp[BY]
theorem AH{x:Int}:zT x<0<->x<0:=by unfold zT;split<;>omega
theorem Qp(a:gv)(x:Int):lR a (zT x)=lR a x:=by
 unfold zT;split
 ·rename_i h;rw[uZ h,uZ gY]
 ·rfl
theorem Ff{a:gv}:∀{t:gv}{k:Nat},Wv a k t->Wv a k (BY t)
 |[],k,h=>by
  have:=h.len;have hk:k=0:=by simpa using this
  subst hk;exact Wv.nil
 |x::t,0,h=>by have:=h.zero;cases this
 |x::t,k+1,h=>by
  obtain⟨h1,h2⟩:=Wv.jt.1 h;show Wv a (k+1) (zT x::BY t);refine Wv.jt.2 ⟨?_,by rw[Qp];exact Ff h2⟩;unfold zT;split<;>omega
theorem qp{a:gv}:∀{t:gv}{k:Nat},Wf a k t->Wv a k t
 |[],k,h=>by
  have:=h.len;have hk:k=0:=by simpa using this
  subst hk;exact Wv.nil
 |x::t,0,h=>by have:=h.zero;cases this
 |x::t,k+1,h=>by
  obtain⟨h1,h2⟩:=Wf.jt.1 h;exact Wv.jt.2 ⟨h1.2,qp h2⟩
theorem AU{t:gv}(hl:t.length<=60)(hn:∀y∈t, -24<=y):mD t=some (BY t):=by
 unfold mD;have e1:ja t=some t:=by
  unfold ja;refine(jZ.Qj (t:=True) (P:=(·=t)) ?_ fun h=>?_).eq
  ·rw[ah gY];exact .some rfl
  ·subst h;simp
 rw[e1,aa];have h0:((0:Int),t)=((fun i:Nat=>((i:Int),(t.take i).map zT++t.drop i)) 0):=by simp
 rw[h0];refine qn (n:=t.length) (fun i:Nat=>((i:Int),(t.take i).map zT++t.drop i)) (fun i hi=>?_) ?_
 ·have hg:((t.take i).map zT++t.drop i).length=t.length:=by simp;omega
  have hti:((t.take i).map zT).length=i:=by simp;omega
  have hd:=aA hi;have ht:t.take (i+1)=t.take i++[t[i]]:=by rw[bV hi]
  have hge:((t.take i).map zT++t.drop i).getD i default=t[i]:=by rw[ay,bH gY,hti,cM,hd];rfl
  have hw:IntKind.i64.wrap ((i:Int)+1)=((i+1:Nat):Int):=by rw[lg gY gY];rfl
  have hmt:=hn _ (bC hi);rw[sL,ah (by simp only[av];omega),ah ⟨gY,by rw[hg];omega⟩,aq,hge,hw];have e3:(t.take (i+1)).map zT++t.drop (i+1)=(t.take i).map zT++(zT t[i]::t.drop (i+1)):=by rw[ht,aR,aG];rfl
  by_cases h0:t[i]<0
  ·rw[ah (by simpa using h0),lg gY gY,e3,hd,List.set_append_right _ _ gY,hti,cM,fK];unfold zT;rw[ah h0]
  ·have haw:zT t[i]=t[i]:=by unfold zT;rw[ak h0]
   rw[haw,<-hd]at e3;rw[ak (by simpa using h0),e3]
 ·rw[sL,ak (by simp),cA,f_,aW];rfl
theorem Be{t:gv}(hl:t.length<=60)(hn:∀y∈t, -24<=y):oT t 24=some (BY t):=by
 unfold oT;have h0:(([]:gv),(0:Int))=((fun i:Nat=>((t.take i).map zT,(i:Int))) 0):=by simp
 rw[h0];refine qn (n:=t.length) (fun i:Nat=>((t.take i).map zT,(i:Int))) (fun i hi=>?_) ?_
 ·have hti:((t.take i).map zT).length=i:=by simp;omega
  have ht:t.take (i+1)=t.take i++[t[i]]:=by rw[bV hi]
  have hw:IntKind.i64.wrap ((i:Int)+1)=((i+1:Nat):Int):=by rw[lg gY gY];rfl
  have hmt:=hn _ (bC hi);rw[qi,ah (by simp only[av];omega),ah gY,aq,iG hi,hw,ht,aR];by_cases h0:t[i]<0
  ·rw[ah (by simpa using h0),ah gY,lg gY gY];have:zT t[i]=t[i]-24:=by unfold zT;rw[ah h0]
   rw[aP,this];rfl
  ·rw[ak (by simpa using h0),ah gY];have:zT t[i]=t[i]:=by unfold zT;rw[ak h0]
   rw[aP,this];rfl
 ·rw[qi,ak (by simp),cA];rfl
theorem Qo{a t:gv}(hw:Wf a 1 t)(hl:t.length<=60):Tok a (BY t):=⟨Ff (qp hw),by rw[AG];exact hl,fun y hy=>by
 obtain⟨x,hx,rfl⟩:=bz.1 hy;have:=(hw.all x hx).1;unfold zT;split<;>omega⟩
theorem VX{a t:gv}(hw:Wf a 1 t)(hl:t.length<=60):Tok a t:=⟨qp hw,hl,fun y hy=>by have:=(hw.all y hy).1;omega⟩
theorem GY{a p u s v:gv}(ha:jR a=true)(hu:Wv a 1 u)(hl:(p++(u++s)).length<=60)(hv:v.length<=60):
 qv a (p++(u++s)) (p.length:Int) v=some (if(p++(v++s)).length<=60 then(p++(v++s),true)else([],false)):=by
 have hd:(p++(u++s)).drop p.length=u++s:=bS;have hl':=hl;simp only[ai]at hl';unfold qv;rw[ah (by simp only[ai];omega),rM ha (by show List.length _<_;omega) hd hu,aa];have e1:((p++(u++s)).length:Int)-s.length=((p.length+u.length:Nat):Int):=by simp;omega
 rw[e1,ah (by simp;omega),aq,aq,dK,<-List.drop_drop,hd,bS];rw[vz (by simp) (by intro w hw;simp at hw;rcases hw with rfl|rfl|rfl<;>omega),aa];have e2:[p,v,s].flatten=p++(v++s):=by simp
 rw[e2];by_cases h:(p++(v++s)).length<=60
 ·rw[ak (by simp only[av];omega),ah h]
 ·rw[ah (by simp only[av];omega),ak h]
theorem RS(s:gv)(x:Int):∃m,Cb s x=s++m:=by
 unfold Cb;split
 ·exact⟨[x],rfl⟩
 ·exact⟨[],(aW _).symm⟩
theorem xq(s:gv)(x:Int)(t:gv):mB s (x::t)=mB (Cb s x) t:=rfl
theorem Kr(s t u:gv):mB s (t++u)=mB (mB s t) u:=List.foldl_append
theorem FG:∀(t s:gv),∃m,mB s t=s++m
 |[],s=>⟨[],(aW _).symm⟩
 |x::t,s=>by
  obtain⟨m,h⟩:=RS s x;obtain⟨m',h'⟩:=FG t (Cb s x);exact⟨m++m',by rw[xq,h',h,aG]⟩
theorem RR{t s:gv}{y:Int}(h:y∈s):y∈mB s t:=by
 obtain⟨m,e⟩:=FG t s;rw[e];exact bk _ h
theorem yY:∀{t s:gv}{y:Int},y∈t->y<0->y∈mB s t
 |x::t,s,y,h,h0=>by
  rw[xq];rcases bI.1 h with rfl|h
  ·refine RR ?_;unfold Cb;by_cases c:y∈s
   ·rw[ak (fun k=>k.2 c)];exact c
   ·rw[ah ⟨h0,c⟩];simp
  ·exact yY h h0
theorem Kt:∀{t s:gv},(∀y∈s,y<0)->∀y∈mB s t,y<0
 |[],s,h=>h
 |x::t,s,h=>by
  rw[xq];refine Kt fun y hy=>?_
  unfold Cb at hy;split at hy
  ·rename_i c;rcases aN.1 hy with hy|hy
   ·exact h y hy
   ·rw[aX.1 hy];exact c.1
  ·exact h y hy
theorem xu:∀{t s:gv},s.Nodup->(mB s t).Nodup
 |[],s,h=>h
 |x::t,s,h=>by
  rw[xq];refine xu ?_;unfold Cb;split
  ·rename_i c;exact dW.2 ⟨h,by simp,fun y hy z hz e=>by rw[aX.1 hz]at e;exact c.2 (e▸hy)⟩
  ·exact h
theorem CL:∀{t s:gv},(mB s t).length<=s.length+t.length
 |[],s=>by simp[mB]
 |x::t,s=>by
  rw[xq];have h:=CL (t:=t) (s:=Cb s x);have:(Cb s x).length<=s.length+1:=by unfold Cb;split<;>simp
  rw[aQ];omega
theorem DN:∀{t s:gv},(∀y∈t,y<0->y∈s)->mB s t=s
 |[],s,_=>rfl
 |x::t,s,h=>by
  have e:Cb s x=s:=by
   unfold Cb;rw[ak];exact fun c=>c.2 (h x bh c.1)
  rw[xq,e];exact DN fun y hy=>h y (a_ _ hy)
theorem KW{t s:gv}{i:Nat}(hi:i<t.length):mB s (t.take (i+1))=Cb (mB s (t.take i)) t[i]:=by rw[bV hi,Kr];rfl
theorem Kf{o m:gv}{x:Int}(h:x∈o):(o++m).idxOf x=o.idxOf x:=by rw[List.idxOf_append,ah h]
theorem Em{s:gv}(hs:Small s)(v:Int):jf s v=some (if v∈s then(s.idxOf v:Int)else -1):=by
 have h1:jf s v=some (lE (fun x=>v==x) s):=by
  unfold jf;refine xQ (fun i x hi hx hg=>?_) ?_
  ·have hs':s.length<1099511627776:=hs;rw[jP,ah (by simp only[av];omega),ah ⟨gY,gY⟩,aq,hg,lg gY gY];by_cases h:v=x
   ·rw[ah (by simpa using h),ah (by simpa using h)];rfl
   ·rw[ak (by simpa using h),ak (by simpa using h)]
  ·rw[jP,ak (by simp)];rfl
 rw[h1];congr 1;unfold lE;by_cases h:v∈s
 ·rw[ah h];have e:s.findIdx? (fun x=>v==x)=some (s.idxOf v):=by
   refine List.findIdx?_eq_some_iff_findIdx_eq.2 ⟨ef.2 h,?_⟩;unfold List.idxOf;congr 1;funext x;exact gp.2 (by simp only[bw];exact eq_comm)
  rw[e]
 ·rw[ak h];have e:s.findIdx? (fun x=>v==x)=none:=eX.2 fun x hx=>by simp only[bW];rintro rfl;exact h hx
  rw[e]
theorem OZ{out:List gv}{v:Nat}{t s:gv}(hl:t.length<=60)(hs:s.length<=200)(ho:out.length<=3)(hv:v<=3):
 iw (nC out v t) (s,0,t)=some (.inl (mB s t,out++[wJ (mB s t) t],((v+1:Nat):Int))):=by
 have h0:(s,(0:Int),t)=((fun i:Nat=>(mB s (t.take i),(i:Int),(t.take i).map (zP (mB s t))++t.drop i)) 0):=by simp[mB]
 rw[h0];refine qn (n:=t.length) (fun i:Nat=>(mB s (t.take i),(i:Int),(t.take i).map (zP (mB s t))++t.drop i)) (fun i hi=>?_) ?_
 ·have hg:((t.take i).map (zP (mB s t))++t.drop i).length=t.length:=by simp;omega
  have hti:((t.take i).map (zP (mB s t))).length=i:=by simp;omega
  have hd:=aA hi;have ht:t.take (i+1)=t.take i++[t[i]]:=by rw[bV hi]
  have hge:((t.take i).map (zP (mB s t))++t.drop i).getD i default=t[i]:=by rw[ay,bH gY,hti,cM,hd];rfl
  have hw:IntKind.i64.wrap ((i:Int)+1)=((i+1:Nat):Int):=by rw[lg gY gY];rfl
  have e3:(t.take (i+1)).map (zP (mB s t))++t.drop (i+1)=(t.take i).map (zP (mB s t))++(zP (mB s t) t[i]::t.drop (i+1)):=by rw[ht,aR,aG];rfl
  have hset:∀y,((t.take i).map (zP (mB s t))++t.drop i).set i y=(t.take i).map (zP (mB s t))++(y::t.drop (i+1)):=fun y=>by rw[hd,List.set_append_right _ _ gY,hti,cM,fK]
  have hoi:(mB s (t.take i)).length<=260:=by
   have:=CL (t:=t.take i) (s:=s);simp at this;omega
  obtain⟨m,hm⟩:=FG (t.drop (i+1)) (mB s (t.take (i+1)));have hfin:mB s t=mB s (t.take (i+1))++m:=by rw[<-hm,<-Kr,cx]
  rw[nC,ah (by simp only[av];omega),ah ⟨gY,by rw[hg];omega⟩,aq,hge,hw,e3];have hod:=KW (s:=s) hi;by_cases h1:0<=t[i]
  ·have e:zP (mB s t) t[i]=t[i]:=by unfold zP;rw[ak gY]
   have e4:mB s (t.take (i+1))=mB s (t.take i):=by rw[hod];unfold Cb;rw[ak (fun c=>by omega)]
   rw[ah (by simpa using h1),e,<-hd,e4]
  ·rw[ak (by simpa using h1),Em (by show List.length _<_;omega),aa];by_cases h2:t[i]∈mB s (t.take i)
   ·have e4:mB s (t.take (i+1))=mB s (t.take i):=by rw[hod];unfold Cb;rw[ak (fun c=>c.2 h2)]
    have hidx:=ef.2 h2;have e5:zP (mB s t) t[i]= -1-((mB s (t.take i)).idxOf t[i]:Int):=by unfold zP;rw[ah gY,hfin,e4,Kf h2]
    rw[ah h2,ak (by simp only[av];omega),lg gY gY,hset,e5,e4]
   ·have e4:mB s (t.take (i+1))=mB s (t.take i)++[t[i]]:=by rw[hod];unfold Cb;rw[ah ⟨gY,h2⟩]
    have e5:zP (mB s t) t[i]= -1-((mB s (t.take i)).length:Int):=by unfold zP;rw[ah gY,hfin,e4,Kf (by simp),List.idxOf_append,ak h2];simp
    rw[ak h2,ah (by simp),ah gY,lg gY gY,hset,e5,e4]
 ·rw[nC,ak (by simp),ah gY,cA,f_,aW,lg gY gY];rfl
theorem Gv{t:gv}(hl:t.length<=60):ja t=some t:=by
 unfold ja;refine(jZ.Qj (t:=True) (P:=(·=t)) ?_ fun h=>?_).eq
 ·rw[ah gY];exact .some rfl
 ·subst h;simp
theorem BN{p q w:gv}(hp:p.length<=60)(hq:q.length<=60)(hw:w.length<=60)(vq:∀y∈q,y<0->y∈p)(vw:∀y∈w,y<0->y∈p):
 pR [p,q,w]=some [wJ (mB [] p) p,wJ (mB [] p) q,wJ (mB [] p) w]:=by
 unfold pR;have hol:(mB [] p).length<=60:=by have:=CL (t:=p) (s:=[]);simp at this;omega
 have one:∀(s:gv)(out:List gv)(v:Nat)(t:gv),[p,q,w].getD v default=t->v<3->t.length<=60->s.length<=200->out.length<=3->nB [p,q,w] (s,out,(v:Int))=some (.inl (mB s t,out++[wJ (mB s t) t],((v+1:Nat):Int))):=fun s out v t ht hv hl hs ho=>by
  rw[nB,ah (by simp only[av,aQ,bN];omega),ah ⟨gY,by simp only[aQ,bN];omega⟩,aq,ht,Gv hl,aa];exact OZ hl hs ho gY
 have o2:mB (mB [] p) q=mB [] p:=DN fun y hy h0=>yY (vq y hy h0) h0
 have o3:mB (mB [] p) w=mB [] p:=DN fun y hy h0=>yY (vw y hy h0) h0
 have s1:=one [] [] 0 p rfl gY hp (by simp) (by simp);have s2:=one (mB [] p) [wJ (mB [] p) p] 1 q rfl gY hq gY (by simp);have s3:=one (mB [] p) [wJ (mB [] p) p,wJ (mB [] p) q] 2 w rfl gY hw gY (by simp);rw[o2]at s2;rw[o3]at s3;refine(iI s1).trans ((iI s2).trans ((iI s3).trans (iz ?_)));rw[nB,ak (by simp)];rfl
theorem Ev{t:gv}(hl:t.length<=60):qz t=some (mB [] t):=by
 unfold qz;have h0:(([]:gv),(0:Int))=((fun i:Nat=>(mB [] (t.take i),(i:Int))) 0):=by simp[mB]
 rw[h0];refine qn (n:=t.length) (fun i:Nat=>(mB [] (t.take i),(i:Int))) (fun i hi=>?_) ?_
 ·have hw:IntKind.i64.wrap ((i:Int)+1)=((i+1:Nat):Int):=by rw[lg gY gY];rfl
  have hoi:(mB [] (t.take i)).length<=60:=by
   have:=CL (t:=t.take i) (s:=[]);simp at this;omega
  have hod:=KW (s:=[]) hi;rw[qj,ah (by simp only[av];omega),ah gY,aq,iG hi,hw,hod];unfold Cb;by_cases h0:t[i]<0
  ·rw[ah (by simpa using h0),yb (by show List.length _<_;omega),aa];by_cases h1:t[i]∈mB [] (t.take i)
   ·rw[ah (by simpa using h1),ak (fun c=>c.2 h1)]
   ·rw[ak (by simpa using h1),ah gY,ah ⟨h0,h1⟩]
  ·rw[ak (by simpa using h0),ak (fun c=>h0 c.1)]
 ·rw[qj,ak (by simp),cA];rfl
theorem Jo{o t out:gv}{i:Nat}(ho:o.length<=60)(hn:o.Nodup)(hi:i<t.length)(hl:t.length<=60)(hout:out.length<=60)(hin:t[i]<0->t[i]∈o):
 iw (oW o t out i) (t[i],0)=some (.inl (out++[zP o t[i]],((i+1:Nat):Int))):=by
 have hw:IntKind.i64.wrap ((i:Int)+1)=((i+1:Nat):Int):=by rw[lg gY gY];rfl
 by_cases h0:t[i]<0
 ·have hm:=hin h0;have hx:=ef.2 hm;have hst:(t[i],(0:Int))=((fun k:Nat=>((if o.idxOf t[i]<k then -1-(o.idxOf t[i]:Int)else t[i]),(k:Int))) 0):=by simp
  rw[hst];refine qn (n:=o.length) (fun k:Nat=>((if o.idxOf t[i]<k then -1-(o.idxOf t[i]:Int)else t[i]),(k:Int))) (fun k hk=>?_) ?_
  ·have hwk:IntKind.i64.wrap ((k:Int)+1)=((k+1:Nat):Int):=by rw[lg gY gY];rfl
   rw[oW,ah (by simp only[av];omega),aq,iG hi,ah (by simpa using h0),ah gY,aq,iG hk,hwk];by_cases h1:o[k]=t[i]
   ·have e:o.idxOf t[i]=k:=by rw[<-h1];exact hn.idxOf_getElem k hk
    rw[ah (by simpa using h1),lg gY gY,e,ah gY]
   ·have e:o.idxOf t[i]≠k:=fun e=>h1 (by subst e;exact List.getElem_idxOf hx)
    rw[ak (by simpa using h1)];by_cases c:o.idxOf t[i]<k
    ·rw[ah c,ah gY]
    ·rw[ak c,ak gY]
  ·rw[oW,ak (by simp),ah hx,ah gY,hw];unfold zP;rw[ah h0];rfl
 ·have e:zP o t[i]=t[i]:=by unfold zP;rw[ak h0]
  refine iz ?_;rw[oW,aq,iG hi,ak (show ¬decide (t[i]<0)=true by simpa using h0),hw,e,ah (show(out.length+1)*8<=140737488355328 by omega)];split<;>rfl
theorem As{o t:gv}(ho:o.length<=60)(hn:o.Nodup)(hl:t.length<=60)(hin:∀y∈t,y<0->y∈o):qy o t=some (wJ o t):=by
 unfold qy;have h0:(([]:gv),(0:Int))=((fun i:Nat=>((t.take i).map (zP o),(i:Int))) 0):=by simp
 rw[h0];refine qn (n:=t.length) (fun i:Nat=>((t.take i).map (zP o),(i:Int))) (fun i hi=>?_) ?_
 ·have ht:t.take (i+1)=t.take i++[t[i]]:=by rw[bV hi]
  rw[sU,ah (by simp only[av];omega),ah gY,aq,iG hi,Jo ho hn hi hl (by simp;omega) (hin _ (bC hi)),ht,aR];rfl
 ·rw[sU,ak (by simp),cA];rfl
theorem GX{p:gv}(hp:p.length<=60)(h0:0<p.length):∃m,jG (wJ (mB [] p) p)=some m/\decide (m< -24)=decide (24<((mB [] p).length:Int)):=by
 have hl:(wJ (mB [] p) p).length=p.length:=by simp[wJ]
 obtain⟨m,h1,h2⟩:=(x_ (x:=wJ (mB [] p) p) gY (by show List.length _<_;omega)).get;refine⟨m,h1,?_⟩;rw[eG];constructor
 ·intro hm;refine de fun c=>?_
  have: -24<=m:=(h2 (-24)).2 fun y hy=>by
   obtain⟨x,hx,rfl⟩:=bz.1 hy;unfold zP;by_cases hx0:x<0
   ·rw[ah hx0];have:=ef.2 (yY (s:=[]) hx hx0);omega
   ·rw[ak hx0];omega
  omega
 ·intro hm;refine de fun c=>?_
  have h3:=(h2 (-24)).1 gY;have hk:24<(mB [] p).length:=by omega
  have hmem:(mB [] p)[24]∈mB [] p:=bC hk;have hin:(mB [] p)[24]∈p:=(FH hmem).elim (fun c=>by cases c) id;have hneg:=Kt (t:=p) (s:=[]) (by simp) _ hmem;have:=h3 _ (bz.2 ⟨_,hin,rfl⟩);unfold zP at this;rw[ah hneg,(xu (t:=p) eV).idxOf_getElem 24 hk]at this;omega
structure HV(a s t:gv)(b1 b2:List gv)(σ1 σ2:Sb):Prop where
 Zj:∃r,Bn a (N0 a s t) b1 σ1 r
 bn2:∃r,Bn a (N0 a s t) b2 σ2 r
 sol:∀τ,wO a b1 τ<->wO a b2 τ
 ZD:sub σ1 s=sub σ1 t
 eq2:sub σ2 s=sub σ2 t
theorem JB{a s t:gv}(ha:jR a=true)(hs:Tok a s)(ht:Tok a t):
 (∃b1 b2 σ1 σ2,jS s t a DM=some (.inl b1)/\mF a s t DM=some (true,b2)/\HV a s t b1 b2 σ1 σ2)\/
 (∃b1 b2,jS s t a DM=some (.inr b1)/\mF a s t DM=some (false,b2)):=by
 obtain⟨z,e1,R1⟩:=IP ha hs ht;obtain⟨⟨f,b2⟩,e2,R2⟩:=Js ha hs ht;cases z with
 |inl b1=>
  obtain⟨⟨σ1,r1,h1⟩,S1,_⟩:=R1.yes rfl;have q1:=(S1 σ1).1 h1.self;cases f with
  |false=>exact absurd q1.2 (R2.no rfl σ1 q1.1)
  |true=>
   obtain⟨⟨σ2,r2,h2⟩,S2,_⟩:=R2.yes rfl;have q2:=(S2 σ2).1 h2.self;exact .inl ⟨b1,b2,σ1,σ2,e1,e2,⟨r1,h1⟩,⟨r2,h2⟩,fun τ=>(S1 τ).trans (S2 τ).symm,q1.2,q2.2⟩
 |inr b1=>
  cases f with
  |false=>exact .inr ⟨b1,b2,e1,e2⟩
  |true=>
   obtain⟨⟨σ2,r2,h2⟩,S2,_⟩:=R2.yes rfl;have q2:=(S2 σ2).1 h2.self;exact absurd q2.2 (R1.no rfl σ2 q2.1)
abbrev Pk:=gv×gv×gv×Int×Int×Int
abbrev pk0:Pk×Bool:=(([],[],[],0,0,0),false)
structure Ov(a:gv)(l r l' r' p s q:gv):Prop where
 sg:jR a=true
 split:l=p++(s++q)
 ws:Wf a 1 s
 wl:Wf a 1 l
 wr:Wf a 1 r
 wl':Wf a 1 l'
 wr':Wf a 1 r'
 ll:l.length<=60
 lr:r.length<=60
 ll':l'.length<=60
 XP:r'.length<=60
 vr:∀x∈r,x<0->x∈l
 vr':∀x∈r',x<0->x∈l'
section
variable{a l r l' r' p s q:gv}{b1 b2:List gv}{σ1 σ2:Sb}
theorem Ov.ls(h:Ov a l r l' r' p s q):s.length<=60:=by have:=h.ll;rw[h.split]at this;simp only[ai]at this;omega
theorem Ov.toks(h:Ov a l r l' r' p s q):Tok a s/\Tok a (BY l'):=⟨VX h.ws h.ls,Qo h.wl' h.ll'⟩
def tr(p q r':gv):gv:=p++(BY r'++q)
def OT(σ:Sb)(l r mid:gv)(i un ov:Int):Pk×Bool:=
 if(sub σ l).length<=60/\(sub σ r).length<=60/\(sub σ mid).length<=60/\(mB [] (sub σ l)).length<=24 then
  ((wJ (mB [] (sub σ l)) (sub σ l),wJ (mB [] (sub σ l)) (sub σ mid),wJ (mB [] (sub σ l)) (sub σ r),i,un,ov),true)
 else pk0
theorem Vr{N:Pl}{ρ1 ρ2:Int->Nat}(h1:Bn a N b1 σ1 ρ1)(h2:Bn a N b2 σ2 ρ2)(h:∀τ,wO a b1 τ<->wO a b2 τ)(l r mid:gv)(i un ov:Int):OT σ1 l r mid i un ov=OT σ2 l r mid i un ov:=by
 obtain⟨k1,k2,k3,k4,k5⟩:=Kx h1 h2 h l mid [];obtain⟨m1,m2,m3,m4,m5⟩:=Kx h1 h2 h l r [];unfold OT;rw[k1,k2,k3,k4,k5,m4,m5]
theorem ER{t:gv}(h:Wf a 1 t):∀y∈t, -48<=y:=fun y hy=>by have:=(h.all y hy).1;omega
theorem S8{t:gv}(h:Wf a 1 t):∀y∈BY t, -48<=y:=fun y hy=>by
 obtain⟨x,hx,rfl⟩:=bz.1 hy;have:=(h.all x hx).1;unfold zT;split<;>omega
theorem Ov.U9(h:Ov a l r l' r' p s q):∀y∈tr p q r', -48<=y:=fun y hy=>by
 have hl:=ER h.wl;rw[h.split]at hl;unfold tr at hy;rcases aN.1 hy with hy|hy
 ·exact hl y (bk _ hy)
 ·rcases aN.1 hy with hy|hy
  ·exact S8 h.wr' y hy
  ·exact hl y (bE _ (bE _ hy))
theorem Ov.Ru(h:Ov a l r l' r' p s q):(tr p q r').length<=200:=by
 have:=h.ll;rw[h.split]at this;have:=h.XP;unfold tr;simp only[ai,AG]at *;omega
theorem Ov.VV{σ:Sb}(h:Ov a l r l' r' p s q)(he:sub σ s=sub σ (BY l')):∀y∈sub σ (tr p q r'),y<0->y∈sub σ l:=fun y hy h0=>by
 rw[h.split,jK,jK];unfold tr at hy;rw[jK,jK]at hy;rcases aN.1 hy with hy|hy
 ·exact bk _ hy
 ·rcases aN.1 hy with hy|hy
  ·refine bE _ (bk _ ?_);rw[he];obtain⟨x,hx,⟨hx0,hyx⟩|⟨hx0,rfl⟩⟩:=nO.1 hy
   ·obtain⟨z,hz,rfl⟩:=bz.1 hx;exact nO.2 ⟨zT z,bz.2 ⟨z,h.vr' z hz (AH.1 hx0),rfl⟩,.inl ⟨hx0,hyx⟩⟩
   ·exact absurd h0 hx0
  ·exact bE _ (bE _ hy)
theorem Ov.vrr{σ:Sb}(h:Ov a l r l' r' p s q):∀y∈sub σ r,y<0->y∈sub σ l:=fun y hy h0=>by
 obtain⟨x,hx,⟨hx0,hyx⟩|⟨hx0,rfl⟩⟩:=nO.1 hy
 ·exact nO.2 ⟨x,h.vr x hx hx0,.inl ⟨hx0,hyx⟩⟩
 ·exact absurd h0 hx0
theorem xg{σ:Sb}{t:gv}(h:1<=(sub σ t).length):(((tN σ t).length:Int)==0)=true<->¬(sub σ t).length<=60:=by
 unfold tN;rw[bw];split
 ·rename_i c;constructor
  ·intro e;omega
  ·intro e;exact absurd c e
 ·rename_i c;simp[c]
end
section
variable{sys:Sys}{l r l' r' p s q:gv}{b1 b2:List gv}{σ1 σ2:Sb}{ov un:Nat}
theorem Ov.drop{a:gv}(h:Ov a l r l' r' p s q):l.drop p.length=s++q:=by rw[h.split,bS]
theorem Ov.take{a:gv}(h:Ov a l r l' r' p s q):l.take p.length=p:=by rw[h.split,dK]
theorem Ov.tail{a:gv}(h:Ov a l r l' r' p s q):l.drop (l.length-q.length)=q:=by
 rw[h.split];have:(p++(s++q)).length-q.length=(p++s).length:=by simp only[ai];omega
 rw[this,<-aG,bS]
theorem Ov.lens{a:gv}(h:Ov a l r l' r' p s q):p.length+s.length+q.length=l.length/\1<=s.length:=by
 refine⟨?_,h.ws.len⟩;have:=bX List.length h.split;simp only[ai]at this;omega
theorem Ov.smL{a:gv}(h:Ov a l r l' r' p s q):Small l:=by have:=h.ll;show l.length<_;omega
theorem Ce(h:Ov sys.1 l r l' r' p s q)(hov:ov<sys.2.length)(hun:un<sys.2.length)(eo:sys.2.getD ov default=(l,r))(eu:sys.2.getD un default=(l',r')){z:Bool×List gv}(hz:mF sys.1 s (BY l') DM=some z):
 mq sys ov (p.length:Int) un=some z:=by
 obtain⟨k1,k2⟩:=h.lens;unfold mq;rw[ah gY,aq,eo];simp only;rw[zi h.sg h.ll h.drop (qp h.ws),aa,ah gY,ah gY,aq,eu];simp only;rw[Be h.ll' (fun y hy=>(h.wl'.all y hy).1),aa,show((l.length:Int)-q.length).toNat=l.length-q.length by omega,aq,zk h.drop gY,hz];rfl
theorem zZ(h:Ov sys.1 l r l' r' p s q)(hov:ov<sys.2.length)(hun:un<sys.2.length)(eo:sys.2.getD ov default=(l,r))(eu:sys.2.getD un default=(l',r')){z:Bool×List gv}(hz:mF sys.1 s (BY l') DM=some z)
 (hx:¬l.getD p.length default<0) (hne:¬(ov=un/\p.length=0)):jL sys ov (p.length:Int) un=some z.1:=by
 obtain⟨k1,k2⟩:=h.lens;have hll:=h.ll;unfold jL;rw[ah gY,aq,eo];simp only;rw[lg gY gY,lD,aa,ah (by simp;omega),ah gY,aq,ak (by simpa using hx),Ce h hov hun eo eu hz];simp only[aa];by_cases c1:((p.length:Int)==0)=true
 ·have c2:¬((ov:Int)==(un:Int))=true:=by simp only[bw]at c1⊢;omega
  rw[ah c1,ak c2]
 ·rw[ak c1]
theorem yf(h:Ov sys.1 l r l' r' p s q)(hov:ov<sys.2.length)(hun:un<sys.2.length)(eo:sys.2.getD ov default=(l,r))(eu:sys.2.getD un default=(l',r')){z:List gv⊕List gv}(hz:jS s (BY l') sys.1 DM=some z)
 (hne:¬(ov=un/\p.length=0)):je sys ov (p.length:Int) un=some (Sum.elim (fun b=>.inl (sys.1,b)) (fun _=>.inr ()) z):=by
 have body:(if 0<=(ov:Int)/\(ov:Int)<(sys.2.length:Int)then
  (kg sys.1 ((sys.2.getD (ov:Int).toNat default).1) (p.length:Int)).bind fun r_3=>
  if 0<=(un:Int)/\(un:Int)<(sys.2.length:Int)then
   (mD ((sys.2.getD (un:Int).toNat default).1)).bind fun r_4=>
   (mE r_3 r_4 sys.1 (List.replicate 48 [])).bind fun r_5=>
   if r_5.1=true then
    some (.inl (sys.1,r_5.2))
   else
    some (.inr ())
  else none
  else none)=some (Sum.elim (fun b=>Sum.inl (sys.1,b)) (fun _=>Sum.inr ()) z):=by
  rw[ah gY,aq,eo];simp only;rw[wH h.sg h.smL h.drop (qp h.ws),aa,ah gY,aq,eu];simp only;rw[AU h.ll' (fun y hy=>(h.wl'.all y hy).1),aa];unfold mE;rw[hz];cases z<;>rfl
 unfold je;by_cases c1:((ov:Int)==(un:Int))=true
 ·have c2:¬((p.length:Int)==0)=true:=by simp only[bw]at c1⊢;omega
  rw[ah c1,ak c2];exact body
 ·rw[ak c1];exact body
theorem BQ(h:Ov sys.1 l r l' r' p s q)(hov:ov<sys.2.length)(hun:un<sys.2.length)(eo:sys.2.getD ov default=(l,r))(eu:sys.2.getD un default=(l',r'))(hx:¬l.getD p.length default<0)(hne:¬(ov=un/\p.length=0)):
 (∃b1 b2 σ1 σ2,je sys ov (p.length:Int) un=some (.inl (sys.1,b1))/\jL sys ov (p.length:Int) un=some true/\mq sys ov (p.length:Int) un=some (true,b2)/\HV sys.1 s (BY l') b1 b2 σ1 σ2)\/
 (je sys ov (p.length:Int) un=some (.inr ())/\jL sys ov (p.length:Int) un=some false):=by
 rcases JB h.sg h.toks.1 h.toks.2 with⟨b1,b2,σ1,σ2,e1,e2,hb⟩|⟨b1,b2,e1,e2⟩
 ·exact .inl ⟨b1,b2,σ1,σ2,yf h hov hun eo eu e1 hne,zZ h hov hun eo eu e2 hx hne,Ce h hov hun eo eu e2,hb⟩
 ·exact .inr ⟨yf h hov hun eo eu e1 hne,zZ h hov hun eo eu e2 hx hne⟩
theorem FW(h:Ov sys.1 l r l' r' p s q)(hov:ov<sys.2.length)(hun:un<sys.2.length)(eo:sys.2.getD ov default=(l,r))(eu:sys.2.getD un default=(l',r'))(hb:HV sys.1 s (BY l') b1 b2 σ1 σ2)(ht:mq sys ov (p.length:Int) un=some (true,b2)):
 nG sys ov (p.length:Int) un=some (OT σ2 l r (tr p q r') (p.length:Int) un ov):=by
 obtain⟨k1,k2⟩:=h.lens;have hll:=h.ll;have hlr':=h.XP;have hlr:=h.lr;obtain⟨ρ,hn⟩:=hb.bn2;have hc:=Kq h.sg h.toks.1 h.toks.2;have hlo:∀{t:gv},(∀y∈t, -48<=y)->∀y∈t, -((N0 sys.1 s (BY l')).n:Int)<=y:=fun h y hy=>h y hy
 have hsl:1<=(sub σ2 l).length:=((qp h.wl).sub fun x _ hx=>hn.wv x hx).len;have hsr:1<=(sub σ2 r).length:=((qp h.wr).sub fun x _ hx=>hn.wv x hx).len;have hmw:1<=(sub σ2 (BY r')).length:=((Ff (qp h.wr')).sub fun x _ hx=>hn.wv x hx).len;have B_:1<=(sub σ2 (tr p q r')).length:=by unfold tr;rw[jK,jK];simp only[ai];omega
 have hfl:(tN σ2 l).length<=60:=by
  unfold tN;split
  ·rename_i c;exact c
  ·simp
 unfold nG;rw[ht,aa,ah gY,aq,eo];simp only;rw[zi h.sg h.ll h.drop (qp h.ws),aa,ah gY,aq,h.take,ah gY,ah gY,aq,eu];simp only;rw[Be h.XP (fun y hy=>(h.wr'.all y hy).1),aa,ah (by rw[AG];omega),xX hc hn gY (hlo (ER h.wl)),aa,ah gY,
  show((l.length:Int)-q.length).toNat=l.length-q.length by omega,h.tail,ah (by rw[ai,AG];omega),aG,show p++(BY r'++q)=tr p q r' from rfl,
  xX hc hn h.Ru (hlo h.U9),aa,xX hc hn gY (hlo (ER h.wr)),aa,Ev hfl,aa]
 unfold OT;by_cases c1:(sub σ2 l).length<=60
 ·rw[ak (fun c=>(xg hsl).1 c c1)];by_cases c2:(sub σ2 (tr p q r')).length<=60
  ·rw[ak (fun c=>(xg B_).1 c c2)];by_cases c3:(sub σ2 r).length<=60
   ·rw[ak (fun c=>(xg hsr).1 c c3)];have f1:tN σ2 l=sub σ2 l:=ah c1;have f2:tN σ2 (tr p q r')=sub σ2 (tr p q r'):=ah c2;have f3:tN σ2 r=sub σ2 r:=ah c3;rw[f1,f2,f3];by_cases c4:(mB [] (sub σ2 l)).length<=24
    ·have hin:∀{t:gv},(∀y∈t,y<0->y∈sub σ2 l)->∀y∈t,y<0->y∈mB [] (sub σ2 l):=fun h y hy h0=>yY (h y hy h0) h0
     rw[ak (by simp only[av];omega),As gY (xu eV) c1 (hin fun y hy _=>hy),aa,As gY (xu eV) c2 (hin (h.VV hb.eq2)),aa,
      As gY (xu eV) c3 (hin h.vrr),aa,ah ⟨c1,c3,c2,c4⟩]
    ·rw[ah (by simp only[av];omega),ak (fun c=>c4 c.2.2.2)]
   ·rw[ah ((xg hsr).2 c3),ak (fun c=>c3 c.2.1)]
  ·rw[ah ((xg B_).2 c2),ak (fun c=>c2 c.2.2.1)]
 ·rw[ah ((xg hsl).2 c1),ak (fun c=>c1 c.1)]
theorem xM(h:Ov sys.1 l r l' r' p s q)(hov:ov<sys.2.length)(hun:un<sys.2.length)(eo:sys.2.getD ov default=(l,r))(eu:sys.2.getD un default=(l',r'))(hb:HV sys.1 s (BY l') b1 b2 σ1 σ2)(ho:je sys ov (p.length:Int) un=some (.inl (sys.1,b1))):
 mZ sys ov (p.length:Int) un=some (OT σ1 l r (tr p q r') (p.length:Int) un ov):=by
 obtain⟨k1,k2⟩:=h.lens;have hll:=h.ll;have hlr':=h.XP;have hlr:=h.lr;obtain⟨ρ,hn⟩:=hb.Zj;have hc:=Kq h.sg h.toks.1 h.toks.2;have hlo:∀{t:gv},(∀y∈t, -48<=y)->∀y∈t, -((N0 sys.1 s (BY l')).n:Int)<=y:=fun h y hy=>h y hy
 have hsl:1<=(sub σ1 l).length:=((qp h.wl).sub fun x _ hx=>hn.wv x hx).len;have hws:Wv sys.1 1 (sub σ1 s):=(qp h.ws).sub fun x _ hx=>hn.wv x hx
 have hlop:∀y∈p, -48<=y:=fun y hy=>ER h.wl y (by rw[h.split];exact bk _ hy)
 have esl:sub σ1 l=sub σ1 p++(sub σ1 s++sub σ1 q):=by rw[h.split,jK,jK]
 have esm:sub σ1 (tr p q r')=sub σ1 p++(sub σ1 (BY r')++sub σ1 q):=by unfold tr;rw[jK,jK]
 obtain⟨z1,e1,q1⟩:=rZ hc hn sys.1 (t:=l) gY (hlo (ER h.wl));obtain⟨z2,e2,q2⟩:=rZ hc hn sys.1 (t:=r) gY (hlo (ER h.wr));obtain⟨z3,e3,q3⟩:=rZ hc hn sys.1 (t:=BY r') (by rw[AG];omega) (hlo (S8 h.wr'));obtain⟨z4,e4,q4⟩:=rZ hc hn sys.1 (t:=p) gY (hlo hlop);have aw:=AU h.XP (fun y hy=>(h.wr'.all y hy).1);unfold mZ;rw[ho,aa];simp only[dP];rw[ah gY,aq,eo];simp only;rw[e1,aa];have hfail:∀{g:gv->Option (Pk×Bool)},True:=fun{g}=>trivial
 unfold OT;by_cases c1:(sub σ1 l).length<=60
 ·rw[ah c1]at q1;subst q1;simp only[dP];rw[e2,aa];by_cases c2:(sub σ1 r).length<=60
  ·rw[ah c2]at q2;subst q2;simp only[dP];rw[ah gY,aq,eu];simp only;rw[aw,aa,e3,aa];by_cases c3:(sub σ1 (BY r')).length<=60
   ·rw[ah c3]at q3;subst q3;simp only[dP];have hpl:(sub σ1 p).length<=60:=by rw[esl]at c1;simp only[ai]at c1;omega
    rw[ah hpl]at q4;subst q4;have e5:lA l (p.length:Int) sys.1 b1=some ((sub σ1 p).length:Int):=by
     unfold lA;rw[ah gY,aq,h.take,e4,aa];rfl
    rw[e5,aa,esl,GY h.sg hws (by rw[<-esl];exact c1) c3,aa,<-esl,<-esm];by_cases c4:(sub σ1 (tr p q r')).length<=60
    ·rw[ah c4];simp only[aC];rw[BN c1 c4 c2 (h.VV hb.ZD) h.vrr,aa];obtain⟨m,m1,m2⟩:=GX c1 gY;rw[ah ⟨gY,by simp⟩,show [wJ (mB [] (sub σ1 l)) (sub σ1 l),wJ (mB [] (sub σ1 l)) (sub σ1 (tr p q r')),wJ (mB [] (sub σ1 l)) (sub σ1 r)].getD 0 default=wJ (mB [] (sub σ1 l)) (sub σ1 l)from rfl,m1,aa,m2];by_cases c5:(mB [] (sub σ1 l)).length<=24
     ·rw[ak (by simp only[av];omega),ah ⟨gY,by simp⟩,ah ⟨gY,by simp⟩,ah ⟨c1,c2,c4,c5⟩];rfl
     ·rw[ah (by simp only[av];omega),ak (fun c=>c5 c.2.2.2)]
    ·rw[ak c4,ak (show ¬((sub σ1 l).length<=60/\(sub σ1 r).length<=60/\(sub σ1 (tr p q r')).length<=60/\(mB [] (sub σ1 l)).length<=24)from fun c=>c4 c.2.2.1)];rfl
   ·rw[ak c3]at q3;obtain⟨o,rfl⟩:=q3;simp only[d_];rw[ak];intro c;have:=c.2.2.1;rw[esm]at this;simp only[ai]at this;omega
  ·rw[ak c2]at q2;obtain⟨o,rfl⟩:=q2;simp only[d_];rw[ah gY,aq,eu];simp only;rw[aw,aa,e3,aa,ak (show ¬((sub σ1 l).length<=60/\(sub σ1 r).length<=60/\(sub σ1 (tr p q r')).length<=60/\(mB [] (sub σ1 l)).length<=24)from fun c=>c2 c.2.1)];cases z3<;>rfl
 ·rw[ak c1]at q1;obtain⟨o,rfl⟩:=q1;simp only[d_];rw[e2,aa,ak (show ¬((sub σ1 l).length<=60/\(sub σ1 r).length<=60/\(sub σ1 (tr p q r')).length<=60/\(mB [] (sub σ1 l)).length<=24)from fun c=>c1 c.1)];have e6:∀(f:gv×gv×gv×Int×Int×Int->Pk×Bool),True:=fun _=>trivial
  cases z2 with
  |inl x=>
   simp only[dP];rw[ah gY,aq,eu];simp only;rw[aw,aa,e3,aa];cases z3<;>rfl
  |inr x=>
   simp only[d_];rw[ah gY,aq,eu];simp only;rw[aw,aa,e3,aa];cases z3<;>rfl
theorem L_(h:Ov sys.1 l r l' r' p s q)(hov:ov<sys.2.length)(hun:un<sys.2.length)(eo:sys.2.getD ov default=(l,r))(eu:sys.2.getD un default=(l',r'))(hx:¬l.getD p.length default<0)(hne:¬(ov=un/\p.length=0)):
 (∃b1 z,je sys ov (p.length:Int) un=some (.inl (sys.1,b1))/\jL sys ov (p.length:Int) un=some true/\mZ sys ov (p.length:Int) un=some z/\nG sys ov (p.length:Int) un=some z)\/
 (je sys ov (p.length:Int) un=some (.inr ())/\jL sys ov (p.length:Int) un=some false):=by
 rcases BQ h hov hun eo eu hx hne with⟨b1,b2,σ1,σ2,e1,e2,e3,hb⟩|e
 ·refine .inl ⟨b1,_,e1,e2,xM h hov hun eo eu hb e1,?_⟩;rw[FW h hov hun eo eu hb e3];obtain⟨r1,n1⟩:=hb.Zj;obtain⟨r2,n2⟩:=hb.bn2;rw[Vr n1 n2 hb.sol]
 ·exact .inr e
end
def CJ(sys:Sys)(ov i un:Nat):Bool:=
 if(sys.2.getD ov default).1.getD i default<0 then false else match je sys ov i un with|some (.inl _)=>true|_=>false
structure MtF(sys:Sys)(ov i un:Nat):Prop where
 meets:jL sys ov i un=some (CJ sys ov i un)
 lap:¬(sys.2.getD ov default).1.getD i default<0->∃z,je sys ov i un=some z/\(CJ sys ov i un=true->∃y,z=.inl y)/\(CJ sys ov i un=false->z=.inr ())
 Cz:CJ sys ov i un=true->∃z,mZ sys ov i un=some z/\nG sys ov i un=some z
theorem DJ{sys:Sys}(hs:jN sys=true){ov i un:Nat}(hov:ov<sys.2.length)(hi:i<(sys.2.getD ov default).1.length)(hun:un<sys.2.length):MtF sys ov i un:=by
 obtain⟨ha,hn,hrs⟩:=mg.1 hs;obtain⟨k1,k2,k3,k4⟩:=lF.1 (hrs _ (jM hov));obtain⟨m1,m2,m3,m4⟩:=lF.1 (hrs _ (jM hun));obtain⟨_,a1,a2,a3⟩:=iB.1 k1;obtain⟨_,b1,b2,b3⟩:=iB.1 k2;obtain⟨_,c1,c2,c3⟩:=iB.1 m1;obtain⟨_,d1,d2,d3⟩:=iB.1 m2;obtain⟨p,s,q,e,hp,hw⟩:=a3.place hi;have h:Ov sys.1 (sys.2.getD ov default).1 (sys.2.getD ov default).2 (sys.2.getD un default).1 (sys.2.getD un default).2 p s q:=⟨ha,e,hw,a3,b3,c3,d3,a2,b2,c2,d2,k4,m4⟩;subst hp;by_cases hx:(sys.2.getD ov default).1.getD p.length default<0
 ·have hB:CJ sys ov p.length un=false:=by unfold CJ;rw[ah hx]
  refine⟨?_,fun c=>absurd hx c,fun c=>by rw[hB]at c;cases c⟩;rw[hB];unfold jL;rw[ah gY,aq,lg gY gY,lD,aa,ah (by simp only[bu,av];omega),ah gY,aq,ah (by simpa using hx)]
 ·by_cases hne:ov=un/\p.length=0
  ·have ho:je sys ov (p.length:Int) un=some (.inr ()):=by
    unfold je;rw[ah (by simp only[bw];omega),ah (by simp only[bw];omega)]
   have hB:CJ sys ov p.length un=false:=by unfold CJ;rw[ak hx,ho]
   refine⟨?_,fun _=>⟨_,ho,(fun c=>absurd (hB.symm.trans c) (by decide)),fun _=>rfl⟩,fun c=>by rw[hB]at c;cases c⟩;rw[hB];unfold jL;rw[ah gY,aq,lg gY gY,lD,aa,ah (by simp only[bu,av];omega),ah gY,aq,ak (by simpa using hx),ah (by simp only[bw];omega),ah (by simp only[bw];omega)]
  ·rcases L_ h hov hun rfl rfl hx hne with⟨y,z,e1,e2,e3,e4⟩|⟨e1,e2⟩
   ·have hB:CJ sys ov p.length un=true:=by unfold CJ;rw[ak hx,e1]
    exact⟨by rw[hB];exact e2,fun _=>⟨_,e1,fun _=>⟨_,rfl⟩,fun c=>absurd (hB.symm.trans c) (by decide)⟩,fun _=>⟨z,e3,e4⟩⟩
   ·have hB:CJ sys ov p.length un=false:=by unfold CJ;rw[ak hx,e1]
    exact⟨by rw[hB];exact e2,fun _=>⟨_,e1,(fun c=>absurd (hB.symm.trans c) (by decide)),fun _=>rfl⟩,fun c=>by rw[hB]at c;cases c⟩
def Rg(sys:Sys)(ov i:Nat):Nat->List gG
 |0=>[]
 |k+1=>(if CJ sys ov i (sys.2.length-(k+1))=true then [((ov:Int),(i:Int),((sys.2.length-(k+1):Nat):Int))]else [])++Rg sys ov i k
def Qn(sys:Sys)(ov:Nat):Nat->List gG
 |0=>[]
 |k+1=>Rg sys ov ((sys.2.getD ov default).1.length-(k+1)) sys.2.length++Qn sys ov k
def RZ(sys:Sys):Nat->List gG
 |0=>[]
 |k+1=>Qn sys (sys.2.length-(k+1)) (sys.2.getD (sys.2.length-(k+1)) default).1.length++RZ sys k
section
variable{sys:Sys}(hs:jN sys=true)
include hs
theorem EV{ov i:Nat}(hov:ov<sys.2.length)(hi:i<(sys.2.getD ov default).1.length):∀k,k<=sys.2.length->wI sys ov i k=some (Rg sys ov i k)
 |0,_=>rfl
 |k+1,hk=>by
  have hf:=DJ hs hov hi (un:=sys.2.length-(k+1)) gY;rw[wI,Rg,EV hov hi k gY];by_cases hx:(sys.2.getD ov default).1.getD i default<0
  ·have hB:CJ sys ov i (sys.2.length-(k+1))=false:=by unfold CJ;rw[ah hx]
   rw[ah (by simpa using hx),hB];rfl
  ·rw[ak (by simpa using hx)];obtain⟨z,e,q1,q2⟩:=hf.lap hx;rw[e,aa];cases hB:CJ sys ov i (sys.2.length-(k+1))with
   |true=>obtain⟨y,rfl⟩:=q1 hB;rfl
   |false=>rw[q2 hB];rfl
theorem EU{ov:Nat}(hov:ov<sys.2.length):∀k,k<=(sys.2.getD ov default).1.length->BO sys ov k=some (Qn sys ov k)
 |0,_=>rfl
 |k+1,hk=>by rw[BO,Qn,EV hs hov gY _ (aF _),aa,EU hov k gY];rfl
theorem EW:∀k,k<=sys.2.length->BP sys k=some (RZ sys k)
 |0,_=>rfl
 |k+1,hk=>by rw[BP,RZ,EU hs gY _ (aF _),aa,EW k gY];rfl
end
def KB(sys:Sys)(x:Int×Int×Int):Pk×Bool:=(mZ sys x.1 x.2.1 x.2.2).getD pk0
def E2(sys:Sys):List gG->List Pk->Option (List Pk)
 |[],out=>some out
 |x::xs,out=>if(KB sys x).2=true then if out.length=64 then none else E2 sys xs (out++[(KB sys x).1])else none
theorem FP(sys:Sys):∀(xs ys:List gG)(out:List Pk),E2 sys (xs++ys) out=(E2 sys xs out).bind (E2 sys ys)
 |[],ys,out=>rfl
 |x::xs,ys,out=>by
  rw[bP,E2,E2];split
  ·split
   ·rfl
   ·exact FP sys xs ys _
  ·rfl
theorem CN{sys:Sys}:∀{xs:List gG}{out o:List Pk},E2 sys xs out=some o->out.length<=64->o.length<=64
 |[],out,o,h,hl=>by cases h;exact hl
 |x::xs,out,o,h,hl=>by
  rw[E2]at h;split at h
  ·split at h
   ·cases h
   ·exact CN h (by rw[ai,aL];omega)
  ·cases h
def Wk(sys:Sys)(x:Int×Int×Int):Prop:=∃ov i un:Nat,x=((ov:Int),(i:Int),(un:Int))/\ov<sys.2.length/\i<(sys.2.getD ov default).1.length/\un<sys.2.length/\CJ sys ov i un=true
theorem S4{sys:Sys}{ov i:Nat}(hov:ov<sys.2.length)(hi:i<(sys.2.getD ov default).1.length):∀k,k<=sys.2.length->∀x∈Rg sys ov i k,Wk sys x
 |0,_,x,h=>by cases h
 |k+1,hk,x,h=>by
  rw[Rg]at h;rcases aN.1 h with h|h
  ·split at h
   ·rename_i hB;exact⟨ov,i,_,aX.1 h,hov,hi,gY,hB⟩
   ·cases h
  ·exact S4 hov hi k gY x h
theorem SM{sys:Sys}{ov:Nat}(hov:ov<sys.2.length):∀k,k<=(sys.2.getD ov default).1.length->∀x∈Qn sys ov k,Wk sys x
 |0,_,x,h=>by cases h
 |k+1,hk,x,h=>by
  rw[Qn]at h;rcases aN.1 h with h|h
  ·exact S4 hov gY _ (aF _) x h
  ·exact SM hov k gY x h
theorem OQ{sys:Sys}:∀k,k<=sys.2.length->∀x∈RZ sys k,Wk sys x
 |0,_,x,h=>by cases h
 |k+1,hk,x,h=>by
  rw[RZ]at h;rcases aN.1 h with h|h
  ·exact SM gY _ (aF _) x h
  ·exact OQ k gY x h
def ry(sys:Sys):List Pk×Bool:=match E2 sys (RZ sys sys.2.length) []with|some o=>(o,true)|none=>([],false)
theorem Ct{sys:Sys}(hs:jN sys=true){els:List gG}(hg:∀x∈els,Wk sys x):∀(xs:List gG){j:Nat}{out:List Pk},els.drop j=xs->out.length<=64->
 iw (mL sys els) (j,out)=some (match E2 sys xs out with|some o=>(o,true)|none=>([],false)):=by
 intro xs;induction xs with
 |nil=>
  intro j out hd ho;have hj:els.length<=j:=by simpa using hd
  refine iz ?_;rw[mL,ak gY];rfl
 |cons x xs ih=>
  intro j out hd ho;have hj:j<els.length:=by
   refine de fun c=>?_
   rw[eC gY]at hd;cases hd
  have hx:els.getD j default=x:=by
   rw[aA hj]at hd;rw[iG hj];exact(cQ hd).1
  have hd':els.drop (j+1)=xs:=by
   rw[aA hj]at hd;exact(cQ hd).2
  obtain⟨ov,i,un,ex,h1,h2,h3,hB⟩:=hg x (by rw[<-hx];exact jM hj);obtain⟨z,e1,_⟩:=(DJ hs h1 h2 h3).Cz hB;have hv:KB sys x=z:=by unfold KB;rw[ex];simp only;rw[e1];rfl
  have e0:mL sys els (j,out)=if z.2=true then(if out.length=64 then some (.inr ([],false))else some (.inl (j+1,out++[z.1])))else some (.inr ([],false)):=by
   rw[mL,ah hj,hx,ex];simp only;rw[e1,aa];by_cases c1:z.2=true
   ·rw[ah c1,ah c1];by_cases c2:out.length=64
    ·rw[ah (by simp only[bw];omega),ah c2];rfl
    ·rw[ak (by simp only[bw];omega),ak c2,ah gY]
   ·rw[ak c1,ak c1];rfl
  rw[E2,hv];by_cases c1:z.2=true
  ·rw[ah c1]at e0⊢;by_cases c2:out.length=64
   ·rw[ah c2]at e0⊢;exact iz e0
   ·rw[ak c2]at e0⊢;exact(iI e0).trans (ih hd' (by rw[ai,aL];omega))
  ·rw[ak c1]at e0⊢;exact iz e0
theorem xZ{sys:Sys}(hs:jN sys=true):qL sys=some (ry sys):=by
 unfold qL uH Bt;rw[aa,EW hs _ (aF _),aa];exact Ct hs (OQ _ (aF _)) _ (by simp) (by simp)
theorem Jr{sys:Sys}(hs:jN sys=true){ov i:Nat}(hov:ov<sys.2.length)(hi:i<(sys.2.getD ov default).1.length):∀(k:Nat){out:List Pk},k<=sys.2.length->out.length<=64->
 iw (kJ sys ov i) (out,((sys.2.length-k:Nat):Int))=some (match E2 sys (Rg sys ov i k) out with|some o=>.inl (o,((i+1:Nat):Int))|none=>.inr (.inr ([],false))):=by
 obtain⟨_,hn,hrs⟩:=mg.1 hs;have hil:i<60:=by
  obtain⟨_,_,a2,_⟩:=iB.1 (lF.1 (hrs _ (jM hov))).1;omega
 intro k;induction k with
 |zero=>
  intro out hk ho;refine iz ?_;rw[kJ,ak (by simp only[av];omega),lg gY gY];rfl
 |succ k ih=>
  intro out hk ho;have hun:sys.2.length-(k+1)<sys.2.length:=by omega
  have hf:=DJ hs hov hi hun;have hw:IntKind.i64.wrap (((sys.2.length-(k+1):Nat):Int)+1)=((sys.2.length-k:Nat):Int):=by rw[lg gY gY];omega
  rw[Rg];cases hB:CJ sys ov i (sys.2.length-(k+1))with
  |false=>
   have e0:kJ sys ov i (out,((sys.2.length-(k+1):Nat):Int))=some (.inl (out,((sys.2.length-k:Nat):Int))):=by rw[kJ,ah (by simp only[av];omega),hf.meets,aa,hB,ak (by simp),hw]
   refine(iI e0).trans ?_;rw[ih gY ho];rfl
  |true=>
   obtain⟨z,e1,e2⟩:=hf.Cz hB;have hv:KB sys ((ov:Int),(i:Int),((sys.2.length-(k+1):Nat):Int))=z:=by unfold KB;simp only;rw[e1];rfl
   rw[ah rfl,dU,E2,hv];have e0:kJ sys ov i (out,((sys.2.length-(k+1):Nat):Int))=if z.2=true then(if out.length=64 then some (.inr (.inr (.inr ([],false))))else some (.inl (out++[z.1],((sys.2.length-k:Nat):Int))))else some (.inr (.inr (.inr ([],false)))):=by
    rw[kJ,ah (by simp only[av];omega),hf.meets,aa,hB,ah rfl,e2,aa,hw];by_cases c1:z.2=true
    ·rw[ah c1,ah c1];by_cases c2:out.length=64
     ·rw[ah (by simp only[bw];omega),ah c2];rfl
     ·rw[ak (by simp only[bw];omega),ak c2,ah gY]
    ·rw[ak c1,ak c1];rfl
   by_cases c1:z.2=true
   ·rw[ah c1]at e0⊢;by_cases c2:out.length=64
    ·rw[ah c2]at e0⊢;exact iz e0
    ·rw[ak c2]at e0⊢;exact(iI e0).trans (ih gY (by rw[ai,aL];omega))
   ·rw[ak c1]at e0⊢;exact iz e0
theorem Jq{sys:Sys}(hs:jN sys=true){ov:Nat}(hov:ov<sys.2.length):∀(k:Nat){out:List Pk},k<=(sys.2.getD ov default).1.length->out.length<=64->
 iw (lY sys ov) (out,(((sys.2.getD ov default).1.length-k:Nat):Int))=some (match E2 sys (Qn sys ov k) out with|some o=>.inl (o,((ov+1:Nat):Int))|none=>.inr ([],false)):=by
 obtain⟨_,hn,hrs⟩:=mg.1 hs;intro k;induction k with
 |zero=>
  intro out hk ho;refine iz ?_;rw[lY,ah gY,aq,ak (by simp only[av];omega),lg gY gY];rfl
 |succ k ih=>
  intro out hk ho;have hi:(sys.2.getD ov default).1.length-(k+1)<(sys.2.getD ov default).1.length:=by omega
  have e:=Jr hs hov hi sys.2.length (out:=out) (aF _) ho;rw[cM]at e;rw[Qn,FP];have e0:lY sys ov (out,(((sys.2.getD ov default).1.length-(k+1):Nat):Int))=iw (kJ sys ov (((sys.2.getD ov default).1.length-(k+1):Nat):Int)) (out,0):=by rw[lY,ah gY,aq,ah (by simp only[av];omega)]
  rw[show(0:Int)=((0:Nat):Int)from rfl,e]at e0;cases hp:E2 sys (Rg sys ov ((sys.2.getD ov default).1.length-(k+1)) sys.2.length) out with
  |none=>rw[hp]at e0;exact iz e0
  |some o=>
   rw[hp]at e0;refine(iI e0).trans ?_;have:=ih (out:=o) gY (CN hp ho);rw[show(((sys.2.getD ov default).1.length-(k+1)+1:Nat):Int)=(((sys.2.getD ov default).1.length-k:Nat):Int) by omega];exact this
theorem Jp{sys:Sys}(hs:jN sys=true):∀(k:Nat){out:List Pk},k<=sys.2.length->out.length<=64->
 iw (nh sys) (out,((sys.2.length-k:Nat):Int))=some (match E2 sys (RZ sys k) out with|some o=>(o,true)|none=>([],false)):=by
 intro k;induction k with
 |zero=>
  intro out hk ho;refine iz ?_;rw[nh,ak (by simp only[av];omega)];rfl
 |succ k ih=>
  intro out hk ho;have hov:sys.2.length-(k+1)<sys.2.length:=by omega
  have e:=Jq hs hov (sys.2.getD (sys.2.length-(k+1)) default).1.length (out:=out) (aF _) ho;rw[cM]at e;rw[RZ,FP];have e0:nh sys (out,((sys.2.length-(k+1):Nat):Int))=iw (lY sys ((sys.2.length-(k+1):Nat):Int)) (out,0):=by rw[nh,ah (by simp only[av];omega)]
  rw[show(0:Int)=((0:Nat):Int)from rfl,e]at e0;cases hp:E2 sys (Qn sys (sys.2.length-(k+1)) (sys.2.getD (sys.2.length-(k+1)) default).1.length) out with
  |none=>rw[hp]at e0;exact iz e0
  |some o=>
   rw[hp]at e0;refine(iI e0).trans ?_;have:=ih (out:=o) gY (CN hp ho);rw[show((sys.2.length-(k+1)+1:Nat):Int)=((sys.2.length-k:Nat):Int) by omega];exact this
theorem Aw(sys:Sys):qw sys=some (if jN sys=true then ry sys else([],false)):=by
 unfold qw;rw[sd,aa];by_cases hs:jN sys=true
 ·rw[ah hs,ah hs];unfold ug;have:=Jp hs sys.2.length (out:=[]) (aF _) (by simp);rw[cM]at this;rw[show(0:Int)=((0:Nat):Int)from rfl,this];rfl
 ·rw[ak hs,ak hs]
theorem tS(steps:Int):oB steps=some (NY steps):=by
 unfold oB NY;by_cases h:0<=steps<;>simp[h]
theorem GV{x:zo}{w0:gv}{w1:List zo}(hx:x.2.2.length<=60)(hw:w1.length<=1000):nU x w0 w1=some (w1++[x]):=by
 unfold nU;rw[qh (by show List.length _<_;omega),aa,ah gY]
theorem AW{r:gv}{L:List zo}(hl:L.length<=200)(hx:∀x∈L,x.2.2.length<=60):iw (lU r L) (0,[])=some (r,L.reverse):=by
 have h0:((0:Nat),([]:List zo))=((fun i:Nat=>(i,L.reverse.take i)) 0):=by simp
 rw[h0];refine qn (n:=L.length) (fun i:Nat=>(i,L.reverse.take i)) (fun i hi=>?_) ?_
 ·have hi':i<L.reverse.length:=by simpa using hi
  have e:L.getD (L.length-1-i) default=L.reverse[i]:=by rw[iG gY,List.getElem_reverse]
  rw[lU,ah hi,e];have:=GV (x:=L.reverse[i]) (w0:=r) (w1:=L.reverse.take i) (hx _ (by rw[<-List.mem_reverse];exact bC hi')) (by rw[cg];omega);rw[show nU ((L.reverse[i]).1,(L.reverse[i]).2.1,(L.reverse[i]).2.2) r (L.reverse.take i)=_ from this,aa,bV hi']
 ·rw[lU,ak gY,bL (by simp)];rfl
theorem FV{r:gv}{L:List zo}(hl:L.length<=200)(hx:∀x∈L,x.2.2.length<=60):iw (qU L r) (IntKind.i64.wrap ((L.length:Int)-1),[])=some (r,L.reverse):=by
 have h0:(IntKind.i64.wrap ((L.length:Int)-1),([]:List zo))=((fun i:Nat=>((L.length:Int)-1-(i:Int),L.reverse.take i)) 0):=by rw[lg gY gY];simp
 rw[h0];refine qn (n:=L.length) (fun i:Nat=>((L.length:Int)-1-(i:Int),L.reverse.take i)) (fun i hi=>?_) ?_
 ·have hi':i<L.reverse.length:=by simpa using hi
  have e:L.getD ((L.length:Int)-1-(i:Int)).toNat default=L.reverse[i]:=by rw[show((L.length:Int)-1-(i:Int)).toNat=L.length-1-i by omega,iG gY,List.getElem_reverse]
  have hxl:=hx (L.reverse[i]) (by rw[<-List.mem_reverse];exact bC hi');rw[qU,ah (by simp only[av];omega),ah gY,ah gY,ah gY,e,kK (by show List.length _<_;omega),aa,ah (by rw[cg];omega),lg gY gY,bV hi',
   show(L.length:Int)-1-(i:Int)-1=(L.length:Int)-1-((i+1:Nat):Int) by omega]
 ·rw[qU,ak (by simp only[av];omega),bL (by simp)];rfl
theorem R6.Ui{s:Sys}{steps:Int}{A:List I6}(h:R6 s steps A){j:Nat}(hj:j<A.length)(h0:0<j):(Zb (uw A j)).2.2.length<=60:=by
 obtain⟨p,_,_,_,p4⟩:=(h.el j hj).up h0;have:=(h.el j hj).tm;show(uw A j).2.2.2.2.1.length<=60;rw[p4];exact(iB.1 this).2.2.1
theorem qV{s:Sys}{steps:Int}{A:List I6}(h:R6 s steps A){j:Nat}(hj:j<A.length):nX A j=some ((uw A 0).1,(CD A j j).reverse):=by
 have hl:=h.len;have hp:=h.pos;have hr:=h.sm;unfold nX;rw[ah gY,show(A.getD 0 default).1=(uw A 0).1 from rfl,qh (by have:=(h.el 0 hp).tm;have:=(iB.1 this).2.2.1;show List.length _<_;omega),aa];have key:∀(f k:Nat)(o:List zo),k<A.length->k<=f->o.length+f<=100->(∀x∈o,x.2.2.length<=60)->iw (lT A (uw A 0).1) ((k:Int),o)=some ((uw A 0).1,(o++CD A f k).reverse):=by
  intro f;induction f with
  |zero=>
   intro k o hk hf ho hx;have:k=0:=by omega
   subst this;refine iz ?_;rw[lT,ak (by simp),CD,aW];unfold jH;rw[aa,AW gY hx];rfl
  |succ f ih=>
   intro k o hk hf ho hx;by_cases h0:k=0
   ·subst h0;refine iz ?_;rw[lT,ak (by simp),CD,ah rfl,aW];unfold jH;rw[aa,AW gY hx];rfl
   ·obtain⟨p,p1,p2,_,_⟩:=(h.el k hk).up gY;have p1':(A.getD k default).2.1=(p:Int):=p1;have i1:=ih p (o++[Zb (uw A k)]) gY gY (by rw[ai,aL];omega) (fun x hx'=>by
     rcases aN.1 hx' with c|c
     ·exact hx x c
     ·rw[aX.1 c];exact h.Ui hk gY)
    refine(iI ?_).trans (i1.trans ?_)
    ·rw[lT,ah (by simp only[av];omega),ah gY,ah gY,ah gY,aq,p1'];rfl
    ·rw[CD,ak h0,p1,aq,aG];rfl
 have:=key j j [] hj (aF _) (by simp;omega) (by simp);rw[bp]at this;exact this
theorem xB{s:Sys}{steps:Int}{A:List I6}{b:Bool}(h:R6 s steps A){j:Nat}(hj:j<A.length):uk (m1 A,m2 A,m3 A,m4 A,b) j=some ((uw A 0).1,(CD A j j).reverse):=by
 have hl:=h.len;have hp:=h.pos;have hr:=h.sm;unfold uk;have g2:∀{k:Nat},k<A.length->(m2 A).getD k default=(uw A k).2.1:=fun hk=>vG (g:=fun x:I6=>x.2.1) hk
 have g3:∀{k:Nat},k<A.length->(m3 A).getD k default=Zb (uw A k):=fun hk=>vG (g:=fun x:I6=>(x.2.2.1,x.2.2.2.1,x.2.2.2.2.1)) hk
 have g1:(m1 A).getD 0 default=(uw A 0).1:=vG (g:=fun x:I6=>x.1) hp;have stop:∀(o:List zo),o.length<=100->(∀x∈o,x.2.2.length<=60)->oZ (m1 A,m2 A,m3 A,m4 A,b) (((0:Nat):Int),o)=some (.inr ((uw A 0).1,o.reverse)):=fun o ho hx=>by
  have hroot:(uw A 0).2.1= -1:=(h.el 0 hp).root rfl;rw[oZ];simp only[aM,aq,g2 hp,hroot,g1];rw[ah gY,ak (by simp),ah gY,kK (by have:=(h.el 0 hp).tm;have:=(iB.1 this).2.2.1;show List.length _<_;omega),aa,FV gY hx];rfl
 have key:∀(f k:Nat)(o:List zo),k<A.length->k<=f->o.length+f<=100->(∀x∈o,x.2.2.length<=60)->iw (oZ (m1 A,m2 A,m3 A,m4 A,b)) ((k:Int),o)=some ((uw A 0).1,(o++CD A f k).reverse):=by
  intro f;induction f with
  |zero=>
   intro k o hk hf ho hx;have:k=0:=by omega
   subst this;rw[iz (stop o gY hx),CD,aW]
  |succ f ih=>
   intro k o hk hf ho hx;by_cases h0:k=0
   ·subst h0;rw[iz (stop o gY hx),CD,ah rfl,aW]
   ·obtain⟨p,p1,p2,_,_⟩:=(h.el k hk).up gY;have i1:=ih p (o++[Zb (uw A k)]) gY gY (by rw[ai,aL];omega) (fun x hx'=>by
     rcases aN.1 hx' with c|c
     ·exact hx x c
     ·rw[aX.1 c];exact h.Ui hk gY)
    refine(iI ?_).trans (i1.trans ?_)
    ·rw[oZ];simp only[aM,aq,g2 hk,g3 hk,p1];rw[ah gY,ah (by simp),ah gY,ah gY,ah gY]
    ·rw[CD,ak h0,p1,aq,aG];rfl
 have:=key j j [] hj (aF _) (by simp;omega) (by simp);rw[bp]at this;exact this
theorem KH(σ:Sb)(o:gv):∀t:gv,wJ o (sub σ t)=sub (fun x=>wJ o (σ x)) t
 |[]=>rfl
 |x::t=>by
  have ih:=KH σ o t;rw[jg,jg,<-ih];unfold wJ;rw[aR];congr 1;by_cases h:x<0
  ·rw[ah h,ah h]
  ·rw[ak h,ak h];simp[zP,h]
theorem Ht{a o:gv}(ho:o.length<=24):∀{t:gv}{k:Nat},Wv a k t->(∀y∈t,y<0->y∈o)->Wf a k (wJ o t)
 |[],k,h,_=>by
  have:=h.len;obtain rfl:k=0:=by simpa using this
  exact Wf.nil
 |x::t,0,h,_=>by have:=h.zero;cases this
 |x::t,k+1,h,hm=>by
  obtain⟨h1,h2⟩:=Wv.jt.1 h;show Wf a (k+1) (zP o x::wJ o t);have e:FL a (zP o x)/\lR a (zP o x)=lR a x:=by
   unfold zP;by_cases hx:x<0
   ·rw[ah hx];have:=List.idxOf_lt_length_of_mem (hm x (bh ..) hx);exact⟨⟨gY,gY⟩,by rw[uZ hx,uZ gY]⟩
   ·rw[ak hx];exact⟨⟨gY,h1⟩,rfl⟩
  refine Wf.jt.2 ⟨e.1,?_⟩;rw[e.2];exact Ht ho h2 fun y hy=>hm y (a_ _ hy)
theorem KA{sys:Sys}:∀{xs:List gG}{out o:List Pk},E2 sys xs out=some o->∀y∈o,y∈out\/∃x∈xs,(KB sys x).2=true/\y=(KB sys x).1
 |[],out,o,h,y,hy=>by cases h;exact .inl hy
 |x::xs,out,o,h,y,hy=>by
  rw[E2]at h;split at h
  ·next h2=>
   split at h
   ·cases h
   ·rcases KA h y hy with c|⟨z,hz,c⟩
    ·rcases aN.1 c with c|c
     ·exact .inl c
     ·exact .inr ⟨x,bh ..,h2,by simpa using c⟩
    ·exact .inr ⟨z,a_ _ hz,c⟩
  ·cases h
theorem Kz{sys:Sys}{y:Pk}(h:y∈(ry sys).1):∃x,Wk sys x/\(KB sys x).2=true/\y=(KB sys x).1:=by
 unfold ry at h;split at h
 ·next o ho=>
  rcases KA ho y h with c|⟨x,hx,c⟩
  ·cases c
  ·exact⟨x,OQ _ (aF _) x hx,c⟩
 ·cases h
theorem PM{a u v s:gv}(hu:Wv a 1 u)(hv:Wv a 1 v):∀{p:gv}{k:Nat},Wv a k (p++(u++s))->Wv a k (p++(v++s))
 |[],0,h=>by
  have:=h.zero;have:=hu.ne
  simp_all
 |[],k+1,h=>by
  rw[show k+1=1+k by omega]at h⊢;obtain⟨u',v',e,h1,h2⟩:=h.split;obtain⟨rfl,rfl⟩:=Wv.uniq hu h1 e;exact hv.app h2
 |x::p,0,h=>by have:=h.zero;cases this
 |x::p,k+1,h=>by
  obtain⟨h1,h2⟩:=Wv.jt.1 h;exact Wv.jt.2 ⟨h1,PM hu hv h2⟩
theorem DR{sys:Sys}(hs:jN sys=true){y:Pk}(hy:y∈(ry sys).1):iV sys.1 y.2.1=true/\iV sys.1 y.2.2.1=true:=by
 obtain⟨x,⟨ov,i,un,rfl,hov,hi,hun,hm⟩,h2,rfl⟩:=Kz hy;obtain⟨ha,hn,hrs⟩:=mg.1 hs;obtain⟨k1,k2,k3,k4⟩:=lF.1 (hrs _ (jM hov));obtain⟨m1,m2,m3,m4⟩:=lF.1 (hrs _ (jM hun));obtain⟨_,a1,a2,a3⟩:=iB.1 k1;obtain⟨_,b1,b2,b3⟩:=iB.1 k2;obtain⟨_,c1,c2,c3⟩:=iB.1 m1;obtain⟨_,d1,d2,d3⟩:=iB.1 m2;obtain⟨p,s,q,e,hp,hw⟩:=a3.place hi;have h:Ov sys.1 (sys.2.getD ov default).1 (sys.2.getD ov default).2 (sys.2.getD un default).1 (sys.2.getD un default).2 p s q:=⟨ha,e,hw,a3,b3,c3,d3,a2,b2,c2,d2,k4,m4⟩;subst hp;have hx:¬(sys.2.getD ov default).1.getD p.length default<0:=fun c=>by unfold CJ at hm;rw[ah c]at hm;cases hm
 have hne:¬(ov=un/\p.length=0):=fun c=>by
  have ho:je sys ov (p.length:Int) un=some (.inr ()):=by
   unfold je;rw[ah (by simp only[bw];omega),ah (by simp only[bw];omega)]
  unfold CJ at hm;rw[ak hx,ho]at hm;cases hm
 rcases BQ h hov hun rfl rfl hx hne with⟨b1',b2',σ1,σ2,e1,e2,e3,hb⟩|⟨e1,e2⟩
 ·have ev:=xM h hov hun rfl rfl hb e1;have ev':KB sys ((ov:Int),(p.length:Int),(un:Int))=OT σ1 (sys.2.getD ov default).1 (sys.2.getD ov default).2 (tr p q (sys.2.getD un default).2) (p.length:Int) un ov:=by unfold KB;rw[ev];rfl
  rw[ev']at h2⊢;unfold OT at h2⊢;by_cases c:(sub σ1 (sys.2.getD ov default).1).length<=60/\(sub σ1 (sys.2.getD ov default).2).length<=60/\(sub σ1 (tr p q (sys.2.getD un default).2)).length<=60/\(mB [] (sub σ1 (sys.2.getD ov default).1)).length<=24
  ·rw[ah c]at h2⊢;obtain⟨ρ,hn⟩:=hb.Zj;have hsub:∀{t:gv}{k:Nat},Wv sys.1 k t->Wv sys.1 k (sub σ1 t):=fun ht=>ht.sub fun x _ hx=>hn.wv x hx
   have hl:Wv sys.1 1 (sub σ1 (sys.2.getD ov default).1):=hsub (qp a3);have hmid:Wv sys.1 1 (sub σ1 (tr p q (sys.2.getD un default).2)):=by
    unfold tr;rw[jK,jK];rw[h.split,jK,jK]at hl;exact PM (hsub (qp hw)) (hsub (Ff (qp d3))) hl
   have hr:Wv sys.1 1 (sub σ1 (sys.2.getD ov default).2):=hsub (qp b3);constructor
   ·refine iB.2 ⟨ha,?_,?_,Ht c.2.2.2 hmid fun y hy h0=>yY (h.VV hb.ZD y hy h0) h0⟩
    ·have:=hmid.len;simpa[wJ]using this
    ·simpa[wJ]using c.2.2.1
   ·refine iB.2 ⟨ha,?_,?_,Ht c.2.2.2 hr fun y hy h0=>yY (h.vrr y hy h0) h0⟩
    ·have:=hr.len;simpa[wJ]using this
    ·simpa[wJ]using c.2.1
  ·rw[ak c]at h2;cases h2
 ·exfalso;unfold CJ at hm;rw[ak hx,e1]at hm;cases hm
abbrev W2:=(gv×List zo)×(gv×List zo)×Bool
theorem EO{s:Sys}{steps:Int}{A B:List I6}{bA bB:Bool}(hA:R6 s steps A)(hB:R6 s steps B):∀(k i:Nat),i+k=A.length->
 ∃w:W2,iw (kO (A,bA) (B,bB)) (i:Int)=some w/\iw (oR (m1 A,m2 A,m3 A,m4 A,bA) (m1 B,m2 B,m3 B,m4 B,bB)) (i:Int)=some w
 |0,i,h=>⟨(([],[]),([],[]),false),iz (by rw[kO,ak (by simp only[av];omega)];rfl),iz (by rw[oR,ak (by simp only[av,aM];omega)];rfl)⟩
 |k+1,i,h=>by
  have hl:=hB.len;have hsm0:=hB.sm;have B_:∀r∈B,Small r.1:=fun r hr=>by have:=hsm0 r hr;show r.1.length<_;omega
  have hsm1:∀t∈m1 B,Small t:=fun t ht=>by
   obtain⟨y,hy,rfl⟩:=bz.1 ht;exact B_ y hy
  have hi:i<A.length:=by omega
  have g1:(m1 A).getD i default=(A.getD i default).1:=vG (g:=fun x:I6=>x.1) hi;have hfs:=tH (l:=m1 B) (by simp;omega) hsm1 (A.getD i default).1;have hff:lE (fun y=>y==(A.getD i default).1) (m1 B)=lE (fun r:I6=>r.1==(A.getD i default).1) B:=by
   unfold lE;rw[List.findIdx?_map];rfl
  by_cases hneg:0<=lE (fun r:I6=>r.1==(A.getD i default).1) B
  ·have hlt:=(EJ (p:=fun r:I6=>r.1==(A.getD i default).1) (xs:=B)).2;obtain⟨j,hj⟩:∃j:Nat,lE (fun r:I6=>r.1==(A.getD i default).1) B=j:=⟨(lE (fun r:I6=>r.1==(A.getD i default).1) B).toNat,gY⟩;have hj':j<B.length:=by omega
   refine⟨(((uw A 0).1,(CD A i i).reverse),((uw B 0).1,(CD B j j).reverse),true),iz ?_,iz ?_⟩
   ·rw[kO];dsimp only;rw[ah (by simp only[av];omega),ah gY,aq,pQ hl B_,aa,ah (by simpa using hneg),hj,qV hA hi,aa,qV hB hj',aa];rfl
   ·rw[oR];dsimp only;rw[ah (by simp only[av,aM];omega),ah (by simp only[aM];omega),aq,g1,hfs,hff,aa,ah (by simpa using hneg),hj,xB hA hi,aa,xB hB hj',aa];rfl
  ·obtain⟨w,w1,w2⟩:=EO hA hB k (i+1) gY;refine⟨w,(iI ?_).trans w1,(iI ?_).trans w2⟩
   ·rw[kO];dsimp only;rw[ah (by simp only[av];omega),ah gY,aq,pQ hl B_,aa,ak (by simpa using hneg),lg (by have:=hA.len;omega) (by have:=hA.len;omega)];rfl
   ·rw[oR];dsimp only;rw[ah (by simp only[av,aM];omega),ah (by simp only[aM];omega),aq,g1,hfs,hff,aa,ak (by simpa using hneg),lg (by have:=hA.len;omega) (by have:=hA.len;omega)];rfl
theorem IW{s:Sys}{a b:gv}{steps:Int}(ha:xV s a steps=true)(hb:xV s b steps=true):∃w:W2,jY s a b steps=some w/\wD s a b steps=some w:=by
 obtain⟨A,bA,hA,_,e1,e2⟩:=xH ha;obtain⟨B,bB,hB,_,e3,e4⟩:=xH hb;obtain⟨w,w1,w2⟩:=EO (bA:=bA) (bB:=bB) hA hB A.length 0 gY;refine⟨w,?_,?_⟩
 ·unfold jY;rw[e1,aa,e3,aa];exact w1
 ·unfold wD;rw[vX,aa,ah ha,vX,aa,ah hb,e2,aa,e4,aa];exact w2
def Bp(sys:Sys)(steps:Int)(y:Pk):Bool:=match jY sys y.2.1 y.2.2.1 steps with|some w=>w.2.2|none=>false
theorem Rn{sys:Sys}{steps:Int}(hs:jN sys=true)(hd:NY steps=true){y:Pk}(hy:y∈(ry sys).1):oe y sys.1 sys.2 steps=some (!Bp sys steps y)/\yy sys y.2.1 y.2.2.1 steps=some (Bp sys steps y):=by
 obtain⟨h1,h2⟩:=DR hs hy;obtain⟨h3,h4⟩:=Fk.1 hd;obtain⟨w,e1,e2⟩:=IW (su.2 ⟨hs,h1,h3,h4⟩) (su.2 ⟨hs,h2,h3,h4⟩);unfold oe yy Bp;have e1':jY (sys.1,sys.2) y.2.1 y.2.2.1 steps=some w:=e1;rw[e1',e2];exact⟨rfl,rfl⟩
theorem EH{α:Type}{p:α->Bool}{L:List α}{i:Nat}(hi:i<L.length):(L.take (i+1)).filter p=(L.take i).filter p++(if p L[i]=true then [L[i]]else []):=by
 rw[bV hi,eW];by_cases h:p L[i]=true<;>simp[h]
theorem FO(sys:Sys):(ry sys).1.length<=64:=by
 unfold ry;split
 ·next o ho=>exact CN ho (by simp)
 ·simp
def V7(sys:Sys)(steps:Int):Bool:=jN sys&&(NY steps&&((ry sys).2&&(ry sys).1.all (Bp sys steps)))
theorem vp(sys:Sys)(steps:Int):nT sys steps=some (V7 sys steps):=by
 unfold nT V7;rw[pH,aa,tS,aa];cases hs:jN sys with
 |false=>rfl
 |true=>
  cases hd:NY steps with
  |false=>rfl
  |true=>
   rw[ah rfl,ah rfl,xZ hs,aa];cases hp:(ry sys).2 with
   |false=>rfl
   |true=>
    rw[ah rfl];have hl:=FO sys;have hf:jr (ry sys).1 sys.1 sys.2 steps=some (lE (fun y=>!Bp sys steps y) (ry sys).1):=by
     unfold jr;refine xQ (fun i x hi hx hg=>?_) (by simp[jB]);have hj:=(Rn hs hd hx).1;have hj':oe (((ry sys).1.getD i default).1,((ry sys).1.getD i default).2.1,((ry sys).1.getD i default).2.2.1,((ry sys).1.getD i default).2.2.2.1,((ry sys).1.getD i default).2.2.2.2.1,((ry sys).1.getD i default).2.2.2.2.2) sys.1 sys.2 steps=some (!Bp sys steps x):=by rw[<-hj,<-hg]
     rw[jB,ah (by simp only[av];omega),ah gY,aq,hj',aa,lg gY gY];cases Bp sys steps x<;>rfl
    unfold jA;rw[hf,aa,aa];congr 1;cases ha:(ry sys).1.all (Bp sys steps)with
    |true=>
     have:lE (fun y=>!Bp sys steps y) (ry sys).1= -1:=B7 fun x hx=>by rw[cy.1 ha x hx];rfl
     rw[this];rfl
    |false=>
     obtain⟨x,hx,hxf⟩:=List.all_eq_false.1 ha;have:=EI (p:=fun y=>!Bp sys steps y) hx (by simpa using hxf);rw[eU this];rfl
theorem DP:∀{us:LL}{i k:Nat},k<us.length->(vJ i us).getD k default=((i+(us.take k).flatten.length:Nat):Int)
 |[],i,k,h=>by simp at h
 |u::us,i,0,h=>by simp[vJ]
 |u::us,i,k+1,h=>by
  rw[vJ,fE,DP (by simpa using h),cH,ck,ai];congr 1;omega
theorem AS{a t:gv}(ha:jR a=true)(hl:t.length<=60){i:Nat}{x:Int}{w r:gv}(ht:t.drop i=(x::w)++r)(hw:Wv a 1 (x::w)):lq a t i=some (vJ (i+1) (pE a (lR a x) w)):=by
 have hlt:x<a.length/\Wv a (lR a x) w:=by
  have:=Wv.jt.1 hw;rw[bU]at this;exact this
 have hs:Small t:=by show t.length<_;omega
 have h3:=tX ha x;have hll:=bX List.length ht;simp at hll;have hi:i<t.length:=by omega
 have hx:t.getD i default=x:=by
  rw[aA hi,bP]at ht;rw[iG hi];exact(cQ ht).1
 have hd1:t.drop (i+1)=w++r:=by
  rw[aA hi,bP]at ht;exact(cQ ht).2
 unfold lq;rw[ah gY,aq,hx,qg ha hlt.1,aa,show IntKind.i64.wrap ((i:Int)+1)=((i+1:Nat):Int) by rw[lg gY gY];rfl];have key:∀(k:Nat){q o:gv}{i:Nat},Wv a k q->t.drop i=q++r->k+o.length<=3->iw (jX a t) (o,(i:Int),(k:Int))=some (o++vJ i (pE a k q)):=by
  intro k;induction k with
  |zero=>
   intro q o i hq hd ho;refine iz ?_;rw[jX,ak (by simp),pE,vJ,aW];rfl
  |succ k ih=>
   intro q o i hq hd ho;rw[cN]at hq;obtain⟨u,v,rfl,w1,w2⟩:=hq.split;have hll:=bX List.length hd;have:=w1.len;rw[cG,ai,ai]at hll;rw[aG]at hd;have hd':t.drop (i+u.length)=v++r:=by rw[<-List.drop_drop,hd,bS]
   have e:zF a (u++v) 1=some v:=w1.skip v;have e2:(u++v).take ((u++v).length-v.length)=u:=by rw[ai,dQ];simp
   have e3:pE a (k+1) (u++v)=u::pE a k v:=by rw[pE,e];simp only;rw[e2]
   refine(iI ?_).trans (b:=iw (jX a t) (o++[(i:Int)],((i+u.length:Nat):Int),(k:Int))) ?_
   ·rw[jX,ah (by simp only[av];omega),ah gY,rM ha hs hd w1,aa];have e5:IntKind.i64.wrap (((k+1:Nat):Int)-1)=(k:Int):=by rw[lg gY gY];omega
    rw[e5,show(t.length:Int)-(v++r).length=((i+u.length:Nat):Int) by rw[ai];omega]
   ·rw[ih w2 hd' (by rw[ai,aL];omega),e3,vJ,aG];rfl
 have:=key (lR a x) (q:=w) (o:=[]) (i:=i+1) hlt.2 hd1 (by simpa using h3);rw[bp]at this;exact this
theorem OV{a:gv}:∀{k:Nat}{t:gv},Wf a k t->∀u∈pE a k t,Wf a 1 u
 |0,t,h,u,hu=>by simp[pE]at hu
 |k+1,t,h,u,hu=>by
  rw[cN]at h;obtain⟨v,w,rfl,h1,h2⟩:=h.split;have e:zF a (v++w) 1=some w:=(qp h1).skip w;have e2:(v++w).take ((v++w).length-w.length)=v:=by rw[ai,dQ];simp
  have e3:pE a (k+1) (v++w)=v::pE a k w:=by rw[pE,e];simp only;rw[e2]
  rw[e3]at hu;rcases bI.1 hu with rfl|hu
  ·exact h1
  ·exact OV h2 u hu
theorem Dz{a t u r:gv}(ha:jR a=true)(hl:t.length<=60){j p:Nat}(hd:t.drop j=u++r)(hu:Wf a 1 u):rG a t j p=some (decide (j<=p/\p<j+u.length)):=by
 have hll:=bX List.length hd;have:=hu.len;simp at hll;unfold rG;by_cases h:j<=p
 ·rw[ah (by simpa using h),rM ha (by show t.length<_;omega) hd (qp hu),aa];congr 1;rw[eG];omega
 ·rw[ak (by simpa using h)];congr 1;rw[eq_comm,cm];omega
inductive PR(a t:gv):Nat->List Nat->Nat->Prop
 |nil {p:Nat}:PR a t p [] p
 |cons {p k q:Nat} {ks:List Nat} {x:Int} {w r:gv} (hd:t.drop p=(x::w)++r) (hw:Wf a 1 (x::w)) (hk:k<(pE a (lR a x) w).length) (h:PR a t (p+1+((pE a (lR a x) w).take k).flatten.length) ks q):PR a t p (k::ks) q
theorem LC{a t:gv}(ha:jR a=true)(hl:t.length<=60){P:LL}{i0 at':Nat}{r:gv}(hd:t.drop i0=P.flatten++r)(wP:∀u∈P,Wf a 1 u)(hP:P.length<=3)(hend:at'<i0+P.flatten.length){path:gv}(hp:path.length<=1000)(p:Int):
 ∀(us pre:LL),P=pre++us->i0+pre.flatten.length<=at'->∃(k j:Nat)(u r':gv),k<P.length/\j=i0+(P.take k).flatten.length/\t.drop j=u++r'/\Wf a 1 u/\j<=at'/\at'<j+u.length/\
  iw (oN a t at' path p (vJ i0 P)) (pre.length:Int)=some (.inl (path++[(k:Int)],(j:Int))):=by
 intro us;induction us with
 |nil=>intro pre e h;rw[aW]at e;subst e;omega
 |cons u us ih=>
  intro pre e h;have hlen:pre.length<P.length:=by rw[e];simp
  have htk:P.take pre.length=pre:=by rw[e,dK]
  have hget:(vJ i0 P).getD pre.length default=((i0+pre.flatten.length:Nat):Int):=by rw[DP hlen,htk]
  have hdj:t.drop (i0+pre.flatten.length)=u++(us.flatten++r):=by rw[<-List.drop_drop,hd,e,dI,ck,aG,bS,aG]
  have hu:Wf a 1 u:=wP u (by rw[e];simp);have hin1:=Dz ha hl (p:=at') hdj hu;have hol:(vJ i0 P).length=P.length:=vK _ _;have hw:IntKind.i64.wrap ((pre.length:Int)+1)=((pre.length+1:Nat):Int):=by rw[lg gY gY];rfl
  by_cases c:at'<i0+pre.flatten.length+u.length
  ·refine⟨pre.length,i0+pre.flatten.length,u,us.flatten++r,hlen,by rw[htk],hdj,hu,h,c,iz ?_⟩
   ·rw[oN,ah (by simp only[av];omega),ah gY,aq,hget,hin1,aa,ah (by simp only[av];omega),ah gY];rfl
  ·obtain⟨k,j,u',r',q1,q2,q3,q4,q5,q6,q7⟩:=ih (pre++[u]) (by rw[e,aG];rfl) (by rw[dI,ai,ck,fZ,aW];omega);have e1:(((pre++[u]).length:Nat):Int)=((pre.length+1:Nat):Int):=by simp
   rw[e1]at q7;refine⟨k,j,u',r',q1,q2,q3,q4,q5,q6,(iI ?_).trans q7⟩
   ·rw[oN,ah (by simp only[av];omega),ah gY,aq,hget,hin1,aa,ak (by simp only[av];omega),hw]
abbrev nI(ks:List Nat):gv:=ks.map fun k:Nat=>(k:Int)
theorem L9{a t:gv}(ha:jR a=true)(hl:t.length<=60){at':Nat}:∀(n:Nat){p:Nat}{u r path:gv},at'-p=n->p<=at'->t.drop p=u++r->Wf a 1 u->at'<p+u.length->path.length<=p->
 ∃ks,PR a t p ks at'/\iw (oM a t at') (path,(p:Int))=some (path++nI ks):=by
 intro n;induction n using Nat.strongRecOn with
 |_ n ih=>
  intro p u r path hn hp hd hu hend hpl;by_cases c:p=at'
  ·subst c;refine⟨[],.nil,iz ?_⟩
   ·rw[oM,ak (by simp)];simp
  ·obtain⟨x,w,rfl,hox,hw⟩:=hu.pos;rw[bU]at hw;have h3:=tX ha x;obtain⟨i1,i2,i3⟩:=tC (qp hw);have hll:=bX List.length hd;simp at hll;have hpt:p<t.length:=by omega
   have hd1:t.drop (p+1)=(pE a (lR a x) w).flatten++r:=by
    rw[i1];rw[aA hpt,bP]at hd;exact(cQ hd).2
   have hend':at'<p+1+(pE a (lR a x) w).flatten.length:=by rw[i1];simp at hend;omega
   obtain⟨k,j,u',r',q1,q2,q3,q4,q5,q6,q7⟩:=LC ha hl hd1 (OV hw) (by rw[i2];exact h3) hend' (path:=path) gY (p:Int) (pE a (lR a x) w) [] rfl (by simp;omega);obtain⟨ks,r1,r2⟩:=ih (at'-j) gY (p:=j) (u:=u') (r:=r') (path:=path++[(k:Int)]) rfl q5 q3 q4 q6 (by rw[ai,aL];omega);refine⟨k::ks,.cons hd hu q1 (by rw[<-q2];exact r1),?_⟩
   ·refine(iI (s':=(path++[(k:Int)],(j:Int))) ?_).trans (by rw[r2,aG];rfl);rw[oM,ah (by simp only[dZ,fP];omega),AS ha hl hd (qp hu),aa];exact q7
theorem R3{a t:gv}(ht:iV a t=true){at':Nat}(h:at'<t.length):∃ks,PR a t 0 ks at'/\rH a t at'=some (nI ks):=by
 obtain⟨ha,t1,t2,t3⟩:=iB.1 ht;obtain⟨ks,r1,r2⟩:=L9 ha t2 (at':=at') at' (p:=0) (u:=t) (r:=[]) (path:=[]) gY gY (by simp) t3 gY (by simp);exact⟨ks,r1,r2⟩
theorem Jj{a t:gv}(ha:jR a=true)(hl:t.length<=60){path:gv}(hpl:path.length<=1000){p q:Nat}{ks:List Nat}(h:PR a t p ks q):∀{i:Nat},path.drop i=nI ks->i+ks.length=path.length->
 iw (og a t path) ((p:Int),(i:Int))=some (q:Int):=by
 induction h with
 |nil=>
  intro i hd hi;have hi':i=path.length:=by simpa using hi
  refine iz ?_
  ·rw[og,ak (by simp only[av];omega)];rfl
 |@cons p k q ks x w r hd hw hk h ih=>
  intro i hdp hi;rw[aQ]at hi;have hi':i<path.length:=by omega
  have hki:path.getD i default=(k:Int):=by
   rw[aA hi']at hdp;rw[iG hi'];exact(cQ hdp).1
  have hdp':path.drop (i+1)=nI ks:=by
   rw[aA hi']at hdp;exact(cQ hdp).2
  have j1:=ih hdp' gY;have hwi:IntKind.i64.wrap ((i:Int)+1)=((i+1:Nat):Int):=by rw[lg gY gY];rfl
  have h3:=tX ha x;have hP:(pE a (lR a x) w).length<=3:=by
   have hw':=(Wf.jt.1 hw).2;rw[bU]at hw';rw[(tC (qp hw')).2.1];exact h3
  have hol:=vK (p+1) (pE a (lR a x) w);refine(iI ?_).trans j1
  ·rw[og,ah (by simp only[av];omega),ah gY,AS ha hl hd (qp hw),aa,aq,hki,ak (by simp only[av];omega),ak (by simp only[av];omega),ah gY,aq,DP hk,hwi]
theorem PR.len{a t:gv}{p q:Nat}{ks:List Nat}(h:PR a t p ks q):p+ks.length<=q:=by
 induction h with
 |nil=>simp
 |cons hd hw hk h ih=>rw[aQ];omega
theorem OU{a t:gv}(ht:iV a t=true){ks:List Nat}{q:Nat}(h:PR a t 0 ks q)(hq:q<=100):oK a t (nI ks)=some (q:Int):=by
 obtain⟨ha,t1,t2,t3⟩:=iB.1 ht;have:=h.len;have j1:=Jj ha t2 (path:=nI ks) (by simp;omega) h (i:=0) rfl (by simp);unfold oK;rw[qI,ht,aa,ah rfl];exact j1
theorem KC{a:gv}{τ:Sb}:∀{k:Nat}{t:gv},Wf a k t->(∀x∈t,x<0->Wf a 1 (τ x))->pE a k (sub τ t)=(pE a k t).map (sub τ)
 |0,t,h,_=>rfl
 |k+1,t,h,hτ=>by
  rw[cN]at h;obtain⟨u,v,rfl,h1,h2⟩:=h.split;have p1:∀{u v:gv},Wv a 1 u->pE a (k+1) (u++v)=u::pE a k v:=fun{u v} hu=>by
   have e2:(u++v).take ((u++v).length-v.length)=u:=by rw[ai,dQ];simp
   rw[pE,hu.skip v];simp only;rw[e2]
  have hu':Wf a 1 (sub τ u):=h1.sub fun x hx h0=>hτ x (bk _ hx) h0
  rw[jK,p1 (qp hu'),p1 (qp h1),KC h2 fun x hx h0=>hτ x (bE _ hx) h0];rfl
theorem HJ(τ:Sb):∀us:LL,sub τ us.flatten=(us.map (sub τ)).flatten
 |[]=>rfl
 |u::us=>by rw[ck,jK,HJ,aP,ck]
theorem PR.sub{a l:gv}{τ:Sb}(hτ:∀x∈l,x<0->Wf a 1 (τ x)){p q:Nat}{ks:List Nat}(h:PR a l p ks q):PR a (Tm.sub τ l) (Tm.sub τ (l.take p)).length ks (Tm.sub τ (l.take q)).length:=by
 induction h with
 |nil=>exact .nil
 |@cons p k q ks x w r hd hw hk h ih=>
  have hx:¬x<0:=fun h0=>by rw[uZ h0]at hk;simp[pE]at hk
  have hw':=(Wf.jt.1 hw).2;rw[bU]at hw';have hsp:l=l.take p++((x::w)++r):=by rw[<-hd,cx]
  have hin:∀y∈x::w,y∈l:=fun y hy=>by rw[hsp];exact bE _ (bk _ hy)
  have hsl:Tm.sub τ l=Tm.sub τ (l.take p)++((x::Tm.sub τ w)++Tm.sub τ r):=by
   conv=>lhs;rw[hsp]
   rw[jK,jK,jg,ak hx];rfl
  have hd':(Tm.sub τ l).drop (Tm.sub τ (l.take p)).length=(x::Tm.sub τ w)++Tm.sub τ r:=by rw[hsl,bS]
  have hws:Wf a 1 (x::Tm.sub τ w):=by
   have:=hw.sub (σ:=τ) fun y hy h0=>hτ y (hin y hy) h0
   rw[jg,ak hx]at this;exact this
  have hp:=KC (τ:=τ) hw' fun y hy h0=>hτ y (hin y (a_ _ hy)) h0
  refine .cons hd' hws (by rw[hp,aM];exact hk) ?_;have hfl:(pE a (lR a x) w).flatten=w:=(tC (qp hw')).1;have e1:l.take (p+1+((pE a (lR a x) w).take k).flatten.length)=l.take p++(x::((pE a (lR a x) w).take k).flatten):=by
   have hpl:(l.take p).length=p:=by
    have:=bX List.length hd;simp at this⊢;omega
   have hw2:w=((pE a (lR a x) w).take k).flatten++((pE a (lR a x) w).drop k).flatten:=by rw[<-dI,cx,hfl]
   have hl2:l=(l.take p++(x::((pE a (lR a x) w).take k).flatten))++(((pE a (lR a x) w).drop k).flatten++r):=by
    conv=>lhs;rw[hsp,hw2]
    simp
   conv=>lhs;rw[hl2]
   refine ei ?_;rw[ai,aQ,hpl];omega
  have e2:(Tm.sub τ (l.take p)).length+1+((pE a (lR a x) (Tm.sub τ w)).take k).flatten.length=(Tm.sub τ (l.take (p+1+((pE a (lR a x) w).take k).flatten.length))).length:=by
   rw[e1,jK,jg,ak hx,hp,<-bM,<-HJ];simp only[ai,aL];omega
  rw[e2];exact ih
theorem Bs(s:Sys)(t:gv)(i rule:Int):mX s t i rule=some (nS (kE s t i rule)):=by
 unfold mX rT uX kE;rw[pH,aa];cases h1:jN s with
 |false=>simp[nS]
 |true=>
  simp only[aC,qI,aa];cases h2:iV s.1 t with
  |false=>simp[nS]
  |true=>
   simp only[aC,bK,fB];by_cases h3:0<=i
   ·by_cases h4:i<t.length
    ·by_cases h5:0<=rule
     ·by_cases h6:rule<s.2.length
      ·have:=yw h1 h2 (i:=i.toNat) (rule:=rule.toNat) gY gY;rw[show((i.toNat:Nat):Int)=i by omega,show((rule.toNat:Nat):Int)=rule by omega]at this;simp[h3,h4,h5,h6,this]
      ·simp[h3,h4,h5,h6,nS]
     ·simp[h3,h4,h5,nS]
    ·simp[h3,h4,nS]
   ·simp[h3,nS]
theorem Bv(s:Sys)(t:gv)(i rule:Int):rK s t i rule=some (nS (kE s t i rule)):=by
 unfold rK sS kE;rw[vW,aa];cases h1:jN s with
 |false=>simp[nS]
 |true=>
  cases h2:iV s.1 t with
  |false=>simp[nS]
  |true=>
   obtain⟨_,h7,h8,_⟩:=iB.1 h2;obtain⟨_,h9,_⟩:=mg.1 h1;simp only[eJ,aC,lD,aa,bK,fB,lg (n:=(t.length:Int)-1) gY gY,lg (n:=(s.2.length:Int)-1) gY gY];by_cases h3:0<=i
   ·by_cases h4:i<t.length
    ·by_cases h5:0<=rule
     ·by_cases h6:rule<s.2.length
      ·have:=wW h1 h2 (i:=i.toNat) (rule:=rule.toNat) gY gY;rw[show((i.toNat:Nat):Int)=i by omega,show((rule.toNat:Nat):Int)=rule by omega]at this;simp[h3,h4,h5,h6,this,show i<=(t.length:Int)-1 by omega,show rule<=(s.2.length:Int)-1 by omega]
      ·simp[h3,h4,h5,h6,nS,show i<=(t.length:Int)-1 by omega,show ¬rule<=(s.2.length:Int)-1 by omega]
     ·simp[h3,h4,h5,nS,show i<=(t.length:Int)-1 by omega]
    ·simp[h3,h4,nS,show ¬i<=(t.length:Int)-1 by omega]
   ·simp[h3,nS]
theorem wV(s:Sys)(w:gv×List zo):oC s w=some (Bi s w):=by
 unfold oC Bi;rw[vW,aa];cases h1:jN s with
 |false=>simp
 |true=>
  cases h2:iV s.1 w.1 with
  |false=>simp
  |true=>
   by_cases h3:60<(w.2.length:Int)
   ·simp[h3,show ¬w.2.length<=60 by omega]
   ·simp only[eJ,aC,h3,aU,aj,aE,show w.2.length<=60 by omega,aT,cn];rw[MA (s:=s) (w:=w) (fun t i x hi hx=>?_) (fun t=>by simp[qR])];simp only[qR,show(i:Int)<w.2.length by omega,aT,aC,show(0:Int)<=i by omega,bK,aq,hx,Bv,aa,lg (n:=(i:Int)+1) gY gY];cases hs:kE s t x.1 x.2.1 with
    |none=>simp[nS]
    |some u=>
     have:=wM hs;simp only[nS,aC,lX (show Small u by show u.length<_;omega),aa];cases(u==x.2.2)<;>simp
theorem Cq{w:gv×List zo}(h:Zh w):sZ w=some (zV (Q0 w)):=by
 unfold sZ zV Q0;have hl:=h.len;simp only[aM];by_cases h0:w.2.length=0
 ·simp only[h0,Int.ofNat_zero,cj,aC];rw[kK (show w.1.length<_ by have:=h.from';omega),aa]
 ·have:((w.2.length:Int)==0)=false:=bW.2 gY;simp only[this,aj,aE,h0,lg (n:=(w.2.length:Int)-1) gY gY];rw[ah gY,show((w.2.length:Int)-1).toNat=w.2.length-1 by omega];have hlt:w.2.length-1<w.2.length:=by omega
  have e:((w.2.map fun s=>(s.2.1,s.1,false,s.2.2)).getD (w.2.length-1) default)=((w.2.getD (w.2.length-1) default).2.1,(w.2.getD (w.2.length-1) default).1,false,(w.2.getD (w.2.length-1) default).2.2):=by rw[iG (by simpa using hlt),iG hlt,fY]
  rw[e,kK (show List.length _<_ by have:=h.to _ (jM hlt);omega),aa]
theorem Jv{s:Sys}{rule:Nat}{l r P S:gv}{τ:Sb}(e:s.2.getD rule default=(l,r))(hl:Wf s.1 1 l)(hv:∀n∈r,n<0->n∈l)(hτ:∀n∈l,n<0->Wf s.1 1 (τ n))
 (h1:(sub τ r).length<=60) (h2:(P++(sub τ r++S)).length<=60):ri s (P++(sub τ l++S)) P.length rule=some (P++(sub τ r++S)):=by
 have hu:Wf s.1 1 (sub τ l):=hl.sub hτ;obtain⟨b,q1,q2,q3,q4⟩:=qW (σ:=τ) (b:=kf) hl (by simp[kf]) hτ fun n _ _=>.inl (vi n)
 have e1:sub (sig b) r=sub τ r:=sub_congr fun n hn h0=>by
  have:=q3 n (hv n hn h0) h0;unfold sig;rw[this,ak (hτ n (hv n hn h0) h0).ne]
 unfold ri Cg;rw[e];simp only;rw[yC hu,q1,aa,e1,zE hu,ah ⟨h1,h2⟩]
theorem Cf{s:Sys}(hs:jN s=true){rule:Nat}(hr:rule<s.2.length){l r P S:gv}{τ:Sb}(e:s.2.getD rule default=(l,r))(hτ:∀n∈l,n<0->Wf s.1 1 (τ n))
 (ht:iV s.1 (P++(sub τ l++S))=true) (h1:(sub τ r).length<=60) (h2:(P++(sub τ r++S)).length<=60):kE s (P++(sub τ l++S)) (P.length:Nat) (rule:Nat)=some (P++(sub τ r++S)):=by
 obtain⟨ha,hn,hrs⟩:=mg.1 hs;obtain⟨k1,k2,k3,k4⟩:=lF.1 (hrs _ (jM hr));rw[e]at k1 k4;obtain⟨_,_,_,a3⟩:=iB.1 k1;have hu:Wf s.1 1 (sub τ l):=a3.sub hτ;have:=hu.len;unfold kE;rw[ah ⟨⟨hs,ht⟩,⟨gY,by simp only[ai];omega⟩,gY,gY⟩,aq,aq];exact Jv e a3 k4 hτ h1 h2
theorem T9{sys:Sys}(hs:jN sys=true){y:Pk}(hy:y∈(ry sys).1):rE sys y=some true/\y.1.length<=60:=by
 obtain⟨x,⟨ov,i,un,rfl,hov,hi,hun,hm⟩,h2,rfl⟩:=Kz hy;obtain⟨ha,hn,hrs⟩:=mg.1 hs;obtain⟨k1,k2,k3,k4⟩:=lF.1 (hrs _ (jM hov));obtain⟨m1,m2,m3,m4⟩:=lF.1 (hrs _ (jM hun));obtain⟨_,a1,a2,a3⟩:=iB.1 k1;obtain⟨_,b1,b2,b3⟩:=iB.1 k2;obtain⟨_,c1,c2,c3⟩:=iB.1 m1;obtain⟨_,d1,d2,d3⟩:=iB.1 m2;obtain⟨p,s,q,e,hp,hw⟩:=a3.place hi;have h:Ov sys.1 (sys.2.getD ov default).1 (sys.2.getD ov default).2 (sys.2.getD un default).1 (sys.2.getD un default).2 p s q:=⟨ha,e,hw,a3,b3,c3,d3,a2,b2,c2,d2,k4,m4⟩;subst hp;have hx:¬(sys.2.getD ov default).1.getD p.length default<0:=fun c=>by unfold CJ at hm;rw[ah c]at hm;cases hm
 have hne:¬(ov=un/\p.length=0):=fun c=>by
  have ho:je sys ov (p.length:Int) un=some (.inr ()):=by
   unfold je;rw[ah (by simp only[bw];omega),ah (by simp only[bw];omega)]
  unfold CJ at hm;rw[ak hx,ho]at hm;cases hm
 rcases BQ h hov hun rfl rfl hx hne with⟨b1',b2',σ1,σ2,e1,e2,e3,hb⟩|⟨e1,e2⟩
 rotate_left
 ·exfalso;unfold CJ at hm;rw[ak hx,e1]at hm;cases hm
 have ev:=xM h hov hun rfl rfl hb e1;have ev':KB sys ((ov:Int),(p.length:Int),(un:Int))=OT σ1 (sys.2.getD ov default).1 (sys.2.getD ov default).2 (tr p q (sys.2.getD un default).2) (p.length:Int) un ov:=by unfold KB;rw[ev];rfl
 rw[ev']at h2⊢;unfold OT at h2⊢;by_cases c:(sub σ1 (sys.2.getD ov default).1).length<=60/\(sub σ1 (sys.2.getD ov default).2).length<=60/\(sub σ1 (tr p q (sys.2.getD un default).2)).length<=60/\(mB [] (sub σ1 (sys.2.getD ov default).1)).length<=24
 rotate_left
 ·rw[ak c]at h2;cases h2
 rw[ah c];clear h2 ev ev' e1 e2 e3 hy;obtain⟨ρ,hn⟩:=hb.Zj;have he:=hb.ZD;obtain⟨q1,q2,q3,q4⟩:=c;generalize hOv:sys.2.getD ov default=RO at *;generalize hUn:sys.2.getD un default=RU at *;obtain⟨l,r⟩:=RO;obtain⟨l',r'⟩:=RU;simp only at *;generalize ho:mB [] (sub σ1 l)=o at q4⊢;have oin:∀y∈sub σ1 l,y<0->y∈o:=fun y hy h0=>by rw[<-ho];exact yY hy h0
 have osub:∀y∈sub σ1 s,y<0->y∈o:=fun y hy h0=>oin y (by rw[h.split,jK,jK];exact bE _ (bk _ hy)) h0
 let τ:Sb:=fun x=>wJ o (σ1 x)
 let τ':Sb:=fun x=>wJ o (σ1 (zT x))
 have hT:∀t,wJ o (sub σ1 t)=sub τ t:=fun t=>KH σ1 o t
 have haw:∀t,sub τ (BY t)=sub τ' t:=fun t=>by
  induction t with
  |nil=>rfl
  |cons x t ih=>
   show sub τ (zT x::BY t)=_;rw[jg,jg,ih];congr 1;by_cases h0:x<0
   ·rw[ah h0,ah (AH.2 h0)]
   ·rw[ak h0,ak (fun c=>h0 (AH.1 c))];simp[zT,h0]
 have wτ:∀n∈l,n<0->Wf sys.1 1 (τ n):=fun n hnl h0=>Ht q4 (hn.wv n h0) fun y hy hy0=>oin y (nO.2 ⟨n,hnl,.inl ⟨h0,hy⟩⟩) hy0
 have wτ':∀n∈l',n<0->Wf sys.1 1 (τ' n):=fun n hnl h0=>Ht q4 (hn.wv _ (AH.2 h0)) fun y hy hy0=>osub y (by rw[he];exact nO.2 ⟨zT n,bz.2 ⟨n,hnl,rfl⟩,.inl ⟨AH.2 h0,hy⟩⟩) hy0
 have hmid:wJ o (sub σ1 (tr p q r'))=sub τ p++(sub τ' r'++sub τ q):=by rw[hT];unfold tr;rw[jK,jK,haw]
 have hss:sub τ s=sub τ' l':=by rw[<-hT,he,hT,haw]
 have htop:sub τ l=sub τ p++(sub τ' l'++sub τ q):=by rw[h.split,jK,jK,hss]
 have ltop:(sub τ l).length<=60:=by rw[<-hT];simpa[wJ]using q1
 have lrt:(sub τ r).length<=60:=by rw[<-hT];simpa[wJ]using q2
 have lmid:(sub τ p++(sub τ' r'++sub τ q)).length<=60:=by rw[<-hmid];simpa[wJ]using q3
 have wtop:Wf sys.1 1 (sub τ l):=a3.sub wτ;have ttop:iV sys.1 (sub τ l)=true:=iB.2 ⟨ha,wtop.len,ltop,wtop⟩;have s1:kE sys (sub τ l) 0 (ov:Int)=some (sub τ r):=by
  have:=Cf (P:=[]) (S:=[]) hs hov hOv wτ (by simpa using ttop) lrt (by simpa using lrt);simpa using this
 have s2:kE sys (sub τ l) ((sub τ p).length:Int) (un:Int)=some (sub τ p++(sub τ' r'++sub τ q)):=by
  rw[htop];refine Cf hs hun hUn wτ' (by rw[<-htop];exact ttop) ?_ lmid;simp only[ai]at lmid;omega
 obtain⟨ks,r1,r2⟩:=R3 k1 (at':=p.length) hi;have r3:=PR.sub wτ r1;have hpl:l.take p.length=p:=by rw[h.split,dK]
 rw[hpl,dJ]at r3;have lp:(sub τ p).length<=60:=by simp only[ai]at lmid;omega
 have r4:=OU ttop r3 gY;rw[hmid,hT l,hT r];refine⟨?_,ltop⟩;have B_:Small (sub τ r):=by show List.length _<_;omega
 have hsm2:Small (sub τ p++(sub τ' r'++sub τ q)):=by show List.length _<_;omega
 unfold rE;rw[pH,hs,aa,ah rfl];have hr:∀{k:Nat},k<sys.2.length->pW sys (k:Int)=some true:=fun{k} hk=>by
  unfold pW;rw[ah (by simp only[av];omega),eU gY]
 have body:∀{γ:Type}{z:γ},(True/\z=z):=fun{γ z}=>⟨trivial,rfl⟩
 unfold uf;simp only;rw[hr hov,hr hun,aa,aa,ah rfl,ah rfl];simp only[aq,hOv];simp only[Bs,s1,nS,aa,aC,ou B_,cj,r2,r4,s2,ou hsm2];have g1:((ov:Int)==(un:Int))=true->¬((p.length:Int)==0)=true:=by simp only[bw];omega
 have g2:0<=(ov:Int)/\(ov:Int)<(sys.2.length:Int):=by omega
 have g3:¬decide ((p.length:Int)<0)=true:=by simp
 have g4:¬decide ((l.length:Int)<=(p.length:Int))=true:=by simp only[av];omega
 have g5:0<=(p.length:Int)/\(p.length:Int)<(l.length:Int):=by omega
 have g6:¬decide (l.getD p.length default<0)=true:=by simpa using hx
 by_cases g0:((p.length:Int)==0)=true
 ·rw[ah g0,ak (fun c=>g1 c g0),ah g2,ak g3,ak g4,ah g5,ak g6];rfl
 ·rw[ak g0,ah g2,ak g3,ak g4,ah g5,ak g6];rfl
theorem IE{α:Type}[Inhabited α]{p:α->Bool}{xs:List α}{j:Nat}(h:lE p xs=(j:Int)):p (xs.getD j default)=true:=by
 unfold lE at h;cases e:xs.findIdx? p with
 |none=>rw[e]at h;simp at h
 |some k=>
  rw[e]at h;have:k=j:=by simp at h;omega
  subst this;obtain⟨h1,h2,_⟩:=fO.1 e;rw[iG h1];exact h2
structure Zu(s:Sys)(a:gv)(w:W2):Prop where
 wa:Bi s w.1=true
 wb:Bi s w.2.1=true
 en:zV (Q0 w.1)=zV (Q0 w.2.1)
 fr:w.1.1=a
theorem Ey{s:Sys}{steps:Int}{A:List I6}(h:R6 s steps A)(hs:jN s=true)(ht:iV s.1 (uw A 0).1=true){j:Nat}(hj:j<A.length):
 Bi s ((uw A 0).1,(CD A j j).reverse)=true/\zV (Q0 ((uw A 0).1,(CD A j j).reverse))=(uw A j).1:=by
 obtain⟨q1,q2⟩:=JQ h j j hj (aF _);have:=JP A j j;have hl:=h.len;refine⟨E_.2 ⟨hs,ht,by rw[List.length_reverse];omega,q1⟩,?_⟩;rw[NS];exact q2
theorem DE{s:Sys}{steps:Int}{A B:List I6}{bA bB:Bool}(hA:R6 s steps A)(hB:R6 s steps B)(hs:jN s=true)(hta:iV s.1 (uw A 0).1=true)(htb:iV s.1 (uw B 0).1=true):∀(k i:Nat),i+k=A.length->
 ∃w:W2,iw (kO (A,bA) (B,bB)) (i:Int)=some w/\(w.2.2=true->Zu s (uw A 0).1 w)
 |0,i,h=>⟨(([],[]),([],[]),false),iz (by rw[kO,ak (by simp only[av];omega)];rfl),fun c=>by cases c⟩
 |k+1,i,h=>by
  have hl:=hB.len;have hsm0:=hB.sm;have B_:∀r∈B,Small r.1:=fun r hr=>by have:=hsm0 r hr;show r.1.length<_;omega
  have hi:i<A.length:=by omega
  by_cases hneg:0<=lE (fun r:I6=>r.1==(A.getD i default).1) B
  ·have hlt:=(EJ (p:=fun r:I6=>r.1==(A.getD i default).1) (xs:=B)).2;obtain⟨j,hj⟩:∃j:Nat,lE (fun r:I6=>r.1==(A.getD i default).1) B=j:=⟨(lE (fun r:I6=>r.1==(A.getD i default).1) B).toNat,gY⟩;have hj':j<B.length:=by omega
   have hhit:=IE hj;obtain⟨u1,u2⟩:=Ey hA hs hta hi;obtain⟨v1,v2⟩:=Ey hB hs htb hj';refine⟨(((uw A 0).1,(CD A i i).reverse),((uw B 0).1,(CD B j j).reverse),true),iz ?_,fun _=>⟨u1,v1,?_,rfl⟩⟩
   ·rw[kO];dsimp only;rw[ah (by simp only[av];omega),ah gY,aq,pQ hl B_,aa,ah (by simpa using hneg),hj,qV hA hi,aa,qV hB hj',aa];rfl
   ·simp only;rw[u2,v2];exact(bw.1 hhit).symm
  ·obtain⟨w,w1,w2⟩:=DE hA hB hs hta htb k (i+1) gY;refine⟨w,(iI ?_).trans w1,w2⟩;rw[kO];dsimp only;rw[ah (by simp only[av];omega),ah gY,aq,pQ hl B_,aa,ak (by simpa using hneg),lg (by have:=hA.len;omega) (by have:=hA.len;omega)];rfl
theorem Ro{s:Sys}{a b:gv}{steps:Int}(ha:xV s a steps=true)(hb:xV s b steps=true):∃w:W2,jY s a b steps=some w/\(w.2.2=true->Zu s a w):=by
 obtain⟨A,bA,hA,a0,e1,e2⟩:=xH ha;obtain⟨B,bB,hB,b0,e3,e4⟩:=xH hb;obtain⟨k1,k2,_⟩:=su.1 ha;obtain⟨_,k3,_⟩:=su.1 hb;obtain⟨w,w1,w2⟩:=DE (bA:=bA) (bB:=bB) hA hB k1 (by rw[a0];exact k2) (by rw[b0];exact k3) A.length 0 gY;rw[a0]at w2;refine⟨w,?_,w2⟩;unfold jY;rw[e1,aa,e3,aa];exact w1
theorem EP{sys:Sys}{steps:Int}(hs:jN sys=true)(hd:NY steps=true){y:Pk}(hy:y∈(ry sys).1):∃w:W2,mJ sys y steps=some w/\jY sys y.2.1 y.2.2.1 steps=some w/\w.2.2=Bp sys steps y/\(w.2.2=true->Zu sys y.2.1 w):=by
 obtain⟨h1,h2⟩:=DR hs hy;obtain⟨h3,h4⟩:=Fk.1 hd;obtain⟨w,e1,e2⟩:=Ro (su.2 ⟨hs,h1,h3,h4⟩) (su.2 ⟨hs,h2,h3,h4⟩);refine⟨w,?_,e1,?_,e2⟩
 ·unfold mJ;rw[(T9 hs hy).1,aa,ah rfl,tS,aa,ah hd,e1];rfl
 ·unfold Bp;rw[e1]
theorem R4{sys:Sys}(h:(ry sys).2=false):(ry sys).1=[]:=by
 unfold ry at h⊢;cases e:E2 sys (RZ sys sys.2.length) []with
 |none=>rfl
 |some o=>rw[e]at h;cases h
def F1(sys:Sys)(steps:Int):List Pk:=(ry sys).1.filter fun y=>!Bp sys steps y
theorem yu(sys:Sys){steps:Int}(hd:NY steps=true):oh sys steps=some (if jN sys=true then F1 sys steps else []):=by
 unfold oh;rw[pH,aa];cases hs:jN sys with
 |false=>rfl
 |true=>
  rw[ah rfl,tS,aa,ah hd,xZ hs,aa,ah rfl];have hl:=FO sys;refine qn (n:=(ry sys).1.length) (fun i=>(((ry sys).1.take i).filter fun y=>!Bp sys steps y,(i:Int))) (fun i hi=>?_) ?_
  ·have hx:(ry sys).1.getD i default∈(ry sys).1:=jM hi;obtain⟨w,_,e1,e2,_⟩:=EP hs hd hx;have hfl:(((ry sys).1.take i).filter fun y=>!Bp sys steps y).length<=i:=cw (fq _ _) (by rw[cg];omega);have hj:rS sys (((ry sys).1.getD i default).1,((ry sys).1.getD i default).2.1,((ry sys).1.getD i default).2.2.1,((ry sys).1.getD i default).2.2.2.1,((ry sys).1.getD i default).2.2.2.2.1,((ry sys).1.getD i default).2.2.2.2.2) steps=some (if Bp sys steps ((ry sys).1.getD i default)=true then .inl ()else .inr ()):=by
    unfold rS;simp only;rw[e1,aK,e2]
   have hm:((((ry sys).1.take i).filter fun y=>!Bp sys steps y).length+1)*96<=140737488355328:=by omega
   rw[om,ah (by simp only[av];omega),ah gY,aq,hj,aa,lg gY gY,EH hi,<-iG hi];cases hjn:Bp sys steps ((ry sys).1.getD i default)with
   |true=>simp only[aC,dP,Bool.not_true,aj,aE,aW];rfl
   |false=>simp only[aj,aE,d_,ah hm,Bool.not_false,aC];rfl
  ·rw[om,ak (by simp),cA];rfl
theorem uu{a:gv}(h:a.length<=60):nY a a=some true:=by
 unfold nY;rw[ak (by simp)];refine qn (n:=a.length) (fun i=>((i:Nat):Int)) (fun i hi=>?_) ?_
 ·rw[pJ,ah (by simp only[av];omega),ah gY,ah gY,ak (by simp),lg gY gY];rfl
 ·rw[pJ,ak (by simp)];rfl
theorem yz{y:Pk}(h1:y.1.length<=60)(h2:y.2.1.length<=60)(h3:y.2.2.1.length<=60):nZ y y=some true:=by
 unfold nZ;rw[ah (by simp),ah (by simp),ah (by simp),lX (by show List.length _<_;omega),aa,ah (by simp),lX (by show List.length _<_;omega),aa,ah (by simp),lX (by show List.length _<_;omega),aa];simp
theorem vU{s:Sys}{w:gv×List zo}(h:Bi s w=true):oQ s w=some (zV (Q0 w)):=by
 unfold oQ;rw[wV,h,aa,ah rfl,Cq (HP h)];rfl
end Go.Proofs.YtjgbnaihpicpgaaGreatDoor
