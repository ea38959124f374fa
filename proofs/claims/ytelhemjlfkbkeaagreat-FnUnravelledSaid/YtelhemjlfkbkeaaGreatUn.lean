/- A part of the proof about FnUnravelled (WA, WB, WC, WD, WE, WF, WG, WH, WI, LX, DRA, DRB, DRC, LW). -/
import Derived.Test.YtelhemjlfkbkeaaGreatUl
import Derived.Test.YtelhemjlfkbkeaaGreatUm
set_option linter.all false
namespace Go.Proofs.YtelhemjlfkbkeaaGreat
open Go oe Tm
def mN:fI->List n_->fI
 |t,[]=>t
 |_,x::r=>mN x.2.2 r
theorem A5:∀{ms ns:List n_}{t:fI},mN t (ms++ns)=mN (mN t ms) ns
 |[],_,_=>rfl
 |x::ms,ns,t=>A5 (ms:=ms)
theorem Dt{P Q:fI}:∀{ms:List n_}{t:fI},mN (P++(t++Q)) (ms.map (rX P Q))=P++(mN t ms++Q)
 |[],_=>rfl
 |x::ms,t=>Dt (ms:=ms) (t:=x.2.2)
theorem yL(w:xe):yS (OA w)=mN w.1 w.2:=by
 rw[Oz];have key:∀(ms:List n_)(t:fI),OH t (ms.map fun s=>(s.2.1,s.1,false,s.2.2))=mN t ms:=by
  intro ms;induction ms with
  |nil=>intro t;rfl
  |cons x ms ih=>intro t;exact ih x.2.2
 exact key w.2 w.1
def lN(P Q:fI)(w:xe)(ms:List n_):Option xe:=if w.2.length+ms.length<=60/\∀x∈ms,(P++(x.2.2++Q)).length<=60 then some (w.1,w.2++ms.map (rX P Q))else none
theorem A6{P Q:fI}{w:xe}(h:w.2.length<=60):lN P Q w []=some w:=by unfold lN;rw[aE ⟨by simpa using h,fun x hx=>by cases hx⟩];simp
theorem xU{P Q:fI}{w:xe}{ms ns:List n_}:lN P Q w (ms++ns)=(lN P Q w ms).bind fun w'=>lN P Q w' ns:=by
 unfold lN;by_cases h1:w.2.length+ms.length<=60/\∀x∈ms,(P++(x.2.2++Q)).length<=60
 ·rw[aE h1,aa];by_cases h2:(w.2++ms.map (rX P Q)).length+ns.length<=60/\∀x∈ns,(P++(x.2.2++Q)).length<=60
  ·rw[aE h2,aE ⟨by have:=h2.1;simp at this⊢;omega,fun x hx=>(aG.1 hx).elim (h1.2 x) (h2.2 x)⟩];simp
  ·rw[aJ h2,aJ fun h=>h2 ⟨by have:=h.1;simp at this⊢;omega,fun x hx=>h.2 x (aG.2 (.inr hx))⟩]
 ·rw[aJ h1,aJ fun h=>h1 ⟨by have:=h.1;simp at this⊢;omega,fun x hx=>h.2 x (aG.2 (.inl hx))⟩];rfl
theorem BP{P Q:fI}{w:xe}{x:n_}{ns:List n_}:lN P Q w (x::ns)=(lN P Q w [x]).bind fun w'=>lN P Q w' ns:=xU (ms:=[x])
theorem HG{P Q A B:fI}{w:xe}{ms:List n_}:lN P Q w (ms.map (rX A B))=lN (P++A) (B++Q) w ms:=by
 unfold lN;have e1:∀x:n_,P++((rX A B x).2.2++Q)=(P++A)++(x.2.2++(B++Q)):=fun x=>by simp[rX]
 have e2:∀x:n_,rX P Q (rX A B x)=rX (P++A) (B++Q) x:=fun x=>by
  simp only[rX,aI,au];refine fk ?_ rfl;show(P.length:Int)+((A.length:Int)+x.1)=((P.length+A.length:Nat):Int)+x.1;omega
 have e3:(ms.map (rX A B)).map (rX P Q)=ms.map (rX (P++A) (B++Q)):=by
  rw[eB];exact c_ fun x _=>e2 x
 rw[e3];have e4:(∀x∈ms.map (rX A B),(P++(x.2.2++Q)).length<=60)<->∀x∈ms,((P++A)++(x.2.2++(B++Q))).length<=60:=by
  rw[List.forall_mem_map];constructor
  ·intro h x hx;rw[<-e1];exact h x hx
  ·intro h x hx;rw[e1];exact h x hx
 by_cases hc:w.2.length+ms.length<=60/\∀x∈ms,((P++A)++(x.2.2++(B++Q))).length<=60
 ·rw[aE hc,aE ⟨by rw[aS];exact hc.1,e4.2 hc.2⟩]
 ·rw[aJ hc,aJ fun h=>hc ⟨by have:=h.1;rwa [aS]at this,e4.1 h.2⟩]
theorem xj{P Q:fI}{w w':xe}{ms:List n_}(hw:Ao w)(h:lN P Q w ms=some w'):Ao w':=by
 unfold lN at h;split at h
 ·rename_i hc;cases h;refine⟨hw.from',by have:=hc.1;simpa using this,fun m hm=>?_⟩;rcases aG.1 hm with hm|hm
  ·exact hw.to m hm
  ·obtain⟨x,hx,rfl⟩:=bF.1 hm;exact hc.2 x hx
 ·cases h
theorem vB{P Q t:fI}{w w':xe}{ms:List n_}(he:mN w.1 w.2=P++(t++Q))(h:lN P Q w ms=some w'):mN w'.1 w'.2=P++(mN t ms++Q):=by
 unfold lN at h;split at h
 ·cases h;show mN w.1 (w.2++ms.map (rX P Q))=_;rw[A5,he,Dt]
 ·cases h
theorem xV{P Q:fI}{w w':xe}{ms:List n_}(h:lN P Q w ms=some w'):w'.1=w.1:=by
 unfold lN at h;split at h
 ·cases h;rfl
 ·cases h
theorem Av{w:xe}(h:Ao w):(mN w.1 w.2).length<=60:=by rw[<-yL];exact h.ch.end'
theorem JB{C D x:fI}{w:xe}{ms:List n_}(hx:(C++(x++D)).length<=60):
 lN C D w ms=(lN [] [] (x,[]) ms).bind fun iw=>(Gm C D iw).bind fun pw=>if w.2.length+pw.2.length<=60 then some (w.1,w.2++pw.2)else none:=by
 by_cases hc:w.2.length+ms.length<=60/\∀y∈ms,(C++(y.2.2++D)).length<=60
 ·have h1:lN [] [] (x,[]) ms=some (x,ms):=by
   unfold lN;rw[aE ⟨by have:=hc.1;simp;omega,fun y hy=>by have:=hc.2 y hy;simp only[au,bl,bh]at this⊢;omega⟩];have:ms.map (rX [] [])=ms:=by
    have e:∀y:n_,rX [] [] y=y:=fun y=>by simp[rX]
    rw[c_ fun y _=>e y,de]
   rw[this];rfl
  rw[h1,aa];unfold Gm;rw[aE ⟨hx,hc.2⟩,aa,aE (by rw[aS];exact hc.1)];unfold lN;rw[aE hc]
 ·have e0:lN C D w ms=none:=by unfold lN;rw[aJ hc]
  rw[e0];cases h1:lN [] [] (x,[]) ms with
  |none=>rfl
  |some iw=>
   unfold lN at h1;split at h1
   ·cases h1;have e:∀y:n_,rX [] [] y=y:=fun y=>by simp[rX]
    have:ms.map (rX [] [])=ms:=by rw[c_ fun y _=>e y,de]
    rw[this,aa];unfold Gm;by_cases h2:(C++(x++D)).length<=60/\∀y∈([]:List n_)++ms,(C++(y.2.2++D)).length<=60
    ·rw[aE h2,aa,aJ];intro h3;exact hc ⟨by simpa using h3,h2.2⟩
    ·rw[aJ h2];rfl
   ·cases h1
theorem IB{a l r t t':fI}{i:Nat}(hl:Wf a 1 l)(hv:∀n∈r,n<0->n∈l)(h:Mv a l r t t' i):FL a l r t i=if t'.length<=60 then some t' else none:=by
 obtain⟨p,s,σ,rfl,rfl,rfl,hσ⟩:=h;have hu:Wf a 1 (sub σ l):=hl.sub fun x _ hx=>hσ x hx
 obtain⟨b,h1,h2,h3,h4⟩:=wm (σ:=σ) (b:=k_) hl (by simp[k_]) (fun n _ hn=>hσ n hn) fun n _ _=>.inl (EN n)
 have e:sub (Tm.sig b) r=sub σ r:=sub_congr fun n hn h0=>by
  unfold Tm.sig;rw[h3 n (hv n hn h0) h0,aJ (hσ n h0).ne]
 unfold FL;rw[A0 hu,h1,aa,e,Bu hu];by_cases hc:(p++(sub σ r++s)).length<=60
 ·rw[aE hc,aE ⟨by simp only[au]at hc;omega,hc⟩]
 ·rw[aJ hc,aJ fun h=>hc h.2]
theorem Ea{s:Sys}(hs:lD s=true){P Q t t':fI}{i rule:Nat}(hr:rule<s.2.length)(h:Mv s.1 (s.2.getD rule default).1 (s.2.getD rule default).2 t t' i):
 CE s (P++(t++Q)) (P.length+i) rule=if(P++(t'++Q)).length<=60 then some (P++(t'++Q))else none:=by
 obtain⟨h1,h2,h3⟩:=qu hs hr;unfold CE;exact IB h1 h3 (Gu h)
theorem Px{s:Sys}(hs:lD s=true){t t':fI}{i rule:Nat}(hr:rule<s.2.length)(h:Mv s.1 (s.2.getD rule default).1 (s.2.getD rule default).2 t t' i):i<t.length/\i<t'.length:=by
 obtain⟨h1,h2,_⟩:=qu hs hr;obtain⟨p,q,σ,rfl,rfl,rfl,hσ⟩:=h;have l1:=(h1.sub fun x _ hx=>hσ x hx:Wf s.1 1 (sub σ _)).len;have l2:=(h2.sub fun x _ hx=>hσ x hx:Wf s.1 1 (sub σ _)).len;simp only[au];omega
theorem CX{P Q t':fI}{w:xe}{i:Nat}{rule:Int}:lN P Q w [((i:Int),rule,t')]=if w.2.length+1<=60/\(P++(t'++Q)).length<=60 then some (w.1,w.2++[((P.length:Int)+i,rule,P++(t'++Q))])else none:=by
 unfold lN;by_cases hc:w.2.length+1<=60/\(P++(t'++Q)).length<=60
 ·rw[aE hc,aE ⟨hc.1,fun x hx=>by rw[bS.1 hx];exact hc.2⟩];rfl
 ·rw[aJ hc,aJ fun h=>hc ⟨h.1,h.2 _ (bS.2 rfl)⟩]
theorem KB{s:Sys}(hs:lD s=true){P Q t t':fI}{w:xe}{i rule:Nat}(hr:rule<s.2.length)(h:Mv s.1 (s.2.getD rule default).1 (s.2.getD rule default).2 t t' i)
 (hw:Ao w) (he:mN w.1 w.2=P++(t++Q)) (hf:Wf s.1 1 (P++(t++Q))):
 mT s w ((P.length+i:Nat):Int) rule=some (match lN P Q w [((i:Int),(rule:Int),t')]with|some w'=>(w',true)|none=>(w,false)):=by
 have hl:=hw.len;have hlt:=(Px hs hr h).1;have hel:=Av hw;rw[he]at hel;unfold mT;by_cases h60:w.2.length+1<=60
 ·have ht:gE s.1 (P++(t++Q))=true:=pe (qU.1 hs).1 hf hel;rw[aJ (by simp only[aQ];omega),vN hw,aa,yL,he,xO hs ht (by simp only[au];omega) hr,Ea hs hr h,aa];by_cases h1:(P++(t'++Q)).length<=60
  ·have hE:=CX (P:=P) (Q:=Q) (t':=t') (w:=w) (i:=i) (rule:=(rule:Int));rw[aE ⟨h60,h1⟩]at hE;rw[hE,aE h1];simp only[jt,aj];rw[aE gu,aE gu];simp
  ·have hE:=CX (P:=P) (Q:=Q) (t':=t') (w:=w) (i:=i) (rule:=(rule:Int));rw[aJ fun h=>h1 h.2]at hE;rw[hE,aJ h1];simp[jt]
 ·have hE:=CX (P:=P) (Q:=Q) (t':=t') (w:=w) (i:=i) (rule:=(rule:Int));rw[aJ fun h=>h60 h.1]at hE;rw[hE,aE (by simp only[aQ];omega)]
theorem wB{x:n_}{w0:fI}{w1:List n_}(hx:x.2.2.length<=60)(hw:w1.length<=1000):oY x w0 w1=some (w1++[x]):=by
 unfold oY;rw[nR (show x.2.2.length<_ by omega),aa,aE gu]
section
variable{s:Sys}(hs:lD s=true){P Q t t':fI}{w0:fI}{w1:List n_}{i rule:Nat}(hr:rule<s.2.length)(h:Mv s.1 (s.2.getD rule default).1 (s.2.getD rule default).2 t t' i)
 (hw:Ao (w0,w1)) (he:mN w0 w1=P++(t++Q)) (hf:Wf s.1 1 (P++(t++Q)))
include hs hr h hw he hf
theorem Kn{add:n_->fI->List n_->Option (List n_)}(hadd:∀{x:n_},x.2.2.length<=60->add x w0 w1=some (w1++[x])):
 ((mZ (w0,w1)).bind fun r=>(tu s r ((P.length+i:Nat):Int) rule).bind fun r_1=>if r_1.2=true then if((w1.length:Int)==60)=true then some (false,w1)else(add (((P.length+i:Nat):Int),(rule:Int),r_1.1) w0 w1).bind fun r_2=>some (true,r_2)else some (false,w1))=
  some (match lN P Q (w0,w1) [((i:Int),(rule:Int),t')]with|some w'=>(true,w'.2)|none=>(false,w1)):=by
 have hl:=hw.len;have hlt:=(Px hs hr h).1;have hel:=Av hw;simp only at hel hl;rw[he]at hel;have ht:gE s.1 (P++(t++Q))=true:=pe (qU.1 hs).1 hf hel;have e0:yS (OA (w0,w1))=P++(t++Q):=by rw[yL];exact he
 rw[sY hw,aa,e0,C8 hs ht (by simp only[au];omega) hr,Ea hs hr h,aa];have hE:=CX (P:=P) (Q:=Q) (t':=t') (w:=(w0,w1)) (i:=i) (rule:=(rule:Int));by_cases h1:(P++(t'++Q)).length<=60
 ·rw[aE h1];simp only[jt,aj];by_cases h60:w1.length+1<=60
  ·rw[aE ⟨h60,h1⟩]at hE;rw[hE,aJ (by simp;omega),hadd h1];simp
  ·rw[aJ fun h=>h60 h.1]at hE;rw[hE,aE (by simp;omega)]
 ·rw[aJ fun h=>h1 h.2]at hE;rw[hE,aJ h1];simp[jt]
theorem MY:kf s ((P.length+i:Nat):Int) rule w0 w1=some (match lN P Q (w0,w1) [((i:Int),(rule:Int),t')]with|some w'=>(true,w'.2)|none=>(false,w1)):=by
 unfold kf;exact Kn hs hr h hw he hf fun hx=>wB hx (by have:=hw.len;simp only at this;omega)
end
theorem FF{a X:fI}:∀{t r:fI}{k:Nat},Tm.skip a t k=some r->Tm.skip (a++X) t k=some r
 |t,r,0,h=>by rw[si]at h⊢;exact h
 |[],r,k+1,h=>by rw[D8]at h;cases h
 |x::t,r,k+1,h=>by
  rw[tW]at h⊢;split at h
  ·rename_i hx;obtain⟨h1,h2⟩:=hx;have e:vH (a++X) x=vH a x:=by
    unfold vH;split
    ·rfl
    ·rw[aB,aB,aZ gu]
   rw[aE (show Fx (a++X) x from⟨h1,by simp only[au];omega⟩),e];exact FF h
  ·cases h
theorem S0{a X t:fI}{k:Nat}(h:Wf a k t):Wf (a++X) k t:=FF h
def oD(cs:mY)(k:Nat):Nat:=((cs.2.take k).foldl lB (cs.1,[])).1.length
theorem GP:∀(rs:List ye)(acc:Sys),∃X Y,rs.foldl lB acc=(acc.1++X,acc.2++Y)
 |[],acc=>⟨[],[],by simp⟩
 |r::rs,acc=>by
  obtain⟨X,Y,h⟩:=GP rs (lB acc r);refine⟨Eu r r.2.2.length++X,jq r acc.1.length++Y,?_⟩;rw[cE,h];simp[lB]
theorem FT:∀(rs:List ye)(acc:Sys),(rs.foldl lB acc).2.length=acc.2.length+(rs.map fun r=>1+r.2.2.length).sum
 |[],acc=>by simp
 |r::rs,acc=>by
  rw[cE,FT rs];simp only[lB,au,qG,aT,List.sum_cons];omega
theorem Qs{cs:mY}{k:Nat}(hk:k<cs.2.length):∃L X Y,L.length=mI cs k/\(ju cs).2=L++(jq (cs.2.getD k default) (oD cs k)++Y)/\(ju cs).1=cs.1++X:=by
 have hsplit:cs.2=cs.2.take k++(cs.2.getD k default::cs.2.drop (k+1)):=by rw[iM hk,List.getElem_cons_drop,bQ]
 obtain⟨X,Y,h⟩:=GP (cs.2.drop (k+1)) (lB ((cs.2.take k).foldl lB (cs.1,[])) (cs.2.getD k default));obtain⟨X',Y',h'⟩:=GP cs.2 (cs.1,[]);refine⟨((cs.2.take k).foldl lB (cs.1,[])).2,X',Y,by rw[FT];simp[mI],?_,by unfold ju;rw[h']⟩;have e:ju cs=(cs.2.drop (k+1)).foldl lB (lB ((cs.2.take k).foldl lB (cs.1,[])) (cs.2.getD k default)):=by
  unfold ju;conv=>lhs;rw[hsplit]
  rw[dK,cE]
 rw[e,h];simp[lB,oD]
theorem rN{cs:mY}{k j:Nat}(hk:k<cs.2.length)(hj:j<=(cs.2.getD k default).2.2.length):
 mI cs k+j<(ju cs).2.length/\(ju cs).2.getD (mI cs k+j) default=(jq (cs.2.getD k default) (oD cs k)).getD j default:=by
 obtain⟨L,X,Y,h1,h2,_⟩:=Qs hk;have hl:j<(jq (cs.2.getD k default) (oD cs k)).length:=by rw[qG];omega
 rw[h2];refine⟨by simp only[au];omega,?_⟩;generalize jq (cs.2.getD k default) (oD cs k)=R at hl⊢;rw[aB,aB,bN gu,show mI cs k+j-L.length=j by omega,aZ hl]
theorem sj{cs:mY}{k:Nat}(hk:k<cs.2.length){t:fI}{n:Nat}(h:Wf cs.1 n t):Wf (ju cs).1 n t:=by
 obtain⟨L,X,Y,_,_,h3⟩:=Qs hk;rw[h3];exact S0 h
def Fk(r:ye)(j:Nat)(b:Bd):fI:=sub (Tm.sig b) ((nF r j).map fun v=> -1-v)
theorem FM{σ:Int->fI}{sym:Int}(h:0<=sym){t vars:fI}:sub σ (wg sym t vars)=[sym]++(sub σ t++sub σ (vars.map fun v=> -1-v)):=by
 unfold wg;rw[aI,dD,uI,aJ gu,GN]
def GX(a:fI)(nf:fI->Option fI)(ntr:fI->List n_)(r:ye)(sym fst:Nat)(A B:fI):List fJ->Nat->Bd->List n_
 |[],_,_=>[]
 |c::ms,j,b=>match nf (sub (Tm.sig b) c.1)with
  |none=>[]
  |some y=>match uL a c.2 y b with
   |none=>[]
   |some b'=>(ntr (sub (Tm.sig b) c.1)).map (rX (A++[((sym+j:Nat):Int)]) (Fk r j b++B))++
    (((A.length:Int),((fst+(j+1):Nat):Int),A++(sub (Tm.sig b') ((jq r sym).getD (j+1) default).2++B))::GX a nf ntr r sym fst A B ms (j+1) b')
abbrev Kz:=fI->Nat->Nat->List n_
def vQ(cs:mY)(st:oS)(tr:Kz):Nat->fI->List n_
 |0,_=>[]
 |n+1,x=>match nG cs st x with
  |none=>[]
  |some p=>match st x p.1 p.2 with
   |none=>[]
   |some x'=>tr x p.1 p.2++vQ cs st tr n x'
def Qk(cs:mY)(nf:fI->Option fI)(ntr:fI->List n_):Kz:=fun u p k=>
 match uL cs.1 (cs.2.getD k default).1 (iz cs.1 u p) k_ with
 |none=>[]
 |some b=>((p:Int),((mI cs k:Nat):Int),u.take p++(sub (Tm.sig b) ((jq (cs.2.getD k default) (oD cs k)).getD 0 default).2++u.drop (p+(iz cs.1 u p).length)))::
  GX cs.1 nf ntr (cs.2.getD k default) (oD cs k) (mI cs k) (u.take p) (u.drop (p+(iz cs.1 u p).length)) (cs.2.getD k default).2.2 0 b
def Qj(cs:mY):Nat->Kz
 |0=>Qk cs (fun _=>none) fun _=>[]
 |d+1=>Qk cs (rH cs (CR cs d) 8) (vQ cs (CR cs d) (Qj cs d) 8)
theorem OI{t:fI}{ms ns:List n_}{x:n_}:mN t (ms++(x::ns))=mN x.2.2 ns:=by rw[A5];rfl
theorem wH{σ:Int->fI}{t x:fI}(h:oo σ t=some x):x=sub σ t/\x.length<=60:=by
 unfold oo at h;split at h
 ·rename_i hl;cases h;exact⟨rfl,hl⟩
 ·cases h
theorem KN{a:fI}{nf:fI->Option fI}{ntr:fI->List n_}{r:ye}{sym fst:Nat}{A B:fI}:∀{ms:List fJ}{j:Nat}{b bf:Bd},j+ms.length=r.2.2.length->pP a nf ms b=some bf->
 mN (A++(sub (Tm.sig b) ((jq r sym).getD j default).2++B)) (GX a nf ntr r sym fst A B ms j b)=A++(sub (Tm.sig bf) r.2.1++B)
 |[],j,b,bf,hj,h=>by
  cases h;obtain rfl:j=r.2.2.length:=by simpa using hj
  rw[GX,mN,CB]
 |c::ms,j,b,bf,hj,h=>by
  rw[pP]at h;obtain⟨x,g1,h'⟩:=ai.1 h;obtain⟨y,g2,h''⟩:=ai.1 h';obtain⟨b2,g3,h3⟩:=ai.1 h'';rw[(wH g1).1]at g2;rw[GX];simp only[g2,g3];rw[OI];exact KN (by simp only[aK]at hj;omega) h3
theorem Dq{cs:mY}{nf:fI->Option fI}{nfo:Option (fI->Option fI)}(hn:nfo=some nf\/nfo=none){u u':fI}{p k:Nat}(h:G3 cs nfo u p k=some u'):
 ∃b bf,uL cs.1 (cs.2.getD k default).1 (iz cs.1 u p) k_=some b/\pP cs.1 nf (cs.2.getD k default).2.2 b=some bf/\(nfo=none->(cs.2.getD k default).2.2=[])/\
  (sub (Tm.sig bf) (cs.2.getD k default).2.1).length<=60/\u'=EF cs.1 u p (sub (Tm.sig bf) (cs.2.getD k default).2.1):=by
 unfold G3 yC at h;obtain⟨bf,g1,h3⟩:=ai.1 h;obtain⟨b,h0,h1⟩:=ai.1 g1;obtain⟨v,h2,h4⟩:=ai.1 h3;obtain⟨hv1,hv⟩:=wH h2;rw[hv1]at hv;have hp:u'=EF cs.1 u p (sub (Tm.sig bf) (cs.2.getD k default).2.1):=by
  rw[<-hv1];unfold zD at h4;split at h4
  ·exact(er h4).symm
  ·cases h4
 by_cases hc:(cs.2.getD k default).2.2=[]
 ·rw[aE hc]at h1;have e:=er h1;exact⟨b,bf,h0,by rw[hc,pP,e],fun _=>hc,hv,hp⟩
 ·rw[aJ hc]at h1;rcases hn with hn|hn
  ·rw[hn]at h1;exact⟨b,bf,h0,h1,(fun h=>by rw[h]at hn;cases hn),hv,hp⟩
  ·rw[hn]at h1;cases h1
theorem LF{cs:mY}{nf:fI->Option fI}{nfo:Option (fI->Option fI)}(hn:nfo=some nf\/nfo=none){ntr:fI->List n_}{u u':fI}{p k:Nat}(h:G3 cs nfo u p k=some u'):
 mN u (Qk cs nf ntr u p k)=u':=by
 obtain⟨b,bf,h0,h1,_,_,rfl⟩:=Dq hn h;unfold Qk;simp only[h0];rw[mN,KN (by simp) h1];rfl
theorem BA{cs:mY}:∀{d:Nat}{u u':fI}{p k:Nat},CR cs d u p k=some u'->mN u (Qj cs d u p k)=u'
 |0,u,u',p,k,h=>LF (.inr rfl) h
 |d+1,u,u',p,k,h=>LF (.inl rfl) h
theorem Bm{cs:mY}{st:oS}{tr:Kz}(ht:∀x p k x',st x p k=some x'->mN x (tr x p k)=x'):∀{n:Nat}{x y:fI},rH cs st n x=some y->mN x (vQ cs st tr n x)=y
 |0,x,y,h=>by
  rw[rH]at h;rw[vQ,mN];split at h
  ·cases h;rfl
  ·cases h
 |n+1,x,y,h=>by
  rw[rH]at h;rw[vQ];cases hp:nG cs st x with
  |none=>rw[hp]at h;cases h;rfl
  |some p=>
   rw[hp]at h;obtain⟨x',h1,h2⟩:=ai.1 h;simp only[h1];rw[A5,ht _ _ _ _ h1];exact Bm ht h2
abbrev Nh(ms:List n_):Prop:=∀x∈ms,0<=x.1/\x.1<x.2.2.length
theorem Nh.ins{ms:List n_}{P Q:fI}(h:Nh ms):Nh (ms.map (rX P Q)):=fun x hx=>by
 obtain⟨y,hy,rfl⟩:=bF.1 hx;have:=h y hy;simp only[rX,au];omega
section
variable{cs:mY}(hc:mV cs=true)(hS:lD (ju cs)=true)
def P_(b:Bd)(x:Int):fI:=if -24<=x then Tm.sig b x else [-1]
theorem Lt{k:Nat}(hk:k<cs.2.length){b:Bd}(hg:CT cs.1 b):∀x,x<0->Wf (ju cs).1 1 (P_ b x):=fun x hx=>by
 unfold P_;split
 ·rename_i h;exact sj hk (hg.sub.wf x h hx)
 ·exact Wf.var
theorem D5{a t:fI}{n:Nat}{b:Bd}(ht:Wf a n t):sub (P_ b) t=sub (Tm.sig b) t:=sub_congr fun x hx _=>by unfold P_;rw[aE (ht.all x hx).1]
include hS in
theorem zT{k j:Nat}(hk:k<cs.2.length)(hj:j<=(cs.2.getD k default).2.2.length){b:Bd}(hg:CT cs.1 b){A B:fI}:
 Mv (ju cs).1 ((ju cs).2.getD (mI cs k+j) default).1 ((ju cs).2.getD (mI cs k+j) default).2
  (A++(sub (Tm.sig b) ((jq (cs.2.getD k default) (oD cs k)).getD j default).1++B)) (A++(sub (Tm.sig b) ((jq (cs.2.getD k default) (oD cs k)).getD j default).2++B)) A.length:=by
 obtain⟨h1,h2⟩:=rN hk hj;obtain⟨w1,w2,_⟩:=qu hS h1;refine⟨A,B,P_ b,rfl,?_,?_,Lt hk hg⟩
 ·rw[D5 w1,h2]
 ·rw[D5 w2,h2]
include hS in
theorem IQ{k j:Nat}(hk:k<cs.2.length)(hj:j<=(cs.2.getD k default).2.2.length){b:Bd}(hg:CT cs.1 b):Wf (ju cs).1 1 (sub (Tm.sig b) ((jq (cs.2.getD k default) (oD cs k)).getD j default).2):=by
 obtain⟨h1,h2⟩:=rN hk hj;obtain⟨w1,w2,_⟩:=qu hS h1;rw[h2]at w2;rw[<-D5 w2];exact w2.sub fun x _ hx=>Lt hk hg x hx
end
theorem RY{a:fI}{r:ye}(hr:qZ a r=true){j:Nat}(hj:j<r.2.2.length){b b':Bd}(hk:F0 b (tY r j))(h2:∀n,n<0->kG b n≠[]->kG b' n=kG b n):Fk r j b'=Fk r j b:=by
 unfold Fk;refine sub_congr fun n hn h0=>?_
 obtain⟨v,hv,rfl⟩:=bF.1 hn;rw[<-HR hr hj]at hv;have hm:=GQ.1 (dm.1 hv).1;have:=hk _ hm.2 h0;unfold Tm.sig;rw[h2 _ h0 this]
theorem NM{r:ye}{j:Nat}(hj:j<r.2.2.length):tY r (j+1)=tY r j++(r.2.2.getD j default).2:=by
 unfold tY;rw[mX hj,eZ];simp
theorem ID{b:Bd}{t:fI}(h:∀n∈t,n<0->kG b n≠[]):sub (kG b) t=sub (Tm.sig b) t:=sub_congr fun n hn h0=>by unfold Tm.sig;rw[aJ (h n hn h0)]
theorem BM{a:fI}{r:ye}(hr:qZ a r=true){sym j:Nat}(hj:j<r.2.2.length){b b':Bd}{y:fI}(hg:CT a b)(hk:F0 b (tY r j))(hy:gE a y=true)(hm:uL a (r.2.2.getD j default).2 y b=some b'):
 sub (Tm.sig b) ((jq r sym).getD j default).2=[((sym+j:Nat):Int)]++(sub (Tm.sig b) (r.2.2.getD j default).1++Fk r j b)/\
 sub (Tm.sig b') ((jq r sym).getD (j+1) default).1=[((sym+j:Nat):Int)]++(y++Fk r j b)/\CT a b'/\F0 b' (tY r (j+1)):=by
 obtain⟨_,_,_,_,h5⟩:=jS.1 hr;have hcs:=qN h5 _ (iQ hj);obtain⟨e1,e2⟩:=FA (r:=r) (sym:=(sym:Int)) hj;obtain⟨m1,m2,m3,m4⟩:=xG hg hcs.2 hy hm;have ec:(sym:Int)+(j:Int)=((sym+j:Nat):Int):=by omega
 refine⟨?_,?_,m1,?_⟩
 ·rw[e1,FM gu,ec];rfl
 ·rw[e2,FM gu,ec,<-ID m3,<-m2];have:=RY hr hj hk m4;unfold Fk at this;rw[this];rfl
 ·rw[NM hj];exact hk.app m3 m4
section
variable{cs:mY}(hc:mV cs=true)(hS:lD (ju cs)=true)
include hc hS
theorem EO{k:Nat}(hk:k<cs.2.length){nf:fI->Option fI}{ntr:fI->List n_}(hkeep:∀x y,gE cs.1 x=true->nf x=some y->gE cs.1 y=true)(hn:∀x y,gE cs.1 x=true->nf x=some y->Nh (ntr x)){A B:fI}:
 ∀{ms:List fJ}{j:Nat}{b bf:Bd},(cs.2.getD k default).2.2.drop j=ms->j+ms.length=(cs.2.getD k default).2.2.length->CT cs.1 b->pP cs.1 nf ms b=some bf->Nh (GX cs.1 nf ntr (cs.2.getD k default) (oD cs k) (mI cs k) A B ms j b)
 |[],_,_,_,_,_,_,_=>fun x hx=>by cases hx
 |c::ms,j,b,bf,hd,hj,hg,h=>by
  simp only[aK]at hj;obtain⟨g1,g2,g3⟩:=drop_cons hd;have hrk:=(mF.1 hc).2.2 _ (iQ hk);obtain⟨_,_,_,_,h5⟩:=jS.1 hrk;have hcs:=qN h5 _ (iQ g1);rw[g2]at hcs;rw[pP]at h;obtain⟨x,e0,h'⟩:=ai.1 h;obtain⟨y,e1,h''⟩:=ai.1 h';obtain⟨b',e2,h3⟩:=ai.1 h'';have hx:=vb hg hcs.1 e0;obtain⟨rfl,_⟩:=wH e0;intro z hz;rw[GX]at hz;simp only[e1,e2]at hz;obtain⟨m1,_,_,_⟩:=xG hg hcs.2 (hkeep _ _ hx e1) e2;rcases aG.1 hz with hz|hz
  ·exact(hn _ _ hx e1).ins z hz
  ·rcases bt.1 hz with rfl|hz
   ·have:=(IQ hS hk (j:=j+1) gu m1).len;simp only[au];omega
   ·exact EO hk hkeep hn g3 gu m1 h3 z hz
theorem FQ{nf:fI->Option fI}{nfo:Option (fI->Option fI)}(hno:nfo=some nf\/nfo=none){ntr:fI->List n_}(hkeep:∀x y,gE cs.1 x=true->nf x=some y->gE cs.1 y=true)(hn:∀x y,gE cs.1 x=true->nf x=some y->Nh (ntr x))
 {u u':fI} {p k:Nat} (hu:gE cs.1 u=true) (hp:p<u.length) (hk:k<cs.2.length) (h:G3 cs nfo u p k=some u'):Nh (Qk cs nf ntr u p k):=by
 obtain⟨b,bf,h0,h1,_,_,_⟩:=Dq hno h;obtain⟨ha,_,hl,hw⟩:=gH.1 hu;have hrk:=(mF.1 hc).2.2 _ (iQ hk);obtain⟨r1,_,_,_,_⟩:=jS.1 hrk;obtain⟨A,s,B,e,hA,hs⟩:=hw.place hp;have hat:iz cs.1 u p=s:=by rw[e,<-hA];exact A0 hs
 have hsl:s.length<=60:=by rw[e]at hl;simp at hl;omega
 rw[hat]at h0;obtain⟨m1,_,_,_⟩:=xG xl r1 (pe ha hs hsl) h0;unfold Qk;rw[hat,h0];intro z hz;rcases bt.1 hz with rfl|hz
 ·have:=(IQ hS hk (j:=0) gu m1).len;simp only[au,aU];omega
 ·exact EO hc hS hk hkeep hn (by simp) (by simp) m1 h1 z hz
theorem DU{st:oS}{tr:Kz}(hkeep:xP cs st)(ht:∀x p k x',gE cs.1 x=true->p<x.length->k<cs.2.length->st x p k=some x'->Nh (tr x p k)):∀{n:Nat}{x y:fI},gE cs.1 x=true->rH cs st n x=some y->Nh (vQ cs st tr n x)
 |0,x,y,_,h=>fun z hz=>by cases hz
 |n+1,x,y,hx,h=>by
  rw[rH]at h;rw[vQ];cases hp:nG cs st x with
  |none=>intro z hz;cases hz
  |some p=>
   rw[hp]at h;obtain⟨x',h1,h2⟩:=ai.1 h;obtain⟨p1,p2,_⟩:=qF hp;simp only[h1];intro z hz;rcases aG.1 hz with hz|hz
   ·exact ht _ _ _ _ hx p1 p2 h1 z hz
   ·exact DU hkeep ht (hkeep _ _ _ _ hx p1 p2 h1) h2 z hz
theorem FO:∀{d:Nat}{u u':fI}{p k:Nat},gE cs.1 u=true->p<u.length->k<cs.2.length->CR cs d u p k=some u'->Nh (Qj cs d u p k)
 |0,u,u',p,k,hu,hp,hk,h=>FQ hc hS (nfo:=none) (.inr rfl) (fun _ _ _ h=>by cases h) (fun _ _ _ h=>by cases h) hu hp hk h
 |d+1,u,u',p,k,hu,hp,hk,h=>FQ hc hS (.inl rfl) (fun x y hx hy=>xy (vT hc d) hx hy) (fun x y hx hy=>DU hc hS (vT hc d) (fun x p k x' a1 a2 a3 a4=>FO a1 a2 a3 a4) hx hy) hu hp hk h
end
theorem VQ{x:fI}{ms:List n_}{iw:xe}(h:lN [] [] (x,[]) ms=some iw):iw=(x,ms)/\ms.length<=60/\∀y∈ms,y.2.2.length<=60:=by
 unfold lN at h;split at h
 ·rename_i hc;cases h;have e:∀y:n_,rX [] [] y=y:=fun y=>by simp[rX]
  have:ms.map (rX [] [])=ms:=by rw[c_ fun y _=>e y,de]
  rw[this];exact⟨rfl,by simpa using hc.1,fun y hy=>by have:=hc.2 y hy;simpa using this⟩
 ·cases h
theorem zf{s:Sys}(hs:lD s=true){w:xe}{P u Q:fI}(hw:Ao w)(hp:Nh w.2)(hu:Wf s.1 1 u)(ht:gE s.1 (P++(u++Q))=true):
 pq s.1 w (P++(u++Q)) (P.length:Int)=some (wF (Gm P Q w)):=by
 obtain⟨ha,_,htl,htw⟩:=gH.1 ht;have hul:=hu.len;have hl:=hw.len;have hPl:(P++(u++Q)).length=P.length+(u.length+Q.length):=by simp
 have hm:∀x∈P++(u++Q), -24<=x:=fun x hx=>(htw.all x hx).1
 unfold pq Gm;rw[uY ha hu hm htl hw.from',aa,Lm hu];by_cases h1:(P++(w.1++Q)).length<=60
 ·rw[aE h1,RM h1];simp only[jt,aj];refine HS (fun i out x hi hx hg ho=>?_) (fun out=>by simp[pz]);have hx1:=hp x hx;have hx2:=hw.to x hx;simp only[pz,show(i:Int)<w.2.length by omega,aC,aj,show(0:Int)<=i by omega,aW,az,hg,uY ha hu hm htl hx2,aa,Lm hu,kI (n:=(i:Int)+1) gu gu,show(out.length+1)*40<=140737488355328 by omega,
   kI (n:=x.1+(P.length:Int)) gu gu]
  by_cases hq:(P++(x.2.2++Q)).length<=60
  ·simp only[hq,aj,jt,rX,Int.add_comm]
  ·simp only[hq,ay,jt,ah];rfl
 ·rw[aJ h1];simp only[jt,ah,ay,h1,false_and];rfl
section
variable{β:Type}{cs:mY}{st:oS}{tr:Kz}{r0 C D:fI}{fail:β}
theorem PX{f2:fI×List n_->Option ((fI×List n_)⊕((Int×List n_)⊕β))}{K:List n_->Option ((Int×List n_)⊕β)}(hkeep:xP cs st)
 (hend:∀x p k x',st x p k=some x'->mN x (tr x p k)=x') (hwf:∀x,gE cs.1 x=true->Wf (ju cs).1 1 x)
 (hf:∀x w1,gE cs.1 x=true->Ao (r0,w1)->mN r0 w1=C++(x++D)->Wf (ju cs).1 1 (C++(x++D))->nG cs st x=none->f2 (x,w1)=Option.map Sum.inr (K w1))
 (hg:∀x w1 p x',gE cs.1 x=true->Ao (r0,w1)->mN r0 w1=C++(x++D)->Wf (ju cs).1 1 (C++(x++D))->nG cs st x=some p->st x p.1 p.2=some x'->
  f2 (x,w1)=some (match lN C D (r0,w1) (tr x p.1 p.2)with|some w'=>.inl (x',w'.2)|none=>.inr (.inr fail))):
 ∀{n:Nat}{x y:fI}{w1:List n_},rH cs st n x=some y->gE cs.1 x=true->Ao (r0,w1)->mN r0 w1=C++(x++D)->Wf (ju cs).1 1 (C++(x++D))->
  gI f2 (x,w1)=match lN C D (r0,w1) (vQ cs st tr n x)with|some w'=>K w'.2|none=>some (.inr fail):=by
 have hnone:∀{n:Nat}{x:fI}{w1:List n_},nG cs st x=none->gE cs.1 x=true->Ao (r0,w1)->mN r0 w1=C++(x++D)->Wf (ju cs).1 1 (C++(x++D))->
  gI f2 (x,w1)=match lN C D (r0,w1) (vQ cs st tr n x)with|some w'=>K w'.2|none=>some (.inr fail):=by
  intro n x w1 hp hx hw he hwx;have e:vQ cs st tr n x=[]:=by cases n<;>simp[vQ,hp]
  rw[e,A6 hw.len];have:=hf x w1 hx hw he hwx hp;cases hk:K w1 with
  |none=>
   rw[hk]at this;simp only[hk];cases hl:gI f2 (x,w1)with
   |none=>rfl
   |some z=>
    obtain⟨m,hm⟩:=tf hl;cases m with
    |zero=>cases hm
    |succ m=>
     rcases hm with hm|⟨_,hm,_⟩
     ·rw[this]at hm;cases hm
     ·rw[this]at hm;cases hm
  |some z=>
   rw[hk]at this;simp only[hk];exact hU this
 intro n;induction n with
 |zero=>
  intro x y w1 h hx hw he hwx;rw[rH]at h;cases hp:nG cs st x with
  |none=>exact hnone hp hx hw he hwx
  |some p=>rw[hp]at h;cases h
 |succ n ih=>
  intro x y w1 h hx hw he hwx;rw[rH]at h;cases hp:nG cs st x with
  |none=>exact hnone hp hx hw he hwx
  |some p=>
   rw[hp]at h;obtain⟨x',h1,h2⟩:=ai.1 h;obtain⟨p1,p2,_⟩:=qF hp;have hx':=hkeep _ _ _ _ hx p1 p2 h1;have hs:=hg x w1 p x' hx hw he hwx hp h1;rw[vQ,hp];simp only[h1];rw[xU];cases hxw:lN C D (r0,w1) (tr x p.1 p.2)with
   |none=>
    rw[hxw]at hs;exact hU hs
   |some w'=>
    rw[hxw]at hs;have hfr:=xV hxw;have he':=vB he hxw;rw[hend _ _ _ _ h1]at he';obtain⟨w0',w1'⟩:=w';simp only at hfr;subst hfr;rw[jN hs,aa];exact ih h2 hx' (xj hw hxw) he' (Wf.put (hwf x hx) (hwf x' hx') hwx)
end
section
variable{β:Type}{cs:mY}(hc:mV cs=true)(hS:lD (ju cs)=true){k:Nat}(hk:k<cs.2.length){nf:fI->Option fI}{ntr:fI->List n_}{r0 A B:fI}{fail:β}{done:List n_->β}
include hc hS hk
theorem PW{f1:Int×List n_->Option ((Int×List n_)⊕β)}{K:Nat->List n_->Option ((Int×List n_)⊕β)}(hkeep:∀x y,gE cs.1 x=true->nf x=some y->gE cs.1 y=true)
 (hend:∀x y,nf x=some y->mN x (ntr x)=y) (hlen:60>=A.length)
 (hf:∀(j:Nat)(x y f:fI)(w1:List n_)(D:fI),j<(cs.2.getD k default).2.2.length->f.length=1->gE cs.1 x=true->nf x=some y->Ao (r0,w1)->mN r0 w1=(A++f)++(x++D)->Wf (ju cs).1 1 ((A++f)++(x++D))->
  f1 ((j:Int),w1)=match lN (A++f) D (r0,w1) (ntr x)with|some w'=>K j w'.2|none=>some (.inr fail))
 (hK:∀(j:Nat)(w1:List n_)(t t':fI),j<(cs.2.getD k default).2.2.length->Ao (r0,w1)->mN r0 w1=t->Wf (ju cs).1 1 t->Mv (ju cs).1 ((ju cs).2.getD (mI cs k+(j+1)) default).1 ((ju cs).2.getD (mI cs k+(j+1)) default).2 t t' A.length->
  K j w1=some (match lN [] [] (r0,w1) [((A.length:Int),((mI cs k+(j+1):Nat):Int),t')]with|some w'=>.inl (((j+1:Nat):Int),w'.2)|none=>.inr fail))
 (hdone:∀w1,f1 (((cs.2.getD k default).2.2.length:Int),w1)=some (.inr (done w1))):
 ∀{ms:List fJ}{j:Nat}{b bf:Bd}{w1:List n_},(cs.2.getD k default).2.2.drop j=ms->j+ms.length=(cs.2.getD k default).2.2.length->CT cs.1 b->F0 b (tY (cs.2.getD k default) j)->pP cs.1 nf ms b=some bf->Ao (r0,w1)->
  mN r0 w1=A++(sub (Tm.sig b) ((jq (cs.2.getD k default) (oD cs k)).getD j default).2++B)->Wf (ju cs).1 1 (A++(sub (Tm.sig b) ((jq (cs.2.getD k default) (oD cs k)).getD j default).2++B))->
  gI f1 ((j:Int),w1)=some (match lN [] [] (r0,w1) (GX cs.1 nf ntr (cs.2.getD k default) (oD cs k) (mI cs k) A B ms j b)with|some w'=>done w'.2|none=>fail):=by
 intro ms;induction ms with
 |nil=>
  intro j b bf w1 hd hj hg hkn h hw he hwf;obtain rfl:j=(cs.2.getD k default).2.2.length:=by simpa using hj
  rw[GX,A6 hw.len];exact hU (hdone w1)
 |cons c ms ih=>
  intro j b bf w1 hd hj hg hkn h hw he hwf;simp only[aK]at hj;obtain⟨g1,g2,g3⟩:=drop_cons hd;have hrk:=(mF.1 hc).2.2 _ (iQ hk);obtain⟨_,_,_,_,h5⟩:=jS.1 hrk;have hcs:=qN h5 _ (iQ g1);rw[g2]at hcs;rw[pP]at h;obtain⟨x,e0,h'⟩:=ai.1 h;obtain⟨y,e1,h''⟩:=ai.1 h';obtain⟨b',e2,h3⟩:=ai.1 h'';have hx:=vb hg hcs.1 e0;obtain⟨rfl,_⟩:=wH e0;have hy:=hkeep _ _ hx e1;obtain⟨q1,q2,q3,q4⟩:=BM (sym:=oD cs k) hrk g1 hg hkn hy (by rw[g2];exact e2);rw[g2]at q1;rw[GX];simp only[e1,e2];have heq:∀z:fI,A++(([((oD cs k+j:Nat):Int)]++(z++Fk (cs.2.getD k default) j b))++B)=(A++[((oD cs k+j:Nat):Int)])++(z++(Fk (cs.2.getD k default) j b++B)):=fun z=>by simp
  rw[q1,heq]at he hwf;have hF:=hf j _ y [((oD cs k+j:Nat):Int)] w1 _ g1 rfl hx e1 hw he hwf;rw[xU,HG,bl,bh];cases hxw:lN (A++[((oD cs k+j:Nat):Int)]) (Fk (cs.2.getD k default) j b++B) (r0,w1) (ntr (sub (Tm.sig b) c.1))with
  |none=>
   rw[hxw]at hF;exact hU hF
  |some w'=>
   rw[hxw]at hF;simp only at hF;have hfr:=xV hxw;have he':=vB he hxw;rw[hend _ _ e1]at he';obtain⟨w0',w1'⟩:=w';simp only at hfr;subst hfr;have hw':=xj hw hxw;have hwy:Wf (ju cs).1 1 (A++[((oD cs k+j:Nat):Int)]++(y++(Fk (cs.2.getD k default) j b++B))):=Wf.put (sj hk (gH.1 hx).2.2.2) (sj hk (gH.1 hy).2.2.2) hwf;rw[<-heq,<-q2]at he' hwy;have hmv:=zT hS hk (j:=j+1) gu q3 (A:=A) (B:=B);have hKK:=hK j w1' _ _ g1 hw' he' hwy hmv;rw[aa,show ∀(z:n_)(l:List n_),z::l=[z]++l from fun _ _=>rfl,xU];rw[hKK]at hF;cases hst:lN [] [] (w0',w1') [((A.length:Int),((mI cs k+(j+1):Nat):Int),A++(sub (Tm.sig b') ((jq (cs.2.getD k default) (oD cs k)).getD (j+1) default).2++B))]with
   |none=>
    rw[hst]at hF;exact hU hF
   |some w2=>
    rw[hst]at hF;simp only at hF;have hfr2:=xV hst;have he2:=vB (P:=[]) (Q:=[]) (w:=(w0',w1')) (by simpa using he') hst;simp only[mN,bl,bh]at he2;have hw2:=xj hw' hst;obtain⟨v0,v1⟩:=w2;simp only at hfr2;subst hfr2;rw[jN hF,aa];exact ih g3 gu q3 q4 h3 hw2 he2 (hmv.wf (qu hS (rN hk (j:=j+1) gu).1).1 (qu hS (rN hk (j:=j+1) gu).1).2.1 hwy)
end
section
variable{cs:mY}(hc:mV cs=true)(hS:lD (ju cs)=true)
include hc hS
theorem AJ{nf:fI->Option fI}{nfo:Option (fI->Option fI)}(hno:nfo=some nf\/nfo=none){ntr:fI->List n_}{u u':fI}{p k:Nat}(hu:gE cs.1 u=true)(hp:p<u.length)(hk:k<cs.2.length)(h:G3 cs nfo u p k=some u'):
 ∃A s B b bf,u=A++(s++B)/\A.length=p/\Wf cs.1 1 s/\gE cs.1 s=true/\uL cs.1 (cs.2.getD k default).1 s k_=some b/\CT cs.1 b/\F0 b (tY (cs.2.getD k default) 0)/\pP cs.1 nf (cs.2.getD k default).2.2 b=some bf/\(nfo=none->(cs.2.getD k default).2.2=[])/\
  u=A++(sub (Tm.sig b) ((jq (cs.2.getD k default) (oD cs k)).getD 0 default).1++B)/\
  Qk cs nf ntr u p k=((A.length:Int),((mI cs k+0:Nat):Int),A++(sub (Tm.sig b) ((jq (cs.2.getD k default) (oD cs k)).getD 0 default).2++B))::GX cs.1 nf ntr (cs.2.getD k default) (oD cs k) (mI cs k) A B (cs.2.getD k default).2.2 0 b:=by
 obtain⟨b,bf,h0,h1,h2,_,_⟩:=Dq hno h;obtain⟨ha,_,hl,hw⟩:=gH.1 hu;have hrk:=(mF.1 hc).2.2 _ (iQ hk);obtain⟨r1,_,_,_,_⟩:=jS.1 hrk;obtain⟨A,s,B,e,hA,hs⟩:=hw.place hp;have hat:iz cs.1 u p=s:=by rw[e,<-hA];exact A0 hs
 have hsl:s.length<=60:=by rw[e]at hl;simp at hl;omega
 have hso:=pe ha hs hsl;rw[hat]at h0;obtain⟨m1,m2,m3,_⟩:=xG xl r1 hso h0;have hkn:F0 b (tY (cs.2.getD k default) 0):=by
  intro n hn;unfold tY at hn;exact m3 n (by simpa using hn)
 refine⟨A,s,B,b,bf,e,hA,hs,hso,h0,m1,hkn,h1,h2,?_,?_⟩
 ·show u=A++(sub (Tm.sig b) (cs.2.getD k default).1++B);rw[<-ID m3,<-m2];exact e
 ·have t1:u.take p=A:=by rw[e,<-hA];exact eC
  have t2:u.drop (p+s.length)=B:=by rw[e,<-hA,<-List.drop_drop,bI,bI]
  unfold Qk;rw[hat,h0,t1,t2,hA];rfl
end
def Tj(cs:mY)(t:fI)(i k d:Int):Option xe:=if(BN cs t i k d).isSome=true/\lD (ju cs)=true then lN [] [] (t,[]) (Qj cs d.toNat t i.toNat k.toNat)else none
theorem xQ{cs:mY}{t:fI}{i k d:Int}{u:fI}(h:BN cs t i k d=some u):mV cs=true/\gE cs.1 t=true/\(0<=d/\d<=2)/\(0<=i/\i<t.length)/\(0<=k/\k<cs.2.length)/\CR cs d.toNat t i.toNat k.toNat=some u:=by
 unfold BN at h;split at h
 ·rename_i hc;obtain⟨h1,h2,h3⟩:=hc;obtain⟨a1,a2,a3⟩:=Ar.1 h1;exact⟨a1,a2,a3,h2,h3,h⟩
 ·cases h
theorem Ly{s:Sys}(hs:lD s=true){t t':fI}{w0:fI}{w1:List n_}{i rule:Nat}(hr:rule<s.2.length)(h:Mv s.1 (s.2.getD rule default).1 (s.2.getD rule default).2 t t' i)
 (hw:Ao (w0,w1)) (he:mN w0 w1=t) (hf:Wf s.1 1 t):kf s (i:Int) rule w0 w1=some (match lN [] [] (w0,w1) [((i:Int),(rule:Int),t')]with|some w'=>(true,w'.2)|none=>(false,w1)):=by
 have:=MY (P:=[]) (Q:=[]) hs hr h hw (by simpa using he) (by simpa using hf);rw[bB,cy]at this;exact this
theorem Kg{cs:mY}{t:fI}{d:Int}:kQ cs t d=jP kA cs t d:=by
 unfold kQ jP;congr 1
theorem MQ{cs:mY}(hc:mV cs=true){d:Nat}(hd:d<=2){t:fI}(ht:gE cs.1 t=true):kQ cs t d=some (zC cs (CR cs d) t):=by
 rw[Kg];exact Bs (mF.1 hc).2.1 (fun t i k ht hi hk=>Af hc hd ht hi hk) (FI hc d) ht
theorem Mo{P Q:fI}{w pw:xe}(h:Gm P Q w=some pw):∀x∈pw.2,x.2.2.length<=60:=by
 unfold Gm at h;split at h
 ·rename_i hc;cases h;intro x hx;obtain⟨y,hy,rfl⟩:=bF.1 hx;exact hc.2 y hy
 ·cases h
abbrev LN:=mY->Sys->fI->Int->Int->Int->Option (xe×Bool)
abbrev Ny(cs:mY)(d:Int)(st:oS):Prop:=∀x,gE cs.1 x=true->kQ cs x (IntKind.i64.wrap (d-1))=some (zC cs st x)
abbrev I4(cs:mY)(d:Int)(st:oS)(tr:Kz)(rec:LN):Prop:=∀(x:fI)(p k:Nat)(x':fI),gE cs.1 x=true->p<x.length->k<cs.2.length->st x p k=some x'->rec cs (ju cs) x p k (IntKind.i64.wrap (d-1))=some (wF (lN [] [] (x,[]) (tr x p k)))
abbrev YD(cs:mY)(st:oS)(tr:Kz):Prop:=∀(x:fI)(p k:Nat)(x':fI),gE cs.1 x=true->p<x.length->k<cs.2.length->st x p k=some x'->Nh (tr x p k)
section
variable{cs:mY}(hc:mV cs=true)(hS:lD (ju cs)=true){d:Int}{st:oS}{tr:Kz}{rec:LN}{r0 A f D:fI}{k:Nat}(hk:k<cs.2.length)
include hc hS hk
theorem GS(hpick:Ny cs d st)(hrec:I4 cs d st tr rec)(hpl:YD cs st tr)(hf1:f.length=1)(r1 j:Int)(x:fI)(w1:List n_)(p:Nat×Nat)(x':fI)(hx:gE cs.1 x=true)(hw:Ao (r0,w1))(he:mN r0 w1=(A++f)++(x++D))(hwx:Wf (ju cs).1 1 ((A++f)++(x++D)))
 (hp:nG cs st x=some p) (h1:st x p.1 p.2=some x'):
 jY rec cs (ju cs) A.length d r0 r1 j (x,w1)=some (match lN (A++f) D (r0,w1) (tr x p.1 p.2)with|some w'=>.inl (x',w'.2)|none=>.inr (.inr (([],[]),false))):=by
 obtain⟨p1,p2,_⟩:=qF hp;have hel:((A++f)++(x++D)).length<=60:=by rw[<-he];exact Av hw
 have hAl:A.length+1<=60:=by simp only[au]at hel;omega
 have hxl:=(gH.1 hx).2.2.1;have e0:yS (OA (r0,w1))=(A++f)++(x++D):=by rw[yL];exact he
 have hat:IntKind.i64.wrap ((A.length:Int)+1)=((A++f).length:Int):=by rw[kI gu gu];simp[hf1]
 have hxS:=sj hk (gH.1 hx).2.2.2;have htS:gE (ju cs).1 ((A++f)++(x++D))=true:=pe (qU.1 hS).1 hwx hel;have hl1:=hw.len;simp only at hl1;simp only[jY,hpick x hx,aa,zC,hp,show ¬(p.1:Int)<0 by omega,aL,ah,ay,hrec x p.1 p.2 x' hx p1 p2 h1];rw[JB hel];cases hi:lN [] [] (x,[]) (tr x p.1 p.2)with
 |none=>simp[wF]
 |some iw=>
  obtain⟨rfl,i1,i2⟩:=VQ hi;have hiw:Ao (x,tr x p.1 p.2):=⟨hxl,i1,i2⟩;simp only[wF,aj,sY hw,e0,aa,hat,zf hS hiw (hpl x p.1 p.2 x' hx p1 p2 h1) hxS htS];cases hin:Gm (A++f) D (x,tr x p.1 p.2)with
  |none=>simp
  |some pw=>
   have hpw:=Mo hin;have hpl2:pw.2.length<=60:=by
    unfold Gm at hin;split at hin
    ·cases hin;simpa using i1
    ·cases hin
   simp only[aj,aa,kI (n:=(w1.length:Int)+(pw.2.length:Int)) gu gu];by_cases h60:w1.length+pw.2.length<=60
   ·rw[aJ (by simp only[aQ];omega),aE h60];simp only[h1,Option.getD_some];refine DP (mk:=fun i (out:List n_)=>(i,out)) (xs:=pw.2) (g:=id) (out0:=w1) (fun i out y hi hy hg ho=>?_) ?_
    ·simp only[ou,show(i:Int)<pw.2.length by omega,aC,aj,show(0:Int)<=i by omega,aW,az,hg,wB (hpw y hy) (show out.length<=1000 by omega),aa,kI (n:=(i:Int)+1) gu gu,id]
    ·simp[ou]
   ·rw[aE (by simp only[aQ];omega),aJ h60];simp
theorem GR{n:Nat}(hkeep:xP cs st)(hend:∀x p k x',st x p k=some x'->mN x (tr x p k)=x')(hpick:Ny cs d st)(hrec:I4 cs d st tr rec)(hpl:YD cs st tr)(r1:Int)(j:Nat)(x y:fI)(w1:List n_)(hj:j<(cs.2.getD k default).2.2.length)(hf1:f.length=1)
 (hx:gE cs.1 x=true) (hy:rH cs st n x=some y) (hw:Ao (r0,w1)) (he:mN r0 w1=(A++f)++(x++D)) (hwx:Wf (ju cs).1 1 ((A++f)++(x++D))):
 jB rec cs (ju cs) A.length k d r0 r1 ((j:Int),w1)=match lN (A++f) D (r0,w1) (vQ cs st tr n x)with
  |some w'=>(kf (ju cs) A.length (IntKind.i64.wrap ((IntKind.i64.wrap (r1+1))+j)) r0 w'.2).bind fun r_7=>if r_7.1=true then some (.inl ((IntKind.i64.wrap ((j:Int)+1)),r_7.2))else some (.inr (([],[]),false))
  |none=>some (.inr (([],[]),false)):=by
 have hel:((A++f)++(x++D)).length<=60:=by rw[<-he];exact Av hw
 have hAl:A.length+1<=60:=by simp only[au]at hel;omega
 have e0:yS (OA (r0,w1))=(A++f)++(x++D):=by rw[yL];exact he
 have hat:IntKind.i64.wrap ((A.length:Int)+1)=((A++f).length:Int):=by rw[kI gu gu];simp[hf1]
 have hxS:=sj hk (gH.1 hx).2.2.2;have hsub:mP (ju cs).1 ((A++f)++(x++D)) ((A++f).length:Int)=some x:=qI (qU.1 hS).1 (show List.length _<_ by omega) (fun z hz=>(hwx.all z hz).1) bI hxS;have hxl:=(gH.1 hx).2.2.1;simp only[jB,az,show(j:Int)<(cs.2.getD k default).2.2.length by omega,aC,aj,sY hw,e0,aa,hat,hsub,nR (show x.length<_ by omega)];refine PX (C:=A++f) (D:=D) (fail:=(([],[]),false)) (K:=fun w1'=>(kf (ju cs) A.length (IntKind.i64.wrap ((IntKind.i64.wrap (r1+1))+j)) r0 w1').bind fun r_7=>if r_7.1=true then some (.inl ((IntKind.i64.wrap ((j:Int)+1)),r_7.2))else some (.inr (([],[]),false)))
  hkeep hend (fun x hx=>sj hk (gH.1 hx).2.2.2) (fun x w1 hx hw he hwx hp=>?_) (fun x w1 p x' hx hw he hwx hp h1=>GS hc hS hk hpick hrec hpl hf1 r1 j x w1 p x' hx hw he hwx hp h1) hy hx hw he hwx
 simp only[jY,hpick x hx,aa,zC,hp,show((-1:Int)<0) by decide,aC,aj];congr 1
end
abbrev YB(f g:LN):Prop:=∀cs sys t i k d,Le (f cs sys t i k d) (g cs sys t i k d)
theorem EK{f g:LN}(h:YB f g)(cs:mY)(sys:Sys)(i d:Int)(r:fI)(a b:Int)(s:fI×List n_):Le (gI (jY f cs sys i d r a b) s) (gI (jY g cs sys i d r a b) s):=by
 refine Le.loop (fun s=>?_) _;obtain⟨u,w⟩:=s;unfold jY;exact Le.bind (Le.refl _) fun _=>Le.ite (fun _=>Le.refl _) fun _=>Le.bind (h _ _ _ _ _ _) fun _=>Le.refl _
theorem EJ{f g:LN}(h:YB f g)(cs:mY)(sys:Sys)(i k d:Int)(r:fI)(a:Int)(s:Int×List n_):Le (gI (jB f cs sys i k d r a) s) (gI (jB g cs sys i k d r a) s):=by
 refine Le.loop (fun s=>?_) _;obtain⟨u,w⟩:=s;unfold jB;exact Le.ite (fun _=>Le.bind (Le.refl _) fun _=>Le.bind (Le.refl _) fun _=>Le.bind (Le.refl _) fun _=>EK h _ _ _ _ _ _ _ _) fun _=>Le.refl _
theorem Ei:∀n,YB (iR n) (iR (n+1))
 |0=>fun cs sys t i k d=>by rw[iR];exact Le.none _
 |n+1=>fun cs sys t i k d=>by
  rw[iR,iR];exact Le.ite (fun _=>Le.bind (Le.refl _) fun _=>Le.bind (Le.refl _) fun _=>Le.bind (Le.refl _) fun _=>Le.ite (fun _=>EJ (Ei n) _ _ _ _ _ _ _ _) fun _=>Le.refl _) fun _=>Le.refl _
section
variable{cs:mY}(hc:mV cs=true)(hS:lD (ju cs)=true)
include hc hS
abbrev YA(cs:mY)(d:Int)(nf:fI->Option fI)(ntr:fI->List n_)(rec:LN):Prop:=
 ∃st tr,nf=rH cs st 8/\ntr=vQ cs st tr 8/\xP cs st/\(∀x p k x',st x p k=some x'->mN x (tr x p k)=x')/\Ny cs d st/\I4 cs d st tr rec/\YD cs st tr
theorem FU{fu:Nat}{d:Int}{nf:fI->Option fI}{nfo:Option (fI->Option fI)}{ntr:fI->List n_}(hcase:(nfo=none/\nf=fun _=>none)\/(nfo=some nf/\YA cs d nf ntr (iR fu)))
 {u u':fI} {p k:Nat} (hu:gE cs.1 u=true) (hp:p<u.length) (hk:k<cs.2.length) (h:G3 cs nfo u p k=some u'):
 iR (fu+1) cs (ju cs) u p k d=some (wF (lN [] [] (u,[]) (Qk cs nf ntr u p k))):=by
 have hno:nfo=some nf\/nfo=none:=hcase.elim (fun h=>.inr h.1) fun h=>.inl h.1
 obtain⟨A,s,B,b,bf,e,hA,hs,hso,h0,hg,hkn,h1,h2,e2,e3⟩:=AJ hc hS hno (ntr:=ntr) hu hp hk h;obtain⟨ha,_,hl,hwf⟩:=gH.1 hu;obtain⟨ha',hn,hrs⟩:=mF.1 hc;have h22:∀r∈cs.2,r.2.2.length<=2:=fun r hr=>(jS.1 (hrs r hr)).2.2.2.1
 have hfst:=Bc hn h22 k;have hrl:=h22 _ (iQ hk);have hr0:=rN hk (j:=0) gu;have hmv:=zT hS hk (j:=0) gu hg (A:=A) (B:=B);have hw0:Ao (u,([]:List n_)):=⟨hl,by simp,fun m hm=>by cases hm⟩;have hwS:Wf (ju cs).1 1 (A++(sub (Tm.sig b) ((jq (cs.2.getD k default) (oD cs k)).getD 0 default).1++B)):=by rw[<-e2];exact sj hk hwf
 have hst:=Ly hS hr0.1 hmv hw0 e2 hwS;have hA1:60>=A.length:=by omega
 rw[iR,aE gu,nR (show u.length<_ by omega),aa,zY hc hk,aa,e3,BP];rw[hA,cP]at hst;rw[hst,aa,hA,cP];cases hx:lN [] [] (u,[]) [((p:Int),(mI cs k:Int),A++(sub (Tm.sig b) ((jq (cs.2.getD k default) (oD cs k)).getD 0 default).2++B))]with
 |none=>simp[wF]
 |some w'=>
  have hfr:=xV hx;have he':=vB (P:=[]) (Q:=[]) (t:=u) (w:=(u,[])) (by simp[mN]) hx;simp only[mN,bl,bh]at he';have hw':=xj hw0 hx;obtain⟨v0,w1⟩:=w';simp only at hfr;subst hfr;simp only[aj,aa];rw[<-hA];have hlast:=PW hc hS hk (nf:=nf) (ntr:=ntr) (r0:=v0) (A:=A) (B:=B) (fail:=((([],[]),false):xe×Bool)) (done:=fun w1=>((v0,w1),true))
   (f1:=jB (iR fu) cs (ju cs) A.length k d v0 (mI cs k))
   (K:=fun j w1'=>(kf (ju cs) A.length (IntKind.i64.wrap ((IntKind.i64.wrap ((mI cs k:Int)+1))+j)) v0 w1').bind fun r_7=>if r_7.1=true then some (.inl ((IntKind.i64.wrap ((j:Int)+1)),r_7.2))else some (.inr (([],[]),false)))
   (fun x y hx hy=>by
    rcases hcase with⟨hc1,hc2⟩|⟨hc1,st,tr,rfl,rfl,k1,k2,k3,k4,k5⟩
    ·rw[hc2]at hy;cases hy
    ·exact xy k1 hx hy)
   (fun x y hy=>by
    rcases hcase with⟨hc1,hc2⟩|⟨hc1,st,tr,rfl,rfl,k1,k2,k3,k4,k5⟩
    ·rw[hc2]at hy;cases hy
    ·exact Bm k2 hy) hA1
   (fun j x y f w1 D hj hf1 hx hy hw he hwx=>by
    rcases hcase with⟨hc1,hc2⟩|⟨hc1,st,tr,rfl,rfl,k1,k2,k3,k4,k5⟩
    ·rw[h2 hc1]at hj;simp at hj
    ·exact GR hc hS hk k1 k2 k3 k4 k5 _ j x y w1 hj hf1 hx hy hw he hwx)
   (fun j w1 t t' hj hw he hwt hmv=>by
    have hst:=Ly hS (rN hk (j:=j+1) gu).1 hmv hw he hwt;have ee:IntKind.i64.wrap ((IntKind.i64.wrap ((mI cs k:Int)+1))+j)=((mI cs k+(j+1):Nat):Int):=by rw[kI (n:=(mI cs k:Int)+1) gu gu,kI gu gu];omega
    simp only[ee,hst,aa,kI (n:=(j:Int)+1) gu gu];cases lN [] [] (v0,w1) [((A.length:Int),((mI cs k+(j+1):Nat):Int),t')]<;>simp)
   (fun w1=>by simp[jB])
   (ms:=(cs.2.getD k default).2.2) (j:=0) (b:=b) (bf:=bf) (w1:=w1) (by simp) (by simp) hg hkn h1 hw' he' (hmv.wf (qu hS hr0.1).1 (qu hS hr0.1).2.1 hwS)
  refine hlast.trans ?_;cases hz:lN [] [] (v0,w1) (GX cs.1 nf ntr (cs.2.getD k default) (oD cs k) (mI cs k) A B (cs.2.getD k default).2.2 0 b)with
  |none=>rfl
  |some w2=>
   have:=xV hz;obtain⟨z0,z1⟩:=w2;simp only at this;subst this;rfl
theorem Gl:∀(d:Nat),d<=2->∀(u:fI)(p k:Nat)(u':fI),gE cs.1 u=true->p<u.length->k<cs.2.length->CR cs d u p k=some u'->
 iR (d+1) cs (ju cs) u p k (d:Int)=some (wF (lN [] [] (u,[]) (Qj cs d u p k))):=by
 intro d;induction d with
 |zero=>intro _ u p k u' hu hp hk h;exact FU hc hS (.inl ⟨rfl,rfl⟩) hu hp hk h
 |succ d ih=>
  intro h2 u p k u' hu hp hk h;have e:IntKind.i64.wrap (((d+1:Nat):Int)-1)=(d:Int):=by rw[kI gu gu];omega
  exact FU hc hS (.inr ⟨rfl,CR cs d,Qj cs d,rfl,rfl,vT hc d,fun x p k x' h=>BA h,fun x hx=>by rw[e];exact MQ hc gu hx,
   fun x p k x' a1 a2 a3 a4=>by rw[e];exact ih gu x p k x' a1 a2 a3 a4,fun x p k x' a1 a2 a3 a4=>FO hc hS a1 a2 a3 a4⟩) hu hp hk h
theorem ED{d:Nat}(hd:d<=2){u:fI}{p k:Nat}{u':fI}(hu:gE cs.1 u=true)(hp:p<u.length)(hk:k<cs.2.length)(h:CR cs d u p k=some u'):
 nQ cs (ju cs) u p k (d:Int)=some (wF (lN [] [] (u,[]) (Qj cs d u p k))):=by
 unfold nQ;exact CZ (fun n=>Ei n cs (ju cs) u p k d) (Gl hc hS d hd u p k u' hu hp hk h)
end
section
variable{cs:mY}(hc:mV cs=true)(hS:lD (ju cs)=true){d:Int}{st:oS}{tr:Kz}{r0 A f D:fI}{k:Nat}(hk:k<cs.2.length)
include hc hS hk
end
section
variable{cs:mY}(hc:mV cs=true)(hS:lD (ju cs)=true)
include hc hS
end
theorem AN(cs:mY)(t:fI)(i k d:Int):rj cs t i k d=some (wF (Tj cs t i k d)):=by
 unfold rj Tj;rw[wU,aa];cases hst:BN cs t i k d with
 |none=>simp[jt,wF]
 |some u=>
  obtain⟨hc,ht,⟨d0,d2⟩,⟨i0,i1⟩,⟨k0,k1⟩,h⟩:=xQ hst;simp only[jt,aj,wV hc,aa,fe,cx];cases hS:lD (ju cs)with
  |false=>simp[wF]
  |true=>
   have:=ED hc hS (d:=d.toNat) gu ht (p:=i.toNat) (k:=k.toNat) gu gu h;rw[show((i.toNat:Nat):Int)=i by omega,show((k.toNat:Nat):Int)=k by omega,show((d.toNat:Nat):Int)=d by omega]at this;simp only[aj,this,aa]
theorem MC{σ β:Type}{f:σ->Option (σ⊕β)}{s:σ}{k:Option β}(h:f s=Option.map Sum.inr k):gI f s=k:=by
 cases k with
 |some z=>exact hU h
 |none=>
  cases hl:gI f s with
  |none=>rfl
  |some z=>
   obtain⟨m,hm⟩:=tf hl;cases m with
   |zero=>cases hm
   |succ m=>
    rcases hm with hm|⟨_,hm,_⟩
    ·rw[h]at hm;cases hm
    ·rw[h]at hm;cases hm
section
variable{cs:mY}{t:fI}{d:Int}
theorem EG:nL cs t d=kK kS cs t d:=by
 unfold nL kK;congr 1
theorem Ij:kJ cs t d=mm kS cs t d:=by
 unfold kJ mm;rw[EG];congr 1
theorem Ll{d:Nat}(hc:mV cs=true)(hd:d<=2)(ht:gE cs.1 t=true):kJ cs t d=some (CP (nG cs (CR cs d) t)):=by
 rw[Ij];exact C3 (mF.1 hc).2.1 ht fun i k hi hk=>xJ hc hd ht hi hk
end
section
variable{β:Type}{cs:mY}{st:oS}{tr:Kz}{C D:fI}{isF:β->Prop}
theorem PY{f2:fI×Int×fI×List n_->Option ((fI×Int×fI×List n_)⊕β)}{K:fI->xe->Option β}(hkeep:xP cs st)
 (hend:∀x p k x',st x p k=some x'->mN x (tr x p k)=x') (hwf:∀x,gE cs.1 x=true->Wf (ju cs).1 1 x)
 (hf:∀(x:fI)(w:xe)(m:Nat),m<=8->gE cs.1 x=true->nG cs st x=none->f2 (x,(m:Int),w.1,w.2)=Option.map Sum.inr (K x w))
 (hg:∀(x:fI)(w:xe)(m:Nat)(p:Nat×Nat)(x':fI),m<8->gE cs.1 x=true->Ao w->mN w.1 w.2=C++(x++D)->Wf (ju cs).1 1 (C++(x++D))->nG cs st x=some p->st x p.1 p.2=some x'->
  match lN C D w (tr x p.1 p.2)with|some w'=>f2 (x,(m:Int),w.1,w.2)=some (.inl (x',(m:Int)+1,w'.1,w'.2))|none=>∃z,isF z/\f2 (x,(m:Int),w.1,w.2)=some (.inr z)):
 ∀{n:Nat}{x y:fI}{w:xe},n<=8->rH cs st n x=some y->gE cs.1 x=true->Ao w->mN w.1 w.2=C++(x++D)->Wf (ju cs).1 1 (C++(x++D))->
  match lN C D w (vQ cs st tr n x)with|some w'=>gI f2 (x,((8-n:Nat):Int),w.1,w.2)=K y w'|none=>∃z,isF z/\gI f2 (x,((8-n:Nat):Int),w.1,w.2)=some z:=by
 have hnone:∀{n:Nat}{x:fI}{w:xe},n<=8->nG cs st x=none->gE cs.1 x=true->Ao w->
  match lN C D w (vQ cs st tr n x)with|some w'=>gI f2 (x,((8-n:Nat):Int),w.1,w.2)=K x w'|none=>∃z,isF z/\gI f2 (x,((8-n:Nat):Int),w.1,w.2)=some z:=by
  intro n x w hn hp hx hw;have e:vQ cs st tr n x=[]:=by cases n<;>simp[vQ,hp]
  rw[e,A6 hw.len];exact MC (hf x w (8-n) gu hx hp)
 intro n;induction n with
 |zero=>
  intro x y w hn h hx hw he hwx;rw[rH]at h;cases hp:nG cs st x with
  |none=>rw[hp]at h;cases h;exact hnone hn hp hx hw
  |some p=>rw[hp]at h;cases h
 |succ n ih=>
  intro x y w hn h hx hw he hwx;rw[rH]at h;cases hp:nG cs st x with
  |none=>rw[hp]at h;cases h;exact hnone hn hp hx hw
  |some p=>
   rw[hp]at h;obtain⟨x',h1,h2⟩:=ai.1 h;obtain⟨p1,p2,_⟩:=qF hp;have hx':=hkeep _ _ _ _ hx p1 p2 h1;have hs:=hg x w (8-(n+1)) p x' gu hx hw he hwx hp h1;rw[vQ,hp];simp only[h1];rw[xU];cases hxw:lN C D w (tr x p.1 p.2)with
   |none=>
    rw[hxw]at hs;obtain⟨z,z1,z2⟩:=hs;exact⟨z,z1,hU z2⟩
   |some w'=>
    rw[hxw]at hs;simp only at hs;have he':=vB he hxw;rw[hend _ _ _ _ h1]at he';have:=ih (w:=w') gu h2 hx' (xj hw hxw) he' (Wf.put (hwf x hx) (hwf x' hx') hwx);rw[aa,jN hs,show(((8-(n+1):Nat):Int)+1)=((8-n:Nat):Int) by omega];exact this
end
abbrev NA:=mY->Sys->xe->Int->Int->Int->Option (xe×Bool)
abbrev RN(o:Option xe)(q:xe×Bool):Prop:=match o with|some w'=>q=(w',true)|none=>q.2=false
abbrev NB(cs:mY)(d:Int)(st:oS)(tr:Kz)(rec:NA):Prop:=∀(P Q:fI)(w:xe)(x:fI)(p k:Nat)(x':fI),Ao w->mN w.1 w.2=P++(x++Q)->Wf (ju cs).1 1 (P++(x++Q))->gE cs.1 x=true->p<x.length->k<cs.2.length->st x p k=some x'->
 ∃o,rec cs (ju cs) w ((P.length+p:Nat):Int) k (IntKind.i64.wrap (d-1))=some o/\RN (lN P Q w (tr x p k)) o
abbrev S4(cs:mY)(d:Int)(st:oS):Prop:=∀x,gE cs.1 x=true->kJ cs x (IntKind.i64.wrap (d-1))=some (CP (nG cs st x))
abbrev S6(cs:mY)(d:Int)(st:oS):Prop:=∀(x:fI)(p k:Nat),gE cs.1 x=true->p<x.length->k<cs.2.length->kS cs x p k (IntKind.i64.wrap (d-1))=some (jt (st x p k))
abbrev VM(cs:mY)(d:Int)(nf:fI->Option fI)(ntr:fI->List n_)(rec:NA):Prop:=
 ∃st tr,nf=rH cs st 8/\ntr=vQ cs st tr 8/\xP cs st/\(∀x p k x',st x p k=some x'->mN x (tr x p k)=x')/\S4 cs d st/\S6 cs d st/\NB cs d st tr rec
section
variable{cs:mY}(hc:mV cs=true)(hS:lD (ju cs)=true){d:Int}{rec:NA}{k:Nat}(hk:k<cs.2.length)
include hk
theorem Ym{st:oS}{tr:Kz}{C D x y:fI}{w:xe}{i0:Nat}{r1:Int}{b:Bd}{j:Nat}(hkeep:xP cs st)(hend:∀x p k x',st x p k=some x'->mN x (tr x p k)=x')(hpick:S4 cs d st)(hstep:S6 cs d st)(hrec:NB cs d st tr rec)(hC:C.length=i0+1)
 (hy:rH cs st 8 x=some y) (hx:gE cs.1 x=true) (hw:Ao w) (he:mN w.1 w.2=C++(x++D)) (hwx:Wf (ju cs).1 1 (C++(x++D))) (hj:j<(cs.2.getD k default).2.2.length):
 match lN C D w (vQ cs st tr 8 x)with
 |some w'=>gI (kL rec cs (ju cs) i0 k d r1 b j) (x,0,w.1,w.2)=(je cs.1 b ((cs.2.getD k default).2.2.getD j default).2 y).bind fun r_9=>(mT (ju cs) w' i0 (IntKind.i64.wrap ((IntKind.i64.wrap (r1+j))+1))).bind fun r_10=>some (.inl (r_9.1,r_10.2,(IntKind.i64.wrap ((j:Int)+1)),r_10.1.1,r_10.1.2))
 |none=>∃q,gI (kL rec cs (ju cs) i0 k d r1 b j) (x,0,w.1,w.2)=some (.inr (q,false)):=by
 have hel:(C++(x++D)).length<=60:=by rw[<-he];exact Av hw
 have hi0:i0+1<=60:=by simp only[au]at hel;omega
 have main:=PY (C:=C) (D:=D) (isF:=fun z:(Bd×Bool×Int×fI×List n_)⊕(xe×Bool)=>∃q,z=.inr (q,false)) (f2:=kL rec cs (ju cs) i0 k d r1 b j)
  (K:=fun y w'=>(je cs.1 b ((cs.2.getD k default).2.2.getD j default).2 y).bind fun r_9=>(mT (ju cs) w' i0 (IntKind.i64.wrap ((IntKind.i64.wrap (r1+j))+1))).bind fun r_10=>some (.inl (r_9.1,r_10.2,(IntKind.i64.wrap ((j:Int)+1)),r_10.1.1,r_10.1.2)))
  hkeep hend (fun x hx=>sj hk (gH.1 hx).2.2.2) (fun x w m hm hx hp=>by
   have hjj:(0:Int)<=j/\(j:Int)<(cs.2.getD k default).2.2.length:=⟨gu,gu⟩;by_cases h8:m<8
   ·simp only[kL,show(m:Int)<8 by omega,aC,aj,hpick x hx,aa,hp,CP,ah,ay,az,hjj,aW]
   ·simp only[kL,show ¬(m:Int)<8 by omega,aL,ah,ay,az,hjj,aW,aj])
  (fun x w m p x' hm hx hw he hwx hp h1=>by
   obtain⟨p1,p2,_⟩:=qF hp;have hxl:=(gH.1 hx).2.2.1;have hel:(C++(x++D)).length<=60:=by rw[<-he];exact Av hw
   obtain⟨o,o1,o2⟩:=hrec C D w x p.1 p.2 x' hw he hwx hx p1 p2 h1;have hat:IntKind.i64.wrap ((IntKind.i64.wrap ((i0:Int)+1))+p.1)=((C.length+p.1:Nat):Int):=by rw[kI (n:=(i0:Int)+1) gu gu,kI gu gu];omega
   have hstp:=hstep x p.1 p.2 hx p1 p2;rw[h1]at hstp;simp only[kL,show(m:Int)<8 by omega,aC,aj,hpick x hx,aa,hp,CP,hat,o1];cases hxw:lN C D w (tr x p.1 p.2)with
   |none=>
    rw[hxw]at o2;have o2':o.2=false:=o2;exact⟨.inr (o.1,false),⟨_,rfl⟩,by simp[o2']⟩
   |some w'=>
    rw[hxw]at o2;have o2':o=(w',true):=o2;simp only[o2',aj,hstp,aa,jt,kI (n:=(m:Int)+1) gu gu])
  (n:=8) (aO _) hy hx hw he hwx
 cases hxw:lN C D w (vQ cs st tr 8 x)with
 |none=>
  rw[hxw]at main;obtain⟨z,⟨q,rfl⟩,z2⟩:=main;exact⟨q,z2⟩
 |some w'=>
  rw[hxw]at main;exact main
end
abbrev LeX(f g:NA):Prop:=∀cs sys w i k d,Le (f cs sys w i k d) (g cs sys w i k d)
theorem Ej:∀n,LeX (j_ n) (j_ (n+1))
 |0=>fun cs sys w i k d=>by rw[j_];exact Le.none _
 |n+1=>fun cs sys w i k d=>by
  rw[j_,j_];refine Le.ite (fun _=>Le.bind (Le.refl _) fun _=>Le.bind (Le.refl _) fun _=>Le.bind (Le.refl _) fun _=>Le.bind (Le.refl _) fun _=>Le.bind (Le.refl _) fun _=>Le.loop (fun s=>?_) _) fun _=>Le.refl _
  obtain⟨g,ok,i',w1,w2⟩:=s;unfold lu;refine Le.ite (fun _=>Le.ite (fun _=>Le.ite (fun _=>Le.bind (Le.refl _) fun _=>Le.loop (fun s=>?_) _) fun _=>Le.refl _) fun _=>Le.refl _) fun _=>Le.refl _
  obtain⟨u,k',w3,w4⟩:=s;unfold kL;exact Le.ite (fun _=>Le.bind (Le.refl _) fun _=>Le.ite (fun _=>Le.bind (Ej n _ _ _ _ _ _) fun _=>Le.refl _) fun _=>Le.refl _) fun _=>Le.refl _
section
variable{cs:mY}(hc:mV cs=true)(hS:lD (ju cs)=true){d:Int}{rec:NA}{k:Nat}(hk:k<cs.2.length)
theorem CD{i0:Int}{r1:Int}{b:Bd}{j:Int}{w:xe}:gI (lu rec cs (ju cs) i0 k d r1) (b,false,j,w.1,w.2)=some (w,false):=by
 refine hU ?_;by_cases h:j<((cs.2.getD k default).2.2.length:Int)<;>simp[lu,h]
include hc hS hk
theorem Yl{nf:fI->Option fI}{ntr:fI->List n_}(hcase:(cs.2.getD k default).2.2=[]\/VM cs d nf ntr rec){P Q A B:fI}:
 ∀{ms:List fJ}{j:Nat}{b bf:Bd}{w:xe},(cs.2.getD k default).2.2.drop j=ms->j+ms.length=(cs.2.getD k default).2.2.length->CT cs.1 b->F0 b (tY (cs.2.getD k default) j)->pP cs.1 nf ms b=some bf->Ao w->
  mN w.1 w.2=P++((A++(sub (Tm.sig b) ((jq (cs.2.getD k default) (oD cs k)).getD j default).2++B))++Q)->Wf (ju cs).1 1 (P++((A++(sub (Tm.sig b) ((jq (cs.2.getD k default) (oD cs k)).getD j default).2++B))++Q))->
  ∃o,gI (lu rec cs (ju cs) ((P.length+A.length:Nat):Int) k d (mI cs k)) (b,true,(j:Int),w.1,w.2)=some o/\RN (lN P Q w (GX cs.1 nf ntr (cs.2.getD k default) (oD cs k) (mI cs k) A B ms j b)) o:=by
 obtain⟨ha',hn,hrs⟩:=mF.1 hc;have h22:∀r∈cs.2,r.2.2.length<=2:=fun r hr=>(jS.1 (hrs r hr)).2.2.2.1
 have hfst:=Bc hn h22 k;have hrl:=h22 _ (iQ hk);intro ms;induction ms with
 |nil=>
  intro j b bf w hd hj hg hkn h hw he hwf;obtain rfl:j=(cs.2.getD k default).2.2.length:=by simpa using hj
  rw[GX,A6 hw.len];exact⟨(w,true),hU (by simp[lu]),rfl⟩
 |cons c ms ih=>
  intro j b bf w hd hj hg hkn h hw he hwf;simp only[aK]at hj;obtain⟨g1,g2,g3⟩:=drop_cons hd;have hrk:=hrs _ (iQ hk);obtain⟨_,_,_,_,h5⟩:=jS.1 hrk;have hcs:=qN h5 _ (iQ g1);rw[g2]at hcs;rw[pP]at h;obtain⟨x,e0,h⟩:=ai.1 h;obtain⟨y,e1,h⟩:=ai.1 h;obtain⟨b',e2,h⟩:=ai.1 h;have hx:=vb hg hcs.1 e0;rcases hcase with hc0|⟨st,tr,rfl,rfl,k1,k2,k3,k4,k5⟩
  ·rw[hc0]at g1;simp at g1
  have hy:=xy k1 hx e1;obtain⟨q1,q2,q3,q4⟩:=BM (sym:=oD cs k) hrk g1 hg hkn hy (by rw[g2];exact e2);have hl1:lu rec cs (ju cs) ((P.length+A.length:Nat):Int) k d (mI cs k) (b,true,(j:Int),w.1,w.2)=gI (kL rec cs (ju cs) ((P.length+A.length:Nat):Int) k d (mI cs k) b j) (x,0,w.1,w.2):=by simp only[lu,az,show(j:Int)<(cs.2.getD k default).2.2.length by omega,aC,aj,show(0:Int)<=j by omega,aW,g2,(zl hg.sub hcs.1).2,e0,aa,jt]
  obtain⟨hxe,_⟩:=wH e0;rw[g2,<-hxe]at q1;rw[GX,<-hxe];simp only[e1,e2];have heq:∀z:fI,P++((A++(([((oD cs k+j:Nat):Int)]++(z++Fk (cs.2.getD k default) j b))++B))++Q)=(P++(A++[((oD cs k+j:Nat):Int)]))++(z++((Fk (cs.2.getD k default) j b++B)++Q)):=fun z=>by simp
  rw[q1,heq]at he hwf;have hN:=Ym hk (d:=d) (rec:=rec) (i0:=P.length+A.length) (r1:=(mI cs k:Int)) (b:=b) (j:=j) k1 k2 k3 k4 k5 (by simp only[au,dF];omega) e1 hx hw he hwf g1;rw[xU,HG];cases hxw:lN (P++(A++[((oD cs k+j:Nat):Int)])) ((Fk (cs.2.getD k default) j b++B)++Q) w (vQ cs st tr 8 x)with
  |none=>
   rw[hxw]at hN;obtain⟨q,hq⟩:=hN;exact⟨(q,false),hU (by rw[hl1,hq]),rfl⟩
  |some w'=>
   rw[hxw]at hN;simp only at hN;have he':=vB he hxw;rw[Bm k2 e1]at he';have hw':=xj hw hxw;have hwy:Wf (ju cs).1 1 (P++(A++[((oD cs k+j:Nat):Int)])++(y++((Fk (cs.2.getD k default) j b++B)++Q))):=Wf.put (sj hk (gH.1 hx).2.2.2) (sj hk (gH.1 hy).2.2.2) hwf;rw[<-heq,<-q2]at he' hwy;have hmv:=zT hS hk (j:=j+1) gu q3 (A:=A) (B:=B);have hmore:=KB hS (rN hk (j:=j+1) gu).1 hmv hw' he' hwy;have ee:IntKind.i64.wrap ((IntKind.i64.wrap ((mI cs k:Int)+j))+1)=((mI cs k+(j+1):Nat):Int):=by rw[kI (n:=(mI cs k:Int)+j) gu gu,kI gu gu];omega
   obtain⟨q,hq,hq2⟩:=Gr hcs.2 hy hg;rw[e2]at hq2;have hq2':q=(b',true):=hq2;rw[g2,hq,aa,ee,hmore,aa,hq2',kI (n:=(j:Int)+1) gu gu]at hN;rw[aa,BP];cases hst:lN P Q w' [((A.length:Int),((mI cs k+(j+1):Nat):Int),A++(sub (Tm.sig b') ((jq (cs.2.getD k default) (oD cs k)).getD (j+1) default).2++B))]with
   |none=>
    rw[hst]at hN;exact⟨(w',false),by rw[jN (hl1.trans hN)];exact CD,rfl⟩
   |some w2=>
    rw[hst]at hN;have he2:=vB he' hst;simp only[mN]at he2;have hw2:=xj hw' hst;rw[jN (hl1.trans hN),aa,show((j:Int)+1)=((j+1:Nat):Int) by omega];have hww:=(Gu (P:=P) (Q:=Q) hmv).wf (qu hS (rN hk (j:=j+1) gu).1).1 (qu hS (rN hk (j:=j+1) gu).1).2.1 hwy;exact ih g3 gu q3 q4 h hw2 he2 hww
omit hk in
theorem D_{fu:Nat}{nf:fI->Option fI}{nfo:Option (fI->Option fI)}{ntr:fI->List n_}(hcase:nfo=none\/(nfo=some nf/\VM cs d nf ntr (j_ fu)))
 {u u':fI} {p k:Nat} (hu:gE cs.1 u=true) (hp:p<u.length) (hk:k<cs.2.length) (h:G3 cs nfo u p k=some u') {P Q:fI} {w:xe} (hw:Ao w) (he:mN w.1 w.2=P++(u++Q)) (hwf:Wf (ju cs).1 1 (P++(u++Q))):
 ∃o,j_ (fu+1) cs (ju cs) w ((P.length+p:Nat):Int) k d=some o/\RN (lN P Q w (Qk cs nf ntr u p k)) o:=by
 have hno:nfo=some nf\/nfo=none:=hcase.elim .inr fun h=>.inl h.1
 obtain⟨A,s,B,b,bf,e,hA,hs,hso,h0,hg,hkn,h1,h2,e2,e3⟩:=AJ hc hS hno (ntr:=ntr) hu hp hk h;subst hA;obtain⟨ha,hn,hrs⟩:=mF.1 hc;have hrk:=hrs _ (iQ hk);obtain⟨r1,_,_,_,_⟩:=jS.1 hrk;have h22:∀r∈cs.2,r.2.2.length<=2:=fun r hr=>(jS.1 (hrs r hr)).2.2.2.1
 have hfst:=Bc hn h22 k;have hrl:=h22 _ (iQ hk);have hr0:=rN hk (j:=0) gu;have hmv:=zT hS hk (j:=0) gu hg (A:=A) (B:=B);have hel:=Av hw;have hwS:=hwf;have heS:=he;rw[e2]at hwS heS;have hmore:=KB hS hr0.1 hmv hw heS hwS;obtain⟨q,hq,hq2⟩:=Gr r1 hso (xl (a:=cs.1));rw[h0]at hq2;have hq2':q=(b,true):=hq2;have hq':je cs.1 (List.replicate 24 []) (cs.2.getD k default).1 s=some q:=hq;have hdr:(P++(u++Q)).drop (P.length+A.length)=s++(B++Q):=by rw[e,<-List.drop_drop,bI,aI,bI,aI]
 have hsub:kR (ju cs).1 (P++(u++Q)) ((P.length+A.length:Nat):Int)=some s:=oZ (qU.1 hS).1 (show List.length _<_ by rw[<-he];omega) hdr (sj hk hs);rw[j_,aE gu,Ak hc hk,aa,vN hw,aa,yL,he,hsub,aa,az,hq',aa];rw[cP]at hmore e3;have hext:=BP (P:=P) (Q:=Q) (w:=w) (x:=((A.length:Int),(mI cs k:Int),A++(sub (Tm.sig b) ((jq (cs.2.getD k default) (oD cs k)).getD 0 default).2++B))) (ns:=GX cs.1 nf ntr (cs.2.getD k default) (oD cs k) (mI cs k) A B (cs.2.getD k default).2.2 0 b);rw[hmore,aa,e3,hext,hq2'];cases hx:lN P Q w [((A.length:Int),(mI cs k:Int),A++(sub (Tm.sig b) ((jq (cs.2.getD k default) (oD cs k)).getD 0 default).2++B))]with
 |none=>exact⟨(w,false),CD,rfl⟩
 |some w'=>
  have he':=vB he hx;simp only[mN]at he';have hw':=xj hw hx;have hww:=(Gu (P:=P) (Q:=Q) hmv).wf (qu hS hr0.1).1 (qu hS hr0.1).2.1 hwS;exact Yl hc hS hk (hcase.elim (fun h=>.inl (h2 h)) fun h=>.inr h.2) (by simp) (by simp) hg hkn h1 hw' he' hww
omit hk in
theorem GJ:∀(d:Nat),d<=2->∀(P Q:fI)(w:xe)(u:fI)(p k:Nat)(u':fI),Ao w->mN w.1 w.2=P++(u++Q)->Wf (ju cs).1 1 (P++(u++Q))->gE cs.1 u=true->p<u.length->k<cs.2.length->CR cs d u p k=some u'->
 ∃o,j_ (d+1) cs (ju cs) w ((P.length+p:Nat):Int) k (d:Int)=some o/\RN (lN P Q w (Qj cs d u p k)) o:=by
 intro d;induction d with
 |zero=>intro _ P Q w u p k u' hw he hwf hu hp hk h;exact D_ hc hS (nfo:=none) (.inl rfl) hu hp hk h hw he hwf
 |succ d ih=>
  intro h2 P Q w u p k u' hw he hwf hu hp hk h;have e:IntKind.i64.wrap (((d+1:Nat):Int)-1)=(d:Int):=by rw[kI gu gu];omega
  exact D_ hc hS (.inr ⟨rfl,CR cs d,Qj cs d,rfl,rfl,vT hc d,fun x p k x' h=>BA h,fun x hx=>by rw[e];exact Ll hc gu hx,fun x p k a1 a2 a3=>by rw[e];exact xJ hc gu a1 a2 a3,
   fun P Q w x p k x' a1 a2 a3 a4 a5 a6 a7=>by rw[e];exact ih gu P Q w x p k x' a1 a2 a3 a4 a5 a6 a7⟩) hu hp hk h hw he hwf
end
theorem AR(cs:mY)(t:fI)(i k d:Int):ru cs t i k d=some (wF (Tj cs t i k d)):=by
 unfold ru Tj;rw[wX,aa,vg,aa];cases hst:BN cs t i k d with
 |none=>simp[jt,wF]
 |some u=>
  obtain⟨hc,ht,⟨d0,d2⟩,⟨i0,i1⟩,⟨k0,k1⟩,h⟩:=xQ hst;have hl:=(gH.1 ht).2.2.1;simp only[jt,aj,fe,cx,hc];cases hS:lD (ju cs)with
  |false=>simp[wF]
  |true=>
   have hk:k.toNat<cs.2.length:=by omega
   obtain⟨o,o1,o2⟩:=GJ hc hS d.toNat gu [] [] (t,[]) t i.toNat k.toNat u ⟨hl,by simp,fun m hm=>by cases hm⟩ (by simp[mN]) (by simpa using sj hk (gH.1 ht).2.2.2) ht gu hk h;have hall:qC cs (ju cs) (t,[]) i k d=some o:=by
    unfold qC;refine CZ (fun n=>Ej n cs (ju cs) (t,[]) i k d) (n:=d.toNat+1) ?_;rw[<-o1,bB,cy,show((i.toNat:Nat):Int)=i by omega,show((k.toNat:Nat):Int)=k by omega,show((d.toNat:Nat):Int)=d by omega]
   simp only[aj,jG (show t.length<_ by omega),aa,hall];cases hx:lN [] [] (t,[]) (Qj cs d.toNat t i.toNat k.toNat)with
   |none=>
    rw[hx]at o2;have o2':o.2=false:=o2;simp[o2',wF]
   |some w'=>
    rw[hx]at o2;have o2':o=(w',true):=o2;simp[o2',wF]
def Es(s:Sys):fI->List n_->Prop
 |_,[]=>True
 |t,x::r=>(∃i j:Nat,x.1=i/\x.2.1=j/\j<s.2.length/\Mv s.1 (s.2.getD j default).1 (s.2.getD j default).2 t x.2.2 i)/\Es s x.2.2 r
theorem Es.app{s:Sys}:∀{ms ns:List n_}{t:fI},Es s t ms->Es s (mN t ms) ns->Es s t (ms++ns)
 |[],_,_,_,h=>h
 |x::ms,ns,t,h,h2=>⟨h.1,Es.app (ms:=ms) h.2 h2⟩
theorem Es.ins{s:Sys}{P Q:fI}:∀{ms:List n_}{t:fI},Es s t ms->Es s (P++(t++Q)) (ms.map (rX P Q))
 |[],_,_=>trivial
 |x::ms,t,h=>by
  obtain⟨⟨i,j,h1,h2,h3,h4⟩,h5⟩:=h;exact⟨⟨P.length+i,j,by simp only[rX,h1];omega,h2,h3,Gu h4⟩,Es.ins h5⟩
section
variable{cs:mY}(hc:mV cs=true)(hS:lD (ju cs)=true)
include hc hS
theorem Lq{k j:Nat}(hk:k<cs.2.length)(hj:j<=(cs.2.getD k default).2.2.length):mI cs k+j<(ju cs).2.length:=(rN hk hj).1
theorem EP{k:Nat}(hk:k<cs.2.length){nf:fI->Option fI}{ntr:fI->List n_}(hkeep:∀x y,gE cs.1 x=true->nf x=some y->gE cs.1 y=true)
 (hn:∀x y,gE cs.1 x=true->nf x=some y->Es (ju cs) x (ntr x)/\mN x (ntr x)=y) {A B:fI}:
 ∀{ms:List fJ}{j:Nat}{b bf:Bd},(cs.2.getD k default).2.2.drop j=ms->j+ms.length=(cs.2.getD k default).2.2.length->CT cs.1 b->F0 b (tY (cs.2.getD k default) j)->pP cs.1 nf ms b=some bf->
  Es (ju cs) (A++(sub (Tm.sig b) ((jq (cs.2.getD k default) (oD cs k)).getD j default).2++B)) (GX cs.1 nf ntr (cs.2.getD k default) (oD cs k) (mI cs k) A B ms j b)
 |[],_,_,_,_,_,_,_,_=>trivial
 |c::ms,j,b,bf,hd,hj,hg,hkn,h=>by
  simp only[aK]at hj;obtain⟨g1,g2,g3⟩:=drop_cons hd;have hrk:=(mF.1 hc).2.2 _ (iQ hk);obtain⟨_,_,_,_,h5⟩:=jS.1 hrk;have hcs:=qN h5 _ (iQ g1);rw[pP]at h;obtain⟨x,e0,h'⟩:=ai.1 h;obtain⟨y,e1,h''⟩:=ai.1 h';obtain⟨b',e2,h3⟩:=ai.1 h'';rw[g2]at hcs;have hx:=vb hg hcs.1 e0;obtain⟨rfl,_⟩:=wH e0;have hy:=hkeep _ _ hx e1;obtain⟨k1,k2,k3,k4⟩:=BM (sym:=oD cs k) hrk g1 hg hkn hy (by rw[g2];exact e2);rw[g2]at k1;obtain⟨n1,n2⟩:=hn _ _ hx e1;rw[GX];simp only[e1,e2];have i1:=Es.ins (P:=A++[((oD cs k+j:Nat):Int)]) (Q:=Fk (cs.2.getD k default) j b++B) n1;have i2:=Dt (P:=A++[((oD cs k+j:Nat):Int)]) (Q:=Fk (cs.2.getD k default) j b++B) (ms:=ntr (sub (Tm.sig b) c.1)) (t:=sub (Tm.sig b) c.1);rw[n2]at i2;rw[k1];have q1:A++([((oD cs k+j:Nat):Int)]++(sub (Tm.sig b) c.1++Fk (cs.2.getD k default) j b)++B)=(A++[((oD cs k+j:Nat):Int)])++(sub (Tm.sig b) c.1++(Fk (cs.2.getD k default) j b++B)):=by simp only[aI]
  have q2:(A++[((oD cs k+j:Nat):Int)])++(y++(Fk (cs.2.getD k default) j b++B))=A++(sub (Tm.sig b') ((jq (cs.2.getD k default) (oD cs k)).getD (j+1) default).1++B):=by rw[k2];simp only[aI]
  rw[q1];refine i1.app ⟨⟨A.length,mI cs k+(j+1),rfl,rfl,Lq hc hS hk gu,?_⟩,EP hk hkeep hn g3 gu k3 k4 h3⟩;rw[i2,q2];exact zT hS hk gu k3
theorem FR{nf:fI->Option fI}{nfo:Option (fI->Option fI)}(hno:nfo=some nf\/nfo=none){ntr:fI->List n_}(hkeep:∀x y,gE cs.1 x=true->nf x=some y->gE cs.1 y=true)
 (hn:∀x y,gE cs.1 x=true->nf x=some y->Es (ju cs) x (ntr x)/\mN x (ntr x)=y)
 {u u':fI} {p k:Nat} (hu:gE cs.1 u=true) (hp:p<u.length) (hk:k<cs.2.length) (h:G3 cs nfo u p k=some u'):Es (ju cs) u (Qk cs nf ntr u p k):=by
 obtain⟨A,s,B,b,bf,e,hA,hs,hso,h0,m1,hkn,h1,h2,e2,e3⟩:=AJ (ntr:=ntr) hc hS hno hu hp hk h;rw[e3];refine⟨⟨A.length,mI cs k+0,rfl,rfl,Lq hc hS hk gu,?_⟩,EP hc hS hk hkeep hn (by simp) (by simp) m1 hkn h1⟩;have:=zT (j:=0) hS hk gu m1 (A:=A) (B:=B);rw[<-e2]at this;exact this
theorem DV{st:oS}{tr:Kz}(hkeep:xP cs st)(ht:∀x p k x',gE cs.1 x=true->p<x.length->k<cs.2.length->st x p k=some x'->Es (ju cs) x (tr x p k)/\mN x (tr x p k)=x'):
 ∀{n:Nat}{x y:fI},gE cs.1 x=true->rH cs st n x=some y->Es (ju cs) x (vQ cs st tr n x)
 |0,x,y,_,h=>trivial
 |n+1,x,y,hx,h=>by
  rw[rH]at h;rw[vQ];cases hp:nG cs st x with
  |none=>trivial
  |some p=>
   rw[hp]at h;obtain⟨x',h1,h2⟩:=ai.1 h;obtain⟨p1,p2,_⟩:=qF hp;simp only[h1];obtain⟨t1,t2⟩:=ht _ _ _ _ hx p1 p2 h1;exact t1.app (by rw[t2];exact DV hkeep ht (hkeep _ _ _ _ hx p1 p2 h1) h2)
theorem FP:∀{d:Nat}{u u':fI}{p k:Nat},gE cs.1 u=true->p<u.length->k<cs.2.length->CR cs d u p k=some u'->Es (ju cs) u (Qj cs d u p k)
 |0,u,u',p,k,hu,hp,hk,h=>FR hc hS (nfo:=none) (.inr rfl) (fun _ _ _ h=>by cases h) (fun _ _ _ h=>by cases h) hu hp hk h
 |d+1,u,u',p,k,hu,hp,hk,h=>FR hc hS (.inl rfl) (fun x y hx hy=>xy (vT hc d) hx hy)
  (fun x y hx hy=>⟨DV hc hS (vT hc d) (fun x p k x' a1 a2 a3 a4=>⟨FP a1 a2 a3 a4,BA a4⟩) hx hy,Bm (fun x p k x' h=>BA h) hy⟩) hu hp hk h
end
theorem Es.from{s:Sys}(hs:lD s=true):∀{ms:List n_}{t:fI},gE s.1 t=true->Es s t ms->(∀x∈ms,x.2.2.length<=60)->rO s t ms=true
 |[],_,_,_,_=>rfl
 |x::ms,t,ht,h,hl=>by
  obtain⟨⟨i,j,h1,h2,h3,h4⟩,h5⟩:=h;obtain⟨l1,l2⟩:=Px hs h3 h4;obtain⟨w1,w2,w3⟩:=qu hs h3;have hx:=hl x (by simp);have hto:gE s.1 x.2.2=true:=pe (gH.1 ht).1 (h4.wf w1 w2 (gH.1 ht).2.2.2) hx;have:=Ea hs (P:=[]) (Q:=[]) h3 h4;simp only[bl,bh,bB,cy]at this;rw[aE hx]at this;simp only[rO,ve];rw[aE ⟨⟨hs,ht⟩,⟨gu,gu⟩,gu,gu⟩,h1,h2,az,az,this];simp only[cq,bz];exact Es.from hs hto h5 fun y hy=>hl y (by simp[hy])
theorem Qt{cs:mY}(hS:lD (ju cs)=true){t:fI}{k:Nat}(hk:k<cs.2.length)(ht:gE cs.1 t=true):gE (ju cs).1 t=true:=by
 obtain⟨_,_,h3,h4⟩:=gH.1 ht;exact pe (qU.1 hS).1 (sj hk h4) h3
theorem OF{cs:mY}{t:fI}{i k d:Int}{u:fI}{w:xe}(hu:BN cs t i k d=some u)(h:Tj cs t i k d=some w):Eh (ju cs) w=true/\w.1=t/\mN w.1 w.2=u:=by
 unfold Tj at h;rw[hu]at h;split at h
 ·rename_i hS;obtain⟨hc,ht,⟨d0,d2⟩,⟨i0,i1⟩,⟨k0,k1⟩,hst⟩:=xQ hu;obtain⟨rfl,h1,h2⟩:=VQ h;have hk:k.toNat<cs.2.length:=by omega
  have hto:=Qt hS.2 hk ht;exact⟨Cf.2 ⟨hS.2,hto,h1,(FP hc hS.2 ht gu hk hst).from hS.2 hto h2⟩,rfl,BA hst⟩
 ·cases h
theorem zc(cs:mY):pn cs=some (if mV cs=true/\lD (ju cs)=true then(ju cs,true)else(([],[]),false)):=by
 unfold pn;rw[vV,aa];cases hc:mV cs with
 |false=>simp
 |true=>
  simp only[aj,wV hc,aa];cases hS:lD (ju cs)<;>simp[hS]
def Cu(c0:fI)(i:Int):Prop:=0<=i/\i<=c0.length
theorem F2(x:Int):0<=Dc .i64 x 255/\Dc .i64 x 255<=255:=by
 have h:(BitVec.ofInt IntKind.i64.bits x &&& BitVec.ofInt IntKind.i64.bits 255).toNat<=255:=by
  rw[BitVec.toNat_and];exact bP Nat.and_le_right (by decide)
 unfold Dc;rw[kI gu gu];omega
theorem A2{c0:fI}{i:Int}(hs:Small c0)(hi:Cu c0 i)(h:Int):iu True (nI c0 i h) fun r=>0<=r.1/\r.1<=255/\Cu c0 r.2.1:=by
 have hs:c0.length<1099511627776:=hs;obtain⟨h1,h2⟩:=hi;unfold nI;refine iu.ite (fun hc=>?_) fun hc=>.some ⟨(F2 _).1,(F2 _).2,h1,h2⟩
 simp only[aQ]at hc;refine iu.need ⟨h1,hc⟩ (.some ⟨(F2 _).1,(F2 _).2,?_⟩);show Cu c0 (IntKind.i64.wrap (i+1));rw[kI (n:=i+1) gu gu];exact⟨gu,gu⟩
theorem LC{a n:Int}(ha:0<=a)(hn:0<n):0<=a.tmod n/\a.tmod n<n:=⟨Int.tmod_nonneg _ ha,Int.tmod_lt_of_pos _ hn⟩
theorem jA{c0:fI}{i:Int}(hs:Small c0)(hi:Cu c0 i)(n h:Int):iu True (gF n c0 i h) fun r=>0<=r.1/\(0<n->r.1<n)/\(n<=0->r.1=0)/\Cu c0 r.2.1:=by
 unfold gF;refine iu.ite (fun hc=>?_) fun hc=>?_
 ·simp only[aQ]at hc;exact .some ⟨dg _,fun h=>by omega,fun _=>rfl,hi⟩
 ·simp only[cr]at hc;refine iu.ite (fun _=>?_) fun _=>?_
  ·refine iu.bind (A2 hs hi h) fun r hr=>iu.need gu (.some ?_)
   obtain⟨h1,h2⟩:=LC hr.1 (show 0<n by omega);exact⟨h1,fun _=>h2,fun h=>by omega,hr.2.2⟩
  ·refine iu.bind (A2 hs hi h) fun r1 h1=>iu.bind (A2 hs h1.2.2 _) fun r2 h2=>iu.bind (A2 hs h2.2.2 _) fun r3 h3=>iu.bind (A2 hs h3.2.2 _) fun r4 h4=>iu.need gu (.some ?_)
   obtain⟨a1,b1,_⟩:=h1;obtain⟨a2,b2,_⟩:=h2;obtain⟨a3,b3,_⟩:=h3;obtain⟨a4,b4,hc4⟩:=h4;simp only;rw[kI (n:=r1.1*16777216) gu gu,kI (n:=r2.1*65536) gu gu,kI (n:=r3.1*256) gu gu,kI (n:=r1.1*16777216+r2.1*65536) gu gu,
    kI (n:=r1.1*16777216+r2.1*65536+r3.1*256) gu gu,kI (n:=r1.1*16777216+r2.1*65536+r3.1*256+r4.1) gu gu]
   obtain⟨e1,e2⟩:=LC (a:=r1.1*16777216+r2.1*65536+r3.1*256+r4.1) (n:=n) gu gu;exact⟨e1,fun _=>e2,fun h=>by omega,hc4⟩
theorem nk{c0:fI}{i:Int}(hs:Small c0)(hi:Cu c0 i)(n h:Int):iu True (iC n c0 i h) fun r=>Cu c0 r.2.1:=by
 unfold iC;exact iu.bind (jA hs hi n h) fun r hr=>.some hr.2.2.2
theorem A_{c0:fI}{i:Int}(hs:Small c0)(hi:Cu c0 i){lo hi':Int}(h:Int)(h1: -100<=lo)(h2:lo<=hi')(h3:hi'<=100):iu True (mj lo hi' c0 i h) fun r=>lo<=r.1/\r.1<=hi'/\Cu c0 r.2.1:=by
 unfold mj;rw[kI (n:=hi'-lo) gu gu,kI (n:=hi'-lo+1) gu gu];refine iu.bind (jA hs hi _ h) fun r hr=>.some ?_
 have:=hr.2.1 gu;have:=hr.1;simp only;rw[kI (n:=lo+r.1) gu gu];exact⟨gu,gu,hr.2.2.2⟩
theorem UX{code:fI}(hs:Small code):iu True (ug code) fun r=>r.1=code/\r.2.1=0:=by
 have hs:code.length<1099511627776:=hs;unfold ug;refine iu.loop (fun q:Int×Int=>∃i:Nat,q.2=i/\i<=code.length) (fun q:Int×Int=>code.length-q.2.toNat) ⟨0,rfl,gu⟩ ?_;rintro⟨g,_⟩ ⟨i,rfl,h1⟩;simp only[vM];by_cases hi:i<code.length
 ·simp only[show(i:Int)<code.length by omega,aC,aj,show(0:Int)<=i by omega,aW,kI (n:=(i:Int)+1) gu gu];exact .some ⟨⟨i+1,by simp,gu⟩,by simp;omega⟩
 ·simp only[show ¬(i:Int)<code.length by omega,aL,ah,ay,aX];exact .some ⟨rfl,rfl⟩
theorem D6{c0:fI}(hs:Small c0){f:Int×Int×Int×fI->Option (fS⊕fL)}
 (hf:f=fun q=>if(decide (0<q.1))=true then(gF 3 c0 q.2.1 q.2.2.1).bind fun r_2=>if(q.2.2.2.length+1)*8<=140737488355328 then some (.inl ((IntKind.i64.wrap (q.1-1)),r_2.2.1,r_2.2.2,(q.2.2.2++[r_2.1])))else none
  else Option.map Sum.inr (some (q.2.2.2,q.2.1,q.2.2.1))) {n i h:Int} (h0:0<=n) (h4:n<4) (hi:Cu c0 i):iu True (gI f (n,i,h,[0])) fun r=>(kN r.1=true/\r.1.length<=4)/\Cu c0 r.2.1:=by
 refine iu.loop (fun q:Int×Int×Int×fI=>0<=q.1/\q.1<4/\Cu c0 q.2.1/\1<=q.2.2.2.length/\(q.2.2.2.length:Int)+q.1<=4/\∀x∈q.2.2.2,0<=x/\x<=3) (fun q:Int×Int×Int×fI=>q.1.toNat) ⟨h0,h4,hi,by simp,by simp;omega,by simp⟩ ?_;rintro⟨n,i,h,sig⟩ ⟨h1,h2,h3,h5,h6,h7⟩;simp only at h1 h2 h3 h5 h6 h7;subst hf;refine iu.ite (fun hc=>?_) fun hc=>?_
 ·simp only[aQ]at hc;refine iu.bind (jA hs h3 3 h) fun r hr=>iu.need (by simp only;omega) (.some ?_)
  have:=hr.2.1 gu;simp only[wj];rw[kI (n:=n-1) gu gu];refine⟨⟨gu,gu,hr.2.2.2,by simp,by simp;omega,fun x hx=>?_⟩,gu⟩;rcases aG.1 hx with hx|hx
  ·exact h7 x hx
  ·simp at hx;subst hx;have:=hr.1;omega
 ·refine iu.inr (.some ?_);simp only[wj];exact⟨⟨oC.2 ⟨h5,gu,h7⟩,gu⟩,h3⟩
theorem Uu{c0:fI}{i:Int}(hs:Small c0)(hi:Cu c0 i)(h:Int):iu True (rU c0 i h) fun r=>(kN r.1=true/\r.1.length<=4)/\Cu c0 r.2.1:=by
 unfold rU;refine iu.bind (nk hs hi 4 h) fun r hr=>iu.ite (fun _=>?_) fun _=>.some ⟨⟨show kN [2,1,0]=true by decide,show [2,1,0].length<=4 by decide⟩,hr⟩
 refine iu.bind (jA hs hr 4 _) fun r1 h1=>?_
 exact D6 hs (by funext ⟨a,b,c,d⟩;rfl) h1.1 (h1.2.1 gu) h1.2.2.2
theorem Hz{c0:fI}{i:Int}(hs:Small c0)(hi:Cu c0 i)(h:Int):iu True (oh c0 i h) fun r=>(kN r.1=true/\r.1.length<=4)/\Cu c0 r.2.1:=by
 unfold oh;refine iu.bind (nk hs hi 4 h) fun r hr=>iu.ite (fun _=>?_) fun _=>.some ⟨⟨show kN [2,1,0]=true by decide,show [2,1,0].length<=4 by decide⟩,hr⟩
 refine iu.bind (jA hs hr 4 _) fun r1 h1=>?_
 exact D6 hs (by funext ⟨a,b,c,d⟩;rfl) h1.1 (h1.2.1 gu) h1.2.2.2
theorem HA{c0:fI}{i:Int}(hs:Small c0)(hi:Cu c0 i)(h:Int):iu True (om c0 i h) fun r=>(kN r.1=true/\r.1.length<=4)/\Cu c0 r.2.1:=by
 unfold om;refine iu.bind (nk hs hi 4 h) fun r hr=>iu.ite (fun _=>?_) fun _=>.some ⟨⟨show kN [2,1,0]=true by decide,show [2,1,0].length<=4 by decide⟩,hr⟩
 refine iu.bind (jA hs hr 4 _) fun r1 h1=>?_
 exact D6 hs (by funext ⟨a,b,c,d⟩;rfl) h1.1 (h1.2.1 gu) h1.2.2.2
def tb:Nat->Nat
 |0=>1
 |d+1=>1+3*tb d
theorem Ko(d:Nat):1<=tb d:=by cases d<;>simp[tb]
theorem OC{a:fI}{f:Nat}(hf:f<a.length)(h0:a.getD f default=0):Wf a 1 [(f:Int)]:=by
 refine Wf.mE.2 ⟨⟨gu,gu⟩,?_⟩;have:vH a (f:Int)=0:=by
  simp only[vH,show ¬(f:Int)<0 by omega,ay,az];rw[show a.getD f 0=a.getD f default from rfl,h0];rfl
 rw[this];exact Wf.nil
theorem Qu{a:fI}{x:Int}(h1: -24<=x)(h2:x<0):Wf a 1 [x]:=by
 refine Wf.mE.2 ⟨⟨h1,gu⟩,?_⟩;have:vH a x=0:=by simp[vH,h2]
 rw[this];exact Wf.nil
def V3(t:fI):Prop:=∀x∈t, -3<=x
theorem Kr{x:Int}(h: -3<=x):V3 [x]:=fun y hy=>by rw[bS]at hy;omega
theorem V3.app{s t:fI}(hs:V3 s)(ht:V3 t):V3 (s++t):=fun x hx=>(aG.1 hx).elim (hs x) (ht x)
theorem V3.cons{x:Int}{t:fI}(hx: -3<=x)(ht:V3 t):V3 (x::t):=fun y hy=>by
 rcases bt.1 hy with rfl|h
 ·exact hx
 ·exact ht y h
theorem oa{a c0:fI}(ha:kN a=true){i h:Int}(hi:Cu c0 i){d:Nat}{f:Int->Option gi}
 (hf:f=fun f=>if(decide (0<=f))=true then if 0<=f/\f<(a.length:Int)then if((a.getD f.toNat default)==0)=true then Option.map Sum.inr (some ([f],i,h))else some (.inl (IntKind.i64.wrap (f-1)))else none else Option.map Sum.inr (some ([(-1)],i,h))):
 ∀t,iu t (gI f (IntKind.i64.wrap ((a.length:Int)-1))) fun r=>((Wf a 1 r.1/\r.1.length<=tb d)/\V3 r.1)/\Cu c0 r.2.1:=fun t=>by
 have hl:=(oC.1 ha).2.1;rw[kI (n:=(a.length:Int)-1) gu gu];refine iu.loop (fun q:Int=> -1<=q/\q<a.length) (fun q:Int=>(q+1).toNat) ⟨gu,gu⟩ ?_;intro q hq;subst hf;refine iu.ite (fun hc=>?_) fun hc=>?_
 ·simp only[aQ]at hc;refine iu.need ⟨hc,hq.2⟩ (iu.ite (fun h0=>iu.inr (.some ?_)) fun h0=>.some ?_)
  ·have:=OC (a:=a) (f:=q.toNat) gu (by simpa using h0);rw[show((q.toNat:Nat):Int)=q by omega]at this;exact⟨⟨⟨this,by have:=Ko d;simp;omega⟩,Kr gu⟩,hi⟩
  ·simp only[wj];rw[kI (n:=q-1) gu gu];omega
 ·exact iu.inr (.some ⟨⟨⟨Qu gu gu,by have:=Ko d;simp;omega⟩,Kr gu⟩,hi⟩)
def Cj(a c0:fI)(d:Nat)(r:fI×Int×Int):Prop:=((Wf a 1 r.1/\r.1.length<=tb d)/\V3 r.1)/\Cu c0 r.2.1
theorem yd{a c0:fI}(hs:Small c0){vars i h:Int}(hv:0<vars)(hv3:vars<=3)(hi:Cu c0 i)(d:Nat){t:Prop}:
 iu t ((gF vars c0 i h).bind fun r_1=>some ([(IntKind.i64.wrap ((-1)-r_1.1))],r_1.2.1,r_1.2.2)) (Cj a c0 d):=by
 refine iu.bind ((jA hs hi vars h).weak fun _=>trivial) fun r hr=>.some ?_
 have:=hr.1;have:=hr.2.1 hv;rw[kI (n:= -1-r.1) gu gu];exact⟨⟨⟨Qu gu gu,by have:=Ko d;simp;omega⟩,Kr gu⟩,hr.2.2.2⟩
theorem By{a c0:fI}{d:Nat}{k:Int}{us:fI}{f:Int}(hf:0<=f/\f<a.length)(hk:a.getD f.toNat default=k){n:Nat}(hu:Wf a n us)(hn:(n:Int)=k):Wf a 1 (f::us):=by
 refine Wf.mE.2 ⟨⟨gu,hf.2⟩,?_⟩;have:vH a f=n:=by
  simp only[vH,show ¬f<0 by omega,ay];rw[show a.getD f.toNat 0=a.getD f.toNat default from rfl,hk];omega
 rw[this,cy];exact hu
theorem Cr{a c0:fI}(ha:kN a=true)(hs:Small c0){vars:Int}(hv:0<=vars)(hv3:vars<=3):∀(fu d:Nat){depth i h:Int},depth<=d+1-> -10<=depth->d<=3->Cu c0 i->
 iu (d+1<=fu) (lZ fu a depth vars c0 i h) (Cj a c0 d)
 |0,d,depth,i,h,_,_,_,_=>⟨fun _ h=>by simp[lZ]at h,fun h=>by omega⟩
 |fu+1,d,depth,i,h,hd,hd0,hd3,hi=>by
  have hal:=oC.1 ha;unfold lZ;refine iu.ite (fun hc=>?_) fun hc=>?_
  ·refine iu.ite (fun hv'=>?_) fun _=>oa ha hi (by funext f;rfl) _
   have hv:0<vars:=by simpa using hv'
   refine iu.bind ((nk hs hi 2 h).weak fun _=>trivial) fun r hr=>iu.ite (fun _=>yd hs hv hv3 hr d) fun _=>?_
   exact oa ha hr (by funext f;rfl) _
  ·simp only[cr]at hc;refine iu.bind ((nk hs hi 4 h).weak fun _=>trivial) fun r hr=>iu.ite (fun _=>?_) fun _=>?_
   ·refine iu.ite (fun hv'=>?_) fun _=>oa ha hr (by funext f;rfl) _
    have hv:0<vars:=by simpa using hv'
    refine iu.bind ((nk hs hr 2 _).weak fun _=>trivial) fun r3 h3=>iu.ite (fun _=>yd hs hv hv3 h3 d) fun _=>?_
    exact oa ha h3 (by funext f;rfl) _
   ·refine iu.bind ((jA hs hr (a.length:Int) _).weak fun _=>trivial) fun r5 h5=>?_
    have hf:0<=r5.1/\r5.1<(a.length:Int):=⟨h5.1,h5.2.1 gu⟩;refine iu.need hf ?_;cases d with
    |zero=>omega
    |succ d=>
     have hk:=hal.2.2 _ (iQ (show r5.1.toNat<a.length by omega));generalize hkk:a.getD r5.1.toNat default=kk at hk;refine iu.loop (fun q:fI×Int×Int×Int=>∃(j:Nat)(us:fI),q.1=r5.1::us/\Wf a j us/\us.length<=j*tb d/\q.2.1=kk-j/\(j:Int)<=kk/\Cu c0 q.2.2.1/\V3 us) (fun q:fI×Int×Int×Int=>q.2.1.toNat)
      ⟨0,[],rfl,Wf.nil,by simp,by simp only;omega,gu,h5.2.2.2,fun x hx=>by cases hx⟩ ?_
     rintro⟨out,k,i2,g⟩ ⟨j,us,rfl,h6,h7,rfl,h8,h9,hv9⟩;simp only at h9;simp only[rz];have htb:tb d<=40:=by
      have:d<=2:=by omega
      match d,this with
      |0,_=>decide
      |1,_=>decide
      |2,_=>decide
     have hj3:j<=3:=by omega
     have hjt:j*tb d<=3*40:=Nat.mul_le_mul hj3 htb;refine iu.ite (fun hc2=>?_) fun hc2=>?_
     ·simp only[aQ]at hc2;rw[kI (n:=depth-1) gu gu];refine iu.bind ((Cr ha hs hv hv3 fu d (depth:=depth-1) (i:=i2) (h:=g) gu gu gu h9).weak fun h=>by omega) fun r6 hr6=>?_
      obtain⟨⟨⟨e1,e2⟩,e4⟩,e3⟩:=hr6;refine iu.need (by simp only[aK];omega) (.some ?_);simp only[wj];rw[kI (n:=kk-j-1) gu gu];refine⟨⟨j+1,us++r6.1,by simp,h6.app e1,?_,gu,gu,e3,hv9.app e4⟩,gu⟩;rw[au,bk,fE];omega
     ·simp only[cr]at hc2;refine iu.inr (.some ?_);simp only[wj];refine⟨⟨⟨By (c0:=c0) (d:=d) hf hkk h6 gu,?_⟩,hv9.cons gu⟩,h9⟩;simp only[aK,tb];have:=bG (tb d) hj3;omega
theorem ux{a c0:fI}(ha:kN a=true)(hs:Small c0){vars:Int}(hv:0<=vars)(hv3:vars<=3)(d:Nat){depth i:Int}(h:Int)(h1:depth<=d+1)(h2: -10<=depth)(h3:d<=3)(hi:Cu c0 i):
 iu True (iV a depth vars c0 i h) (Cj a c0 d):=by
 unfold iV;exact iu.Yx (d+1) fun n=>Cr ha hs hv hv3 n d h1 h2 h3 hi
theorem Ga{a c0:fI}(ha:kN a=true)(hs:Small c0){vars:Int}(hv:0<=vars)(hv3:vars<=3)(fu:Nat)(d:Nat){depth i h:Int}(hd:depth<=d+1)(hd0: -10<=depth)(hd3:d<=3)(hi:Cu c0 i):
 iu (1<=fu) (lI fu a depth vars c0 i h) (Cj a c0 d):=by
 have hal:=oC.1 ha;cases fu with
 |zero=>exact⟨fun _ h=>by simp[lI]at h,fun h=>by omega⟩
 |succ fu=>
  unfold lI;refine iu.ite (fun hc=>?_) fun hc=>?_
  ·refine iu.ite (fun hv'=>?_) fun _=>oa ha hi (by funext f;rfl) _
   have hv:0<vars:=by simpa using hv'
   refine iu.bind ((nk hs hi 2 h).weak fun _=>trivial) fun r hr=>iu.ite (fun _=>yd hs hv hv3 hr d) fun _=>?_
   exact oa ha hr (by funext f;rfl) _
  ·simp only[cr]at hc;refine iu.bind ((nk hs hi 4 h).weak fun _=>trivial) fun r hr=>iu.ite (fun _=>?_) fun _=>?_
   ·refine iu.ite (fun hv'=>?_) fun _=>oa ha hr (by funext f;rfl) _
    have hv:0<vars:=by simpa using hv'
    refine iu.bind ((nk hs hr 2 _).weak fun _=>trivial) fun r3 h3=>iu.ite (fun _=>yd hs hv hv3 h3 d) fun _=>?_
    exact oa ha h3 (by funext f;rfl) _
   ·refine iu.bind ((jA hs hr (a.length:Int) _).weak fun _=>trivial) fun r5 h5=>?_
    have hf:0<=r5.1/\r5.1<(a.length:Int):=⟨h5.1,h5.2.1 gu⟩;refine iu.need hf ?_;cases d with
    |zero=>omega
    |succ d=>
     have hk:=hal.2.2 _ (iQ (show r5.1.toNat<a.length by omega));generalize hkk:a.getD r5.1.toNat default=kk at hk;refine iu.loop (fun q:Int×Int×Int×fI=>∃(j:Nat)(us:fI),q.2.2.2=r5.1::us/\Wf a j us/\us.length<=j*tb d/\q.1=kk-j/\(j:Int)<=kk/\Cu c0 q.2.1/\V3 us) (fun q:Int×Int×Int×fI=>q.1.toNat)
      ⟨0,[],rfl,Wf.nil,by simp,by simp only;omega,gu,h5.2.2.2,fun x hx=>by cases hx⟩ ?_
     rintro⟨k,i2,g,out⟩ ⟨j,us,h10,h6,h7,rfl,h8,h9,hv9⟩;simp only at h9 h10;subst h10;simp only[qi];have htb:tb d<=40:=by
      have:d<=2:=by omega
      match d,this with
      |0,_=>decide
      |1,_=>decide
      |2,_=>decide
     have hj3:j<=3:=by omega
     have hjt:j*tb d<=3*40:=Nat.mul_le_mul hj3 htb;refine iu.ite (fun hc2=>?_) fun hc2=>?_
     ·simp only[aQ]at hc2;rw[kI (n:=depth-1) gu gu];refine iu.bind ((ux ha hs hv hv3 d (depth:=depth-1) (i:=i2) g gu gu gu h9).weak fun _=>trivial) fun r6 hr6=>?_
      obtain⟨⟨⟨e1,e2⟩,e4⟩,e3⟩:=hr6;refine iu.need (by simp only[aK];omega) (.some ?_);simp only[wj];rw[kI (n:=kk-j-1) gu gu];refine⟨⟨j+1,us++r6.1,by simp,h6.app e1,?_,gu,gu,e3,hv9.app e4⟩,gu⟩;rw[au,bk,fE];omega
     ·simp only[cr]at hc2;refine iu.inr (.some ?_);simp only[wj];refine⟨⟨⟨By (c0:=c0) (d:=d) hf hkk h6 gu,?_⟩,hv9.cons gu⟩,h9⟩;simp only[aK,tb];have:=bG (tb d) hj3;omega
theorem xE{a c0:fI}(ha:kN a=true)(hs:Small c0){vars:Int}(hv:0<=vars)(hv3:vars<=3)(d:Nat){depth i:Int}(h:Int)(h1:depth<=d+1)(h2: -10<=depth)(h3:d<=3)(hi:Cu c0 i):
 iu True (jF a depth vars c0 i h) (Cj a c0 d):=by
 unfold jF;exact iu.Yx 1 fun n=>Ga ha hs hv hv3 n d h1 h2 h3 hi
theorem Gb{a c0:fI}(ha:kN a=true)(hs:Small c0){vars:Int}(hv:0<=vars)(hv3:vars<=3)(fu:Nat)(d:Nat){depth i h:Int}(hd:depth<=d+1)(hd0: -10<=depth)(hd3:d<=3)(hi:Cu c0 i):
 iu (1<=fu) (lJ fu a depth vars c0 i h) (Cj a c0 d):=by
 have hal:=oC.1 ha;cases fu with
 |zero=>exact⟨fun _ h=>by simp[lJ]at h,fun h=>by omega⟩
 |succ fu=>
  unfold lJ;refine iu.ite (fun hc=>?_) fun hc=>?_
  ·refine iu.ite (fun hv'=>?_) fun _=>oa ha hi (by funext f;rfl) _
   have hv:0<vars:=by simpa using hv'
   refine iu.bind ((nk hs hi 2 h).weak fun _=>trivial) fun r hr=>iu.ite (fun _=>yd hs hv hv3 hr d) fun _=>?_
   exact oa ha hr (by funext f;rfl) _
  ·simp only[cr]at hc;refine iu.bind ((nk hs hi 4 h).weak fun _=>trivial) fun r hr=>iu.ite (fun _=>?_) fun _=>?_
   ·refine iu.ite (fun hv'=>?_) fun _=>oa ha hr (by funext f;rfl) _
    have hv:0<vars:=by simpa using hv'
    refine iu.bind ((nk hs hr 2 _).weak fun _=>trivial) fun r3 h3=>iu.ite (fun _=>yd hs hv hv3 h3 d) fun _=>?_
    exact oa ha h3 (by funext f;rfl) _
   ·refine iu.bind ((jA hs hr (a.length:Int) _).weak fun _=>trivial) fun r5 h5=>?_
    have hf:0<=r5.1/\r5.1<(a.length:Int):=⟨h5.1,h5.2.1 gu⟩;refine iu.need hf ?_;cases d with
    |zero=>omega
    |succ d=>
     have hk:=hal.2.2 _ (iQ (show r5.1.toNat<a.length by omega));generalize hkk:a.getD r5.1.toNat default=kk at hk;refine iu.loop (fun q:fI×Int×Int×Int=>∃(j:Nat)(us:fI),q.1=r5.1::us/\Wf a j us/\us.length<=j*tb d/\q.2.1=kk-j/\(j:Int)<=kk/\Cu c0 q.2.2.1/\V3 us) (fun q:fI×Int×Int×Int=>q.2.1.toNat)
      ⟨0,[],rfl,Wf.nil,by simp,by simp only;omega,gu,h5.2.2.2,fun x hx=>by cases hx⟩ ?_
     rintro⟨out,k,i2,g⟩ ⟨j,us,rfl,h6,h7,rfl,h8,h9,hv9⟩;simp only at h9;simp only[qj];have htb:tb d<=40:=by
      have:d<=2:=by omega
      match d,this with
      |0,_=>decide
      |1,_=>decide
      |2,_=>decide
     have hj3:j<=3:=by omega
     have hjt:j*tb d<=3*40:=Nat.mul_le_mul hj3 htb;refine iu.ite (fun hc2=>?_) fun hc2=>?_
     ·simp only[aQ]at hc2;rw[kI (n:=depth-1) gu gu];refine iu.bind ((ux ha hs hv hv3 d (depth:=depth-1) (i:=i2) g gu gu gu h9).weak fun _=>trivial) fun r6 hr6=>?_
      obtain⟨⟨⟨e1,e2⟩,e4⟩,e3⟩:=hr6;refine iu.need (by simp only[aK];omega) (.some ?_);simp only[wj];rw[kI (n:=kk-j-1) gu gu];refine⟨⟨j+1,us++r6.1,by simp,h6.app e1,?_,gu,gu,e3,hv9.app e4⟩,gu⟩;rw[au,bk,fE];omega
     ·simp only[cr]at hc2;refine iu.inr (.some ?_);simp only[wj];refine⟨⟨⟨By (c0:=c0) (d:=d) hf hkk h6 gu,?_⟩,hv9.cons gu⟩,h9⟩;simp only[aK,tb];have:=bG (tb d) hj3;omega
theorem va{a c0:fI}(ha:kN a=true)(hs:Small c0){vars:Int}(hv:0<=vars)(hv3:vars<=3)(d:Nat){depth i:Int}(h:Int)(h1:depth<=d+1)(h2: -10<=depth)(h3:d<=3)(hi:Cu c0 i):
 iu True (kg a depth vars c0 i h) (Cj a c0 d):=by
 unfold kg;exact iu.Yx 1 fun n=>Gb ha hs hv hv3 n d h1 h2 h3 hi
theorem tb3{d:Nat}(h:d<=3):tb d<=40:=by
 match d,h with
 |0,_=>decide
 |1,_=>decide
 |2,_=>decide
 |3,_=>decide
theorem ya{a c0:fI}{d:Nat}{r:fI×Int×Int}(h:Cj a c0 d r)(hd:d<=3):1<=r.1.length/\r.1.length<=40:=⟨h.1.1.1.len,bP h.1.1.2 (tb3 hd)⟩
theorem Mx{sig t:fI}{a:Int}:nY sig t a=kR sig t a:=by
 unfold nY kR;rfl
theorem Ih{t:fI}(ht:t.length<=200):iu True (mo t) fun _=>True:=by
 unfold mo;refine iu.loop (fun q:fI×Int=>∃i:Nat,q.2=i/\i<=t.length/\q.1.length<=i) (fun q:fI×Int=>t.length-q.2.toNat) ⟨0,rfl,gu,by simp⟩ ?_;rintro⟨out,_⟩ ⟨i,rfl,h1,h2⟩;simp only at h2;simp only[um];by_cases hi:i<t.length
 ·simp only[show(i:Int)<t.length by omega,aC,aj,show(0:Int)<=i by omega,aW,az,kI (n:=(i:Int)+1) gu gu,qK (show Small out by show out.length<_;omega),aa];refine iu.ite (fun _=>iu.ite (fun _=>.some ⟨⟨i+1,by simp,gu,by simp only;omega⟩,by simp;omega⟩) fun _=>iu.need gu (.some ⟨⟨i+1,by simp,gu,by simp;omega⟩,by simp;omega⟩)) fun _=>.some ⟨⟨i+1,by simp,gu,by simp only;omega⟩,by simp;omega⟩
 ·simp only[show ¬(i:Int)<t.length by omega,aL,ah,ay,aX];exact .some trivial
theorem Fs{a l c0:fI}(ha:kN a=true)(hl:Wf a 1 l)(hl60:l.length<=200){i h:Int}(hi:Cu c0 i){n:Nat}(hn:n<=60){g:fI}(hg:g.length=n){f:Int×fI->Option (gq⊕gk)}
 (hf:f=fun q=>if(decide (q.1<(q.2.length:Int)))=true then
  if 0<=q.1/\q.1<(q.2.length:Int)then
   if(decide ((q.2.getD q.1.toNat default)<0))=true then
    if 0<=q.1/\q.1<(q.2.length:Int)then
     (lV l (q.2.getD q.1.toNat default)).bind fun r_6=>
     if r_6=true then some (.inl ((IntKind.i64.wrap (q.1+1)),q.2))
     else
      (mo l).bind fun r_7=>
      if((r_7.length:Int)==0)=true then
       (nY a l (IntKind.i64.wrap ((l.length:Int)-1))).bind fun r_8=>Option.map Sum.inr (some (l,r_8,i,h))
      else
       if 0<=0/\0<(r_7.length:Int)then
        if 0<=q.1/\q.1<(q.2.length:Int)then some (.inl ((IntKind.i64.wrap (q.1+1)),(q.2.set q.1.toNat (r_7.getD 0 default))))else none
       else none
    else none
   else some (.inl ((IntKind.i64.wrap (q.1+1)),q.2))
  else none
 else Option.map Sum.inr (some (l,q.2,i,h))):iu True (gI f (0,g)) fun r=>(r.1.length<=200/\r.2.1.length<=200)/\Cu c0 r.2.2.1:=by
 refine iu.loop (fun q:Int×fI=>∃j:Nat,q.1=j/\j<=n/\q.2.length=n) (fun q:Int×fI=>n-q.1.toNat) ⟨0,rfl,gu,hg⟩ ?_;rintro⟨_,g⟩ ⟨j,rfl,h1,h2⟩;simp only at h2;subst hf;have hll:=hl.len;by_cases hj:j<n
 ·simp only[h2,show(j:Int)<(n:Int) by omega,aC,aj,show(0:Int)<=j by omega,aW,az,kI (n:=(j:Int)+1) gu gu,qK (show Small l by show l.length<_;omega),aa];refine iu.ite (fun _=>iu.ite (fun _=>.some ⟨⟨j+1,by simp,gu,h2⟩,by simp;omega⟩) fun _=>?_) fun _=>.some ⟨⟨j+1,by simp,gu,h2⟩,by simp;omega⟩
  refine iu.bind (Ih hl60) fun o _=>iu.ite (fun _=>?_) fun ho=>?_
  ·rw[kI (n:=(l.length:Int)-1) gu gu];obtain⟨p,u,q,e1,e2,e3⟩:=hl.place (i:=l.length-1) gu;have hd:l.drop (l.length-1)=u++q:=by rw[<-e2];exact(bW (List.drop p.length) e1).trans bI
   have:=oZ ha (show Small l by show l.length<_;omega) (i:=l.length-1) (u:=u) (r:=q) hd e3;rw[show(((l.length-1:Nat)):Int)=(l.length:Int)-1 by omega]at this;rw[Mx,this,aa];have hul:u.length<=l.length:=by have:=bW List.length e1;simp only[au]at this;omega
   exact iu.inr (.some ⟨⟨hl60,by simp only;omega⟩,hi⟩)
  ·have h0:¬(o.length:Int)=0:=by simpa using ho
   refine iu.need ⟨aO _,gu⟩ (.some ⟨⟨j+1,by simp,gu,by simp[h2]⟩,by simp;omega⟩)
 ·simp only[h2,show ¬(j:Int)<(n:Int) by omega,aL,ah,ay];exact iu.inr (.some ⟨⟨hl60,by simp only;omega⟩,hi⟩)
theorem Hy{a c0:fI}(ha:kN a=true)(hs:Small c0){i:Int}(h:Int)(hi:Cu c0 i):iu True (nM a c0 i h) fun r=>(r.1.length<=200/\r.2.1.length<=200)/\Cu c0 r.2.2.1:=by
 have hal:=oC.1 ha;unfold nM;refine iu.bind (jA hs hi 2 h) fun r hr=>?_
 have:=hr.1;have:=hr.2.1 gu;rw[kI (n:=2+r.1) gu gu];refine iu.bind (va ha hs (vars:=2) gu gu 2 _ gu gu gu hr.2.2.2) fun r1 h1=>?_
 obtain⟨l1,l2⟩:=ya h1 gu;refine iu.need ⟨aO _,gu⟩ (iu.ite (fun _=>?_) fun _=>?_)
 ·refine iu.bind (jA hs h1.2 (a.length:Int) _) fun r2 h2=>?_
  have hf:0<=r2.1/\r2.1<(a.length:Int):=⟨h2.1,h2.2.1 gu⟩;refine iu.need hf ?_;have hk:=hal.2.2 _ (iQ (show r2.1.toNat<a.length by omega));generalize hkk:a.getD r2.1.toNat default=kk at hk;refine iu.loop (fun q:fI×Int×Int×Int=>∃(j:Nat)(us:fI),q.1=r2.1::us/\Wf a j us/\us.length<=j*1/\q.2.1=kk-j/\(j:Int)<=kk/\Cu c0 q.2.2.1) (fun q:fI×Int×Int×Int=>q.2.1.toNat)
   ⟨0,[],rfl,Wf.nil,by simp,by simp only;omega,gu,h2.2.2.2⟩ ?_
  rintro⟨out,k,i2,g⟩ ⟨j,us,rfl,h6,h7,rfl,h8,h9⟩;simp only at h9;simp only[qm];refine iu.ite (fun hc2=>?_) fun hc2=>?_
  ·simp only[aQ]at hc2;refine iu.bind (ux ha hs (vars:=2) gu gu 0 g gu gu gu h9) fun r6 hr6=>?_
   obtain⟨⟨⟨e1,e2⟩,_⟩,e3⟩:=hr6;simp only[tb]at e2;refine iu.need (by simp only[aK];omega) (.some ?_);simp only[wj];rw[kI (n:=kk-j-1) gu gu];exact⟨⟨j+1,us++r6.1,by simp,h6.app e1,by simp;omega,gu,gu,e3⟩,gu⟩
  ·simp only[cr]at hc2;have hw:=By (c0:=c0) (d:=0) hf hkk h6 gu;refine iu.inr ?_;simp only[wj];refine iu.bind (jA hs h9 3 _) fun r4 h4=>?_
   have:=h4.1;have:=h4.2.1 gu;rw[kI (n:=1+r4.1) gu gu];refine iu.bind (xE ha hs (vars:=2) gu gu 2 _ gu gu gu h4.2.2.2) fun r5 h5=>?_
   exact Fs ha hw (by simp;omega) h5.2 (n:=r5.1.length) (by have:=(ya h5 gu).2;omega) rfl (by funext ⟨x,y⟩;rfl)
 ·refine iu.bind (jA hs h1.2 3 _) fun r4 h4=>?_
  have:=h4.1;have:=h4.2.1 gu;rw[kI (n:=1+r4.1) gu gu];refine iu.bind (xE ha hs (vars:=2) gu gu 2 _ gu gu gu h4.2.2.2) fun r5 h5=>?_
  exact Fs ha h1.1.1.1 gu h5.2 (n:=r5.1.length) (by have:=(ya h5 gu).2;omega) rfl (by funext ⟨x,y⟩;rfl)
def D3(t:fI):Prop:=∀x∈t, -3<=x\/x< -24
theorem V3.d3{t:fI}(h:V3 t):D3 t:=fun x hx=>.inl (h x hx)
theorem D3.app{t:fI}{x:Int}(h:D3 t)(hx: -3<=x\/x< -24):D3 (t++[x]):=fun y hy=>by
 rcases aG.1 hy with hy|hy
 ·exact h y hy
 ·rw[bS]at hy;rw[hy];exact hx
theorem D3.set{t:fI}{x:Int}(h:D3 t)(hx: -3<=x\/x< -24)(i:Nat):D3 (t.set i x):=fun y hy=>by
 rcases List.mem_or_eq_of_mem_set hy with hy|rfl
 ·exact h y hy
 ·exact hx
theorem Ut{x:Int}(hx: -3<=x\/x< -24):D3 [x]:=fun y hy=>by rw[bS]at hy;rw[hy];exact hx
theorem Lh{c0:fI}{i:Int}(hs:Small c0)(hi:Cu c0 i)(h:Int):iu True (rV c0 i h) fun r=>(-3<=r.1\/r.1< -24)/\Cu c0 r.2.1:=by
 unfold rV;refine iu.bind (jA hs hi 10 h) fun r hr=>?_
 have h1:=hr.1;have h2:=hr.2.1 gu;refine iu.need ⟨h1,h2⟩ (.some ⟨?_,hr.2.2.2⟩);have key:∀n:Nat,n<10->(-3<=([(-1),0,1,2147483648,(-2147483648),1099511627776,4611686018427387904,(-4611686018427387904),9223372036854775807,(-9223372036854775808)]:fI).getD n default\/([(-1),0,1,2147483648,(-2147483648),1099511627776,4611686018427387904,(-4611686018427387904),9223372036854775807,(-9223372036854775808)]:fI).getD n default< -24):=by decide
 exact key r.1.toNat gu
theorem PI{c0:fI}{i:Int}(hs:Small c0)(hi:Cu c0 i){most:Int}(h1:0<=most)(h2:most<=1000)(h:Int):iu True (h_ most c0 i h) fun r=>Cu c0 r.2.1:=by
 unfold h_;refine iu.bind (nk hs hi 10 h) fun r hr=>iu.ite (fun _=>?_) fun _=>?_
 ·refine iu.bind (Lh hs hr _) fun r1 hr1=>iu.bind (jA hs hr1.2 4 _) fun r2 hr2=>iu.need ⟨hr2.1,hr2.2.1 gu⟩ (.some hr2.2.2.2)
 ·refine iu.bind (nk hs hr 2 _) fun r3 hr3=>iu.ite (fun _=>?_) fun _=>?_
  ·unfold wh;refine iu.bind (P:=fun x=>x=most\/x=4) (iu.ite (fun _=>.some (.inl rfl)) fun _=>.some (.inr rfl)) fun r4 hr4=>?_
   exact iu.bind (jA hs hr3 _ _) fun r5 hr5=>.some hr5.2.2.2
  ·exact iu.bind (jA hs hr3 _ _) fun r5 hr5=>.some hr5.2.2.2
theorem Hx{a c0:fI}(hs:Small c0){i:Int}(h:Int)(hi:Cu c0 i):iu True (qh a c0 i h) fun r=>(r.1.length<=60/\D3 r.1)/\Cu c0 r.2.1:=by
 have dflt:∀g,iu True ((mj (-2) 2 c0 i g).bind fun r=>some ([r.1],r.2.1,r.2.2)) fun r=>(r.1.length<=60/\D3 r.1)/\Cu c0 r.2.1:=fun g=>
  iu.bind (A_ hs hi g gu gu gu) fun r hr=>.some ⟨⟨by simp,Ut (.inl gu)⟩,hr.2.2⟩
 have tb3:tb 3=40:=by decide
 unfold qh;refine iu.ite (fun _=>dflt h) fun _=>?_
 rw[sR,aa];refine iu.ite (fun ha=>?_) fun _=>dflt h
 refine iu.bind (jA hs hi 4 h) fun r2 h2=>?_
 have:=h2.1;have:=h2.2.1 gu;rw[kI (n:=1+r2.1) gu gu];refine iu.bind (xE ha hs (vars:=3) gu gu 3 _ gu gu gu h2.2.2.2) fun r3 h3=>?_
 obtain⟨⟨⟨w1,l2⟩,v3⟩,c3⟩:=h3;have l1:=w1.len;have d3:=v3.d3;refine iu.bind (nk hs c3 12 _) fun r4 h4=>iu.ite (fun _=>?_) fun _=>.some ⟨⟨by simp only;omega,d3⟩,h4⟩
 refine iu.bind (jA hs h4 4 _) fun r5 h5=>?_
 refine iu.ite (fun _=>?_) fun _=>iu.ite (fun _=>?_) fun _=>iu.ite (fun _=>?_) fun _=>iu.ite (fun _=>?_) fun _=>.some ⟨⟨by simp only;omega,d3⟩,h5.2.2.2⟩
 ·exact iu.bind (A_ hs h5.2.2.2 _ gu gu gu) fun r6 h6=>iu.need gu (.some ⟨⟨by simp;omega,d3.app (.inl gu)⟩,h6.2.2⟩)
 ·refine iu.bind (jA hs h5.2.2.2 (r3.1.length:Int) _) fun r7 h7=>iu.bind (A_ hs h7.2.2.2 _ gu gu gu) fun r8 h8=>iu.need ⟨h7.1,h7.2.1 gu⟩ (.some ⟨⟨by simp;omega,d3.set (.inl gu) _⟩,h8.2.2⟩)
 ·exact iu.need gu (.some ⟨⟨by simp;omega,fun x hx=>d3 x (List.drop_subset _ _ hx)⟩,h5.2.2.2⟩)
 ·exact iu.bind (Lh hs h5.2.2.2 _) fun r9 h9=>iu.need gu (.some ⟨⟨by simp;omega,d3.app h9.1⟩,h9.2⟩)
theorem MU{c0:fI}{i:Int}(hs:Small c0)(hi:Cu c0 i)(h:Int):iu True (og c0 i h) fun r=>Cu c0 r.2.1:=by
 unfold og;refine iu.bind (HA hs hi h) fun r hr=>iu.bind (nk hs hr.2 15 _) fun r1 h1=>iu.ite (fun _=>?_) fun _=>.some h1
 refine iu.bind (jA hs h1 3 _) fun r2 h2=>iu.ite (fun _=>?_) fun _=>iu.ite (fun _=>.some h2.2.2.2) fun _=>iu.ite (fun _=>?_) fun _=>.some h2.2.2.2
 ·exact iu.bind (A_ hs h2.2.2.2 _ gu gu gu) fun r3 h3=>iu.need (by have:=hr.1.2;omega) (.some h3.2.2)
 ·refine iu.bind (jA hs h2.2.2.2 2 _) fun r4 h4=>?_
  have:=h4.1;have:=h4.2.1 gu;rw[kI (n:=8+r4.1) gu gu];exact iu.need gu (iu.need (by rw[dG]) (.some h4.2.2.2))
def CsS(cs:fI×List (fI×fI×List fJ)):Prop:=cs.2.length<=4/\∀r∈cs.2,r.2.2.length<=4
theorem MT{a c0:fI}(ha:kN a=true)(hs:Small c0){i:Int}(h:Int)(hi:Cu c0 i):iu True (nq a c0 i h) fun r=>r.2.2.1.length<=2/\Cu c0 r.2.2.2.1:=by
 unfold nq;refine iu.bind (Hy ha hs h hi) fun r hr=>iu.bind (Ih hr.1.1) fun r1 _=>iu.bind (jA hs hr.2 3 _) fun r2 h2=>?_
 have:=h2.1;have:=h2.2.1 gu;refine iu.loop (fun q:Int×Int×Int×List fJ=>0<=q.1/\Cu c0 q.2.1/\(q.2.2.2.length:Int)+q.1<=2) (fun q:Int×Int×Int×List fJ=>q.1.toNat) ⟨gu,h2.2.2.2,by simp;omega⟩ ?_;rintro⟨k,c,g,cs⟩ ⟨q1,q2,q3⟩;simp only at q1 q2 q3;simp only[pN];refine iu.ite (fun hk=>?_) fun hk=>iu.inr (.some ⟨by simp only;omega,q2⟩)
 simp only[aQ]at hk;refine iu.ite (fun hl=>?_) fun _=>iu.inr (.some ⟨by simp only;omega,q2⟩)
 simp only[aQ]at hl;refine iu.bind (va ha hs (vars:=0) gu gu 1 g gu gu gu q2) fun r4 h4=>iu.bind (nk hs h4.2 2 _) fun r5 h5=>?_
 rw[kI (n:=k-1) gu gu];refine iu.ite (fun _=>iu.need ⟨aO _,hl⟩ ?_) fun _=>?_
 ·refine iu.bind (va ha hs (vars:=3) gu gu 1 _ gu gu gu h5) fun r6 h6=>iu.need gu (.some ?_)
  simp only[wj];exact⟨⟨gu,h6.2,by simp;omega⟩,gu⟩
 ·refine iu.bind (va ha hs (vars:=3) gu gu 1 _ gu gu gu h5) fun r6 h6=>iu.need gu (.some ?_)
  simp only[wj];exact⟨⟨gu,h6.2,by simp;omega⟩,gu⟩
theorem JM(k:Int):iu True (oK k) fun r=>CsS r:=by
 unfold oK;refine iu.ite (fun _=>.some ?_) fun _=>iu.ite (fun _=>.some ?_) fun _=>.some ?_<;>exact⟨by decide,by decide⟩
theorem Mi{c0:fI}(hs:Small c0){i:Int}(h:Int)(hi:Cu c0 i):iu True (qk c0 i h) fun r=>CsS (r.1,r.2.1)/\Cu c0 r.2.2.1:=by
 unfold qk;refine iu.bind (nk hs hi 3 h) fun r hr=>iu.ite (fun _=>?_) fun _=>?_
 ·refine iu.bind (Hz hs hr _) fun r1 h1=>iu.bind (jA hs h1.2 3 _) fun r2 h2=>?_
  have:=h2.1;have:=h2.2.1 gu;refine iu.loop (fun q:Int×Int×Int×List (fI×fI×List fJ)=>0<=q.1/\Cu c0 q.2.1/\(q.2.2.2.length:Int)+q.1<=2/\∀r∈q.2.2.2,r.2.2.length<=4) (fun q:Int×Int×Int×List (fI×fI×List fJ)=>q.1.toNat)
   ⟨gu,h2.2.2.2,by simp;omega,fun r hr=>by simp at hr⟩ ?_
  rintro⟨k,c,g,cs⟩ ⟨q1,q2,q3,q4⟩;simp only at q1 q2 q3 q4;simp only[uj];refine iu.ite (fun hk=>?_) fun hk=>iu.inr (.some ⟨⟨by simp only;omega,q4⟩,q2⟩)
  simp only[aQ]at hk;refine iu.bind (MT h1.1.1 hs g q2) fun r3 h3=>iu.need gu (.some ?_)
  simp only[wj];rw[kI (n:=k-1) gu gu];refine⟨⟨gu,h3.2,by simp;omega,fun x hx=>?_⟩,gu⟩;rcases aG.1 hx with hx|hx
  ·exact q4 x hx
  ·simp at hx;subst hx;simp only;have:=h3.1;omega
 ·exact iu.bind (jA hs hr 3 _) fun r4 h4=>iu.bind (JM _) fun r5 h5=>.some ⟨h5,h4.2.2.2⟩
theorem Ff{α:Type}[Inhabited α]{l:List α}{n:Nat}(h:n<l.length):l.getD n default∈l:=by rw[aB,aA h];exact bu h
theorem NH{c0:fI}(hs:Small c0){i:Int}(h:Int)(hi:Cu c0 i):iu True (pG c0 i h) fun r=>r.1.2.length<=4/\Cu c0 r.2.1:=by
 unfold pG;refine iu.bind (Mi hs h hi) fun r hr=>iu.bind (nk hs hr.2 10 _) fun r1 h1=>?_
 have hl:r.2.1.length<=4:=hr.1.1;refine iu.ite (fun _=>iu.ite (fun hp=>?_) fun _=>.some ⟨hl,h1⟩) fun _=>.some ⟨hl,h1⟩
 simp only[aQ]at hp;refine iu.bind (jA hs h1 _ _) fun r2 h2=>iu.bind (jA hs h2.2.2.2 5 _) fun r3 h3=>?_
 have hk:0<=r2.1/\r2.1<(r.2.1.length:Int):=⟨h2.1,h2.2.1 hp⟩;have hm:=hr.1.2 _ (Ff (l:=r.2.1) (n:=r2.1.toNat) gu);refine iu.ite (fun _=>iu.need hk (.some ⟨by simp only[cZ];exact hl,h3.2.2.2⟩)) fun _=>iu.ite (fun _=>iu.need hk (.some ⟨by simp only[cZ];exact hl,h3.2.2.2⟩)) fun _=>
  iu.ite (fun _=>iu.need ⟨hk,gu⟩ (.some ⟨by simp only[cZ];exact hl,h3.2.2.2⟩)) fun _=>iu.ite (fun _=>?_) fun _=>iu.ite (fun _=>?_) fun _=>.some ⟨hl,h3.2.2.2⟩
 ·refine iu.bind (jA hs h3.2.2.2 2 _) fun r4 h4=>?_
  have:=h4.1;have:=h4.2.1 gu;exact iu.need ⟨hk,gu⟩ (.some ⟨by simp only[cZ];exact hl,h4.2.2.2⟩)
 ·exact iu.bind (MU hs h3.2.2.2 _) fun r5 h5=>.some ⟨hl,h5⟩
theorem MZ{c0:fI}(hs:Small c0){cs:mY}{i:Int}(h:Int)(hi:Cu c0 i):iu True (oI cs c0 i h) fun r=>r.1.length<=60/\Cu c0 r.2.1:=by
 unfold oI;rw[pZ,aa];refine iu.ite (fun hc=>?_) fun _=>iu.bind (Hx hs h hi) fun r hr=>.some ⟨hr.1.1,hr.2⟩
 obtain⟨ha,hn,hrs⟩:=mF.1 hc;have dr:∀{j g:Int},Cu c0 j->iu True ((gF 4 c0 j g).bind fun r_2=>(iV cs.1 (IntKind.i64.wrap (1+r_2.1)) 0 c0 r_2.2.1 r_2.2.2).bind fun r_3=>some r_3) fun r=>r.1.length<=60/\Cu c0 r.2.1:=fun{j g} hj=>by
  refine iu.bind (jA hs hj 4 g) fun r2 h2=>?_
  have:=h2.1;have:=h2.2.1 gu;rw[kI (n:=1+r2.1) gu gu];exact iu.bind (ux ha hs (vars:=0) gu gu 3 _ gu gu gu h2.2.2.2) fun r3 h3=>.some ⟨by have:=(ya h3 gu).2;omega,h3.2⟩
 refine iu.ite (fun hp=>?_) fun _=>dr hi
 simp only[aQ]at hp;refine iu.bind (nk hs hi 3 h) fun r1 h1=>iu.ite (fun _=>dr h1) fun _=>?_
 refine iu.loop (fun q:Int×Int×Int×List fI=>∃n:Nat,q.1=n/\n<=3/\Cu c0 q.2.1/\q.2.2.2.length=n/\∀u∈q.2.2.2,u.length<=60) (fun q:Int×Int×Int×List fI=>3-q.1.toNat) ⟨0,rfl,gu,h1,rfl,fun u hu=>by simp at hu⟩ ?_;rintro⟨_,c,g,s⟩ ⟨n,rfl,q1,q2,q3,q4⟩;simp only at q1 q2 q3 q4;simp only[qW];refine iu.ite (fun hk=>?_) fun hk=>iu.inr ?_
 ·simp only[aQ]at hk;refine iu.bind (jA hs q2 3 g) fun r4 h4=>?_
  have:=h4.1;have:=h4.2.1 gu;rw[kI (n:=1+r4.1) gu gu,kI (n:=(n:Int)+1) gu gu];refine iu.bind (ux ha hs (vars:=0) gu gu 2 _ gu gu gu h4.2.2.2) fun r5 h5=>iu.need gu (.some ?_)
  simp only[wj];refine⟨⟨n+1,by simp,gu,h5.2,by simp[q3],fun u hu=>?_⟩,gu⟩;rcases aG.1 hu with hu|hu
  ·exact q4 u hu
  ·simp at hu;subst hu;have:=(ya h5 gu).2;omega
 ·simp only[wj];refine iu.bind (jA hs q2 _ _) fun r6 h6=>?_
  have hk:0<=r6.1/\r6.1<(cs.2.length:Int):=⟨h6.1,h6.2.1 hp⟩;refine iu.need hk ?_;have hr:=(jS.1 (hrs _ (Ff (l:=cs.2) (n:=r6.1.toNat) gu))).1;rw[ta gu q4 (gH.1 hr).2.2.1 (fun x hx=>((gH.1 hr).2.2.2.all x hx).1),aa];cases hf:oo (Tm.sig s) (cs.2.getD r6.1.toNat default).1 with
  |none=>simp only[jt,ah,ay];exact dr h6.2.2.2
  |some x=>simp only[jt,aj];exact .some ⟨(wH hf).2,h6.2.2.2⟩
theorem MX{c0:fI}(hs:Small c0){i:Int}(h:Int)(hi:Cu c0 i):iu True (oH c0 i h) fun _=>True:=by
 unfold oH;refine iu.bind (NH hs h hi) fun r hr=>iu.bind (MZ hs _ hr.2) fun r1 h1=>iu.bind (jA hs h1.2 3 _) fun r2 h2=>iu.bind (nk hs h2.2.2.2 20 _) fun r3 h3=>?_
 have hd0:=h2.1;have hd1:=h2.2.1 gu;have fin:∀{j g d:Int},Cu c0 j->iu True ((h_ (r1.1.length:Int) c0 j g).bind fun r_7=>(h_ (r.1.2.length:Int) c0 r_7.2.1 r_7.2.2).bind fun r_8=>some (r.1,r1.1,r_7.1,r_8.1,d,r_8.2.1,r_8.2.2)) fun _=>True:=fun{j g d} hj=>
  iu.bind (PI hs hj gu (by have:=h1.1;omega) g) fun r7 h7=>iu.bind (PI hs h7 gu (by have:=hr.1;omega) _) fun r8 h8=>.some trivial
 have main:∀{j g d:Int},Cu c0 j->iu True ((kW r.1).bind fun r_5=>if r_5=true then
  (iC 4 c0 j g).bind fun r_6=>
  if r_6.1=true then
   (h_ (r1.1.length:Int) c0 r_6.2.1 r_6.2.2).bind fun r_7=>
   (h_ (r.1.2.length:Int) c0 r_7.2.1 r_7.2.2).bind fun r_8=>
   some (r.1,r1.1,r_7.1,r_8.1,d,r_8.2.1,r_8.2.2)
  else
   (kX d 0 2).bind fun r_9=>
   if r_9=true then
    (jE r.1.1 r1.1).bind fun r_10=>
    if r_10=true then
     (kJ r.1 r1.1 d).bind fun r_11=>
     if r_11.2.2=true then
      some (r.1,r1.1,r_11.1,r_11.2.1,d,r_6.2.1,r_6.2.2)
     else
      (h_ (r1.1.length:Int) c0 r_6.2.1 r_6.2.2).bind fun r_12=>
      (h_ (r.1.2.length:Int) c0 r_12.2.1 r_12.2.2).bind fun r_13=>
      some (r.1,r1.1,r_12.1,r_13.1,d,r_13.2.1,r_13.2.2)
    else
     (h_ (r1.1.length:Int) c0 r_6.2.1 r_6.2.2).bind fun r_14=>
     (h_ (r.1.2.length:Int) c0 r_14.2.1 r_14.2.2).bind fun r_15=>
     some (r.1,r1.1,r_14.1,r_15.1,d,r_15.2.1,r_15.2.2)
   else
    (h_ (r1.1.length:Int) c0 r_6.2.1 r_6.2.2).bind fun r_16=>
    (h_ (r.1.2.length:Int) c0 r_16.2.1 r_16.2.2).bind fun r_17=>
    some (r.1,r1.1,r_16.1,r_17.1,d,r_17.2.1,r_17.2.2)
  else
   (h_ (r1.1.length:Int) c0 j g).bind fun r_18=>
   (h_ (r.1.2.length:Int) c0 r_18.2.1 r_18.2.2).bind fun r_19=>
   some (r.1,r1.1,r_18.1,r_19.1,d,r_19.2.1,r_19.2.2)) fun _=>True:=fun{j g d} hj=>by
  rw[pZ,aa];refine iu.ite (fun hc=>?_) fun _=>fin hj
  refine iu.bind (nk hs hj 4 g) fun r6 h6=>iu.ite (fun _=>fin h6) fun _=>?_
  rw[mQ,aa];refine iu.ite (fun hd=>?_) fun _=>fin h6
  simp only[bq,aQ]at hd;rw[kE,aa];refine iu.ite (fun ht=>?_) fun _=>fin h6
  have hp:=Ll (d:=d.toNat) hc gu ht;rw[show((d.toNat:Nat):Int)=d by omega]at hp;rw[hp,aa];exact iu.ite (fun _=>.some trivial) fun _=>fin h6
 refine iu.ite (fun _=>?_) fun _=>main h3
 exact iu.bind (A_ hs h3 _ gu gu gu) fun r4 h4=>main h4.2.2
theorem Mj{code:fI}(hs:Small code):∃r,mz code=some r:=by
 have key:iu True (mz code) fun _=>True:=by
  unfold mz;refine iu.bind (UX hs) fun r hr=>?_
  exact iu.bind (MX hs _ (by rw[hr.2];exact⟨dg _,gu⟩)) fun r1 _=>.some trivial
 obtain⟨r,h,_⟩:=key.get;exact⟨r,h⟩
theorem EW{cs:mY}{t:fI}{i k d:Int}:Small (jt (BN cs t i k d)).1:=by
 cases h:BN cs t i k d with
 |none=>show List.length _<_;simp[jt]
 |some u=>
  obtain⟨hc,ht,_,⟨i0,i1⟩,⟨k0,k1⟩,h⟩:=xQ h;have:=(gH.1 (vT hc _ _ _ _ _ ht gu gu h)).2.2.1;show List.length _<_;simp only[jt];omega
theorem UG(code:fI):pY code=some true:=by
 unfold pY yj;rw[aa];by_cases hb:4096<(code.length:Int)
 ·rw[aE (by simpa using hb)]
 rw[aJ (by simpa using hb)];obtain⟨r,hr⟩:=Mj (code:=code) (by show code.length<_;omega);rw[hr,aa,wU,aa,wX,aa,AN,aa,AR,aa,zc,aa,vg,aa];obtain⟨cs,t,i,k,d⟩:=r;simp only[dI,ah,ay];rw[nu EW,aa];simp only[cq,aj];cases hw:Tj cs t i k d with
 |none=>simp[wF]
 |some w=>
  cases hu:BN cs t i k d with
  |none=>unfold Tj at hw;rw[hu]at hw;simp at hw
  |some u=>
   obtain⟨h1,h2,h3⟩:=OF hu hw;obtain⟨hc,ht,_⟩:=xQ hu;have hS:lD (ju cs)=true:=(Cf.1 h1).1;have hts:Small t:=by show t.length<_;have:=(gH.1 ht).2.2.1;omega
   have Mn:=EW (cs:=cs) (t:=t) (i:=i) (k:=k) (d:=d);rw[hu]at Mn;simp only[jt]at Mn;simp only[wF,aj,hc,hS,aW];rw[sZ,aa,hS,aE rfl,xN,aa,h1,aE rfl,h2,nu hts,aa,aE (by simp),AS h1,aa,yL,h3,nu Mn,aa];simp[jt]
theorem O0{code:fI}:lz Tryz.prog 3 [(gN 1 (kD .u8)) code] (bD true):=zZ.c (UG code)
end Go.Proofs.YtelhemjlfkbkeaaGreat
