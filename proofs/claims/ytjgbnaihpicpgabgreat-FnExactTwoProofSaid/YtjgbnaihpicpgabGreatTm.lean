/- A part of the proof about FnExactTwoProof (PB, PC, U4, V4, TA, TB, TC, UI, UA, UB, VN, VP, VQ). -/
import Derived.Test.YtjgbnaihpicpgabGreatTi
import Derived.Test.YtjgbnaihpicpgabGreatTk
set_option linter.all false
namespace Go.Proofs.YtjgbnaihpicpgabGreat
open Go oq Tm
theorem DA{α β γ σ:Type}[Inhabited α](mk:Int->List β->σ){xs:List α}{g:α->β}{out0:List β}{c:γ}{f:σ->Option (σ⊕γ)}
 (h:∀(i:Nat)(out:List β)(x:α),i<xs.length->x∈xs->xs.getD i default=x->out.length=out0.length+i->f (mk i out)=some (.inl (mk ((i:Int)+1) (out++[g x]))))
 (he:f (mk xs.length (out0++xs.map g))=some (.inr c)):iL f (mk 0 out0)=some c:=by
 have key:∀(k i:Nat)(out:List β),i+k=xs.length->out.length=out0.length+i->out++(xs.drop i).map g=out0++xs.map g->iL f (mk i out)=some c:=by
  intro k;induction k with
  |zero=>
   intro i out hi _ ho;obtain rfl:i=xs.length:=by omega
   rw[eO]at ho;simp at ho;subst ho;exact iK he
  |succ k ih=>
   intro i out hi hl ho;have hlt:i<xs.length:=by omega
   rw[iZ (h i out _ hlt (bw hlt) (jb hlt) hl),show((i:Int)+1)=((i+1:Nat):Int) by omega];refine ih (i+1) _ iA (by simp;omega) ?_;rw[ay hlt,aK]at ho;rw[aF,dD];exact ho
 exact key xs.length 0 out0 iA iA (by simp)
abbrev Q5:=Int×Int×Bool×gI
abbrev Q3:=gI×List Q5
def PL(w:gI×List zL):Q3:=(w.1,w.2.map fun s=>(s.2.1,s.1,false,s.2.2))
def Ag(c:Q3):gI:=if c.2.length=0 then c.1 else(c.2.getD (c.2.length-1) default).2.2.2
structure SmC(c:Q3):Prop where
 from':c.1.length<=60
 len:c.2.length<=60
 to:∀m∈c.2,m.2.2.2.length<=60
structure Z5(w:gI×List zL):Prop where
 from':w.1.length<=60
 len:w.2.length<=60
 to:∀m∈w.2,m.2.2.length<=60
theorem Z5.ch{w:gI×List zL}(h:Z5 w):SmC (PL w):=
 ⟨h.from',by simpa[PL]using h.len,fun m hm=>by obtain⟨s,hs,rfl⟩:=a_.1 hm;exact h.to s hs⟩
theorem SmC.at{c:Q3}(h:SmC c){i:Nat}(hi:i<c.2.length):(c.2.getD i default).2.2.2.length<=60:=h.to _ (jP hi)
theorem SmC.end'{c:Q3}(h:SmC c):(Ag c).length<=60:=by
 unfold Ag;split
 ·exact h.from'
 ·exact h.at iA
abbrev Q4:=gI×gI
def NZ(a:gI)(e:Q4):Bool:=jq a e.1&&jq a e.2
def I0(a:gI)(eqs:List Q4):Bool:=kL a&&(decide (eqs.length<=12)&&eqs.all (NZ a))
theorem Kh{a:gI}{e:Q4}:NZ a e=true<->jq a e.1=true/\jq a e.2=true:=by simp[NZ]
theorem Ia{a:gI}{eqs:List Q4}:I0 a eqs=true<->kL a=true/\eqs.length<=12/\∀e∈eqs,NZ a e=true:=by simp[I0]
def ON(eqs:List Q4)(m:Q5):gI:=if m.2.2.1=true then(eqs.getD m.1.toNat default).2 else(eqs.getD m.1.toNat default).1
def OO(eqs:List Q4)(m:Q5):gI:=if m.2.2.1=true then(eqs.getD m.1.toNat default).1 else(eqs.getD m.1.toNat default).2
def inB(eqs:List Q4)(t:gI)(m:Q5):Prop:=(0<=m.1/\m.1<eqs.length)/\(0<=m.2.1/\m.2.1<t.length)/\m.2.1<m.2.2.2.length
instance(eqs:List Q4)(t:gI)(m:Q5):Decidable (inB eqs t m):=by unfold inB;infer_instance
def Iv(a:gI)(eqs:List Q4)(t:gI)(m:Q5):Bool:=decide (inB eqs t m)&&(jq a m.2.2.2&&mvB a (ON eqs m) (OO eqs m) t m.2.2.2 m.2.1.toNat)
def aap(a:gI)(eqs:List Q4):gI->List Q5->Bool
 |_,[]=>true
 |t,m::ms=>Iv a eqs t m&&aap a eqs m.2.2.2 ms
theorem Tw{a:gI}{eqs:List Q4}{t:gI}{m:Q5}(h:Iv a eqs t m=true):jq a m.2.2.2=true:=by simp only[Iv,bh]at h;exact h.2.1
def Kf:gI->List Q5->gI
 |t,[]=>t
 |_,m::ms=>Kf m.2.2.2 ms
theorem Qk{a:gI}{eqs:List Q4}{t:gI}{m:Q5}(he:I0 a eqs=true)(ht:jq a t=true):
 Iv a eqs t m=true<->(0<=m.1/\m.1<eqs.length)/\0<=m.2.1/\jq a m.2.2.2=true/\Mv a (ON eqs m) (OO eqs m) t m.2.2.2 m.2.1.toNat:=by
 obtain⟨ha,hel,hall⟩:=Ia.1 he;obtain⟨_,t1,t2,t3⟩:=ja.1 ht;have sides:(0<=m.1/\m.1<eqs.length)->Wf a 1 (ON eqs m)/\Wf a 1 (OO eqs m):=fun h=>by
  obtain⟨hL,hR⟩:=Kh.1 (hall _ (jP (show m.1.toNat<eqs.length by omega)));unfold ON OO;cases m.2.2.1 with
  |true=>exact⟨(ja.1 hR).2.2.2,(ja.1 hL).2.2.2⟩
  |false=>exact⟨(ja.1 hL).2.2.2,(ja.1 hR).2.2.2⟩
 simp only[Iv,bh,au];unfold inB;constructor
 ·rintro⟨⟨h1,h2,h3⟩,h4,h5⟩;exact⟨h1,h2.1,h4,(Ol (sides h1).1 (sides h1).2 t3 (ja.1 h4).2.2.2 iA iA).1 h5⟩
 ·rintro⟨h1,h2,h4,h5⟩;have h5':=h5;obtain⟨p,s,σ,hp,e1,e2,hσ⟩:=h5';have l1:=((sides h1).1.sub fun x _ hx=>hσ x hx).len;have l2:=((sides h1).2.sub fun x _ hx=>hσ x hx).len;have e1:=bP List.length e1;have e2:=bP List.length e2;simp only[ak]at e1 e2;exact⟨⟨h1,⟨h2,iA⟩,iA⟩,h4,(Ol (sides h1).1 (sides h1).2 t3 (ja.1 h4).2.2.2 iA iA).2 h5⟩
theorem XF{s:Sys}(h:kC s=true):I0 s.1 s.2=true:=by
 obtain⟨h1,h2,h3⟩:=mj.1 h;exact Ia.2 ⟨h1,h2,fun e he=>let h:=lX.1 (h3 e he);Kh.2 ⟨h.1,h.2.1⟩⟩
theorem Le{s:Sys}{t u:gI}{x:zL}(h:mq s t x.1 x.2.1=some u)(hu:(u==x.2.2)=true):Iv s.1 s.2 t (x.2.1,x.1,false,x.2.2)=true:=by
 have hl:=xL h;unfold mq at h;split at h
 ·rename_i hc;obtain⟨⟨hs,ht⟩,hi,hr⟩:=hc;obtain rfl:u=x.2.2:=by simpa using hu
  obtain⟨_,_,h3⟩:=mj.1 hs;obtain⟨hL,hR,_,hv⟩:=lX.1 (h3 _ (jP (show x.2.1.toNat<s.2.length by omega)));have wL:=(ja.1 hL).2.2.2;have wR:=(ja.1 hR).2.2.2;obtain⟨ha,_,_,wt⟩:=ja.1 ht;obtain⟨hm,_⟩:=Ui wL wR wt (show x.1.toNat<t.length by omega) hv h;have wu:=hm.wf wL wR wt;exact(Qk (XF hs) ht).2 ⟨hr,hi.1,ja.2 ⟨ha,wu.len,hl,wu⟩,hm⟩
 ·cases h
theorem Hu{s:Sys}:∀{ms:List zL}{t:gI},nX s t ms=true->∀m∈ms,m.2.2.length<=60
 |[],_,_,m,hm=>by cases hm
 |x::ms,t,h,m,hm=>by
  rw[nX]at h;cases hs:mq s t x.1 x.2.1 with
  |none=>rw[hs]at h;cases h
  |some u=>
   rw[hs]at h;simp only[bh]at h;have hu:u=x.2.2:=by simpa using h.1
   rcases bA.1 hm with rfl|hm
   ·rw[<-hu];exact xL hs
   ·exact Hu h.2 m hm
theorem EX{s:Sys}{w:gI×List zL}:D5 s w=true<->kC s=true/\jq s.1 w.1=true/\w.2.length<=60/\nX s w.1 w.2=true:=by simp[D5]
theorem D6{s:Sys}{w:gI×List zL}(h:D5 s w=true):Z5 w:=by
 obtain⟨_,h2,h3,h4⟩:=EX.1 h;exact⟨(ja.1 h2).2.2.1,h3,Hu h4⟩
def nV{α:Type}(p:α->Bool)(xs:List α):Int:=match xs.findIdx? p with|some j=>(j:Int)|none=> -1
theorem AR{α:Type}[Inhabited α]{xs:List α}{p:α->Bool}{f:Int->Option (Int⊕Int)}
 (h:∀(i:Nat)(x:α),i<xs.length->x∈xs->xs.getD i default=x->f (i:Int)=some (if p x=true then .inr (i:Int)else .inl ((i:Int)+1)))
 (he:f xs.length=some (.inr (-1))):iL f 0=some (nV p xs):=by
 have key:∀(k i:Nat),i+k=xs.length->iL f (i:Int)=some (match(xs.drop i).findIdx? p with|some j=>((i+j:Nat):Int)|none=> -1):=by
  intro k;induction k with
  |zero=>
   intro i hi;obtain rfl:i=xs.length:=by omega
   rw[iK he,eO];rfl
  |succ k ih=>
   intro i hi;have hlt:i<xs.length:=by omega
   have e:=h i _ hlt (bw hlt) (jb hlt);rw[ay hlt,List.findIdx?_cons];cases hp:p (xs[i])with
   |true=>rw[hp]at e;rw[iK e];simp
   |false=>
    rw[hp]at e;rw[iZ e,show((i:Int)+1)=((i+1:Nat):Int) by omega,ih (i+1) iA];cases hf:(xs.drop (i+1)).findIdx? p with
    |none=>simp
    |some j=>
     simp only[aq,aE,aH];show some (((i+1+j:Nat):Int))=some (((i+(j+1):Nat):Int));rw[show i+1+j=i+(j+1) by omega]
 have:=key xs.length 0 iA;simp only[bN,bU]at this;exact this
def zI(s:Sys)(u:gI):Int:=nV (fun r=>(yE s.1 r.1 u kr).isSome) s.2
theorem Es{α:Type}{p:α->Bool}{xs:List α}: -1<=nV p xs/\nV p xs<xs.length:=by
 unfold nV;cases h:xs.findIdx? p with
 |none=>simp only;omega
 |some j=>have:=(List.findIdx?_eq_some_iff_getElem.1 h).1;simp only;omega
theorem Bv{α:Type}{p:α->Bool}{xs:List α}(h:∀x∈xs,p x=false):nV p xs= -1:=by
 unfold nV;rw[ff.2 h]
theorem If{α:Type}{p:α->Bool}{xs:List α}{x:α}(hx:x∈xs)(hp:p x=true):0<=nV p xs:=by
 unfold nV;cases h:xs.findIdx? p with
 |none=>have:=ff.1 h x hx;rw[hp]at this;cases this
 |some j=>simp only;omega
theorem Qw{s:Sys}(hs:kC s=true){y:Int}{u:gI}(hy:y<0):zI s (y::u)= -1:=by
 obtain⟨_,_,hr⟩:=mj.1 hs;refine Bv fun r hm=>?_
 obtain⟨hL,_,h0,_⟩:=lX.1 (hr r hm);obtain⟨_,_,_,w⟩:=ja.1 hL;obtain⟨n,p,e,_,_⟩:=w.pos;rw[e]at h0⊢;simp only[List.headD_cons]at h0;rw[DE iA,aj iA];rfl
theorem Ga{a t:gI}(ht:jq a t=true){i:Nat}(hi:i<t.length):∃q,t.drop i=iY a t i++q/\Wf a 1 (iY a t i)/\(iY a t i).length<=60/\∃u,iY a t i=t[i]::u:=by
 obtain⟨_,_,t2,t3⟩:=ja.1 ht;obtain⟨p,u,q,e,hp,hu⟩:=t3.place hi;have ha:iY a t i=u:=by rw[e,<-hp];exact Bm hu
 have hd:t.drop i=u++q:=by rw[e,<-hp];exact bS
 rw[ha];refine⟨q,hd,hu,?_,?_⟩
 ·have:=bP List.length e;simp only[ak]at this;omega
 ·obtain⟨y,r,e2,_,_⟩:=hu.pos;subst e2;rw[ay hi,bz]at hd;exact⟨r,by rw[(cG hd).1]⟩
theorem AS{a p t:gI}{r:Bd×Bool}(h:vK (yE a p t kr) r):r.2=(yE a p t kr).isSome:=by
 cases hm:yE a p t kr with
 |none=>rw[hm]at h;exact h
 |some b=>rw[hm]at h;exact h.1
def isR(s:Sys)(t:gI)(i:Nat):Bool:=decide (0<=zI s (iY s.1 t i))
def Jm(s:Sys)(t:gI):gI:=((List.range t.length).filter (isR s t)).map (fun i:Nat=>(i:Int))
theorem TK{s:Sys}{t:gI}{x:Int}(h:x∈Jm s t):∃i:Nat,x=i/\i<t.length/\0<=zI s (iY s.1 t i):=by
 obtain⟨i,hi,rfl⟩:=a_.1 h;obtain⟨h1,h2⟩:=dI.1 hi;exact⟨i,rfl,cT.1 h1,fh h2⟩
theorem G1{s:Sys}{t:gI}:Jm s t=[]<->∀i,i<t.length->zI s (iY s.1 t i)= -1:=by
 constructor
 ·intro h i hi;have h1:=(Es (p:=fun r:gI×gI=>(yE s.1 r.1 (iY s.1 t i) kr).isSome) (xs:=s.2)).1;by_cases h0:0<=zI s (iY s.1 t i)
  ·have:(i:Int)∈Jm s t:=a_.2 ⟨i,dI.2 ⟨cT.2 hi,fc h0⟩,rfl⟩;rw[h]at this;cases this
  ·have h1': -1<=zI s (iY s.1 t i):=h1;omega
 ·intro h;refine List.eq_nil_iff_forall_not_mem.2 fun x hx=>?_
  obtain⟨i,rfl,hi,h0⟩:=TK hx;rw[h i hi]at h0;omega
theorem sX{l:List gI}(hl:l.length<1099511627776)(hs:∀x∈l,Small x)(t:gI):nB l t=some (nV (fun x=>x==t) l):=by
 unfold nB;refine AR (fun i x hi hx hg=>?_) (by simp[pQ]);simp only[pQ,show(i:Int)<l.length by omega,aL,aA,show(0:Int)<=i by omega,bk,ai,hg,kM (n:=(i:Int)+1) iA iA,aH,pg (hs x hx),aa];cases x==t<;>rfl
theorem B0{α:Type}{p:α->Bool}{xs:List α}:decide (0<=nV p xs)=xs.any p:=by
 cases h:xs.any p with
 |true=>
  obtain⟨x,hx,hp⟩:=dR.1 h;exact fc (If hx hp)
 |false=>
  rw[Bv (fun x hx=>by have:=gk.1 h x hx;simpa using this)];rfl
def Ry(s:Sys)(t:gI)(i j:Nat):Bool:=(yE s.1 (s.2.getD j default).1 (iY s.1 t i) kr).isSome
theorem Lf{s:Sys}{t u:gI}{i j:Nat}(h:ux s t i j=some u):Ry s t i j=true:=by
 unfold ux Hl at h;unfold Ry;obtain⟨b,hb,_⟩:=av.1 h;rw[hb];rfl
theorem Fl{s:Sys}{t:gI}{i rule:Nat}(hs:kC s=true)(ht:jq s.1 t=true)(hi:i<t.length)(hr:rule<s.2.length):rW s t i rule=some (Ry s t i rule):=by
 obtain⟨ha,_,hrs⟩:=mj.1 hs;obtain⟨_,h1,h2,hw⟩:=ja.1 ht;obtain⟨p,u,q,rfl,rfl,hu⟩:=hw.place hi;have hL:=(lX.1 (hrs _ (jP hr))).1;have hm:∀x∈p++(u++q), -24<=x:=fun x hx=>(hw.all x hx).1
 have hul:u.length<=60:=by simp at h2;omega
 obtain⟨_,hL1,hL2,hL3⟩:=ja.1 hL;unfold rW Ry sy;rw[ah iA,vc ha (by show List.length _<_;omega) hm bS hu,aa,ai,Bm hu];obtain⟨r,e⟩:=(vb ha hL3 hu hL2 hul).2 trivial;rw[e,aa,aa,AS ((vb ha hL3 hu hL2 hul).1 r e)]
theorem aaX{s:Sys}{t:gI}{i j:Nat}(hs:kC s=true)(ht:jq s.1 t=true)(hi:i<t.length)(hj:j<s.2.length)(hn:t.getD i default<0):Ry s t i j=false:=by
 obtain⟨ha,_,hrs⟩:=mj.1 hs;obtain⟨_,h1,h2,hw⟩:=ja.1 ht;obtain⟨p,u,q,rfl,rfl,hu⟩:=hw.place hi;obtain⟨hL,_,hh,_⟩:=lX.1 (hrs _ (jP hj));obtain⟨_,hL1,hL2,hL3⟩:=ja.1 hL;unfold Ry;rw[Bm hu];obtain⟨x,r,rfl,_,_⟩:=hu.pos;have hx:x<0:=by
  have e:(p++(x::r++q)).getD p.length default=x:=by simp[List.getD_eq_getElem?_getD]
  rwa [e]at hn
 generalize(s.2.getD j default).1=l at *;obtain⟨y,k,rfl,_,_⟩:=hL3.pos;have hy:¬y<0:=by simpa using hh
 rw[DE hy,aj iA];rfl
def xU(s:Sys)(t:gI)(js:List Nat)(i:Nat):List zL:=js.filterMap fun j=>(ux s t i j).map fun u=>((i:Int),(j:Int),u)
def D0(s:Sys)(t:gI):List zL:=(List.range t.length).flatMap (xU s t (List.range s.2.length))
def lgR(s:Sys)(t:gI)(js:List Nat)(i:Nat):Bool:=js.any fun j=>Ry s t i j&&(ux s t i j).isNone
def lgB(s:Sys)(t:gI):Bool:=(List.range t.length).any (lgR s t (List.range s.2.length))
def rdR(s:Sys)(t:gI)(js:List Nat)(i:Nat):Nat:=(js.filter (Ry s t i)).length
theorem aa0{s:Sys}{t:gI}{i:Nat}:∀js:List Nat,(xU s t js i).length<=rdR s t js i/\(lgR s t js i=true<->(xU s t js i).length<rdR s t js i)
 |[]=>by simp[xU,rdR,lgR]
 |j::js=>by
  obtain⟨h1,h2⟩:=aa0 (s:=s) (t:=t) (i:=i) js;unfold xU rdR lgR at *;rw[List.filterMap_cons,dx,fk];cases hq:ux s t i j with
  |some u=>
   have:=Lf hq;simp only[aH,this,aA,aN,Option.isNone_some,Bool.and_false,Bool.false_or];exact⟨iA,h2.trans iA⟩
  |none=>
   cases hr:Ry s t i j with
   |true=>simp;omega
   |false=>simp only[eV,aq,aE,Bool.false_and,Bool.false_or];exact⟨h1,h2⟩
theorem ID{s:Sys}{t:gI}{js:List Nat}{i:Nat}:(xU s t js i).length<=js.length:=List.length_filterMap_le _ _
theorem FV{s:Sys}{t:gI}(hs:kC s=true)(ht:jq s.1 t=true):∀{n:Nat},n<=t.length->((List.range n).flatMap (xU s t (List.range s.2.length))).length<=n*12
 |0,_=>by simp
 |n+1,h=>by
  have:=FV hs ht (n:=n) iA;have h2:=ID (s:=s) (t:=t) (js:=List.range s.2.length) (i:=n);have h3:=(mj.1 hs).2.1;rw[gC,fO,ak];simp only[List.length_range]at h2;simp only[cQ,List.flatMap_nil,aT];omega
theorem M_{s:Sys}{t:gI}{i n:Nat}:xU s t (List.range (n+1)) i=xU s t (List.range n) i++(match ux s t i n with|some u=>[((i:Int),(n:Int),u)]|none=>[]):=by
 unfold xU;rw[gC,List.filterMap_append];congr 1;cases h:ux s t i n<;>simp[h]
theorem zx{s:Sys}{t:gI}(hs:kC s=true)(ht:jq s.1 t=true):tL s t=some (D0 s t):=by
 obtain⟨_,hn,_⟩:=mj.1 hs;obtain⟨_,h1,h60,_⟩:=ja.1 ht;unfold tL;have A:=nc (n:=t.length) (fun i=>((List.range i).flatMap (xU s t (List.range s.2.length)),(i:Int))) (c:=D0 s t) (f:=qp s t) (fun i hi=>by
  have hlen:=FV hs ht (n:=i) iA;generalize hO:(List.range i).flatMap (xU s t (List.range s.2.length))=o at hlen;have B:=nc (n:=s.2.length) (fun j=>(o++xU s t (List.range j) i,(j:Int))) (c:=.inl (o++xU s t (List.range s.2.length) i,((i:Int)+1))) (f:=qq s t (i:Int)) (fun j hj=>by
   have hr:=ID (s:=s) (t:=t) (js:=List.range j) (i:=i);rw[List.length_range]at hr;unfold qq;simp only;rw[ah (by simpa using hj),z_ hs ht hi hj,aa,kM iA iA,M_];cases hq:ux s t i j with
   |none=>simp[rR]
   |some u=>
    simp only[rR,aA];rw[ah (by simp only[ak];omega),aF];rfl) (by
   unfold qq;simp only;rw[aj (by simp),kM iA iA];rfl)
  simp only[List.range_zero]at B;have e0:xU s t [] i=[]:=rfl;rw[e0,aT]at B;unfold qp;simp only;rw[ah (by simpa using hi),show((0:Nat):Int)=0 from rfl]at *;rw[B,gC,fO,hO];simp) (by
  unfold qp;simp only;rw[aj (by simp)];rfl)
 simpa using A
def elF(s:Sys)(t:gI)(i j:Nat):Bl:=(((i:Int),(j:Int),(rR (ux s t i j)).1),(rR (ux s t i j)).2)
theorem SM{s:Sys}{t u:gI}{i j:Nat}(h:ux s t i j=some u):elF s t i j=(((i:Int),(j:Int),u),true):=by unfold elF;rw[h];rfl
theorem SL{s:Sys}{t:gI}{i j:Nat}(h:ux s t i j=none):(elF s t i j).2=false:=by unfold elF;rw[h];rfl
def Yg(s:Sys)(t:gI)(js:List Nat)(i:Nat):List Bl:=(js.filter (Ry s t i)).map (elF s t i)
theorem G6{s:Sys}{t:gI}{i:Nat}(hs:kC s=true)(ht:jq s.1 t=true)(hi:i<t.length):∀k,k<=s.2.length->xK s t i k=some (Yg s t (List.range' (s.2.length-k) k) i)
 |0,_=>rfl
 |k+1,hk=>by
  have ih:=G6 hs ht hi k iA;have e:List.range' (s.2.length-(k+1)) (k+1)=(s.2.length-(k+1))::List.range' (s.2.length-k) k:=by rw[dQ];congr 2;omega
  unfold xK;rw[e];have hr:s.2.length-(k+1)<s.2.length:=by omega
  by_cases hn:t.getD i default<0
  ·rw[ah (by simpa using hn),ih];unfold Yg;rw[dx,aaX hs ht hi hr hn];rfl
  ·rw[aj (by simpa using hn),Fl hs ht hi hr,aa];unfold Yg;rw[dx];cases hq:Ry s t i (s.2.length-(k+1))with
   |false=>simp only[aq,aE];exact ih
   |true=>
    simp only[aA];rw[Bg hs ht hi hr,aa,ih];rfl
theorem Fa{s:Sys}{t:gI}(hs:kC s=true)(ht:jq s.1 t=true):∀k,k<=t.length->zg s t k=some ((List.range' (t.length-k) k).flatMap (Yg s t (List.range s.2.length)))
 |0,_=>rfl
 |k+1,hk=>by
  have ih:=Fa hs ht k iA;have e:List.range' (t.length-(k+1)) (k+1)=(t.length-(k+1))::List.range' (t.length-k) k:=by rw[dQ];congr 2;omega
  unfold zg;rw[e,G6 hs ht iA _ (aC _),aa,ih,cN,<-dL];rfl
def PO(s:Sys)(t:gI):List Bl:=(List.range t.length).flatMap (Yg s t (List.range s.2.length))
theorem HD{s:Sys}{t:gI}(hs:kC s=true)(ht:jq s.1 t=true):AF s t=some (PO s t):=by
 unfold AF PO;rw[Fa hs ht _ (aC _),cN,<-dL]
theorem SN{s:Sys}{t:gI}{i:Nat}:∀js:List Nat,((Yg s t js i).filter (·.2)).map (·.1)=xU s t js i/\(Yg s t js i).any (fun x=>!x.2)=lgR s t js i
 |[]=>⟨rfl,rfl⟩
 |j::js=>by
  obtain⟨h1,h2⟩:=SN (s:=s) (t:=t) (i:=i) js;unfold Yg xU lgR at *;rw[dx,List.filterMap_cons,fk];cases hq:ux s t i j with
  |some u=>simp only[Lf hq,aA,aK,dx,fk,SM hq,h1,h2,aH,Option.isNone_some,Bool.and_false,Bool.not_true,Bool.false_or,bk]
  |none=>cases hr:Ry s t i j<;>simp[SL hq,h1,h2]
theorem Mi(s:Sys)(t:gI):((PO s t).filter (·.2)).map (·.1)=D0 s t/\(PO s t).any (fun x=>!x.2)=lgB s t:=by
 unfold PO D0 lgB;generalize List.range t.length=is;induction is with
 |nil=>exact⟨rfl,rfl⟩
 |cons i is ih=>
  obtain⟨h1,h2⟩:=SN (s:=s) (t:=t) (i:=i) (List.range s.2.length);simp only[cQ,fX,aQ,List.any_append,fk,h1,h2,ih.1,ih.2,bk]
theorem QE{α:Type}[Inhabited α]{xs:List α}{i:Nat}(h:i<xs.length):xs.take (i+1)=xs.take i++[xs.getD i default]:=by rw[bB h,jb h]
theorem yj{s:Sys}{t:gI}(hs:kC s=true)(ht:jq s.1 t=true):qX s t=some (D0 s t,lgB s t):=by
 unfold qX;rw[show vS s t=some ()from rfl,aa,HD hs ht,aa];have hb:∀j,(((PO s t).take j).filter (·.2)).length<=720:=fun j=>by
  have h1:(((PO s t).take j).filter (·.2)).length<=((PO s t).filter (·.2)).length:=((List.take_sublist _ _).filter _).length_le;have h2:=bP List.length (Mi s t).1;rw[aJ]at h2;have h3:=FV hs ht (n:=t.length) (aC _);have h4:=(ja.1 ht).2.2.1;unfold D0 at h2;omega
 have A:=nc (n:=(PO s t).length) (fun j=>(j,(((PO s t).take j).filter (·.2)).map (·.1),((PO s t).take j).any (fun x=>!x.2))) (c:=(D0 s t,lgB s t)) (f:=mQ (PO s t)) (fun j hj=>by
  have h0:=hb j;unfold mQ;simp only;rw[ah hj,QE hj];generalize(PO s t).getD j default=x;cases hx:x.2 with
  |true=>
   simp only[aA];rw[ah (by rw[aJ];omega),fX,aQ,List.any_append];simp[hx]
  |false=>
   simp[hx]) (by
  unfold mQ;simp only;rw[aj (eP _),cj,(Mi s t).1,(Mi s t).2];rfl)
 simpa using A
theorem XB{s:Sys}{t u:gI}{i j:Nat}(hs:kC s=true)(ht:jq s.1 t=true)(hi:i<t.length)(hj:j<s.2.length)(h:ux s t i j=some u):jq s.1 u=true:=by
 have hst:mq s t (i:Int) (j:Int)=some u:=by
  unfold mq;rw[ah ⟨⟨hs,ht⟩,⟨iA,iA⟩,iA,iA⟩];exact h
 exact Tw (m:=((j:Int),(i:Int),false,u)) (Le (x:=((i:Int),(j:Int),u)) hst (by simp))
theorem Jy{s:Sys}{t:gI}(hs:kC s=true)(ht:jq s.1 t=true):∀x∈D0 s t,jq s.1 x.2.2=true:=fun x hx=>by
 obtain⟨i,hi,hx⟩:=eM.1 hx;obtain⟨j,hj,hx⟩:=List.mem_filterMap.1 hx;obtain⟨u,hu,rfl⟩:=aB.1 hx;exact XB hs ht (cT.1 hi) (cT.1 hj) hu
theorem GX{a t:gI}(h:jq a t=true):t.length<=60:=(ja.1 h).2.2.1
theorem Jw{s:Sys}{t:gI}(hs:kC s=true)(ht:jq s.1 t=true):(D0 s t).length<=720:=by
 have h3:=FV hs ht (n:=t.length) (aC _);have h4:=GX ht;unfold D0;omega
def tT(s:Sys)(t:gI)(steps:Int):Bool:=kC s&&(jq s.1 t&&decide (0<=steps/\steps<=20))
theorem xp{s:Sys}{t:gI}{steps:Int}:tT s t steps=true<->kC s=true/\jq s.1 t=true/\0<=steps/\steps<=20:=by simp[tT]
def dpB(steps:Int):Bool:=decide (0<=steps)&&decide (steps<=20)
theorem V6{steps:Int}:dpB steps=true<->0<=steps/\steps<=20:=by simp[dpB]
theorem Ee{s:Sys}{t:gI}(hs:kC s=true)(ht:jq s.1 t=true){i:Nat}(hi:i<t.length):uO s t i=some (zI s (iY s.1 t i)):=by
 obtain⟨ha,hl,hr⟩:=mj.1 hs;obtain⟨_,t1,t2,t3⟩:=ja.1 ht;obtain⟨q,hd,hu,hul,_⟩:=Ga ht hi;unfold uO;refine AR (fun j r hj hm hg=>?_) (by simp[ud]);obtain⟨hL,_⟩:=lX.1 (hr r hm);obtain⟨_,_,l2,l3⟩:=ja.1 hL;obtain⟨r5,e1,e2⟩:=(vb ha l3 hu l2 hul).get;have e3:=AS e2;simp only[ud,rW,sy,show(j:Int)<s.2.length by omega,aL,aA,show(0:Int)<=j by omega,bk,ai,hg,kM (n:=(j:Int)+1) iA iA];rw[vc ha (show List.length _<_ by omega) (fun x hx=>(t3.all x hx).1) hd hu,aa,e1];simp only[aa,e3];cases(yE s.1 r.1 (iY s.1 t i) kr).isSome<;>simp
theorem CF{s:Sys}{t:gI}(hs:kC s=true)(ht:jq s.1 t=true):sF s t=some (decide (Jm s t=[])):=by
 obtain⟨ha,hl,hr⟩:=mj.1 hs;obtain⟨_,t1,t2,t3⟩:=ja.1 ht;unfold sF;rw[wm,aa,hs,ht];simp only[dZ,aA];have key:pS True (rL s t) fun m=>(m=0<->Jm s t=[]):=by
  unfold rL;refine pS.loop (fun q:Int×Int=>∃i:Nat,q.2=i/\i<=t.length/\0<=q.1/\q.1<=12*i/\(q.1=0<->∀j,j<i->zI s (iY s.1 t j)= -1)) (fun q:Int×Int=>t.length-q.2.toNat) ⟨0,rfl,iA,iA,by simp,by simp⟩ ?_;rintro⟨many,_⟩ ⟨i,rfl,h1,h2,h3,h4⟩;simp only at h2 h3 h4;simp only[uB];by_cases hi:i<t.length
  ·obtain⟨q,hd,hu,hul,_⟩:=Ga ht hi;simp only[show(i:Int)<t.length by omega,aL,aA];refine pS.loop (fun q:Int×Int=>∃j:Nat,q.2=j/\j<=s.2.length/\many<=q.1/\q.1<=many+j/\(q.1=many<->∀r∈s.2.take j,(yE s.1 r.1 (iY s.1 t i) kr).isSome=false)) (fun q:Int×Int=>s.2.length-q.2.toNat) ⟨0,rfl,iA,by simp,by simp,by simp⟩ ?_;rintro⟨m2,_⟩ ⟨j,rfl,hj,h5,h6,h7⟩;simp only at h5 h6 h7;simp only[uC];by_cases hlt:j<s.2.length
   ·obtain⟨hL,_⟩:=lX.1 (hr _ (jP hlt));obtain⟨_,_,l2,l3⟩:=ja.1 hL;simp only[show(j:Int)<s.2.length by omega,aL,aA,show(0:Int)<=j by omega,bk,ai,kM (n:=(j:Int)+1) iA iA,kM (n:=m2+1) iA iA];rw[ya ha (show List.length _<_ by omega) hd hu,aa];have ht1:s.2.take (j+1)=s.2.take j++[s.2[j]]:=by rw[ec,az hlt];rfl
    refine pS.bind (zw ha l3 hu l2 hul) fun r1 hr1=>?_
    have e3:=AS hr1;rw[jb hlt]at e3;refine pS.ite (fun hc=>.some ⟨⟨j+1,by simp,hlt,by simp only;omega,by simp only;omega,?_⟩,by simp;omega⟩) fun hc=>.some ⟨⟨j+1,by simp,hlt,h5,by simp only;omega,?_⟩,by simp;omega⟩
    ·simp only;rw[hc]at e3;constructor
     ·intro h;omega
     ·intro h;have:=h (s.2[j]) (by rw[ht1];exact bM _ (aR.2 rfl));rw[<-e3]at this;cases this
    ·simp only;rw[hc]at e3;rw[h7,ht1];constructor
     ·intro h r hm;rcases aG.1 hm with hm|hm
      ·exact h r hm
      ·rw[aR.1 hm];exact e3.symm
     ·intro h r hm;exact h r (bp _ hm)
   ·obtain rfl:j=s.2.length:=by omega
    rw[cj]at h7;simp only[Int.lt_irrefl,aS,aq,aE,aH,kM (n:=(i:Int)+1) iA iA];refine .some ⟨⟨i+1,by simp,hi,by simp only;omega,by simp only;omega,?_⟩,by simp;omega⟩;simp only;constructor
    ·intro h k hk;by_cases hki:k<i
     ·exact h4.1 iA k hki
     ·obtain rfl:k=i:=by omega
      exact Bv (h7.1 iA)
    ·intro h;have e1:many=0:=h4.2 fun k hk=>h k iA
     have e2:m2=many:=h7.2 fun r hm=>by
      cases hp:(yE s.1 r.1 (iY s.1 t i) kr).isSome with
      |false=>rfl
      |true=>
       have:=If (p:=fun r:gI×gI=>(yE s.1 r.1 (iY s.1 t i) kr).isSome) hm hp;have h0:=h i iA;unfold zI at h0;rw[h0]at this;exact absurd this (by decide)
     omega
  ·obtain rfl:i=t.length:=by omega
   simp only[Int.lt_irrefl,aS,aq,aE,aH];refine .some ?_;simp only[Cn];rw[h4,G1]
 obtain⟨m,e1,e2⟩:=key.get;rw[e1,aa];congr 1;by_cases h:Jm s t=[]
 ·rw[fc h,e2.2 h];rfl
 ·rw[en h];exact bV.2 fun e=>h (e2.1 e)
abbrev RT:=gI×Int
def CU(d:Int):LL->List RT->List RT×Bool
 |[],R=>(R,true)
 |u::us,R=>if u∈R.map (·.1)then CU d us R else if R.length=60 then(R,false)else CU d us (R++[(u,d+1)])
def G5(s:Sys)(steps:Int):Nat->Nat->List RT->List RT×Bool
 |0,_,R=>(R,true)
 |f+1,k,R=>if k<R.length then
  if(R.getD k default).2=steps then G5 s steps f (k+1) R
  else if(CU (R.getD k default).2 ((D0 s (R.getD k default).1).map (·.2.2)) R).2=true then G5 s steps f (k+1) (CU (R.getD k default).2 ((D0 s (R.getD k default).1).map (·.2.2)) R).1
   else CU (R.getD k default).2 ((D0 s (R.getD k default).1).map (·.2.2)) R
  else(R,true)
structure RI(s:Sys)(steps:Int)(R:List RT):Prop where
 len:R.length<=60
 el:∀x∈R,jq s.1 x.1=true/\0<=x.2/\x.2<=steps
theorem Jo{s:Sys}{steps d:Int}(hd:0<=d/\d<steps):∀{us:LL}{R:List RT},(∀u∈us,jq s.1 u=true)->RI s steps R->RI s steps (CU d us R).1
 |[],R,_,h=>h
 |u::us,R,hu,h=>by
  unfold CU;split
  ·exact Jo hd (fun v hv=>hu v (aX _ hv)) h
  ·split
   ·exact h
   ·rename_i hn;refine Jo hd (fun v hv=>hu v (aX _ hv)) ⟨?_,fun x hx=>?_⟩
    ·have:=h.len;simp;omega
    ·rcases aG.1 hx with hx|hx
     ·exact h.el x hx
     ·rw[aR.1 hx];exact⟨hu u bf,by simp;omega,by simp;omega⟩
theorem FT{d:Int}:∀{us:LL}{R:List RT},R.length<=(CU d us R).1.length
 |[],R=>aC _
 |u::us,R=>by
  unfold CU;split
  ·exact FT
  ·split
   ·exact aC _
   ·have:=FT (d:=d) (us:=us) (R:=R++[(u,d+1)]);rw[ak]at this;simp at this;omega
theorem OX{s:Sys}{t:gI}(hs:kC s=true)(ht:jq s.1 t=true):∀u∈(D0 s t).map (·.2.2),jq s.1 u=true:=fun u hu=>by
 obtain⟨x,hx,rfl⟩:=a_.1 hu;exact Jy hs ht x hx
abbrev I6:=gI×Int×Int×Int×gI×Int
def aI(all:List I6):List RT:=all.map fun r=>(r.1,r.2.2.2.2.2)
theorem wB(all:List I6):(aI all).length=all.length:=by simp[aI]
theorem Z6{all:List I6}{k:Nat}(hk:k<all.length):(aI all).getD k default=((all.getD k default).1,(all.getD k default).2.2.2.2.2):=by rw[jb (by rw[wB];exact hk),jb hk];simp[aI]
theorem xW{all:List I6}{t:gI}(hl:all.length<=60)(hs:∀r∈all,Small r.1):ua all t=some (nV (fun r:I6=>r.1==t) all):=by
 unfold ua
 suffices h:jC all t=some (nV (fun r:I6=>r.1==t) all) by rw[h];rfl
 unfold jC;refine AR (fun i x hi hx hg=>?_) (by simp[jO]);simp only[jO,show(i:Int)<all.length by omega,aL,aA,show(0:Int)<=i by omega,bk,ai,hg,kM (n:=(i:Int)+1) iA iA,aH,vP,qi (hs x hx),aa];cases x.1==t<;>rfl
theorem Z7{all:List I6}{t:gI}:(all.any fun r:I6=>r.1==t)=decide (t∈(aI all).map (·.1)):=by
 rw[eW,dR,fT];constructor
 ·rintro⟨x,hx,he⟩;exact a_.2 ⟨(x.1,x.2.2.2.2.2),a_.2 ⟨x,hx,rfl⟩,bC.1 he⟩
 ·intro h;obtain⟨y,hy,he⟩:=a_.1 h;obtain⟨x,hx,rfl⟩:=a_.1 hy;exact⟨x,hx,bC.2 he⟩
theorem GI{s:Sys}{steps d:Int}(h20:steps<=20)(hd:0<=d/\d<steps){L:List zL}(hL:L.length<=720)(hT:∀x∈L,jq s.1 x.2.2=true){b:Bool}{k:Nat}:∀(r:List zL){i:Nat}{all:List I6},
 L.drop i=r->i<=L.length->k<all.length->(all.getD k default).2.2.2.2.2=d->RI s steps (aI all)->
 ∃all',aI all'=(CU d (r.map (·.2.2)) (aI all)).1/\iL (lB (k:Int) (L,b)) (all,(i:Int))=some (if(CU d (r.map (·.2.2)) (aI all)).2=true then .inl (all',(k:Int)+1)else .inr (all',false))
 |[],i,all,he,hi,hk,hq,h=>by
  have hn:L.length<=i:=by simpa using he
  have hl:=h.len;rw[wB]at hl;refine⟨all,rfl,iK ?_⟩;simp only[lB,show ¬(i:Int)<L.length by omega,aS,aq,aE,aH,cJ,CU,aA,kM (n:=(k:Int)+1) iA iA]
 |x::r,i,all,he,hi,hk,hq,h=>by
  obtain⟨h1,h2,h3⟩:=drop_cons he;have hx:jq s.1 x.2.2=true:=by rw[<-h2];exact hT _ (jP h1)
  have hl:=h.len;rw[wB]at hl;have E7:∀r∈all,Small r.1:=fun r hr=>by
   have:=GX (h.el (r.1,r.2.2.2.2.2) (a_.2 ⟨r,hr,rfl⟩)).1;show r.1.length<_;simp only at this;omega
  have hfd:=xW (t:=x.2.2) hl E7;have hany:decide (0<=nV (fun r:I6=>r.1==x.2.2) all)=decide (x.2.2∈(aI all).map (·.1)):=by rw[B0,Z7]
  have base:lB (k:Int) (L,b) (all,(i:Int))=some (if x.2.2∈(aI all).map (·.1)then .inl (all,(i:Int)+1)else if all.length=60 then .inr (.inr (all,false))else .inl (all++[(x.2.2,(k:Int),x.1,x.2.1,x.2.2,d+1)],(i:Int)+1)):=by
   simp only[lB,show(i:Int)<L.length by omega,aL,aA,show(0:Int)<=i by omega,bk,ai,h2,hfd,aa,hany,kM (n:=(i:Int)+1) iA iA,show(0:Int)<=k by omega,show(k:Int)<all.length by omega,hq,kM (n:=d+1) iA iA,show(all.length+1)*80<=140737488355328 by omega];by_cases hm:x.2.2∈(aI all).map (·.1)
   ·simp[hm]
   ·simp only[hm,aS,aq,aE];by_cases h60:all.length=60
    ·rw[ah (by simpa using(by omega:(all.length:Int)=60)),ah h60];rfl
    ·rw[aj (by simpa using(by omega:(all.length:Int)≠60)),aj h60]
  rw[aK];unfold CU;by_cases hm:x.2.2∈(aI all).map (·.1)
  ·rw[ah hm]at base⊢;obtain⟨all',e1,e2⟩:=GI (k:=k) h20 hd hL hT r (i:=i+1) h3 iA hk hq h;exact⟨all',e1,(iZ base).trans e2⟩
  ·rw[aj hm]at base⊢;by_cases h60:all.length=60
   ·rw[ah h60]at base;rw[ah (by rw[wB];exact h60)];exact⟨all,rfl,iK base⟩
   ·rw[aj h60]at base;rw[aj (by rw[wB];exact h60)];have ea:aI (all++[(x.2.2,(k:Int),x.1,x.2.1,x.2.2,d+1)])=aI all++[(x.2.2,d+1)]:=by simp[aI]
    have hn:RI s steps (aI all++[(x.2.2,d+1)]):=⟨by rw[ak,wB];simp;omega,fun y hy=>by
     rcases aG.1 hy with hy|hy
     ·exact h.el y hy
     ·rw[aR.1 hy];exact⟨hx,by simp;omega,by simp;omega⟩⟩
    obtain⟨all',e1,e2⟩:=GI (k:=k) h20 hd hL hT r (i:=i+1) (all:=all++[(x.2.2,(k:Int),x.1,x.2.1,x.2.2,d+1)]) h3 iA (by simp;omega)
     (by rw[List.getD_eq_getElem?_getD,aV hk,<-List.getD_eq_getElem?_getD];exact hq) (by rw[ea];exact hn)
    rw[ea]at e1 e2;exact⟨all',e1,(iZ base).trans e2⟩
theorem GH{s:Sys}{steps:Int}(hs:kC s=true)(h20:0<=steps/\steps<=20):∀(f:Nat){k:Nat}{all:List I6},61<=k+f->k<=all.length->RI s steps (aI all)->
 ∃all',aI all'=(G5 s steps f k (aI all)).1/\iL (kJ s steps) (all,(k:Int))=some (all',(G5 s steps f k (aI all)).2)
 |0,k,all,hf,hk,h=>by
  have:=h.len;rw[wB]at this;omega
 |f+1,k,all,hf,hk,h=>by
  have hl:=h.len;rw[wB]at hl;unfold G5;by_cases hlt:k<all.length
  ·have ge:=Z6 hlt;have hel:=h.el _ (jP (by rw[wB];exact hlt:k<(aI all).length));rw[ah (by rw[wB];exact hlt)];rw[ge]at hel⊢;simp only at hel⊢;by_cases hst:(all.getD k default).2.2.2.2.2=steps
   ·rw[ah hst];obtain⟨all',e1,e2⟩:=GH hs h20 f (k:=k+1) iA iA h;refine⟨all',e1,(iZ ?_).trans e2⟩;simp only[kJ,show(k:Int)<all.length by omega,aL,aA,show(0:Int)<=k by omega,bk,ai,hst,cp,kM (n:=(k:Int)+1) iA iA];rfl
   ·rw[aj hst];obtain⟨all',e1,e2⟩:=GI (s:=s) (b:=lgB s (all.getD k default).1) h20.2 (d:=(all.getD k default).2.2.2.2.2) ⟨hel.2.1,iA⟩ (Jw hs hel.1) (Jy hs hel.1) (k:=k) (D0 s (all.getD k default).1) (i:=0) rfl iA hlt rfl h;have hR:=Jo (s:=s) (steps:=steps) (d:=(all.getD k default).2.2.2.2.2) ⟨hel.2.1,iA⟩ (OX hs hel.1) h;have base:kJ s steps (all,(k:Int))=some (if(CU (all.getD k default).2.2.2.2.2 ((D0 s (all.getD k default).1).map (·.2.2)) (aI all)).2=true then .inl (all',(k:Int)+1)else .inr (all',false)):=by
     have hne:((all.getD k default).2.2.2.2.2==steps)=false:=by simpa using hst
     simp only[kJ,show(k:Int)<all.length by omega,aL,aA,show(0:Int)<=k by omega,bk,ai,hne,aq,aE,yj hs hel.1,aa];exact e2
    cases hb:(CU (all.getD k default).2.2.2.2.2 ((D0 s (all.getD k default).1).map (·.2.2)) (aI all)).2 with
    |true=>
     rw[hb,ah rfl]at base;rw[ah rfl];have hk':k+1<=all'.length:=by
      have a1:=bP List.length e1;rw[wB]at a1;have a2:=FT (d:=(all.getD k default).2.2.2.2.2) (us:=(D0 s (all.getD k default).1).map (·.2.2)) (R:=aI all);rw[wB]at a2;omega
     obtain⟨a2,e3,e4⟩:=GH hs h20 f (k:=k+1) (all:=all') iA hk' (by rw[e1];exact hR);rw[e1]at e3 e4;exact⟨a2,e3,(iZ base).trans e4⟩
    |false=>
     rw[hb,aj (by simp)]at base;rw[aj (by simp)];exact⟨all',e1,by rw[hb];exact iK base⟩
  ·rw[aj (by rw[wB];exact hlt)];refine⟨all,rfl,iK ?_⟩;simp only[kJ,show ¬(k:Int)<all.length by omega,aS,aq,aE,aH]
theorem Nw{l:LL}{t:gI}:(l.any fun x=>x==t)=decide (t∈l):=by
 rw[eW,dR,fT];exact⟨fun⟨x,hx,he⟩=>by rw[<-bC.1 he];exact hx,fun h=>⟨t,h,bC.2 rfl⟩⟩
theorem wH{α β:Type}[Inhabited α][Inhabited β]{xs:List α}{g:α->β}{i:Nat}(h:i<xs.length):(xs.map g).getD i default=g (xs.getD i default):=by rw[jb (by simpa using h),jb h,eN]
theorem Hi{s:Sys}{steps d:Int}(h20:steps<=20)(hd:0<=d/\d<steps){L:List zL}(hL:L.length<=720)(hT:∀x∈L,jq s.1 x.2.2=true){i:Nat}:∀(r:List zL){k:Nat}{R:List RT}{f5:gI}{f6:List zL},
 L.drop k=r->k<=L.length->i<R.length->(R.getD i default).2=d->f5.length=R.length->f6.length=R.length->RI s steps R->
 ∃f5' f6',f5'.length=(CU d (r.map (·.2.2)) R).1.length/\f6'.length=(CU d (r.map (·.2.2)) R).1.length/\
  iL (kW (i:Int) L) ((k:Int),R.map (·.1),f5,f6,R.map (·.2))=some (if(CU d (r.map (·.2.2)) R).2=true then .inl ((i:Int)+1,(CU d (r.map (·.2.2)) R).1.map (·.1),f5',f6',(CU d (r.map (·.2.2)) R).1.map (·.2))else .inr ((CU d (r.map (·.2.2)) R).1.map (·.1),f5',f6',(CU d (r.map (·.2.2)) R).1.map (·.2),false))
 |[],k,R,f5,f6,he,hk,hi,hq,h5,h6,h=>by
  have hn:L.length<=k:=by simpa using he
  have hl:=h.len;refine⟨f5,f6,h5,h6,iK ?_⟩;simp only[kW,show ¬(k:Int)<L.length by omega,aS,aq,aE,aH,cJ,CU,aA,kM (n:=(i:Int)+1) iA iA]
 |x::r,k,R,f5,f6,he,hk,hi,hq,h5,h6,h=>by
  obtain⟨h1,h2,h3⟩:=drop_cons he;have hx:jq s.1 x.2.2=true:=by rw[<-h2];exact hT _ (jP h1)
  have hl:=h.len;have E7:∀t∈R.map (·.1),Small t:=fun t ht=>by
   obtain⟨y,hy,rfl⟩:=a_.1 ht;have:=GX (h.el y hy).1;show y.1.length<_;omega
  have hfd:=sX (l:=R.map (·.1)) (by simp;omega) E7 x.2.2;have hany:decide (0<=nV (fun y=>y==x.2.2) (R.map (·.1)))=decide (x.2.2∈R.map (·.1)):=by rw[B0,Nw]
  have hgd:(R.map (·.2)).getD i default=d:=by rw[wH hi];exact hq
  have base:kW (i:Int) L ((k:Int),R.map (·.1),f5,f6,R.map (·.2))=some (if x.2.2∈R.map (·.1)then .inl ((k:Int)+1,R.map (·.1),f5,f6,R.map (·.2))else if R.length=60 then .inr (.inr (R.map (·.1),f5,f6,R.map (·.2),false))else .inl ((k:Int)+1,(R++[(x.2.2,d+1)]).map (·.1),f5++[(i:Int)],f6++[(x.1,x.2.1,x.2.2)],(R++[(x.2.2,d+1)]).map (·.2))):=by
   simp only[kW,show(k:Int)<L.length by omega,aL,aA,show(0:Int)<=k by omega,bk,ai,h2,hfd,aa,hany,kM (n:=(k:Int)+1) iA iA,show(0:Int)<=i by omega,aJ,show(i:Int)<R.length by omega,hgd,kM (n:=d+1) iA iA,show(R.length+1)*24<=140737488355328 by omega,show(R.length+1)*8<=140737488355328 by omega,show(f5.length+1)*8<=140737488355328 by omega,show(f6.length+1)*40<=140737488355328 by omega];by_cases hm:x.2.2∈R.map (·.1)
   ·simp[hm]
   ·simp only[hm,aS,aq,aE];by_cases h60:R.length=60
    ·rw[ah (by simpa using(by omega:(R.length:Int)=60)),ah h60];rfl
    ·rw[aj (by simpa using(by omega:(R.length:Int)≠60)),aj h60];simp
  rw[aK];unfold CU;by_cases hm:x.2.2∈R.map (·.1)
  ·rw[ah hm]at base⊢;obtain⟨a5,a6,e1,e2,e3⟩:=Hi (i:=i) h20 hd hL hT r (k:=k+1) h3 iA hi hq h5 h6 h;exact⟨a5,a6,e1,e2,(iZ base).trans e3⟩
  ·rw[aj hm]at base⊢;by_cases h60:R.length=60
   ·rw[ah h60]at base⊢;exact⟨f5,f6,h5,h6,iK base⟩
   ·rw[aj h60]at base⊢;have hn:RI s steps (R++[(x.2.2,d+1)]):=⟨by rw[ak];simp;omega,fun y hy=>by
     rcases aG.1 hy with hy|hy
     ·exact h.el y hy
     ·rw[aR.1 hy];exact⟨hx,by simp;omega,by simp;omega⟩⟩
    obtain⟨a5,a6,e1,e2,e3⟩:=Hi (i:=i) h20 hd hL hT r (k:=k+1) (R:=R++[(x.2.2,d+1)]) (f5:=f5++[(i:Int)]) (f6:=f6++[(x.1,x.2.1,x.2.2)]) h3 iA (by simp;omega)
     (by rw[List.getD_eq_getElem?_getD,aV hi,<-List.getD_eq_getElem?_getD];exact hq) (by simp;omega) (by simp;omega) hn
    exact⟨a5,a6,e1,e2,(iZ base).trans e3⟩
theorem DZ{s:Sys}{steps:Int}(hs:kC s=true)(h20:0<=steps/\steps<=20):∀(f:Nat){k:Nat}{R:List RT}{f5:gI}{f6:List zL},61<=k+f->k<=R.length->f5.length=R.length->f6.length=R.length->RI s steps R->
 ∃f5' f6',iL (ke s steps) ((k:Int),R.map (·.1),f5,f6,R.map (·.2))=some ((G5 s steps f k R).1.map (·.1),f5',f6',(G5 s steps f k R).1.map (·.2),(G5 s steps f k R).2)/\RI s steps (G5 s steps f k R).1
 |0,k,R,f5,f6,hf,hk,h5,h6,h=>by
  have:=h.len;omega
 |f+1,k,R,f5,f6,hf,hk,h5,h6,h=>by
  have hl:=h.len;unfold G5;by_cases hlt:k<R.length
  ·have hel:=h.el _ (jP hlt);have ge1:=wH (g:=fun x:RT=>x.1) hlt;have ge2:=wH (g:=fun x:RT=>x.2) hlt;rw[ah hlt];by_cases hst:(R.getD k default).2=steps
   ·rw[ah hst];obtain⟨a5,a6,e1,e2⟩:=DZ hs h20 f (k:=k+1) iA iA h5 h6 h;refine⟨a5,a6,(iZ ?_).trans e1,e2⟩;simp only[ke,aJ,show(k:Int)<R.length by omega,aL,aA,show(0:Int)<=k by omega,bk,ai,ge2,hst,cp,kM (n:=(k:Int)+1) iA iA];rfl
   ·rw[aj hst];obtain⟨a5,a6,l5,l6,e2⟩:=Hi (s:=s) h20.2 (d:=(R.getD k default).2) ⟨hel.2.1,iA⟩ (Jw hs hel.1) (Jy hs hel.1) (i:=k) (D0 s (R.getD k default).1) (k:=0) rfl iA hlt rfl h5 h6 h;have hR:=Jo (s:=s) (steps:=steps) (d:=(R.getD k default).2) ⟨hel.2.1,iA⟩ (OX hs hel.1) h;have hlen:=FT (d:=(R.getD k default).2) (us:=(D0 s (R.getD k default).1).map (·.2.2)) (R:=R);have base:ke s steps ((k:Int),R.map (·.1),f5,f6,R.map (·.2))=some (if(CU (R.getD k default).2 ((D0 s (R.getD k default).1).map (·.2.2)) R).2=true then .inl ((k:Int)+1,(CU (R.getD k default).2 ((D0 s (R.getD k default).1).map (·.2.2)) R).1.map (·.1),a5,a6,(CU (R.getD k default).2 ((D0 s (R.getD k default).1).map (·.2.2)) R).1.map (·.2))else .inr ((CU (R.getD k default).2 ((D0 s (R.getD k default).1).map (·.2.2)) R).1.map (·.1),a5,a6,(CU (R.getD k default).2 ((D0 s (R.getD k default).1).map (·.2.2)) R).1.map (·.2),false)):=by
     have hne:((R.getD k default).2==steps)=false:=by simpa using hst
     simp only[ke,aJ,show(k:Int)<R.length by omega,aL,aA,show(0:Int)<=k by omega,bk,ai,ge1,ge2,hne,aq,aE,zx hs hel.1,aa];exact e2
    cases hb:(CU (R.getD k default).2 ((D0 s (R.getD k default).1).map (·.2.2)) R).2 with
    |true=>
     rw[hb,ah rfl]at base;rw[ah rfl];obtain⟨b5,b6,e3,e4⟩:=DZ hs h20 f (k:=k+1) (R:=(CU (R.getD k default).2 ((D0 s (R.getD k default).1).map (·.2.2)) R).1) (f5:=a5) (f6:=a6) iA iA l5 l6 hR;exact⟨b5,b6,(iZ base).trans e3,e4⟩
    |false=>
     rw[hb,aj (by simp)]at base;rw[aj (by simp)];exact⟨a5,a6,by rw[hb];exact iK base,hR⟩
  ·rw[aj hlt];refine⟨f5,f6,iK ?_,h⟩;simp only[ke,aJ,show ¬(k:Int)<R.length by omega,aS,aq,aE,aH]
def Jp(s:Sys)(t:gI)(steps:Int):List RT×Bool:=G5 s steps 61 0 [(t,0)]
theorem ri0{s:Sys}{t:gI}{steps:Int}(ht:jq s.1 t=true)(h:0<=steps):RI s steps [(t,0)]:=⟨by simp,fun x hx=>by
 rw[aR.1 hx];exact⟨ht,by simp,h⟩⟩
theorem C_(s:Sys)(steps:Int)(t:gI):nQ s steps [t]=some (tT s t steps):=by
 unfold nQ tT;rw[vj,aa];cases hs:kC s with
 |false=>simp
 |true=>
  simp only[aA,cq];by_cases h1:steps<0
  ·rw[ah (by simpa using h1)];have:¬(0<=steps/\steps<=20):=by omega
   simp[this]
  ·rw[aj (by simpa using h1)];by_cases h2:20<steps
   ·rw[ah (by simpa using h2)];have:¬(0<=steps/\steps<=20):=by omega
    simp[this]
   ·rw[aj (by simpa using h2)];have h3:0<=steps/\steps<=20:=by omega
    have e1:jX s [t] 1=some (.inr true):=by simp[jX]
    have e0:jX s [t] 0=some (if jq s.1 t=true then .inl 1 else .inr false):=by
     simp only[jX,aU,show(0:Int)<((1:Nat):Int) by decide,aL,aA,ey,bk];rw[show [t].getD (0:Int).toNat default=t from rfl,oI,aa,kM (n:=0+1) (by decide) (by decide)];cases jq s.1 t<;>rfl
    cases ht:jq s.1 t with
    |true=>
     rw[ht,ah rfl]at e0;rw[iZ e0,iK e1];simp[h3]
    |false=>
     rw[ht,aj (by simp)]at e0;rw[iK e0];simp
theorem wo(s:Sys)(t:gI)(steps:Int):pI s t steps=some (tT s t steps):=by
 unfold pI mM tT;rw[rZ,aa];cases hs:kC s with
 |false=>simp
 |true=>
  simp only[aA,oN,aa,cq];cases jq s.1 t with
  |false=>simp
  |true=>simp[jT]
theorem A9{l:LL}(hl:l.length<=60)(hs:∀t∈l,Small t):pH l=some l:=by
 unfold pH;have A:=nc (n:=l.length) (fun i=>(l.take i,(i:Int))) (c:=l) (f:=ng l) (fun i hi=>by
  rw[bB hi];simp only[ng,show(i:Int)<l.length by omega,aL,aA,show(0:Int)<=i by omega,bk,ai,jb hi,jI (hs _ (bw hi)),aa,kM (n:=(i:Int)+1) iA iA];rw[ah (by simp only[bF];omega)];rfl) (by
  rw[cj];simp only[ng,show ¬(l.length:Int)<l.length by omega,aS,aq,aE,aH])
 simpa using A
theorem MW{s:Sys}{t:gI}{steps:Int}(h:tT s t steps=true):RI s steps (Jp s t steps).1:=by
 obtain⟨h1,h2,h3⟩:=xp.1 h;obtain⟨_,_,_,hR⟩:=DZ h1 h3 61 (k:=0) (R:=[(t,0)]) (f5:=[0]) (f6:=[(0,0,[])]) iA iA rfl rfl (ri0 (s:=s) h2 h3.1);exact hR
theorem MX{s:Sys}{t:gI}{steps:Int}(h:tT s t steps=true):((Jp s t steps).1.map (·.1)).length<=60/\∀u∈(Jp s t steps).1.map (·.1),u.length<=60:=by
 have hR:=MW h;refine⟨by rw[aJ];exact hR.len,fun u hu=>?_⟩;obtain⟨y,hy,rfl⟩:=a_.1 hu;exact GX (hR.el y hy).1
def Qn(s:Sys)(t:gI):Bool:=decide (Jm s t=[])
theorem Ed{s:Sys}{t:gI}(hs:kC s=true)(ht:jq s.1 t=true):uM s t=some (Qn s t):=by
 obtain⟨_,t1,t2,t3⟩:=ja.1 ht;unfold uM;refine(pS.loop (t:=True) (fun i:Int=>∃k:Nat,i=k/\k<=t.length/\∀j,j<k->zI s (iY s.1 t j)= -1) (fun i:Int=>t.length-i.toNat) ⟨0,rfl,iA,by simp⟩ ?_).eq;rintro _ ⟨i,rfl,hi,hj⟩;rw[xj];by_cases hlt:i<t.length
 ·have hw:IntKind.i64.wrap ((i:Int)+1)=((i+1:Nat):Int):=by rw[kM iA iA];rfl
  rw[ah (by simp only[au];omega),ah iA,ai,jb hlt,hw];have next:zI s (iY s.1 t i)= -1->pS True (some (.inl ((i+1:Nat):Int))) (Cn (fun i:Int=>∃k:Nat,i=k/\k<=t.length/\∀j,j<k->zI s (iY s.1 t j)= -1) (fun i:Int=>t.length-i.toNat) (·=Qn s t) (t.length-((i:Int)).toNat)):=fun h=>
   .some ⟨⟨i+1,rfl,iA,fun j hj'=>by
    by_cases c:j<i
    ·exact hj j c
    ·have:j=i:=by omega
     subst this;exact h⟩,by
    show t.length-(((i+1:Nat):Int)).toNat<t.length-((i:Int)).toNat;omega⟩
  by_cases h0:0<=t[i]
  ·rw[ah (by simpa using h0),Ee hs ht hlt,aa];by_cases h1:0<=zI s (iY s.1 t i)
   ·rw[ah (by simpa using h1)];refine .some ?_;show false=Qn s t;unfold Qn;rw[eq_comm,cm,G1];intro h;have:=h i hlt;omega
   ·rw[aj (by simpa using h1)];have:=(Es (p:=fun r:gI×gI=>(yE s.1 r.1 (iY s.1 t i) kr).isSome) (xs:=s.2)).1;refine next ?_;have e:zI s (iY s.1 t i)=nV (fun r:gI×gI=>(yE s.1 r.1 (iY s.1 t i) kr).isSome) s.2:=rfl;omega
  ·rw[aj (by simpa using h0)];obtain⟨q,_,_,_,u,e⟩:=Ga ht hlt;exact next (by rw[e];exact Qw hs iA)
 ·rw[aj (by simp only[au];omega)];refine .some ?_;show true=Qn s t;unfold Qn;rw[eq_comm,au,G1];exact fun j hj'=>hj j iA
theorem Ie{α:Type}{p:α->Bool}{L:List α}{i:Nat}(hi:i<L.length):(L.take (i+1)).filter p=(L.take i).filter p++(if p L[i]=true then [L[i]]else []):=by
 rw[bB hi,fX];by_cases h:p L[i]=true<;>simp[h]
def Bb(s:Sys)(t:gI)(steps:Int):LL:=if tT s t steps=true then((Jp s t steps).1.map (·.1)).filter (Qn s)else []
theorem FN(s:Sys)(t:gI)(steps:Int):(Bb s t steps).length<=60:=by
 unfold Bb;split
 ·rename_i h;exact cB (fG _ _) (MX h).1
 ·simp
theorem Tx{s:Sys}{t:gI}{steps:Int}{u:gI}(h:u∈Bb s t steps):u.length<=60:=by
 unfold Bb at h;split at h
 ·rename_i hr;exact(MX hr).2 u (dI.1 h).1
 ·cases h
theorem yg(s:Sys)(t:gI)(steps:Int):oH s t steps=some (Bb s t steps):=by
 unfold oH Bb;rw[C_,aa];cases hr:tT s t steps with
 |false=>simp
 |true=>
  obtain⟨h1,h2,h3⟩:=xp.1 hr;have E7:=GX h2;have ri:=ri0 (s:=s) h2 h3.1;obtain⟨all,e1,e2⟩:=GH h1 h3 61 (k:=0) (all:=[(t, -1,0,0,[],0)]) iA iA ri;rw[show aI [(t, -1,0,0,[],0)]=[(t,0)]from rfl]at e1 e2;have el:qe s t steps=some (all,(Jp s t steps).2):=by
   unfold qe;rw[mK (l:=t) (by show t.length<_;omega),aa];exact e2
  rw[ah rfl,ah rfl,el,aa];have hR:=MW hr;have hlen:all.length<=60:=by
   have a1:=bP List.length e1;rw[wB]at a1;have:=hR.len;unfold Jp at this;omega
  have hm:all.map (·.1)=(Jp s t steps).1.map (·.1):=by unfold Jp;rw[<-e1];unfold aI;rw[eF];rfl
  rw[<-hm];have hml:(all.map (·.1)).length=all.length:=by simp
  refine nc (n:=all.length) (fun i:Nat=>(((all.map (·.1)).take i).filter (Qn s),(i:Int))) (fun i hi=>?_) ?_
  ·have hi':i<(all.map (·.1)).length:=by omega
   have hterm:jq s.1 (all[i]).1=true:=by
    have hx:(all[i]).1∈(Jp s t steps).1.map (·.1):=by rw[<-hm];exact a_.2 ⟨_,bw hi,rfl⟩
    obtain⟨y,hy,e⟩:=a_.1 hx;rw[<-e];exact(hR.el y hy).1
   have hw:IntKind.i64.wrap ((i:Int)+1)=((i+1:Nat):Int):=by rw[kM iA iA];rfl
   have hfl:(((all.map (·.1)).take i).filter (Qn s)).length<=60:=cB (fG _ _) (by rw[bF];simp only[aJ]at *;omega);rw[Ie hi',eN,qK,ah (by simp only[au];omega),ah (by simp only;omega),ai];simp only;rw[jb hi,Ed h1 hterm,aa,hw];by_cases c:Qn s (all[i]).1=true
   ·rw[ah c,ah iA,ah c]
   ·rw[aj c,aj c,aT]
  ·rw[qK,aj (by simp),bI iA];rfl
theorem ym(s:Sys)(t:gI)(steps:Int):oM s t steps=some (Bb s t steps):=by
 unfold oM Bb;rw[wo,aa];cases hr:tT s t steps with
 |false=>simp
 |true=>
  obtain⟨h1,h2,h3⟩:=xp.1 hr;have E7:=GX h2;obtain⟨a5,a6,e1,_⟩:=DZ h1 h3 61 (k:=0) (R:=[(t,0)]) (f5:=[-1]) (f6:=[(0,0,[])]) iA iA rfl rfl (ri0 (s:=s) h2 h3.1);have el:oF s t steps=some ((Jp s t steps).1.map (·.1),a5,a6,(Jp s t steps).1.map (·.2),(Jp s t steps).2):=by
   unfold oF;rw[jI (l:=t) (by show t.length<_;omega),aa];exact e1
  obtain⟨q1,q2⟩:=MX hr;have hR:=MW hr;rw[ah rfl,ah rfl,el,aa];refine nc (n:=((Jp s t steps).1.map (·.1)).length) (fun i:Nat=>((((Jp s t steps).1.map (·.1)).take i).filter (Qn s),(i:Int))) (fun i hi=>?_) ?_
  ·have hterm:jq s.1 ((Jp s t steps).1.map (·.1))[i]=true:=by
    obtain⟨y,hy,e⟩:=a_.1 (bw hi);rw[<-e];exact(hR.el y hy).1
   have hw:IntKind.i64.wrap ((i:Int)+1)=((i+1:Nat):Int):=by rw[kM iA iA];rfl
   have hfl:((((Jp s t steps).1.map (·.1)).take i).filter (Qn s)).length<=60:=cB (fG _ _) (by rw[bF];simp only[aJ]at *;omega);rw[Ie hi,qQ,ah (by simp only[au];omega),ah (by simp only;omega),ai];simp only;rw[jb hi,CF h1 hterm,aa,hw];by_cases c:Qn s ((Jp s t steps).1.map (·.1))[i]=true
   ·have c':decide (Jm s ((Jp s t steps).1.map (·.1))[i]=[])=true:=c;rw[ah c',ah iA,jI (by have:=q2 _ (bw hi);show List.length _<_;omega),aa,ah iA,ah c]
   ·have c':¬decide (Jm s ((Jp s t steps).1.map (·.1))[i]=[])=true:=c;rw[aj c',aj c,aT]
  ·rw[qQ,aj (by simp),cj];rfl
def zM(A:List I6)(j:Nat):I6:=A.getD j default
structure Rec(s:Sys)(steps:Int)(A:List I6)(j:Nat)(x:I6):Prop where
 tm:jq s.1 x.1=true
 ds:0<=x.2.2.2.2.2/\x.2.2.2.2.2<=steps
 root:j=0->x.2.1= -1
 up:0<j->∃p:Nat,x.2.1=(p:Int)/\p<j/\mq s (zM A p).1 x.2.2.1 x.2.2.2.1=some x.1/\x.2.2.2.2.1=x.1
structure R6(s:Sys)(steps:Int)(A:List I6):Prop where
 pos:0<A.length
 len:A.length<=60
 el:∀j,j<A.length->Rec s steps A j (zM A j)
theorem B1{A B:List I6}{j:Nat}(h:j<A.length):zM (A++B) j=zM A j:=by unfold zM;rw[List.getD_eq_getElem?_getD,aV h,<-List.getD_eq_getElem?_getD]
theorem R6.push{s:Sys}{steps:Int}{A:List I6}(h:R6 s steps A)(hl:A.length<60){x:I6}(ht:jq s.1 x.1=true)(hd:0<=x.2.2.2.2.2/\x.2.2.2.2.2<=steps){p:Nat}(hp:p<A.length)(e:x.2.1=(p:Int))(hs:mq s (zM A p).1 x.2.2.1 x.2.2.2.1=some x.1)(ho:x.2.2.2.2.1=x.1):R6 s steps (A++[x]):=by
 have hpos:=h.pos;refine⟨by simp,by rw[ak,aU];omega,fun j hj=>?_⟩;rw[ak,aU]at hj;by_cases c:j<A.length
 ·rw[B1 c];obtain⟨k1,k2,k3,k4⟩:=h.el j c;refine⟨k1,k2,k3,fun h0=>?_⟩;obtain⟨q,q1,q2,q3,q4⟩:=k4 h0;exact⟨q,q1,q2,by rw[B1 iA];exact q3,q4⟩
 ·have hj':j=A.length:=by omega
  subst hj';have e2:zM (A++[x]) A.length=x:=by unfold zM;rw[List.getD_eq_getElem?_getD,bJ (aC _)];simp
  rw[e2];exact⟨ht,hd,fun c=>by omega,fun _=>⟨p,e,hp,by rw[B1 hp];exact hs,ho⟩⟩
abbrev m1(A:List I6):LL:=A.map fun x=>x.1
abbrev m2(A:List I6):gI:=A.map fun x=>x.2.1
abbrev m3(A:List I6):List zL:=A.map fun x=>(x.2.2.1,x.2.2.2.1,x.2.2.2.2.1)
abbrev m4(A:List I6):gI:=A.map fun x=>x.2.2.2.2.2
theorem R6.sm{s:Sys}{steps:Int}{A:List I6}(h:R6 s steps A):∀r∈A,r.1.length<=60:=fun r hr=>by
 obtain⟨j,hj,e⟩:=fL hr;have:=(h.el j hj).tm;unfold zM at this;rw[jb hj,e]at this;exact(ja.1 this).2.2.1
theorem Z_{A:List I6}{t:gI}:(A.any fun r:I6=>r.1==t)=decide (t∈m1 A):=by
 rw[eW,dR,fT];exact⟨fun⟨x,hx,he⟩=>a_.2 ⟨x,hx,bC.1 he⟩,fun h=>by
  obtain⟨x,hx,e⟩:=a_.1 h;exact⟨x,hx,bC.2 e⟩⟩
theorem Vu{s:Sys}{steps d:Int}(h20:steps<=20)(hd:0<=d/\d<steps){L:List zL}(hL:L.length<=720){b0:Bool}{k:Nat}{t:gI}(hT:∀x∈L,jq s.1 x.2.2=true/\mq s t x.1 x.2.1=some x.2.2):∀(r:List zL){i:Nat}{A:List I6},
 L.drop i=r->k<A.length->(zM A k).2.2.2.2.2=d->(zM A k).1=t->R6 s steps A->
 ∃A' b,R6 s steps A'/\k<A'.length/\A.length<=A'.length/\zM A' 0=zM A 0/\
  iL (lB (k:Int) (L,b0)) (A,(i:Int))=some (if b=true then .inl (A',(k:Int)+1)else .inr (A',false))/\
  iL (kW (k:Int) L) ((i:Int),m1 A,m2 A,m3 A,m4 A)=some (if b=true then .inl ((k:Int)+1,m1 A',m2 A',m3 A',m4 A')else .inr (m1 A',m2 A',m3 A',m4 A',false)):=by
 intro r;induction r with
 |nil=>
  intro i A he hk hq ht h;have hn:L.length<=i:=by simpa using he
  have hl:=h.len;refine⟨A,true,h,hk,aC _,rfl,iK ?_,iK ?_⟩
  ·simp only[lB,show ¬(i:Int)<L.length by omega,aS,aq,aE,aH,aA,kM (n:=(k:Int)+1) iA iA]
  ·simp only[kW,show ¬(i:Int)<L.length by omega,aS,aq,aE,aH,aA,kM (n:=(k:Int)+1) iA iA]
 |cons x r ih=>
  intro i A he hk hq ht h;obtain⟨h1,h2,h3⟩:=drop_cons he;obtain⟨hx,hxs⟩:=hT x (by rw[<-h2];exact jP h1);have hl:=h.len;have hsm0:=h.sm;have E7:∀r∈A,Small r.1:=fun r hr=>by have:=hsm0 r hr;show r.1.length<_;omega
  have hsm1:∀t∈m1 A,Small t:=fun t ht=>by
   obtain⟨y,hy,rfl⟩:=a_.1 ht;exact E7 y hy
  have hfd:=xW (t:=x.2.2) hl E7;have hfs:=sX (l:=m1 A) (by simp;omega) hsm1 x.2.2;have ha1:decide (0<=nV (fun r:I6=>r.1==x.2.2) A)=decide (x.2.2∈m1 A):=by rw[B0,Z_]
  have ha2:decide (0<=nV (fun y=>y==x.2.2) (m1 A))=decide (x.2.2∈m1 A):=by rw[B0,Nw]
  have hq':(A.getD k default).2.2.2.2.2=d:=hq;have hgd:(m4 A).getD k default=d:=by rw[wH hk];exact hq
  have b1:lB (k:Int) (L,b0) (A,(i:Int))=some (if x.2.2∈m1 A then .inl (A,(i:Int)+1)else if A.length=60 then .inr (.inr (A,false))else .inl (A++[(x.2.2,(k:Int),x.1,x.2.1,x.2.2,d+1)],(i:Int)+1)):=by
   simp only[lB,show(i:Int)<L.length by omega,aL,aA,show(0:Int)<=i by omega,bk,ai,h2,hfd,aa,ha1,kM (n:=(i:Int)+1) iA iA,show(0:Int)<=k by omega,show(k:Int)<A.length by omega,hq',kM (n:=d+1) iA iA,show(A.length+1)*80<=140737488355328 by omega];by_cases hm:x.2.2∈m1 A
   ·simp[hm]
   ·simp only[hm,aS,aq,aE];by_cases h60:A.length=60
    ·rw[ah (by simpa using(by omega:(A.length:Int)=60)),ah h60];rfl
    ·rw[aj (by simpa using(by omega:(A.length:Int)≠60)),aj h60]
  have b2:kW (k:Int) L ((i:Int),m1 A,m2 A,m3 A,m4 A)=some (if x.2.2∈m1 A then .inl ((i:Int)+1,m1 A,m2 A,m3 A,m4 A)else if A.length=60 then .inr (.inr (m1 A,m2 A,m3 A,m4 A,false))else .inl ((i:Int)+1,m1 A++[x.2.2],m2 A++[(k:Int)],m3 A++[(x.1,x.2.1,x.2.2)],m4 A++[d+1])):=by
   simp only[kW,show(i:Int)<L.length by omega,aL,aA,show(0:Int)<=i by omega,bk,ai,h2,hfs,aa,ha2,kM (n:=(i:Int)+1) iA iA,show(0:Int)<=k by omega,aJ,show(k:Int)<A.length by omega,hgd,kM (n:=d+1) iA iA,show(A.length+1)*24<=140737488355328 by omega,show(A.length+1)*8<=140737488355328 by omega,show(A.length+1)*40<=140737488355328 by omega];by_cases hm:x.2.2∈m1 A
   ·simp[hm]
   ·simp only[hm,aS,aq,aE];by_cases h60:A.length=60
    ·rw[ah (by simpa using(by omega:(A.length:Int)=60)),ah h60];rfl
    ·rw[aj (by simpa using(by omega:(A.length:Int)≠60)),aj h60]
  by_cases hm:x.2.2∈m1 A
  ·rw[ah hm]at b1 b2;obtain⟨A',b,q1,q2,q3,q4,q5,q6⟩:=ih (i:=i+1) h3 hk hq ht h;exact⟨A',b,q1,q2,q3,q4,(iZ b1).trans q5,(iZ b2).trans q6⟩
  ·rw[aj hm]at b1 b2;by_cases h60:A.length=60
   ·rw[ah h60]at b1 b2;exact⟨A,false,h,hk,aC _,rfl,iK b1,iK b2⟩
   ·rw[aj h60]at b1 b2;have hn:=h.push iA (x:=(x.2.2,(k:Int),x.1,x.2.1,x.2.2,d+1)) hx ⟨by simp;omega,by simp;omega⟩ hk rfl (by rw[ht];exact hxs) rfl;obtain⟨A',b,q1,q2,q3,q4,q5,q6⟩:=ih (i:=i+1) (A:=A++[(x.2.2,(k:Int),x.1,x.2.1,x.2.2,d+1)]) h3 (by simp;omega) (by rw[B1 hk];exact hq) (by rw[B1 hk];exact ht) hn;rw[ak,aU]at q3;refine⟨A',b,q1,q2,iA,by rw[q4,B1 h.pos],(iZ b1).trans q5,(iZ b2).trans ?_⟩;have e:(m1 A++[x.2.2],m2 A++[(k:Int)],m3 A++[(x.1,x.2.1,x.2.2)],m4 A++[d+1])=(m1 (A++[(x.2.2,(k:Int),x.1,x.2.1,x.2.2,d+1)]),m2 (A++[(x.2.2,(k:Int),x.1,x.2.1,x.2.2,d+1)]),m3 (A++[(x.2.2,(k:Int),x.1,x.2.1,x.2.2,d+1)]),m4 (A++[(x.2.2,(k:Int),x.1,x.2.1,x.2.2,d+1)])):=by simp
    rw[e];exact q6
theorem Ug{s:Sys}{t:gI}(hs:kC s=true)(ht:jq s.1 t=true):∀x∈D0 s t,jq s.1 x.2.2=true/\mq s t x.1 x.2.1=some x.2.2:=fun x hx=>by
 refine⟨Jy hs ht x hx,?_⟩;obtain⟨i,hi,hx⟩:=eM.1 hx;obtain⟨j,hj,e⟩:=List.mem_filterMap.1 hx;obtain⟨u,hu,rfl⟩:=aB.1 e;have hi':=cT.1 hi;have hj':=cT.1 hj;simp only;unfold mq;simp only[hs,ht,ai];simp[hu,hi',hj']
theorem IT{s:Sys}{steps:Int}(hs:kC s=true)(h20:0<=steps/\steps<=20):∀(f:Nat){k:Nat}{A:List I6},61<=k+f->k<=A.length->R6 s steps A->
 ∃A' b,R6 s steps A'/\zM A' 0=zM A 0/\iL (kJ s steps) (A,(k:Int))=some (A',b)/\iL (ke s steps) ((k:Int),m1 A,m2 A,m3 A,m4 A)=some (m1 A',m2 A',m3 A',m4 A',b)
 |0,k,A,hf,hk,h=>by
  have:=h.len;omega
 |f+1,k,A,hf,hk,h=>by
  have hl:=h.len;by_cases hlt:k<A.length
  ·have hrec:=h.el k hlt;have ge1:(m1 A).getD k default=(A.getD k default).1:=wH (g:=fun x:I6=>x.1) hlt;have ge4:(m4 A).getD k default=(A.getD k default).2.2.2.2.2:=wH (g:=fun x:I6=>x.2.2.2.2.2) hlt;have htm:jq s.1 (A.getD k default).1=true:=hrec.tm;have hds:0<=(A.getD k default).2.2.2.2.2/\(A.getD k default).2.2.2.2.2<=steps:=hrec.ds;by_cases hst:(A.getD k default).2.2.2.2.2=steps
   ·obtain⟨A',b,q1,q2,q3,q4⟩:=IT hs h20 f (k:=k+1) iA iA h;refine⟨A',b,q1,q2,(iZ ?_).trans q3,(iZ ?_).trans q4⟩
    ·simp only[kJ,show(k:Int)<A.length by omega,aL,aA,show(0:Int)<=k by omega,bk,ai,hst,cp,kM (n:=(k:Int)+1) iA iA];rfl
    ·simp only[ke,aJ,show(k:Int)<A.length by omega,aL,aA,show(0:Int)<=k by omega,bk,ai,ge4,hst,cp,kM (n:=(k:Int)+1) iA iA];rfl
   ·have hne:((A.getD k default).2.2.2.2.2==steps)=false:=by simpa using hst
    obtain⟨A1,b,q1,q2,q3,q4,q5,q6⟩:=Vu (s:=s) (b0:=lgB s (A.getD k default).1) h20.2 (d:=(A.getD k default).2.2.2.2.2) ⟨hds.1,iA⟩ (Jw hs htm) (Ug hs htm) (D0 s (A.getD k default).1) (i:=0) rfl hlt rfl rfl h;have c1:kJ s steps (A,(k:Int))=some (if b=true then .inl (A1,(k:Int)+1)else .inr (A1,false)):=by
     simp only[kJ,show(k:Int)<A.length by omega,aL,aA,show(0:Int)<=k by omega,bk,ai,hne,aq,aE,yj hs htm,aa];exact q5
    have c2:ke s steps ((k:Int),m1 A,m2 A,m3 A,m4 A)=some (if b=true then .inl ((k:Int)+1,m1 A1,m2 A1,m3 A1,m4 A1)else .inr (m1 A1,m2 A1,m3 A1,m4 A1,false)):=by
     simp only[ke,aJ,show(k:Int)<A.length by omega,aL,aA,show(0:Int)<=k by omega,bk,ai,ge1,ge4,hne,aq,aE,zx hs htm,aa];exact q6
    cases b with
    |true=>
     obtain⟨A',b',r1,r2,r3,r4⟩:=IT hs h20 f (k:=k+1) (A:=A1) iA iA q1;exact⟨A',b',r1,by rw[r2,q4],(iZ c1).trans r3,(iZ c2).trans r4⟩
    |false=>exact⟨A1,false,q1,q4,iK c1,iK c2⟩
  ·refine⟨A,true,h,rfl,iK ?_,iK ?_⟩
   ·simp only[kJ,show ¬(k:Int)<A.length by omega,aS,aq,aE,aH]
   ·simp only[ke,aJ,show ¬(k:Int)<A.length by omega,aS,aq,aE,aH]
theorem LS{s:Sys}{t:gI}{steps:Int}(h:tT s t steps=true):∃A b,R6 s steps A/\(zM A 0).1=t/\qe s t steps=some (A,b)/\oF s t steps=some (m1 A,m2 A,m3 A,m4 A,b):=by
 obtain⟨h1,h2,h3⟩:=xp.1 h;have E7:=GX h2;have r0:R6 s steps [(t, -1,0,0,[],0)]:=⟨by simp,by simp,fun j hj=>by
  have:j=0:=by simpa using hj
  subst this;exact⟨h2,⟨ey _,h3.1⟩,fun _=>rfl,fun c=>by omega⟩⟩
 obtain⟨A,b,q1,q2,q3,q4⟩:=IT h1 h3 61 (k:=0) (A:=[(t, -1,0,0,[],0)]) iA (by simp) r0;refine⟨A,b,q1,by rw[q2];rfl,?_,?_⟩
 ·unfold qe;rw[mK (l:=t) (by show t.length<_;omega),aa];exact q3
 ·unfold oF;rw[jI (l:=t) (by show t.length<_;omega),aa];exact q4
def st6(x:I6):zL:=(x.2.2.1,x.2.2.2.1,x.2.2.2.2.1)
def IS(A:List I6):Nat->Nat->List zL
 |0,_=>[]
 |f+1,j=>if j=0 then []else st6 (zM A j)::IS A f (zM A j).2.1.toNat
theorem NA(A:List I6):∀(f j:Nat),(IS A f j).length<=f
 |0,j=>by simp[IS]
 |f+1,j=>by
  rw[IS];split
  ·simp
  ·rw[aN];have:=NA A f (zM A j).2.1.toNat;omega
theorem PT(t:gI)(ms:List Q5)(m:Q5):Kf t (ms++[m])=m.2.2.2:=by
 induction ms generalizing t with
 |nil=>rfl
 |cons x ms ih=>exact ih x.2.2.2
theorem CD{s:Sys}:∀{ms:List zL}{t:gI}{x:zL},nX s t ms=true->mq s (Kf t (ms.map fun x=>(x.2.1,x.1,false,x.2.2))) x.1 x.2.1=some x.2.2->nX s t (ms++[x])=true
 |[],t,x,h,hx=>by
  have hx':mq s t x.1 x.2.1=some x.2.2:=hx;simp[nX,hx']
 |y::ms,t,x,h,hx=>by
  rw[bz];unfold nX at h⊢;cases hy:mq s t y.1 y.2.1 with
  |none=>rw[hy]at h;cases h
  |some u=>
   rw[hy]at h;simp only[bh]at h⊢;obtain⟨e,h⟩:=h;refine⟨e,?_⟩;have e':=bC.1 e;exact CD h (by
    have:Kf t ((y::ms).map fun x=>(x.2.1,x.1,false,x.2.2))=Kf y.2.2 (ms.map fun x=>(x.2.1,x.1,false,x.2.2)):=rfl;rw[this]at hx;first|exact hx|(rw[e'];exact hx)|(rw[<-e'];exact hx))
theorem NB{s:Sys}{steps:Int}{A:List I6}(h:R6 s steps A):∀(f j:Nat),j<A.length->j<=f->nX s (zM A 0).1 (IS A f j).reverse=true/\Kf (zM A 0).1 ((IS A f j).reverse.map fun x=>(x.2.1,x.1,false,x.2.2))=(zM A j).1
 |0,j,hj,hf=>by
  have:j=0:=by omega
  subst this;simp[IS,nX,Kf]
 |f+1,j,hj,hf=>by
  rw[IS];by_cases h0:j=0
  ·subst h0;rw[ah rfl];simp[nX,Kf]
  ·rw[aj h0];obtain⟨p,p1,p2,p3,p4⟩:=(h.el j hj).up iA;have ep:(zM A j).2.1.toNat=p:=by rw[p1];simp
   rw[ep,List.reverse_cons,aQ];obtain⟨i1,i2⟩:=NB h f p iA iA;refine⟨CD i1 ?_,?_⟩
   ·rw[i2];show mq s (zM A p).1 (zM A j).2.2.1 (zM A j).2.2.2.1=some (zM A j).2.2.2.2.1;rw[p3,p4]
   ·rw[aK,cJ,PT];exact p4
end Go.Proofs.YtjgbnaihpicpgabGreat
