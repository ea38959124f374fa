/- A part of the proof about FnExactTwoProof (LaAct, LaPan). -/
import Derived.Test.YtjgbnaihpicpgabGreatTa
set_option linter.all false
namespace oq
open Go
abbrev Post:=Exit->List AV->iM->Prop
structure Ext(C C':Ctx):Prop where
 size:C.w.heap.size<=C'.w.heap.size
 k:C'.k=C.k
 ro:C'.ro=C.ro
 nm:C'.nm=C.nm
 dom:C'.dom=C.dom
 O:C'.O=C.O
 inv:∀β s w,Inv C' β s w->Inv C β s w
theorem Ext.refl(C:Ctx):Ext C C:=⟨aC _,rfl,rfl,rfl,rfl,rfl,fun _ _ _ h=>h⟩
theorem Ext.trans{C C' C'':Ctx}(h:Ext C C')(h':Ext C' C''):Ext C C'':=
 ⟨cB h.size h'.size,h'.k.trans h.k,h'.ro.trans h.ro,h'.nm.trans h.nm,h'.dom.trans h.dom,h'.O.trans h.O,fun β s w hi=>h.inv β s w (h'.inv β s w hi)⟩
theorem Ext.qt{C C':Ctx}(h:Ext C C'):C'.qt=C.qt:=by unfold Ctx.qt;rw[h.ro]
theorem Ext.iN{C C':Ctx}(h:Ext C C')(β:i_)(s:iM):C'.iN β s=C.iN β s:=by unfold Ctx.iN;rw[h.O]
def Ctx.plain(C:Ctx):Prop:=C.ro=none/\C.nm=false/\C.dom<=C.w.heap.size
theorem Ext.plain{C C':Ctx}(h:Ext C C')(hp:C.plain):C'.plain:=⟨h.ro.trans hp.1,h.nm.trans hp.2.1,by rw[h.dom];exact cB hp.2.2 h.size⟩
def CWp(P:Program)(C:Ctx)(c:Code)(Q:Post)(env:List AV)(s:iM):Prop:=
 ∀β a w,St C β env s a w->c.wpIn C.qt 0 P (fun e a' w'=>∃C',Ext C C'/\∃β' env' s',St C' β' env' s' a' w'/\Q e env' s') a w
def iJ.flat:iJ->Bool
 |.seq a b=>a.flat&&b.flat
 |.cond _ a b=>a.flat&&b.flat
 |.block _ a=>a.flat
 |.loop a=>a.flat
 |.ghost a=>a.flat
 |.scope a=>a.flat
 |.HR .. =>false
 |_=>true
def oR(P:Program)(k:Nat)(mc:iJ)(Q:Post)(env:List AV)(s:iM):Prop:=
 ∀C:Ctx,C.k=k->(mc.flat=true\/C.plain)->∀c,oA P c=some mc.erase->CWp P C c Q env s
def AB(K:List AV->iM->Prop)(Q:Post):Post
 |.normal,env,s=>K env s
 |e,env,s=>Q e env s
def Gc(id:Nat)(Q:Post):Post
 |.exit id',env,s=>if id'=id then Q .normal env s else Q (.exit id') env s
 |e,env,s=>Q e env s
def KQ(Q:Post):Post
 |.goto _,_,_=>False
 |e,env,s=>Q e env s
def xA(P:Program)(k0:Nat):List jo->List AV->iM->(List AV->iM->Prop)->Prop
 |[],env,s,K=>K env s
 |m::ms,env,s,K=>match m.guard with
  |none=>uF P k0 m.op env s fun x env s=>xA P k0 ms (jB m.dst env x) s K
  |some (g,want)=>match g with
   |none=>xA P k0 ms (jB m.dst env (.kZ [])) s K
   |some d=>match env.getD d .iO with
    |.d (.lit (.bool b))=>Br b want (uF P k0 m.op env s fun x env s=>xA P k0 ms (jB m.dst env x) s K) (xA P k0 ms (jB m.dst env (.kZ [])) s K)
    |.kZ []=>xA P k0 ms (jB m.dst env (.kZ [])) s K
    |_=>False
theorem Qj{P:Program}{c:Code}(h:oA P c=some .skip):c=.skip:=by
 cases c<;>simp[oA,av,aB]at h⊢
 case region=>obtain⟨ms,_,h⟩:=h;split at h<;>cases h
theorem Tr{P:Program}{c:Code}(h:oA P c=some .ret):c=.ret:=by
 cases c<;>simp[oA,av,aB]at h⊢
 case region=>obtain⟨ms,_,h⟩:=h;split at h<;>cases h
theorem Qh{P:Program}{c:Code}{id:Nat}(h:oA P c=some (.exit id)):c=.exit id:=by
 cases c<;>simp[oA,av,aB]at h⊢
 case region=>obtain⟨ms,_,h⟩:=h;split at h<;>cases h
 case exit=>exact h
theorem KN{P:Program}{c:Code}{x y:iJ}(h:oA P c=some (.seq x y)):∃a b,c=.seq a b/\oA P a=some x/\oA P b=some y:=by
 cases c<;>simp[oA,av,aB]at h⊢
 case region=>obtain⟨ms,_,h⟩:=h;split at h<;>cases h
 case seq=>exact⟨_,_,⟨rfl,rfl⟩,h⟩
theorem Qg{P:Program}{c:Code}{o:Operand}{x y:iJ}(h:oA P c=some (.cond o x y)):∃a b,c=.cond o a b/\oA P a=some x/\oA P b=some y:=by
 cases c<;>simp[oA,av,aB]at h⊢
 case region=>obtain⟨ms,_,h⟩:=h;split at h<;>cases h
 case cond=>obtain⟨x',h1,y',h2,rfl,rfl,rfl⟩:=h;exact⟨_,_,⟨rfl,rfl,rfl⟩,h1,h2⟩
theorem GQ{P:Program}{c:Code}{id:Nat}{x:iJ}(h:oA P c=some (.block id x)):∃a,c=.block id a/\oA P a=some x:=by
 cases c<;>simp[oA,av,aB]at h⊢
 case region=>obtain⟨ms,_,h⟩:=h;split at h<;>cases h
 case block=>exact⟨_,⟨h.2,rfl⟩,h.1⟩
theorem Iu{P:Program}{c:Code}{x:iJ}(h:oA P c=some (.loop x)):∃a,c=.loop a/\oA P a=some x:=by
 cases c<;>simp[oA,av,aB]at h⊢
 case region=>obtain⟨ms,_,h⟩:=h;split at h<;>cases h
 case loop=>exact h
theorem Ts{P:Program}{c:Code}{g:Operand}{ps:List Nat}{x y:iJ}(h:oA P c=some (.HR g ps x y)):
 ∃ps' a b,c=.rangeFunc g ps' a b/\ps'.toList=ps/\oA P a=some x/\oA P b=some y:=by
 cases c<;>simp[oA,av,aB]at h⊢
 case region=>obtain⟨ms,_,h⟩:=h;split at h<;>cases h
 case rangeFunc=>obtain⟨x',h1,y',h2,rfl,rfl,rfl,rfl⟩:=h;exact⟨_,_,_,⟨rfl,rfl,rfl,rfl⟩,rfl,h1,h2⟩
theorem DF{P:Program}{c:Code}{ms:List jo}(h:oA P c=some (.iE ms)):∃id ops,c=.region id ops false/\ops.toList.mapM (sL P ops)=some ms:=by
 cases c<;>simp[oA,av,aB]at h⊢
 case region=>
  obtain⟨ms',h1,h2⟩:=h;split at h2
  ·cases h2
  ·rename_i hd;cases h2;exact⟨_,_,⟨rfl,rfl,by simpa using hd⟩,h1⟩
section
variable{P:Program}{k:Nat}{Q:Post}{env:List AV}{s:iM}
theorem Kn{x y:Bool}{p:Prop}(h:(x&&y)=true\/p):(x=true\/p)/\(y=true\/p):=by
 rcases h with h|h
 ·rw[bh]at h;exact⟨.inl h.1,.inl h.2⟩
 ·exact⟨.inr h,.inr h⟩
theorem aaJ(h:Q .normal env s):oR P k .skip Q env s:=fun C _ _ c hc β a w hst=>by rw[Qj hc];exact wpIn_skip ⟨C,.refl C,β,env,s,hst,h⟩
theorem ac4(h:Q .ret env s):oR P k .ret Q env s:=fun C _ _ c hc β a w hst=>by rw[Tr hc];exact wpIn_ret ⟨C,.refl C,β,env,s,hst,h⟩
theorem aaE{id:Nat}(h:Q (.exit id) env s):oR P k (.exit id) Q env s:=fun C _ _ c hc β a w hst=>by rw[Qh hc];exact wpIn_exit ⟨C,.refl C,β,env,s,hst,h⟩
theorem ac6{x y:iJ}(h:oR P k x (AB (fun env s=>oR P k y Q env s) Q) env s):oR P k (.seq x y) Q env s:=fun C hC hf c hc β a w hst=>by
 obtain⟨c1,c2,rfl,h1,h2⟩:=KN hc;obtain⟨f1,f2⟩:=Kn hf;refine wpIn_seq (dM (h C hC f1 c1 h1 β a w hst) fun e a' w' he=>?_);obtain⟨C',hx,β',env',s',hst',hq⟩:=he;cases e with
 |normal=>
  have:=hq C' (hx.k.trans hC) (f2.imp id hx.plain) c2 h2 β' a' w' hst';rw[hx.qt]at this;exact dM this fun e a' w' ⟨C'',hx',r⟩=>⟨C'',hx.trans hx',r⟩
 |exit id=>exact⟨C',hx,β',env',s',hst',hq⟩
 |goto l=>exact⟨C',hx,β',env',s',hst',hq⟩
 |ret=>exact⟨C',hx,β',env',s',hst',hq⟩
 |panic ch=>exact⟨C',hx,β',env',s',hst',hq⟩
 |outgrown=>exact⟨C',hx,β',env',s',hst',hq⟩
theorem Wz{id:Nat}{x:iJ}(h:oR P k x (Gc id Q) env s):oR P k (.block id x) Q env s:=fun C hC hf c hc β a w hst=>by
 obtain⟨c1,rfl,h1⟩:=GQ hc;refine wpIn_block (dM (h C hC hf c1 h1 β a w hst) fun e a' w' he=>?_);obtain⟨C',hx,β',env',s',hst',hq⟩:=he;cases e with
 |exit id'=>
  simp only[Gc]at hq;simp only[Exit.inBlock];split<;>rename_i hid<;>simp only[hid,aA,aE]at hq<;>exact⟨C',hx,β',env',s',hst',hq⟩
 |normal=>exact⟨C',hx,β',env',s',hst',hq⟩
 |goto l=>exact⟨C',hx,β',env',s',hst',hq⟩
 |ret=>exact⟨C',hx,β',env',s',hst',hq⟩
 |panic ch=>exact⟨C',hx,β',env',s',hst',hq⟩
 |outgrown=>exact⟨C',hx,β',env',s',hst',hq⟩
theorem MO{P:Program}{c:Code}{x:iJ}(h:oA P c=some (.scope x)):∃a,c=.scope a/\oA P a=some x:=by
 cases c<;>simp[oA,av,aB]at h⊢
 case region=>obtain⟨ms,_,h⟩:=h;split at h<;>cases h
 case scope=>exact h
theorem MN{P:Program}{c:Code}(h:oA P c=some .label):∃l,c=.label l:=by
 cases c<;>simp[oA,av,aB]at h⊢
 case region=>obtain⟨ms,_,h⟩:=h;split at h<;>cases h
section
variable{b:Frame}{a:Act}{ks:List Item}{cs:List Frame}{w:World}
theorem vI{c:Code}:step P (lone (b.atR a (.code (.scope c)::ks)) cs w)=.next (lone (b.atR a (.code c:: .inScope c::ks)) cs w):=
 step_lone_go (by simp[stepG,stepG.exec,Frame.atR])
theorem HV{c:Code}:step P (lone (b.atR a (.inScope c::ks)) cs w)=.next (lone (b.atR a ks) cs w):=
 step_lone_go (by simp[stepG,stepG.exec,Frame.atR])
theorem Nq{F:Fence}{n:Nat}{Q:Exit->Act->World->Prop}{c:Code}(h:c.wpIn F n P (fun e a w=>(∀l,e≠ .goto l)/\Q e a w) a w):(Code.scope c).wpIn F n P Q a w:=by
 intro b k cs hro hb hr;have h0:(lone (b.atR a (.code (.scope c)::k)) cs w).fenced P F:=fq hb hr rfl;obtain⟨e,a₁,w₁,hq,harr⟩:=h b (.inScope c::k) cs hro hb hr;cases e with
 |normal=>exact⟨.normal,a₁,w₁,hq.2,.head h0 vI (StepsIn.trans harr (.one (fq hb hr rfl) HV))⟩
 |exit id'=>
  have hx:exitTo id' (.inScope c::k)=exitTo id' k:=by simp[exitTo]
  exact⟨.exit id',a₁,w₁,hq.2,fun k' hk=>.head h0 vI (harr.1 k' (by rw[hx];exact hk)),
   fun hr' hk=>let⟨k₁,h1,h2⟩:=harr.2 hr' (by rw[hx];exact hk);⟨k₁,h1,.head h0 vI h2⟩⟩
 |goto l=>exact absurd rfl (hq.1 l)
 |ret=>exact⟨_,a₁,w₁,hq.2,.of_steps (.one h0 vI) harr⟩
 |panic ch=>exact⟨_,a₁,w₁,hq.2,.of_steps (.one h0 vI) harr⟩
 |outgrown=>exact⟨_,a₁,w₁,hq.2,.of_steps (.one h0 vI) harr⟩
end
theorem WD(h:Q .normal env s):oR P k .label Q env s:=fun C _ _ c hc β a w hst=>by
 obtain⟨l,rfl⟩:=MN hc;exact wpIn_label ⟨C,.refl C,β,env,s,hst,h⟩
theorem WG{x:iJ}(h:oR P k x (KQ Q) env s):oR P k (.scope x) Q env s:=fun C hC hf c hc β a w hst=>by
 obtain⟨c1,rfl,h1⟩:=MO hc;refine Nq (dM (h C hC hf c1 h1 β a w hst) fun e a' w' he=>?_);obtain⟨C',hx,β',env',s',hst',hq⟩:=he;cases e with
 |goto l=>exact hq.elim
 |_=>exact⟨(fun l e=>nomatch e),C',hx,β',env',s',hst',hq⟩
theorem aaC{o:Operand}{x y:iJ}{b:Bool}(hb:ev env o=.d (.lit (.bool b)))(h:Br b true (oR P k x Q env s) (oR P k y Q env s)):
 oR P k (.cond o x y) Q env s:=fun C hC hf c hc β a w hst=>by
 obtain⟨c1,c2,rfl,h1,h2⟩:=Qg hc;obtain⟨f1,f2⟩:=Kn hf;have hv:=hst.ev o;rw[hb]at hv;refine wpIn_cond (tO hv) ?_;unfold Br at h;cases b with
 |true=>exact h C hC f1 c1 h1 β a w hst
 |false=>exact h C hC f2 c2 h2 β a w hst
def iW(k:Nat)(env:List AV)(s:iM)(env':List AV)(s':iM):Prop:=
 ∀(C:Ctx)(β:i_)(a:Act)(w:World),C.k=k->St C β env s a w->∃β',St C β' env' s' a w
theorem aaK{mc:iJ}{env':List AV}{s':iM}(hw:iW k env s env' s')(h:oR P k mc Q env' s'):oR P k mc Q env s:=fun C hC hf c hc β a w hst=>by
 obtain⟨β',hst'⟩:=hw C β a w hC hst;exact h C hC hf c hc β' a w hst'
theorem WC{x:iJ}{env':List AV}{s':iM}(hw:iW k env s env' s')(h:oR P k x Q env' s'):oR P k (.ghost x) Q env s:=fun C hC hf c hc β a w hst=>by
 obtain⟨β',hst'⟩:=hw C β a w hC hst;exact h C hC hf c hc β' a w hst'
theorem aaI{x:iJ}{ι:Type}(E:ι->List AV)(S:ι->iM)(inv:ι->Prop)(μ:ι->Nat)(i0:ι)(h0:inv i0)(hw:iW k env s (E i0) (S i0))
 (round:∀i,inv i->oR P k x (AB (fun env' s'=>∃i',inv i'/\μ i'<μ i/\iW k env' s' (E i') (S i')) Q) (E i) (S i)):oR P k (.loop x) Q env s:=
 fun C hC hf c hc β a w hst=>by
 obtain⟨c1,rfl,h1⟩:=Iu hc;obtain⟨β0,hst0⟩:=hw C β a w hC hst;intro b kk cs hro hb hr;have key:∀n i C' β a w,Ext C C'->μ i=n->inv i->St C' β (E i) (S i) a w->
  ∃e a' w',(∃C'',Ext C C''/\∃β' env' s',St C'' β' env' s' a' w'/\Q e env' s')/\ArrivesIn (Machine.fenced P C.qt) P (lone (b.atR a (.code c1:: .inLoop c1::kk)) cs w) b kk cs e a' w':=by
  intro n;induction n using Nat.strongRecOn with
  |_ n ih=>
   intro i C' β a w hx hn hi hst;have hrd:=round i hi C' (hx.k.trans hC) (hf.imp id hx.plain) c1 h1 β a w hst;rw[hx.qt]at hrd;obtain⟨e,a₁,w₁,hq,harr⟩:=hrd b (.inLoop c1::kk) cs hro hb hr;obtain⟨C'',hx',β',env',s',hst',hq⟩:=hq;have hxx:=hx.trans hx';cases e with
   |normal=>
    obtain⟨i',hi',hlt,hwk⟩:=hq;obtain⟨β2,hst2⟩:=hwk C'' β' a₁ w₁ (hxx.k.trans hC) hst';obtain⟨e₂,a₂,w₂,hq₂,harr₂⟩:=ih (μ i') (hn▸hlt) i' C'' β2 a₁ w₁ hxx rfl hi' hst2;exact⟨e₂,a₂,w₂,hq₂,.of_steps (StepsIn.trans harr (.one (fq hb hr rfl) stepR_inLoop)) harr₂⟩
   |exit id=>exact⟨_,a₁,w₁,⟨C'',hxx,β',env',s',hst',hq⟩,.pass (x:=.inLoop c1) rfl (fun _ _=>.inl (by simp)) harr⟩
   |goto l=>exact⟨_,a₁,w₁,⟨C'',hxx,β',env',s',hst',hq⟩,.pass (x:=.inLoop c1) rfl (fun _ _=>.inl (by simp)) harr⟩
   |ret=>exact⟨_,a₁,w₁,⟨C'',hxx,β',env',s',hst',hq⟩,.pass (x:=.inLoop c1) rfl (fun _ _=>.inl (by simp)) harr⟩
   |panic ch=>exact⟨_,a₁,w₁,⟨C'',hxx,β',env',s',hst',hq⟩,.pass (x:=.inLoop c1) rfl (fun _ _=>.inl (by simp)) harr⟩
   |outgrown=>exact⟨_,a₁,w₁,⟨C'',hxx,β',env',s',hst',hq⟩,.pass (x:=.inLoop c1) rfl (fun _ _=>.inl (by simp)) harr⟩
 obtain⟨e,a',w',hq,harr⟩:=key _ i0 C β0 a w (.refl C) rfl h0 hst0;exact⟨e,a',w',hq,.of_steps (.one (fq hb hr rfl) stepR_loop) harr⟩
end
theorem xI{P:Program}{ops:Array Oper}{o:Oper}{m:jo}(h:sL P ops o=some m.erase):
 m.op.erase=(kY P o).getD .dead/\m.dst=o.dst/\m.guard=o.guard.map fun(j,b)=>((ops[j]?).bind (·.dst),b):=by
 unfold sL jo.erase at h;simp only[aP,jo.mk.injEq]at h;exact⟨h.2.1.symm,h.1.symm,h.2.2.symm⟩
theorem zK{o:Oper}{y:Nat->Option Bool}(h:o.guard=none):Region.wanted o y=true:=by simp[Region.wanted,h]
theorem D7{C:Ctx}{β:i_}{env:List AV}{s:iM}{a:Act}{w:World}(hst:St C β env s a w){ops:Array Oper}{j d:Nat}{b:Bool}
 (hd:(ops[j]?).bind (·.dst)=some d) (hb:env.getD d .iO=.d (.lit (.bool b))):yielded ops a.tmps j=some b:=by
 have h1:=hst.ev (.tmp d);simp only[ev]at h1;rw[hb]at h1;have h1:=tO h1;simp only[Act.eval]at h1;unfold yielded;rw[hd];simp only[aa];have hlt:d<a.tmps.size:=by
  rcases cO d a.tmps.size with h|h
  ·exact h
  ·have:a.tmps.getD d undef=undef:=by simp[cn,Array.getElem?_eq_none h]
   rw[this]at h1;cases h1
 have h2:a.tmps[d]?=some (.bool b):=by
  rw[cW hlt];rw[cn,cW hlt]at h1;simpa using h1
 rw[h2]
theorem JE{C:Ctx}{β:i_}{env:List AV}{s:iM}{a:Act}{w:World}(hst:St C β env s a w){ops:Array Oper}{j d:Nat}
 (hd:(ops[j]?).bind (·.dst)=some d) (hb:env.getD d .iO=.kZ []):yielded ops a.tmps j=none:=by
 have h1:=hst.ev (.tmp d);simp only[ev]at h1;rw[hb]at h1;simp only[AV.ok,AV.jk,Act.eval]at h1;obtain⟨vs,h1,_⟩:=h1;unfold yielded;rw[hd];simp only[aa];cases hx:a.tmps[d]? with
 |none=>rfl
 |some v=>
  have:a.tmps.getD d undef=v:=by rw[cn,hx];rfl
  rw[this]at h1;subst h1;rfl
theorem xQ{P:Program}{C:Ctx}{ops:Array Oper}{o:Oper}{m:jo}(hm:sL P ops o=some m.erase){env:List AV}{s:iM}{K:List AV->iM->Prop}
 (hk:match m.guard with
  |none=>uF P C.k m.op env s fun x env s=>K (jB m.dst env x) s
  |some (g,want)=>match g with
   |none=>K (jB m.dst env (.kZ [])) s
   |some d=>match env.getD d .iO with
    |.d (.lit (.bool b))=>Br b want (uF P C.k m.op env s fun x env s=>K (jB m.dst env x) s) (K (jB m.dst env (.kZ [])) s)
    |.kZ []=>K (jB m.dst env (.kZ [])) s
    |_=>False)
 {β:i_} {a:Act} {w:World} (hst:St C β env s a w) {Q:Exit->Act->World->Prop} {next:Act->World->Prop}
 (hn:∀β' env' s' a' w',St C β' env' s' a' w'->K env' s'->next a' w'):
 if Region.wanted o (yielded ops a.tmps)then o.wpIn C.qt 0 P a w next Q else(∀f,o.about P w a.eval=some f->C.qt.fn f)/\next (a.put o.dst undef) w:=by
 obtain⟨h1,h2,h3⟩:=xI hm;have run:uF P C.k m.op env s (fun x env s=>K (jB m.dst env x) s)->o.wpIn C.qt 0 P a w next Q:=fun h=>by
  rw[h2]at h;have h1':kY P o=some m.op.erase:=by
   cases hq:kY P o with
   |some x=>rw[hq]at h1;rw[h1];rfl
   |none=>
    rw[hq]at h1;simp only[Option.getD_none]at h1;have:m.op=.dead:=by cases hmo:m.op<;>rw[hmo]at h1<;>simp[vJ.erase]at h1⊢
    rw[this]at h;exact h.elim
  have hnd:∀c,o.op≠ .defer c:=fun c hc=>by unfold kY at h1';rw[hc]at h1';cases h1'
  have:=QY h1' h hnd Q β a w hst;exact Oper.wpIn_mono (fun a' w' ⟨β',env',s',h4,h5⟩=>hn β' env' s' a' w' h4 h5) this
 have skip:K (jB m.dst env (.kZ [])) s->(∀f,o.about P w a.eval=some f->C.qt.fn f)/\next (a.put o.dst undef) w:=fun h=>by
  rw[h2]at h;refine⟨fun _ _=>trivial,?_⟩;exact hn _ _ _ _ _ (hst.put (x:=.kZ []) (v:=undef) (by simp[AV.ok,AV.jk,undef]) o.dst) h
 cases hg:o.guard with
 |none=>
  rw[hg]at h3;simp only[eV]at h3;rw[h3]at hk;rw[ah (zK hg)];exact run hk
 |some p=>
  obtain⟨j,want⟩:=p;rw[hg]at h3;simp only[aH]at h3;rw[h3]at hk;have hw:Region.wanted o (yielded ops a.tmps)=(yielded ops a.tmps j==some want):=by simp[Region.wanted,hg]
  rw[hw];cases hd:(ops[j]?).bind (·.dst)with
  |none=>
   rw[hd]at hk;have:yielded ops a.tmps j=none:=by simp[yielded,hd]
   rw[this];exact skip hk
  |some d=>
   rw[hd]at hk;simp only at hk;split at hk
   ·rename_i b hb;rw[D7 hst hd hb];unfold Br at hk;by_cases hbw:b=want
    ·rw[ah hbw]at hk;subst hbw;rw[ah (by simp)];exact run hk
    ·rw[aj hbw]at hk;rw[aj (by simpa using hbw)];exact skip hk
   ·rename_i hb;rw[JE hst hd hb];exact skip hk
   ·exact hk.elim
theorem Ht{P:Program}{C:Ctx}{ops:Array Oper}{Q:Post}:∀(n i:Nat)(ms:List jo)(env:List AV)(s:iM),i+n=ops.size->
 (ops.toList.drop i).mapM (sL P ops)=some (ms.map jo.erase)->xA P C.k ms env s (fun env s=>Q .normal env s)->
 ∀(β:i_)(a:Act)(w:World),St C β env s a w->wpOpsIn C.qt 0 P ops (fun e a' w'=>∃C',Ext C C'/\∃β' env' s',St C' β' env' s' a' w'/\Q e env' s') (List.range' i n) a w
 |0,i,ms,env,s=>fun hi hm hk β a w hst=>by
  have:ops.toList.drop i=[]:=by apply eH;simp;omega
  rw[this]at hm;simp at hm;subst hm;exact⟨C,.refl C,β,env,s,hst,hk⟩
 |n+1,i,ms,env,s=>fun hi hm hk β a w hst=>by
  have hlt:i<ops.toList.length:=by simp;omega
  rw[ay hlt]at hm;simp only[cx,cu,av]at hm;obtain⟨m0,h1,ms0,h2,h3⟩:=hm;cases ms with
  |nil=>cases h3
  |cons m ms'=>
  simp only[aK,dH,aP,bY]at h3;obtain⟨rfl,rfl⟩:=h3;rw[dQ];simp only[wpOpsIn];have ho:ops[i]?=some ops.toList[i]:=by simp at hlt;simp[hlt]
  rw[ho];simp only;refine xQ (K:=fun env s=>xA P C.k ms' env s fun env s=>Q .normal env s) h1 ?_ hst fun β' env' s' a' w' h4 h5=>Ht n (i+1) ms' env' s' iA h2 h5 β' a' w' h4
  simpa only[xA]using hk
theorem ac3{P:Program}{k:Nat}{Q:Post}{env:List AV}{s:iM}{ms:List jo}(h:xA P k ms env s fun env s=>Q .normal env s):oR P k (.iE ms) Q env s:=
 fun C hC _ c hc β a w hst=>by
 obtain⟨id,ops,rfl,hm⟩:=DF hc;subst hC;refine wpIn_region ?_;have:=Ht (Q:=Q) (ops:=ops) ops.size 0 ms env s iA (by simpa using hm) h β a w hst;rwa [<-dL]at this
inductive vK where
 |tmp (t:Nat)
 |cell (a n:Nat) (ag:Bool)
def AU(P:Program):ResultVar->Option vK
 |.tmp t=>some (.tmp t)
 |.cell a t=>(lG P t).bind fun n=>(JT P t).map fun ag=>.cell a (if ag then n else 1) ag
def zH(env:List AV)(s:iM):List vK->(List AV->Prop)->Prop
 |[],K=>K []
 |.tmp t::r,K=>zH env s r fun xs=>K (env.getD t .iO::xs)
 |.cell a n ag::r,K=>vD n ag (env.getD a .iO) s fun x=>zH env s r fun xs=>K (x::xs)
def xe:List AV->AV
 |[x]=>x
 |xs=>.kZ xs
def I1(rs:List vK)(R:AV->iM->Prop):Post
 |.normal,env,s=>zH env s rs fun xs=>R (xe xs) s
 |.ret,env,s=>zH env s rs fun xs=>R (xe xs) s
 |_,_,_=>False
def TT(tmps:Array Value):ResultVar->Sem Value
 |.tmp t=>pure (tmps.getD t undef)
 |.cell b t=>do loadVar t (<-asAddr (tmps.getD b undef))
theorem CV(fn:Func)(tmps:Array Value):results fn tmps=(do let vs <-fn.results.mapM (TT tmps);pure (if h:vs.size=1 then vs[0]else .tuple vs)):=by
 unfold results;have:(fun x=>match x with|ResultVar.tmp t=>(pure (tmps.getD t undef):Sem Value)|ResultVar.cell a t=>do loadVar t (<-asAddr (tmps.getD a undef)))=TT tmps:=by
  funext x;cases x<;>rfl
 rw[<-this];rfl
theorem FU{P:Program}{C:Ctx}{β:i_}{env:List AV}{s:iM}{a:Act}{w:World}(hst:St C β env s a w):∀(rv:List ResultVar)(rs:List vK)(K:List AV->Prop),
 rv.mapM (AU P)=some rs->zH env s rs K->
 ∃vs xs,(rv.mapM (TT a.tmps)).run P w=.ok vs w/\
  AV.jk β (C.iN β s) w xs vs/\K xs
 |[],rs,K=>fun h1 h2=>by
  simp at h1;subst h1;exact⟨[],[],by simp,by simp[AV.jk],h2⟩
 |.tmp t::rv,rs,K=>fun h1 h2=>by
  simp only[cx,cu,av,AU]at h1;obtain⟨_,h3,rs',h4,h5⟩:=h1;cases h3;cases h5;simp only[zH]at h2;obtain⟨vs,xs,h6,h7,h8⟩:=FU hst rv rs' _ h4 h2;refine⟨a.tmps.getD t undef::vs,_,?_,?_,h8⟩
  ·rw[cx];simp only[TT,aY,bu,aM,h6]
  ·simp only[AV.jk];exact⟨_,_,rfl,hst.ev (.tmp t),h7⟩
 |.cell b t::rv,rs,K=>fun h1 h2=>by
  simp only[cx,cu,av,aB,AU]at h1;obtain⟨_,⟨n,hn,ag,hg,h3⟩,rs',h4,h5⟩:=h1;subst h3;cases h5;simp only[zH]at h2;obtain⟨v,x,h6,h7,h8⟩:=Im (P:=P) hn hg hst (hst.ev (.tmp b)) h2;obtain⟨vs,xs,h9,h10,h11⟩:=FU hst rv rs' _ h4 h8;refine⟨v::vs,x::xs,?_,?_,h11⟩
  ·rw[cx];have hload:(asAddr (a.tmps.getD b undef) >>=fun ad=>loadVar t ad:Sem Value).run P w=.ok v w:=by
    simp only[Instr.loadAt,Act.eval]at h6;simp only[aY]at h6⊢;cases hv:a.tmps.getD b undef with
    |pointer ad=>
     cases ad with
     |some ad=>rw[hv]at h6;simpa[Instr.sureAddr,asAddr]using h6
     |none=>rw[hv]at h6;simp[Instr.sureAddr]at h6
    |_=>rw[hv]at h6;simp[Instr.sureAddr]at h6
   simp only[aY]at hload;simp only[TT,aY,hload,aM,h9,bu]
  ·simp only[AV.jk];exact⟨_,_,rfl,h7,h10⟩
theorem AQ{P:Program}{fn:Func}{tmps:Array Value}{R:Ending->World->Prop}(Z:World->Prop){B:Nat}
 (hZ:∀w w' D,Z w->w.grownBy w' (some D)->B<=D->(∃o:Obj,w.heap[D]?=some o/\Fu o)->Z w')
 (hfin:∀w,Z w->∃v,(results fn tmps).run P w=.ok v w/\R (.returned v) w):
 ∀(Ds:List Nat)(w:World),Ds.Nodup->(∀D∈Ds,B<=D/\w.heap[D]?=some (.deferred (some [])))->Z w->LeavesInM Fence.wide 0 P fn tmps R (Ds.map BH) .returning w
 |[],w,_,_,hz=>by simp only[cJ,LeavesInM,LeavesIn];exact hfin w hz
 |D::Ds,w,hn,hd,hz=>by
  simp only[aK,LeavesInM];have h1:=hd D bf;rw[bX]at hn;refine⟨by simp,.inl ⟨D,_,rfl,run_takeDeferred h1.2,AQ Z hZ hfin Ds _ hn.2 (fun D' hD'=>?_) ?_⟩⟩
  ·have h2:=hd D' (aX _ hD');exact⟨h2.1,(dr fun e=>hn.1 (by rw[<-e];exact hD')).trans h2.2⟩
  ·exact hZ _ _ D hz (e_ w D _) h1.1 ⟨_,h1.2,rfl,rfl⟩
theorem O_{P:Program}{f:Nat}{fn:Func}{c:Code}{mc:iJ}{rs:List vK}{args:List AV}{s:iM}{k n:Nat}{R:AV->iM->Prop}
 (hf:P.funcs[f]?=some fn) (hb:fn.body=some c) (hm:oA P c=some mc.erase) (hn:fn.ntmps=n) (hr:fn.results.toList.mapM (AU P)=some rs)
 (h:oR P k mc (I1 rs R) (args++List.replicate (n-args.length) .iO) s):iR P f args s k R:=by
 intro C vs hCs hCk hinv hargs;have hlen:=AV.jy hargs;let C0:Ctx:={C with ro:=none,dom:=C.w.heap.size,nm:=false};refine callsIn_wide.1 (callsIn_of_wp_marks (F:=Fence.wide) (n:=0) hf hb trivial ?_);have hst:St C0 C.β (args++List.replicate (n-args.length) .iO) s {tmps:=vs++Array.replicate (fn.ntmps-vs.size) undef,defers:=[]} C.w:=by
  refine⟨.nil,hCs▸hinv.ro none C.w.heap.size,?_,fun i x hx=>?_⟩
  ·simp at hlen;simp[hn,hlen]
  ·rw[hCs]at hargs;rw[eS]at hx;split at hx
   ·rename_i hi;have hi2:i<vs.size:=by simp at hlen;omega
    have h1:(vs++Array.replicate (fn.ntmps-vs.size) undef).getD i undef=vs[i]:=by simp[cn,fI,hi2]
    rw[h1];exact(AV.j_.1 hargs).2 i x _ hx (by simp[hi2])
   ·have:x=.iO:=by
     rw[dn]at hx;split at hx
     ·cases hx;rfl
     ·cases hx
    subst this;simp[AV.ok]
 refine dM (h C0 hCk (.inr ⟨rfl,rfl,aC _⟩) c hm C.β _ _ hst) fun e a' w' he=>?_
 obtain⟨C',hx,β',env',s',hst',hq⟩:=he;have fin:zH env' s' rs (fun xs=>R (xe xs) s')->LeavesInM Fence.wide 0 P fn a'.tmps (fun e w'=>∃v x β' s',e=.returned v/\Inv C β' s' w'/\AV.ok β' (C.iN β' s') w' x v/\R x s') a'.defers .returning w':=fun hq=>by
  obtain⟨_,Ds,hDs,hnd,hmk⟩:=hst'.defers;rw[hDs];refine AQ (B:=C.w.heap.size) (fun w=>Inv C0 β' s' w/\∀i x,env'[i]?=some x->AV.ok β' (C0.iN β' s') w x (a'.tmps.getD i undef)) (fun w1 w2 D hz hg hB ho=>?_) (fun w1 hz=>?_) Ds w' hnd (fun D hD=>?_) ⟨hx.inv _ _ _ hst'.inv,fun i x hi=>?_⟩
  ·have hr:∀r,some D=some r->∃o:Obj,w1.heap[r]?=some o/\Fu o:=fun r e=>by cases e;exact ho
   exact⟨hz.1.sv hg fun r e=>⟨by cases e;exact hB,hr r e⟩,fun i x hi=>AV.kA (fun b o v hc hn=>⟨eT hc hg (FD hr),hn⟩) (fun _=>.refl _) _ _ (hz.2 i x hi)⟩
  ·have hst1:St C0 β' env' s' {a' with defers:=[]} w1:=⟨.nil,hz.1,hst'.len,hz.2⟩;obtain⟨us,xs,h1,h2,h3⟩:=FU hst1 fn.results.toList rs _ hr hq;refine⟨if h:us.toArray.size=1 then us.toArray[0]else .tuple us.toArray,?_,_,xe xs,β',s',rfl,hz.1.ro',?_,h3⟩
   ·rw[CV,ej];simp only[aY,Sem.run_map];rw[h1];simp only[aM,bu]
   ·have hl:=AV.jy h2;have hfb:C0.iN β' s'=C.iN β' s':=rfl;rw[hfb]at h2
    match xs,us,h2 with
    |[x],[u],h2=>
     simp only[AV.jk]at h2;obtain⟨_,_,h4,h5,h6⟩:=h2;cases h4;simpa[xe]using h5
    |[],[],h2=>simp only[xe,AV.ok];exact⟨#[],by simp,by simp[AV.jk]⟩
    |x::y::xs,u::v::us,h2=>
     simp only[xe,AV.ok];exact⟨(u::v::us).toArray,by simp,by simpa using h2⟩
  ·obtain⟨h1,h2,h3,h4⟩:=hmk D hD;exact⟨by rw[hx.dom]at h1;exact h1,(hst'.inv.pU D h2 h4).trans h3⟩
  ·have:=hst'.env i x hi;rwa [hx.iN]at this
 cases e with
 |normal=>exact fin hq
 |ret=>exact fin hq
 |exit id=>exact hq.elim
 |goto l=>exact hq.elim
 |panic ch=>exact hq.elim
 |outgrown=>exact hq.elim
structure jV(P:Program)(f:Nat)(mc:iJ)(n:Nat)(rs:List vK):Prop where
 fn:∃fn,P.funcs[f]?=some fn/\fn.body.bind (oA P)=some mc.erase/\fn.ntmps=n/\fn.results.toList.mapM (AU P)=some rs
theorem jV.calls{P:Program}{f:Nat}{mc:iJ}{n:Nat}{rs:List vK}(h:jV P f mc n rs){args:List AV}{s:iM}{k:Nat}{R:AV->iM->Prop}
 (hm:oR P k mc (I1 rs R) (args++List.replicate (n-args.length) .iO) s):iR P f args s k R:=by
 obtain⟨fn,h1,h2,h3,h4⟩:=h.fn;rw[av]at h2;obtain⟨c,h5,h6⟩:=h2;exact O_ h1 h5 h6 h3 h4 hm
def AV.le(x y:AV):Prop:=∀β O w v,AV.ok β O w x v->AV.ok β O w y v
theorem AV.le_refl(x:AV):AV.le x x:=fun _ _ _ _ h=>h
theorem AV.Ws(x:AV):AV.le x .iO:=fun _ _ _ _ _=>by simp[AV.ok]
theorem AV.aay{e id:Nat}{xs:List D}:AV.le (.own e id xs) (.d (.sl e none xs)):=fun _ _ _ _ h=>by simp only[AV.ok]at h⊢;exact h.1
def ju:List AV->List AV->Prop
 |[],[]=>True
 |x::xs,y::ys=>AV.le x y/\ju xs ys
 |_,_=>False
theorem ju.get:∀{xs ys:List AV},ju xs ys->xs.length=ys.length/\∀(i:Nat)(y:AV),ys[i]?=some y->∃x,xs[i]?=some x/\AV.le x y
 |[],[],_=>by simp
 |[],_::_,h=>h.elim
 |_::_,[],h=>h.elim
 |x::xs,y::ys,h=>by
  obtain⟨h1,h2⟩:=h;obtain⟨h3,h4⟩:=ju.get h2;refine⟨by simp[h3],fun i z hz=>?_⟩;cases i with
  |zero=>simp at hz;subst hz;exact⟨x,rfl,h1⟩
  |succ i=>simpa using h4 i z (by simpa using hz)
section
variable{k:Nat}{env env' env'':List AV}{s s' s'':iM}
theorem iW.refl:iW k env s env s:=fun _ β _ _ _ h=>⟨β,h⟩
theorem iW.trans(h:iW k env s env' s')(h2:iW k env' s' env'' s''):iW k env s env'' s'':=fun C β a w hC hst=>let⟨β',h3⟩:=h C β a w hC hst;h2 C β' a w hC h3
theorem iW.kill(id:Nat)(hid:k<=id):iW k env s (AV.ji (iQ id) env) (jz id s):=fun _ _ _ _ hC hst=>⟨_,hst.kill id (hC▸hid)⟩
theorem iW.XC(hs:∀id,sat s id=sat s' id):iW k env s env s':=fun C β a w hC hst=>by
 have h1:∀b o,own β s' b o<->own β s b o:=by intro b o;unfold own;simp only[hs]
 have h2:∀i b,iG β s' i b<->iG β s i b:=by intro i b;unfold iG;simp only[hs]
 have m:nT β s w β s' w:=⟨aC _,rfl,fun _ _ _ h _=>h,fun _ _ _=>rfl,fun b o h=>.inl ((h1 b o).1 h),fun q b h=>.inl ⟨q,(h2 q b).1 h⟩,fun _=>.refl _⟩;exact⟨β,hst.move m (fun q=>by rw[<-hs];exact(hst.inv.obs q).yq m rfl (fun _ _=>rfl) rfl) (fun p q b hp hq=>hst.inv.inj p q b ((h2 p b).1 hp) ((h2 q b).1 hq))⟩
end
theorem wrap_i64{n:Int}(h1: -9223372036854775808<=n)(h2:n<9223372036854775808):IntKind.i64.wrap n=n:=by
 unfold IntKind.wrap IntKind.bits IntKind.signed;simp only[cq];split<;>rename_i h<;>simp at h<;>omega
theorem Vz{k:IntKind}{n:Int}:RS (.int k n)=.d (.lit (.int k n)):=rfl
theorem RV{b:Bool}:RS (.bool b)=.d (.lit (.bool b)):=rfl
theorem LU{b:ByteArray}:RS (.string b)=.d (.lit (.string b)):=rfl
theorem VA:RS (.slice none 0 0)=.d (.sl 0 (some true) []):=rfl
theorem RU:RS (.agg #[])=.d (.agg []):=rfl
mutual
def AV.toD:AV->Option D
 |.d x=>some x
 |.own e _ xs=>some (.sl e none xs)
 |.agg cs=>(AV.adB cs).map .agg
 |.iO=>none
 |.ptr _ _=>none
 |.su _ _ _ _=>none
 |.pv _=>none
 |.kZ _=>none
 |.fn _ _ _=>none
 |.kU _ _ _=>none
 |.mC _ _ _=>none
 |.Ey _ _=>none
 |.dp _=>none
def AV.adB:List AV->Option (List D)
 |[]=>some []
 |x::xs=>(AV.toD x).bind fun y=>(AV.adB xs).map (y::·)
end
def AV.ae7:AV->Option (List D)
 |.kZ cs=>AV.Nf cs
 |_=>none
where
 AV.Nf:List AV->Option (List D)
 |[]=>some []
 |x::xs=>(AV.toD x).bind fun y=>(AV.Nf xs).map (y::·)
theorem iR.mono{P:Program}{f:Nat}{args:List AV}{s:iM}{k:Nat}{R R':AV->iM->Prop}(h:iR P f args s k R)
 (hR:∀x s,R x s->∃y,AV.le x y/\R' y s):iR P f args s k R':=fun C vs h1 h2 h3 h4=>
 (h C vs h1 h2 h3 h4).mono fun _ _ ⟨v,x,β',s',he,hi,hx,hr⟩=>let⟨y,hle,hr'⟩:=hR x s' hr;⟨v,y,β',s',he,hi,hle _ _ _ _ hx,hr'⟩
def jK(P:Program)(f:Nat)(args:List D)(r:D):Prop:=iR P f (args.map .d) [] 0 fun x _=>x=.d r
def mO(P:Program)(f:Nat)(args:List D)(rs:List D):Prop:=iR P f (args.map .d) [] 0 fun x _=>x=.kZ (rs.map .d)
theorem ju.jk{β:i_}{O:Own}{w:World}:∀{xs ys:List AV}{vs:List Value},ju xs ys->AV.jk β O w xs vs->AV.jk β O w ys vs
 |[],[],_,_,h=>h
 |_::_,_::_,_,hl,h=>by
  simp only[AV.jk]at h⊢;obtain⟨v,r,h1,h2,h3⟩:=h;exact⟨v,r,h1,hl.1 _ _ _ _ h2,ju.jk hl.2 h3⟩
 |[],_::_,_,hl,_=>hl.elim
 |_::_,[],_,hl,_=>hl.elim
theorem iR.args{P:Program}{f:Nat}{args dz:List AV}{s:iM}{k:Nat}{R:AV->iM->Prop}(h:iR P f dz s k R)(hl:ju args dz):iR P f args s k R:=
 fun C vs h1 h2 h3 h4=>h C vs h1 h2 h3 (hl.jk h4)
theorem J5{P:Program}{k0 f:Nat}{args env:List AV}{s:iM}{K:AV->List AV->iM->Prop}{dz:List D}{r:D}(ha:ju (args.map fun x=>x.jY (qu [])) (dz.map .d))
 (hc:jK P f dz r) (hk:K (.d r) env s):NT P k0 f args env s K:=
 ⟨[],[],fun x _=>x=.d r,rfl,by simp,by simp,by simp,iR.args hc ha,by rintro x s' rfl;exact hk⟩
theorem H6{P:Program}{k0 f:Nat}{args env:List AV}{s:iM}{K:AV->List AV->iM->Prop}{dz:List D}{rs:List D}(ha:ju (args.map fun x=>x.jY (qu [])) (dz.map .d))
 (hc:mO P f dz rs) (hk:K (.kZ (rs.map .d)) env s):NT P k0 f args env s K:=by
 refine⟨[],[],fun x _=>x=.kZ (rs.map .d),rfl,by simp,by simp,by simp,iR.args hc ha,?_⟩;rintro x s' rfl;have h2:∀qs:List D,AV.ji (nF ([]++[])) (qs.map .d)=qs.map .d:=fun qs=>by
  induction qs with
  |nil=>rfl
  |cons d ds ih=>simp only[aK,AV.ji,AV.jY,ih]
 simp only[AV.jY,h2];exact hk
def tf(env:List AV):List Nat->List AV
 |[]=>env
 |w::ws=>tf (env.set w .iO) ws
def qG(env:List AV):List (Nat×AV)->List AV
 |[]=>env
 |(w,x)::r=>qG (env.set w x) r
theorem WE{P:Program}{k:Nat}{Q:Post}{env:List AV}{s:iM}{x:iJ}{ι:Type}(ws:List Nat)(vs:ι->List (Nat×AV))(S:ι->iM)(inv:ι->Prop)(μ:ι->Nat)(i0:ι)(h0:inv i0)
 (hw:iW k env s (qG (tf env ws) (vs i0)) (S i0))
 (round:∀i,inv i->oR P k x (AB (fun env' s'=>∃i',inv i'/\μ i'<μ i/\iW k env' s' (qG (tf env ws) (vs i')) (S i')) Q) (qG (tf env ws) (vs i)) (S i)):
 oR P k (.loop x) Q env s:=aaI (fun i=>qG (tf env ws) (vs i)) S inv μ i0 h0 hw round
theorem KH(x:AV):AV.le x x<->True:=⟨fun _=>trivial,fun _=>AV.le_refl x⟩
theorem KG(x:AV):AV.le x .iO<->True:=⟨fun _=>trivial,fun _=>AV.Ws x⟩
theorem MB{e id:Nat}{xs:List D}:AV.le (.own e id xs) (.d (.sl e none xs))<->True:=⟨fun _=>trivial,fun _=>AV.aay⟩
def ints(l:gI):D:=.sl 1 none (l.map iD)
theorem Ub(l:gI):uw (.d (ints l))=some (1,l.map iD):=rfl
theorem Mb(l:gI):AV.cells (.d (ints l))=some [.d (ints l)]:=rfl
theorem JR(l:gI):AV.F4 (.d (ints l))=none:=rfl
theorem Kb(l:gI):iI (ints l)=[ints l]:=rfl
theorem aba{e:Nat}{nl:Option Bool}{xs:List D}:uw (.d (.sl e nl xs))=some (e,xs):=rfl
theorem Xu{e id:Nat}{xs:List D}:uw (.own e id xs)=some (e,xs):=rfl
theorem Tz{e:Nat}{b:Bool}{xs:List D}:Ct (.d (.sl e (some b) xs))=some b:=rfl
theorem Ty{e:Nat}{xs:List D}:Ct (.d (.sl e none xs))=none:=rfl
theorem WM{e id:Nat}{xs:List D}:Ct (.own e id xs)=none:=rfl
theorem WK{e id off n:Nat}:Ct (.su e id off n)=some false:=rfl
theorem PB{cs:List D}:AV.cells (.d (.agg cs))=some (cs.map .d):=rfl
theorem L_{cs:List AV}:AV.cells (.agg cs)=some cs:=rfl
theorem PE{u:Value}:AV.cells (.d (.lit u))=some [.d (.lit u)]:=rfl
theorem PC:AV.cells (.d .any)=some [.d .any]:=rfl
theorem SH{e:Nat}{nl:Option Bool}{xs:List D}:AV.cells (.d (.sl e nl xs))=some [.d (.sl e nl xs)]:=rfl
theorem PI{e id:Nat}{xs:List D}:AV.cells (.own e id xs)=some [.own e id xs]:=rfl
theorem PJ{id off:Nat}:AV.cells (.ptr id off)=some [.ptr id off]:=rfl
theorem PF{e id off n:Nat}:AV.cells (.su e id off n)=some [.su e id off n]:=rfl
theorem SG{cs:List D}:AV.cells (.pv cs)=some [.pv cs]:=rfl
theorem SF{f:Nat}{a b:List AV}:AV.cells (.fn f a b)=some [.fn f a b]:=rfl
theorem LG{cs:List D}:AV.F4 (.d (.agg cs))=some (cs.map .d):=rfl
theorem JQ{cs:List AV}:AV.F4 (.agg cs)=some cs:=rfl
theorem Md{cs:List D}:iI (.agg cs)=cs:=rfl
theorem Me{u:Value}:iI (.lit u)=[.lit u]:=rfl
theorem PM{e:Nat}{nl:Option Bool}{xs:List D}:iI (.sl e nl xs)=[.sl e nl xs]:=rfl
theorem RG{k:IntKind}{n:Int}:lz (.d (.lit (.int k n)))=some n:=rfl
attribute [go_sem] ev Vz RV LU VA RU jB List.getD_cons_zero List.getD_cons_succ List.set_cons_zero List.set_cons_succ List.cons_append List.nil_append List.length_cons List.length_nil List.replicate List.map_cons List.map_nil sat sset jz iQ AV.ji AV.jY Ob.kill Ob.lA rO AV.fin AV.nD Gd AB Gc I1 zH xe ju AV.toD AV.adB AV.ae7 AV.ae7.AV.Nf tf qG KH KG MB aba Xu Tz Ty WM WK PB L_ PE PC SH PI PJ PF SG SF LG JQ Md Me PM RG Ub Mb JR Kb
inductive Out where
 |ok (x:AV) (env:List AV) (s:iM)
 |need (p:Prop) (o:Out)
 |br (b:Bool) (o1 o2:Out)
 |call (f:Nat) (args env:List AV) (s:iM)
 |UI (p:Prop) (o1 o2:Out)
 |bad
def runK(P:Program)(k0:Nat)(K:AV->List AV->iM->Prop):Out->Prop
 |.ok x env s=>K x env s
 |.need p o=>p/\runK P k0 K o
 |.br b o1 o2=>if b=true then runK P k0 K o1 else runK P k0 K o2
 |.call f args env s=>E3 P k0 f args env s K
 |.UI p o1 o2=>(p->runK P k0 K o1)/\runK P k0 K o2
 |.bad=>False
def Cb(id t:Nat)(cs env:List AV)(s:iM):Ob->Out
 |.dead=>.ok (.ptr id 0) env (sset s id (.obj t cs))
 |.obj _ _=>.ok (.ptr id 0) (AV.ji (iQ id) env) (sset (jz id s) id (.obj t (AV.ji (iQ id) cs)))
 |.tok _ _ _=>.ok (.ptr id 0) (AV.ji (iQ id) env) (sset (jz id s) id (.obj t (AV.ji (iQ id) cs)))
 |.lZ _ _ _ _=>.ok (.ptr id 0) (AV.ji (iQ id) env) (sset (jz id s) id (.obj t (AV.ji (iQ id) cs)))
 |.lI _ _ _ _=>.ok (.ptr id 0) (AV.ji (iQ id) env) (sset (jz id s) id (.obj t (AV.ji (iQ id) cs)))
 |.kT _ _ _=>.ok (.ptr id 0) (AV.ji (iQ id) env) (sset (jz id s) id (.obj t (AV.ji (iQ id) cs)))
def AW(id t e:Nat)(xs:List D)(env:List AV)(s:iM):Ob->Out
 |.dead=>.ok (.own e id xs) env (sset s id (.tok t e xs.length))
 |.obj _ _=>.ok (.own e id xs) (AV.ji (iQ id) env) (sset (jz id s) id (.tok t e xs.length))
 |.tok _ _ _=>.ok (.own e id xs) (AV.ji (iQ id) env) (sset (jz id s) id (.tok t e xs.length))
 |.lZ _ _ _ _=>.ok (.own e id xs) (AV.ji (iQ id) env) (sset (jz id s) id (.tok t e xs.length))
 |.lI _ _ _ _=>.ok (.own e id xs) (AV.ji (iQ id) env) (sset (jz id s) id (.tok t e xs.length))
 |.kT _ _ _=>.ok (.own e id xs) (AV.ji (iQ id) env) (sset (jz id s) id (.tok t e xs.length))
def DH(id t e:Nat)(xs:List D)(env:List AV)(s:iM):Ob->Out
 |.dead=>.ok (.kU e id xs.length) env (sset s id (.lZ t e xs.length (xs.flatMap iI)))
 |.obj _ _=>.ok (.kU e id xs.length) (AV.ji (iQ id) env) (sset (jz id s) id (.lZ t e xs.length (xs.flatMap iI)))
 |.tok _ _ _=>.ok (.kU e id xs.length) (AV.ji (iQ id) env) (sset (jz id s) id (.lZ t e xs.length (xs.flatMap iI)))
 |.lZ _ _ _ _=>.ok (.kU e id xs.length) (AV.ji (iQ id) env) (sset (jz id s) id (.lZ t e xs.length (xs.flatMap iI)))
 |.lI _ _ _ _=>.ok (.kU e id xs.length) (AV.ji (iQ id) env) (sset (jz id s) id (.lZ t e xs.length (xs.flatMap iI)))
 |.kT _ _ _=>.ok (.kU e id xs.length) (AV.ji (iQ id) env) (sset (jz id s) id (.lZ t e xs.length (xs.flatMap iI)))
def Je(id t e n:Nat)(cs env:List AV)(s:iM):Ob->Out
 |.dead=>.ok (.su e id 0 n) env (sset s id (.obj t cs))
 |.obj _ _=>.ok (.su e id 0 n) (AV.ji (iQ id) env) (sset (jz id s) id (.obj t cs))
 |.tok _ _ _=>.ok (.su e id 0 n) (AV.ji (iQ id) env) (sset (jz id s) id (.obj t cs))
 |.lZ _ _ _ _=>.ok (.su e id 0 n) (AV.ji (iQ id) env) (sset (jz id s) id (.obj t cs))
 |.lI _ _ _ _=>.ok (.su e id 0 n) (AV.ji (iQ id) env) (sset (jz id s) id (.obj t cs))
 |.kT _ _ _=>.ok (.su e id 0 n) (AV.ji (iQ id) env) (sset (jz id s) id (.obj t cs))
def OL(n off:Nat)(cs:List AV):Bool->AV
 |true=>AV.mk ((cs.drop off).take n)
 |false=>cs.getD off .iO
def adu(n:Nat)(cs:List D):Bool->D
 |true=>.agg (cs.take n)
 |false=>cs.headD .any
def MF(n:Nat)(ag:Bool)(off:Nat)(env:List AV)(s:iM):Ob->Out
 |.obj _ cs=>.need (off+n<=cs.length) (.ok (OL n off cs ag) env s)
 |_=>.bad
def adv(n off:Nat)(cs:List D):Bool->D
 |true=>.agg ((cs.drop off).take n)
 |false=>cs.getD off .any
def MG(n:Nat)(ag:Bool)(k off:Nat)(env:List AV)(s:iM):Ob->Out
 |.lZ _ _ m cs=>.need (m=k/\off+n<=cs.length) (.ok (.d (adv n off cs ag)) env s)
 |.kT _ m cs=>.need (m=k/\off+n<=cs.length/\ag=false/\n=1/\GJ (cs.getD off .iO)=false) (.ok (cs.getD off .iO) env s)
 |_=>.bad
def Il(n:Nat)(ag:Bool)(env:List AV)(s:iM):AV->Out
 |.ptr id off=>MF n ag off env s (sat s id)
 |.mC id k off=>MG n ag k off env s (sat s id)
 |.pv cs=>.need (n<=cs.length) (.ok (.d (adu n cs ag)) env s)
 |_=>.bad
def JC(n off id:Nat)(env:List AV)(s:iM):Ob->Option (List AV)->Out
 |.obj t cs,some xs=>.need (xs.length=n/\off+n<=cs.length) (.ok .iO env (sset s id (.obj t (cs.take off++xs++cs.drop (off+n)))))
 |_,_=>.bad
def FX(n k off id e m:Nat)(cs:List AV)(env:List AV)(s:iM):Option (List AV)->Out
 |some xs=>.need (m=k/\xs.length=n/\0<n/\off+n<=cs.length/\yd xs=true) (.ok .iO env (sset s id (.kT e m (cs.take off++xs++cs.drop (off+n)))))
 |none=>.bad
def FW(n k off id:Nat)(env:List AV)(s:iM)(X:Option (List AV)):Ob->Option D->Out
 |.lZ t e m cs,some d=>.need (m=k/\(iI d).length=n/\off+n<=cs.length) (.ok .iO env (sset s id (.lZ t e m (cs.take off++iI d++cs.drop (off+n)))))
 |.kT e m cs,_=>FX n k off id e m cs env s X
 |_,_=>.bad
def Ho(n:Nat)(env:List AV)(s:iM)(x:AV):AV->Out
 |.ptr id off=>JC n off id env s (sat s id) x.cells
 |.mC id k off=>FW n k off id env s x.cells (sat s id) x.fin
 |_=>.bad
def Vt(op:BinOp)(env:List AV)(s:iM):AV->AV->Out
 |.d (.lit (.int k a)),.d (.lit (.int k' b))=>.need (kOk op k k')<|match op with
  |.add=>.ok (.d (.lit (.int k (k.wrap (a+b))))) env s
  |.sub=>.ok (.d (.lit (.int k (k.wrap (a-b))))) env s
  |.mul=>.ok (.d (.lit (.int k (k.wrap (a*b))))) env s
  |.quo=>.need (b≠0) (.ok (.d (.lit (.int k (k.wrap (a.tdiv b))))) env s)
  |.rem=>.need (b≠0) (.ok (.d (.lit (.int k (a.tmod b)))) env s)
  |.eql=>.ok (.d (bD (a==b))) env s
  |.neq=>.ok (.d (bD (a != b))) env s
  |.lss=>.ok (.d (bD (decide (a<b)))) env s
  |.leq=>.ok (.d (bD (decide (a<=b)))) env s
  |.gtr=>.ok (.d (bD (decide (b<a)))) env s
  |.geq=>.ok (.d (bD (decide (b<=a)))) env s
  |.and=>.ok (.d (.lit (.int k (Vl k a b)))) env s
  |.or=>.ok (.d (.lit (.int k (orI k a b)))) env s
  |.xor=>.ok (.d (.lit (.int k (XV k a b)))) env s
  |.andNot=>.ok (.d (.lit (.int k (Nv k a b)))) env s
  |.shl=>.need (0<=b) (.ok (.d (.lit (.int k (Xq k a b)))) env s)
  |.shr=>.need (0<=b) (.ok (.d (.lit (.int k (Xr k a b)))) env s)
 |.d (.lit (.string a)),.d (.lit (.string b))=>match op with
  |.add=>.need (a.size+b.size<2^63) (.ok (.d (.lit (.string (a++b)))) env s)
  |.eql=>.ok (.d (bD (a.toList==b.toList))) env s
  |.neq=>.ok (.d (bD (!(a.toList==b.toList)))) env s
  |_=>.bad
 |_,_=>.bad
def RN(neg:Bool)(a b:Bool):Bool:=match neg with|true=>a != b|false=>a==b
def Nz(neg:Bool)(env:List AV)(s:iM):AV->AV->Out
 |.d (.lit (.bool a)),.d (.lit (.bool b))=>.ok (.d (bD (RN neg a b))) env s
 |_,_=>.bad
def Qm(neg b:Bool):Bool:=match neg with|true=>!b|false=>b
def Mj(neg:Bool)(env:List AV)(s:iM):Option (Nat×List D)->Out
 |some (_,xs)=>.UI (xs=[]) (.ok (.d (bD (Qm neg true))) env s) (.ok (.d (bD (Qm neg false))) env s)
 |none=>.bad
def IZ(neg:Bool)(env:List AV)(s:iM)(x:AV):Option Bool->Out
 |some b=>.ok (.d (bD (Qm neg b))) env s
 |none=>Mj neg env s (uw x)
def unO(env:List AV)(s:iM):UnOp->AV->Out
 |.not,.d (.lit (.bool b))=>.ok (.d (bD (!b))) env s
 |.neg,.d (.lit (.int k n))=>.ok (.d (.lit (.int k (k.wrap (0-n))))) env s
 |_,_=>.bad
def Oz(env:List AV)(s:iM)(a b:AV):AV->Out
 |.d (.lit (.bool t))=>.br t (.ok a env s) (.ok b env s)
 |_=>.bad
def ZH(env:List AV)(s:iM):AV->Out
 |.ptr id off=>.ok (.ptr id off) env s
 |.pv cs=>.ok (.pv cs) env s
 |.fn f a b=>.ok (.fn f a b) env s
 |.mC id m off=>.ok (.mC id m off) env s
 |_=>.bad
def adI(off:Nat)(env:List AV)(s:iM):AV->Out
 |.ptr id o=>.ok (.ptr id (o+off)) env s
 |.pv cs=>.ok (.pv (cs.drop off)) env s
 |.mC id k o=>.ok (.mC id k (o+off)) env s
 |_=>.bad
def Od(e:Nat)(n:Int)(env:List AV)(s:iM):Option (Nat×List D)->Out
 |some (e',xs)=>.need (e'=e/\0<=n/\n<xs.length) (.ok (.pv (iI (xs.getD n.toNat .any))) env s)
 |none=>.bad
def GL(e:Nat)(n:Int)(env:List AV)(s:iM):AV->Out
 |.su e' id off len=>.need (e'=e/\0<=n/\n<len) (.ok (.ptr id (off+n.toNat*e)) env s)
 |.kU e' id m=>.need (e'=e/\0<=n/\n<m) (.ok (.mC id m (n.toNat*e)) env s)
 |x=>Od e n env s (uw x)
def Wp(e:Nat)(env:List AV)(s:iM)(x:AV):Option Int->Out
 |some n=>GL e n env s x
 |none=>.bad
def Yl(e n:Nat)(env:List AV)(s:iM):Option Int->AV->Out
 |some j,.ptr id off=>.need (0<=j/\j<n) (.ok (.ptr id (off+j.toNat*e)) env s)
 |some j,.pv cs=>.need (0<=j/\j<n) (.ok (.pv (cs.drop (j.toNat*e))) env s)
 |_,_=>.bad
def Tb(env:List AV)(s:iM):Option (Nat×List D)->Out
 |some (_,xs)=>.ok (.d (iD xs.length)) env s
 |none=>.bad
def MD(env:List AV)(s:iM):AV->Out
 |.su _ _ _ n=>.ok (.d (iD n)) env s
 |.kU _ _ n=>.ok (.d (iD n)) env s
 |x=>Tb env s (uw x)
def OT(x:AV)(e:Nat)(env:List AV)(s:iM)(lo:Option Int)(hi:Option Operand):Option (Nat×List D)->Out
 |some (e',xs)=>match lo,Gd env xs.length hi with
  |some l,some h=>.need ((xs=[]\/e'=e)/\0<=l/\l<=h/\h<=xs.length) (.ok (.d (.sl e' (Ct x) ((xs.take h.toNat).drop l.toNat))) env s)
  |_,_=>.bad
 |none=>.bad
def adx(e:Nat)(env:List AV)(s:iM):Option Operand->Option Int->Option Int->Option (Nat×List D)->Out
 |none,some h,some m,some (e',xs)=>.need ((xs=[]\/e'=e)/\h=m/\0<=h/\h<=xs.length) (.ok (.Ey e' (xs.take h.toNat)) env s)
 |_,_,_,_=>.bad
def hiO(env:List AV):Option Operand->Option Int
 |some h=>lz (ev env h)
 |none=>none
def QA(x:AV)(e:Nat)(env:List AV)(s:iM)(lo hi:Option Operand):Option Operand->Out
 |none=>OT x e env s (Gd env 0 lo) hi (uw x)
 |some m=>adx e env s lo (hiO env hi) (lz (ev env m)) (uw x)
def Tv(t:Nat)(env:List AV)(s:iM):AV->Out
 |.d (.agg [])=>.ok (.d (.lit (.iface t (.agg #[])))) env s
 |_=>.bad
def M4(e k0 j n:Nat)(h:Int)(env:List AV)(s:iM):Ob->Out
 |.lZ t e2 m cs=>.need (e2=e/\n=m/\0<=h/\h<=m/\k0<=j) (.ok (.kU e j (PX h.toNat m)) (AV.ji (iQ j) env) (sset (jz j s) j (.lZ t e (PX h.toNat m) (Wd h.toNat e cs))))
 |_=>.bad
def Uc(e k0:Nat)(env:List AV)(s:iM):AV->Option Int->Out
 |.kU e' j n,some h=>.need (e'=e) (M4 e k0 j n h env s (sat s j))
 |_,_=>.bad
def OR(e n:Nat)(env:List AV)(s:iM):AV->Option Operand->Option Operand->Option Operand->Out
 |.ptr id off,none,none,none=>.ok (.su e id off n) env s
 |.ptr id off,none,some h,none=>match lz (ev env h)with
  |some h=>.need (0<=h/\h<=n) (.ok (.su e id off h.toNat) env s)
  |none=>.bad
 |_,_,_,_=>.bad
def Nx(t e bytes:Nat)(j:Nat)(xs ys:List D)(env:List AV)(s:iM)(ob:Ob):Out:=
 .need (ob=.tok t e xs.length/\(xs.length+ys.length)*bytes<=2^47) (.ok (.own e j (xs++ys)) env (sset s j (.tok t e (xs.length+ys.length))))
def RK(t e bytes:Nat)(j n:Nat)(ys:List D)(env:List AV)(s:iM):Ob->Out
 |.lZ t' e2 m cs=>.need (t'=t/\e2=e/\m=n/\(n+ys.length)*bytes<=2^47) (.ok (.kU e j (n+ys.length)) env (sset s j (.lZ t e (n+ys.length) (cs++ys.flatMap iI))))
 |_=>.bad
def JU(id t e bytes k0:Nat)(e2:Nat)(ys:List D)(env:List AV)(s:iM):AV->Out
 |.own e' j xs=>.need ((ys=[]\/e2=e)/\e'=e) (Nx t e bytes j xs ys env s (sat s j))
 |.kU e' j n=>.need ((ys=[]\/e2=e)/\e'=e) (RK t e bytes j n ys env s (sat s j))
 |.d (.sl _ (some true) [])=>.need ((ys=[]\/e2=e)/\ys.length*bytes<=2^47/\k0<=id) (AW id t e ys env s (sat s id))
 |.Ey e' xs=>.need ((ys=[]\/e2=e)/\e'=e/\(xs.length+ys.length)*bytes<=2^47) (.ok (.d (.sl e none (xs++ys))) env s)
 |_=>.bad
def Pb(id t e bytes k0:Nat)(x:AV)(env:List AV)(s:iM):Option (Nat×List D)->Out
 |some (e2,ys)=>JU id t e bytes k0 e2 ys env s x
 |none=>.bad
def Ek(id t e bytes k0:Nat)(e2:Nat)(ys:List D)(env:List AV)(s:iM):AV->Out
 |.d (.sl _ (some true) [])=>.need ((ys=[]\/e2=e)/\ys.length*bytes<=2^47/\k0<=id) (DH id t e ys env s (sat s id))
 |x=>JU id t e bytes k0 e2 ys env s x
def F_(id t e bytes k0:Nat)(x:AV)(env:List AV)(s:iM):Option (Nat×List D)->Out
 |some (e2,ys)=>Ek id t e bytes k0 e2 ys env s x
 |none=>.bad
def abt(i:Nat)(env:List AV)(s:iM):AV->Out
 |.kZ cs=>.need (i<cs.length) (.ok (cs.getD i .iO) env s)
 |_=>.bad
def FM(mx:Bool)(env:List AV)(s:iM):AV->AV->Out
 |.d (.lit (.int k a)),.d (.lit (.int k' b))=>.need (k=k') (.ok (.d (.lit (.int k (match mx with|true=>if b>a then b else a|false=>if b<a then b else a)))) env s)
 |_,_=>.bad
def Pe(id t k0:Nat)(env:List AV)(s:iM):Option (List AV)->Out
 |some cs=>.need (k0<=id) (Cb id t cs env s (sat s id))
 |none=>.bad
def RR(env:List AV)(s:iM):Option (List AV)->Out
 |some cs=>.ok (AV.mk cs) env s
 |none=>.bad
def Vx(id t e k0:Nat)(env:List AV)(s:iM):Option (List D)->Out
 |some ds=>.need ((∀d∈ds,(iI d).length=e)/\k0<=id) (AW id t e ds env s (sat s id))
 |none=>.bad
def WJ(id t e n:Nat)(cs env:List AV)(s:iM):Ob->Out
 |.dead=>.ok (.su e id 0 n) env (sset s id (.obj t cs))
 |_=>.bad
def Jf(id t e:Nat)(ds:List D)(cs env:List AV)(s:iM):Ob->Out
 |.dead=>.ok (.own e id ds) env (sset s id (.lI t e ds.length cs))
 |.obj _ _=>.ok (.own e id ds) (AV.ji (iQ id) env) (sset (jz id s) id (.lI t e ds.length (AV.ji (iQ id) cs)))
 |.tok _ _ _=>.ok (.own e id ds) (AV.ji (iQ id) env) (sset (jz id s) id (.lI t e ds.length (AV.ji (iQ id) cs)))
 |.lZ _ _ _ _=>.ok (.own e id ds) (AV.ji (iQ id) env) (sset (jz id s) id (.lI t e ds.length (AV.ji (iQ id) cs)))
 |.lI _ _ _ _=>.ok (.own e id ds) (AV.ji (iQ id) env) (sset (jz id s) id (.lI t e ds.length (AV.ji (iQ id) cs)))
 |.kT _ _ _=>.ok (.own e id ds) (AV.ji (iQ id) env) (sset (jz id s) id (.lI t e ds.length (AV.ji (iQ id) cs)))
def NH(id t e k0:Nat)(env:List AV)(s:iM):Option (List D)->Option (List AV)->Out
 |some ds,some cs=>.need ((∀d∈ds,(iI d).length=e)/\yd cs=true/\k0<=id) (Jf id t e ds cs env s (sat s id))
 |_,_=>.bad
def NF(id t e k0:Nat)(env:List AV)(s:iM):Option (List D)->Out
 |some ds=>.need ((∀d∈ds,(iI d).length=e)/\k0<=id) (DH id t e ds env s (sat s id))
 |none=>.bad
def Oj(id t e bytes k0:Nat)(z:List D)(env:List AV)(s:iM):Bool->Option Int->Option Int->Out
 |true,some l,some c=>.need (0<=l/\l<=c/\bytes*c<=2^48/\c<2^62/\k0<=id) (AW id t e [] env s (sat s id))
 |false,some l,some c=>.need (0<=l/\l<=c/\bytes*c<=2^48/\c<2^62/\k0<=id) (Je id t e l.toNat ((List.replicate l.toNat (z.map .d)).flatten) env s (sat s id))
 |_,_,_=>.bad
def MP(id e bytes k0:Nat)(z:List D)(env:List AV)(s:iM):Bool->Option Int->Option Int->Out
 |false,some l,some c=>.need (0<e/\0<=l/\l<=c/\bytes*c<=2^48/\c<2^62/\k0<=id/\(sat s id).lA=true) (.ok (.kU e id l.toNat) env (sset s id (.kT e l.toNat ((List.replicate l.toNat (z.map .d)).flatten))))
 |_,_,_=>.bad
def L9(P:Program)(args env:List AV)(s:iM):AV->Out
 |.fn f first cap=>.need (enters P f=true) (.call f (first++args++cap) env s)
 |_=>.bad
noncomputable def mo(P:Program)(k0:Nat)(env:List AV)(s:iM):vJ->Out
 |.mv x=>.ok (ev env x) env s
 |.pick c a b=>Oz env s (ev env a) (ev env b) (ev env c)
 |.alloc id t z=>.need (k0<=id) (Cb id t (z.map .d) env s (sat s id))
 |.box id t x=>Pe id t k0 env s (ev env x).cells
 |.Fw id _ t x=>Pe id t k0 env s (ev env x).cells
 |.build z ps=>RR env s (rO env (z.map .d) ps)
 |.nY id t e xs=>Vx id t e k0 env s (AV.nD (xs.map (ev env)))
 |.Dj id t e xs=>NF id t e k0 env s (AV.nD (xs.map (ev env)))
 |.Fx id t e xs=>NH id t e k0 env s (AV.nD (xs.map (ev env))) (AV.flat e (xs.map (ev env)))
 |.load n ag p=>Il n ag env s (ev env p)
 |.store n p x=>Ho n env s (ev env x) (ev env p)
 |.pY x=>ZH env s (ev env x)
 |.bin op x y=>Vt op env s (ev env x) (ev env y)
 |.Fv neg x y=>Nz neg env s (ev env x) (ev env y)
 |.yo neg x=>IZ neg env s (ev env x) (Ct (ev env x))
 |.un op x=>unO env s op (ev env x)
 |.EI f first cap=>.ok (.fn f (first.map (ev env)) (cap.map (ev env))) env s
 |.BI id _ e bytes z tok len cap=>MP id e bytes k0 z env s tok (lz (ev env len)) (lz (ev env cap))
 |.Cr id t e bytes z tok len cap=>Oj id t e bytes k0 z env s tok (lz (ev env len)) (lz (ev env cap))
 |.slc x e lo hi mx=>QA (ev env x) e env s lo hi mx
 |.Jt p e n lo hi mx=>OR e n env s (ev env p) lo hi mx
 |.Ve off p=>adI off env s (ev env p)
 |.xR e x i=>Wp e env s (ev env x) (lz (ev env i))
 |.AO e n p i=>Yl e n env s (lz (ev env i)) (ev env p)
 |.len x=>MD env s (ev env x)
 |.app id t e bytes x y=>Pb id t e bytes k0 (ev env x) env s (uw (ev env y))
 |.F9 id t e bytes x y=>F_ id t e bytes k0 (ev env x) env s (uw (ev env y))
 |.mB f args=>.call f (args.map (ev env)) env s
 |.pJ g args=>L9 P (args.map (ev env)) env s (ev env g)
 |.ext x i=>abt i env s (ev env x)
 |.min x y=>FM false env s (ev env x) (ev env y)
 |.Hz _=>.bad
 |.Hg x e y=>Uc e k0 env s (ev env x) (lz (ev env y))
 |.DG t x=>Tv t env s (ev env x)
 |.dead=>.bad
theorem TR(ρ:Nat->Option Nat):∀z:List D,AV.ji ρ (z.map .d)=z.map .d
 |[]=>rfl
 |x::xs=>by simp only[aK,AV.ji,AV.jY,TR ρ xs]
theorem DT(ρ:Nat->Option Nat):∀z:List AV,AV.ji ρ z=z.map (AV.jY ρ)
 |[]=>rfl
 |x::xs=>by simp only[aK,AV.ji,DT ρ xs]
theorem JW{P:Program}{k0 id t e bytes:Nat}{x y:AV}{env:List AV}{s:iM}{K:AV->List AV->iM->Prop}(h:runK P k0 K (Pb id t e bytes k0 x env s (uw y))):
 Pa id t e bytes k0 x y env s K:=by
 unfold Pa;cases hs:uw y with
 |none=>rw[hs]at h;exact h.elim
 |some p=>
  obtain⟨e2,ys⟩:=p;rw[hs]at h;simp only[Pb,JU]at h⊢;split at h
  ·simp only[runK,Nx]at h;exact⟨h.1.1,h.1.2,h.2.1.1,h.2.1.2,h.2.2⟩
  ·rename_i e' j n;simp only[runK]at h;refine⟨h.1.1,h.1.2,?_⟩;have h:=h.2;cases hq:sat s j<;>simp only[hq,RK,runK]at h⊢
   exact⟨h.1.1,h.1.2.1,h.1.2.2.1,h.1.2.2.2,h.2⟩
  ·simp only[runK]at h;refine⟨h.1.1,h.1.2.1,h.1.2.2,?_⟩;have h:=h.2;cases hq:sat s id<;>simp only[hq,AW,runK,Ob.lA,aA,aq,aE]at h⊢<;>exact h
  ·simp only[runK]at h;exact⟨h.1.1,h.1.2.1,h.1.2.2,h.2⟩
  ·exact h.elim
theorem Pd{P:Program}{k0 id t e bytes:Nat}{x y:AV}{env:List AV}{s:iM}{K:AV->List AV->iM->Prop}(h:runK P k0 K (F_ id t e bytes k0 x env s (uw y))):
 JX id t e bytes k0 x y env s K:=by
 unfold JX;split
 ·rename_i e2 ys e4 hs;rw[hs]at h;simp only[F_,Ek,runK]at h;refine⟨h.1.1,h.1.2.1,?_⟩;unfold zm;refine⟨h.1.2.2,?_⟩;have h:=h.2;cases hq:sat s id<;>simp only[hq,DH,runK,Ob.lA,aA,aq,aE]at h⊢<;>exact h
 ·rename_i hn;refine JW (P:=P) ?_;cases hs:uw y with
  |none=>rw[hs]at h;exact h
  |some p=>
   obtain⟨e2,ys⟩:=p;rw[hs]at h;simp only[F_]at h;unfold Ek at h;split at h
   ·rename_i e4;exact absurd rfl (hn e2 ys e4 hs)
   ·exact h
theorem Lr{P:Program}{k0:Nat}{m:vJ}{env:List AV}{s:iM}{K:AV->List AV->iM->Prop}(h:runK P k0 K (mo P k0 env s m)):uF P k0 m env s K:=by
 cases m with
 |mv x=>exact h
 |pick c a b=>
  simp only[mo,Oz,uF]at h⊢;split at h
  ·rename_i t ht;try rw[ht]
   simpa[Br,runK]using h
  ·exact h.elim
 |alloc id t z=>
  simp only[mo,runK,uF,zm]at h⊢;refine⟨h.1,?_⟩;cases hs:sat s id<;>simp only[hs,Cb,runK,Ob.lA,aA,aq,aE,TR]at h⊢<;>exact h.2
 |Fw id d t x=>
  simp only[mo,uF]at h⊢;cases hc:(ev env x).cells with
  |none=>rw[hc]at h;exact h.elim
  |some cs=>
   rw[hc]at h;simp only[Pe,runK,zm]at h⊢;refine⟨h.1,?_⟩;cases hs:sat s id<;>simp only[hs,Cb,runK,Ob.lA,aA,aq,aE,DT]at h⊢
   ·simpa using h.2
   all_goals exact h.2
 |box id t x=>
  simp only[mo,uF]at h⊢;cases hc:(ev env x).cells with
  |none=>rw[hc]at h;exact h.elim
  |some cs=>
   rw[hc]at h;simp only[Pe,runK,zm]at h⊢;refine⟨h.1,?_⟩;cases hs:sat s id<;>simp only[hs,Cb,runK,Ob.lA,aA,aq,aE,DT]at h⊢
   ·simpa using h.2
   all_goals exact h.2
 |build z ps=>
  simp only[mo,uF]at h⊢;cases hc:rO env (z.map .d) ps with
  |none=>rw[hc]at h;exact h.elim
  |some cs=>rw[hc]at h;exact h
 |nY id t e xs=>
  simp only[mo,uF]at h⊢;cases hc:AV.nD (xs.map (ev env))with
  |none=>rw[hc]at h;exact h.elim
  |some ds=>
   rw[hc]at h;simp only[Vx,runK,zm]at h⊢;refine⟨h.1.1,h.1.2,?_⟩;cases hs:sat s id<;>simp only[hs,AW,runK,Ob.lA,aA,aq,aE]at h⊢<;>exact h.2
 |Dj id t e xs=>
  simp only[mo,uF]at h⊢;cases hc:AV.nD (xs.map (ev env))with
  |none=>rw[hc]at h;exact h.elim
  |some ds=>
   rw[hc]at h;simp only[NF,runK,zm]at h⊢;refine⟨h.1.1,h.1.2,?_⟩;cases hs:sat s id<;>simp only[hs,DH,runK,Ob.lA,aA,aq,aE]at h⊢<;>exact h.2
 |load n ag p=>
  simp only[mo,uF,vD]at h⊢;cases hp:ev env p with
  |ptr id off=>
   rw[hp]at h;simp only[Il]at h⊢;cases hs:sat s id<;>rw[hs]at h<;>simp only[MF,runK]at h⊢
   cases ag<;>exact h
  |pv cs=>rw[hp]at h;simp only[Il,runK]at h⊢;cases ag<;>exact h
  |mC id kk off=>
   rw[hp]at h;simp only[Il]at h⊢;cases hs:sat s id<;>rw[hs]at h<;>simp only[MG,runK]at h⊢
   ·cases ag<;>exact⟨h.1.1,h.1.2,h.2⟩
   ·exact⟨h.1.1,h.1.2.1,h.1.2.2.1,h.1.2.2.2.1,h.1.2.2.2.2,h.2⟩
  |_=>rw[hp]at h;exact h.elim
 |store n p x=>
  simp only[mo,uF,JA]at h⊢;cases hp:ev env p with
  |ptr id off=>
   rw[hp]at h;simp only[Ho]at h⊢;cases hs:sat s id<;>rw[hs]at h<;>cases hc:(ev env x).cells<;>rw[hc]at h<;>simp only[JC,runK]at h⊢
   exact⟨h.1.1,h.1.2,h.2⟩
  |mC id kk off=>
   rw[hp]at h;simp only[Ho]at h⊢;cases hs:sat s id<;>rw[hs]at h<;>simp only at h⊢
   case lZ=>cases hc:(ev env x).fin<;>rw[hc]at h<;>simp only[FW,runK]at h⊢<;>exact⟨h.1.1,h.1.2.1,h.1.2.2,h.2⟩
   case kT e1 m1 cs1=>
    have h:runK P k0 K (FX n kk off id e1 m1 cs1 env s (ev env x).cells):=by cases hc:(ev env x).fin<;>rw[hc]at h<;>exact h
    cases hc:(ev env x).cells<;>rw[hc]at h<;>simp only[FX,runK]at h⊢
    exact⟨h.1.1,h.1.2.1,h.1.2.2.1,h.1.2.2.2.1,h.1.2.2.2.2,h.2⟩
   all_goals(cases hc:(ev env x).fin<;>rw[hc]at h<;>simp only[FW,runK]at h)
  |_=>rw[hp]at h;exact h.elim
 |pY x=>
  simp only[mo,uF]at h⊢;cases hp:ev env x<;>rw[hp]at h<;>first|exact h|exact h.elim
 |bin op x y=>
  simp only[mo,uF,Vs,Vt]at h⊢;split at h
  ·rename_i k a k' b h1 h2;try rw[h1,h2]
   simp only[runK]at h;refine⟨h.1,?_⟩;have h:=h.2;cases op<;>exact h
  ·rename_i a b h1 h2;try rw[h1,h2]
   cases op<;>first|exact h|exact h.elim
  ·exact h.elim
 |Fv neg x y=>
  simp only[mo,uF,Nz]at h⊢;split at h
  ·rename_i a b h1 h2;try rw[h1,h2]
   cases neg<;>exact h
  ·exact h.elim
 |yo neg x=>
  simp only[mo,uF]at h⊢;cases hc:Ct (ev env x)with
  |none=>
   rw[hc]at h;simp only[IZ]at h;cases hs:uw (ev env x)with
   |none=>rw[hs]at h;exact h.elim
   |some p=>rw[hs]at h;cases neg<;>exact h
  |some b=>rw[hc]at h;cases neg<;>exact h
 |un op x=>
  simp only[mo,uF,unO]at h⊢;split at h
  ·rename_i b h1;(try rw[h1]);exact h
  ·rename_i k n h1;(try rw[h1]);exact h
  ·exact h.elim
 |EI f first cap=>exact h
 |BI id t e bytes z tok len cap=>
  simp only[mo,uF]at h⊢;generalize lz (ev env len)=X at h⊢;generalize lz (ev env cap)=Y at h⊢;cases tok<;>cases X<;>cases Y<;>simp only[MP,runK]at h⊢<;>first
   |exact⟨trivial,h.1.1,h.1.2.1,h.1.2.2.1,h.1.2.2.2.1,h.1.2.2.2.2.1,h.1.2.2.2.2.2.1,h.1.2.2.2.2.2.2,h.2⟩
   |exact h
 |Cr id t e bytes z tok len cap=>
  simp only[mo,uF]at h⊢;cases h1:lz (ev env len)<;>cases h2:lz (ev env cap)<;>cases tok<;>rw[h1,h2]at h<;>simp only[Oj,runK]at h⊢
  ·obtain⟨⟨a1,a2,a3,a4,a5⟩,h⟩:=h;refine⟨a1,a2,a3,a4,a5,?_⟩;cases hs:sat s id<;>simp only[hs,Je,runK,Ob.lA,aA,aq,aE]at h⊢<;>exact h
  ·obtain⟨⟨a1,a2,a3,a4,a5⟩,h⟩:=h;refine⟨a1,a2,a3,a4,a5,?_⟩;cases hs:sat s id<;>simp only[hs,AW,runK,Ob.lA,aA,aq,aE]at h⊢<;>exact h
 |slc x e lo hi mx=>
  simp only[mo,uF]at h⊢;cases mx with
  |some m=>
   simp only[QA]at h;cases lo with
   |some _=>cases hi<;>exact h.elim
   |none=>
    cases hi with
    |none=>exact h.elim
    |some hh=>
     simp only[hiO]at h;cases h1:lz (ev env hh)with
     |none=>rw[h1]at h;exact h.elim
     |some hv=>
      cases h2:lz (ev env m)with
      |none=>rw[h1,h2]at h;exact h.elim
      |some mv=>
       cases hs:uw (ev env x)with
       |none=>rw[h1,h2,hs]at h;exact h.elim
       |some p=>
        obtain⟨e',xs⟩:=p;rw[h1,h2,hs]at h;simp only[adx,runK]at h;obtain⟨⟨k1,rfl,k2,k3⟩,k4⟩:=h;exact⟨rfl,hh,hv,rfl,h1,h2,k1,k2,k3,k4⟩
  |none=>
   simp only[QA]at h;cases hs:uw (ev env x)with
   |none=>rw[hs]at h;exact h.elim
   |some p=>
    obtain⟨e',xs⟩:=p;rw[hs]at h;simp only[OT]at h⊢;split at h
    ·rename_i l hh h1 h2;simp only[runK]at h;refine⟨h.1.1,?_⟩;unfold Xw;rw[hs,h1,h2];exact⟨h.1.2.1,h.1.2.2.1,h.1.2.2.2,h.2⟩
    ·exact h.elim
 |Jt p e n lo hi mx=>
  simp only[mo,uF,OR]at h⊢;split at h
  ·rename_i id off h1;(try rw[h1]);exact h
  ·rename_i id off hh h1;try rw[h1]
   split at h
   ·rename_i h' h2;(try simp only[h2]);exact⟨h.1.1,h.1.2,h.2⟩
   ·exact h.elim
  ·exact h.elim
 |Ve off p=>
  simp only[mo,uF]at h⊢;cases hp:ev env p<;>rw[hp]at h<;>first|exact h|exact h.elim
 |xR e x i=>
  simp only[mo,uF,Wn]at h⊢;cases hi:lz (ev env i)with
  |none=>rw[hi]at h;exact h.elim
  |some n=>
   rw[hi]at h;simp only[Wp]at h⊢;cases hx:ev env x<;>rw[hx]at h<;>simp only[GL]at h⊢<;>first
    |exact⟨h.1.1,h.1.2.1,h.1.2.2,h.2⟩
    |(
     split
     ·rename_i e' xs hs;rw[hs]at h;exact⟨h.1.1,h.1.2.1,h.1.2.2,h.2⟩
     ·rename_i hs;rw[hs]at h;exact h.elim)
 |AO e n p i=>
  simp only[mo,uF]at h⊢;cases hi:lz (ev env i)<;>cases hp:ev env p<;>rw[hi,hp]at h<;>first|exact⟨h.1.1,h.1.2,h.2⟩|exact h.elim
 |len x=>
  simp only[mo,uF]at h⊢;cases hx:ev env x<;>rw[hx]at h<;>simp only[MD]at h⊢<;>first
   |exact h
   |(
    split
    ·rename_i e' xs hs;rw[hs]at h;exact h
    ·rename_i hs;rw[hs]at h;exact h.elim)
 |app id t e bytes x y=>exact JW h
 |Fx id t e xs=>
  simp only[mo,uF,RP]at h⊢;generalize AV.nD (xs.map (ev env))=X at h⊢;generalize AV.flat e (xs.map (ev env))=Y at h⊢;unfold NH at h;split at h
  ·simp only[runK]at h;refine⟨h.1.1,h.1.2.1,h.1.2.2,?_⟩;have h:=h.2;cases hs:sat s id<;>simp only[hs,Jf,runK,Ob.lA,aA,aq,aE,DT]at h⊢<;>first|exact h|simpa using h
  ·exact h.elim
 |F9 id t e bytes x y=>exact Pd h
 |mB f args=>exact h
 |pJ g args=>
  simp only[mo,uF,L9]at h⊢;split at h
  ·rename_i f first cap h1;(try rw[h1]);exact h
  ·exact h.elim
 |ext x i=>
  simp only[mo,uF,abt]at h⊢;split at h
  ·rename_i cs h1;(try rw[h1]);exact h
  ·exact h.elim
 |min x y=>
  simp only[mo,uF,FM]at h⊢;split at h
  ·rename_i k a k' b h1 h2;(try rw[h1,h2]);exact h
  ·exact h.elim
 |Hz x=>exact h
 |DG t x=>
  simp only[mo,uF]at h⊢;generalize ev env x=X at h⊢;unfold Tv at h;split at h
  ·exact⟨rfl,h⟩
  ·exact h.elim
 |Hg x e y=>
  simp only[mo,uF]at h⊢;generalize ev env x=X at h⊢;generalize lz (ev env y)=Y at h⊢;cases X<;>cases Y<;>simp only[Uc]at h⊢<;>first
   |exact h.elim
   |(rename_i e1 j n hv;simp only[runK]at h;obtain⟨he,h⟩:=h;unfold Xe;cases hs:sat s j<;>rw[hs]at h<;>simp only[M4,runK]at h⊢<;>first|exact h.elim|exact⟨he,h.1.1,h.1.2.1,h.1.2.2.1,h.1.2.2.2.1,h.1.2.2.2.2,h.2⟩)
 |dead=>exact h
def mA(P:Program)(k0 f:Nat)(args env:List AV)(s:iM)(d:Option Nat)(R:List AV->iM->Prop):Prop:=
 E3 P k0 f args env s fun x env s=>R (jB d env x) s
def nN(P:Program)(k0:Nat)(R:List AV->iM->Prop)(d:Option Nat):Out->Prop
 |.ok x env s=>R (jB d env x) s
 |.need p o=>p/\nN P k0 R d o
 |.br b o1 o2=>if b=true then nN P k0 R d o1 else nN P k0 R d o2
 |.call f args env s=>mA P k0 f args env s d R
 |.UI p o1 o2=>(p->nN P k0 R d o1)/\nN P k0 R d o2
 |.bad=>False
def D_(P:Program)(k0:Nat)(R:List AV->iM->Prop)(d:Option Nat)(b:Bool)(o1 o2:Out):Prop:=
 if b=true then nN P k0 R d o1 else nN P k0 R d o2
theorem XS{P:Program}{k0:Nat}{R:List AV->iM->Prop}{d:Option Nat}{b:Bool}{o1 o2:Out}:nN P k0 R d (.br b o1 o2)=D_ P k0 R d b o1 o2:=(rfl)
theorem abl{P:Program}{k0:Nat}{R:List AV->iM->Prop}{d:Option Nat}{o1 o2:Out}:D_ P k0 R d true o1 o2=nN P k0 R d o1:=by simp[D_]
theorem abk{P:Program}{k0:Nat}{R:List AV->iM->Prop}{d:Option Nat}{o1 o2:Out}:D_ P k0 R d false o1 o2=nN P k0 R d o2:=by simp[D_]
def zk(P:Program)(k0:Nat)(K:List AV->iM->Prop):List jo->List AV->iM->Prop
 |[],env,s=>K env s
 |m::ms,env,s=>match m.guard with
  |none=>nN P k0 (zk P k0 K ms) m.dst (mo P k0 env s m.op)
  |some (g,want)=>match g with
   |none=>zk P k0 K ms (jB m.dst env (.kZ [])) s
   |some d=>match env.getD d .iO with
    |.d (.lit (.bool b))=>if b=want then nN P k0 (zk P k0 K ms) m.dst (mo P k0 env s m.op)else zk P k0 K ms (jB m.dst env (.kZ [])) s
    |.kZ []=>zk P k0 K ms (jB m.dst env (.kZ [])) s
    |_=>False
def BZ(P:Program)(k0:Nat)(K:List AV->iM->Prop)(b want:Bool)(m:vJ)(d:Option Nat)(ms:List jo)(env:List AV)(s:iM):Prop:=
 if b=want then nN P k0 (zk P k0 K ms) d (mo P k0 env s m)else zk P k0 K ms (jB d env (.kZ [])) s
section
variable{P:Program}{k0:Nat}{K:List AV->iM->Prop}{b want:Bool}{m:vJ}{d:Option Nat}{ms:List jo}{env:List AV}{s:iM}
theorem ZX:BZ P k0 K true true m d ms env s=nN P k0 (zk P k0 K ms) d (mo P k0 env s m):=by simp[BZ]
theorem ZU:BZ P k0 K false false m d ms env s=nN P k0 (zk P k0 K ms) d (mo P k0 env s m):=by simp[BZ]
theorem ZW:BZ P k0 K true false m d ms env s=zk P k0 K ms (jB d env (.kZ [])) s:=by simp[BZ]
theorem ZV:BZ P k0 K false true m d ms env s=zk P k0 K ms (jB d env (.kZ [])) s:=by simp[BZ]
def adF(P:Program)(k0:Nat)(K:List AV->iM->Prop)(want:Bool)(m:vJ)(d:Option Nat)(ms:List jo)(env:List AV)(s:iM):AV->Prop
 |.d (.lit (.bool b))=>BZ P k0 K b want m d ms env s
 |.kZ []=>zk P k0 K ms (jB d env (.kZ [])) s
 |_=>False
theorem XR:zk P k0 K [] env s=K env s:=(rfl)
theorem QX:zk P k0 K (⟨d,m,none⟩::ms) env s=nN P k0 (zk P k0 K ms) d (mo P k0 env s m):=(rfl)
theorem QW{g:Nat}:zk P k0 K (⟨d,m,some (some g,want)⟩::ms) env s=adF P k0 K want m d ms env s (env.getD g .iO):=by
 simp only[zk];split
 ·rename_i b h;rw[h];rfl
 ·rename_i h;rw[h];rfl
 ·rename_i h h';unfold adF;split
  ·rename_i b h2;exact absurd h2 (h b)
  ·rename_i h2;exact absurd h2 h'
  ·rfl
theorem XT{R:List AV->iM->Prop}{x:AV}:nN P k0 R d (.ok x env s)=R (jB d env x) s:=(rfl)
theorem Q0{R:List AV->iM->Prop}{p:Prop}{o:Out}:nN P k0 R d (.need p o)=(p/\nN P k0 R d o):=(rfl)
def vL(P:Program)(k0:Nat)(R:List AV->iM->Prop)(d:Option Nat)(p:Prop)(o1 o2:Out):Prop:=(p->nN P k0 R d o1)/\nN P k0 R d o2
theorem vL.of{P:Program}{k0:Nat}{R:List AV->iM->Prop}{d:Option Nat}{p:Prop}{o1 o2:Out}(h1:p->nN P k0 R d o1)(h2:nN P k0 R d o2):vL P k0 R d p o1 o2:=⟨h1,h2⟩
theorem UF{R:List AV->iM->Prop}{p:Prop}{o1 o2:Out}:nN P k0 R d (.UI p o1 o2)=vL P k0 R d p o1 o2:=(rfl)
theorem QZ{R:List AV->iM->Prop}{f:Nat}{args:List AV}:nN P k0 R d (.call f args env s)=mA P k0 f args env s d R:=(rfl)
end
theorem yN{P:Program}{k0:Nat}{R:List AV->iM->Prop}{d:Option Nat}{K:AV->List AV->iM->Prop}(hK:∀x env s,R (jB d env x) s->K x env s):
 ∀{o:Out},nN P k0 R d o->runK P k0 K o
 |.ok x env s=>fun h=>hK x env s h
 |.need p o=>fun h=>⟨h.1,yN hK h.2⟩
 |.br b o1 o2=>fun h=>by
  cases b with
  |true=>simp only[nN,aA]at h;simp only[runK,aA];exact yN hK h
  |false=>simp only[nN,aq,aE]at h;simp only[runK,aq,aE];exact yN hK h
 |.call _ _ _ _=>fun h=>L7 (K:=fun x env s=>R (jB d env x) s) h fun x env s=>hK x env s
 |.UI p o1 o2=>fun h=>⟨fun hp=>yN hK (h.1 hp),yN hK h.2⟩
 |.bad=>fun h=>h
theorem qC{P:Program}{k0:Nat}{K:List AV->iM->Prop}:∀{ms:List jo}{env:List AV}{s:iM},zk P k0 K ms env s->xA P k0 ms env s K
 |[],env,s=>fun h=>h
 |m::ms,env,s=>fun h=>by
  have step:nN P k0 (zk P k0 K ms) m.dst (mo P k0 env s m.op)->uF P k0 m.op env s fun x env s=>xA P k0 ms (jB m.dst env x) s K:=
   fun h=>Lr (yN (fun _ _ _ h=>qC h) h)
  simp only[zk,xA]at h⊢;split
  ·rename_i hg;rw[hg]at h;exact step h
  ·rename_i g want hg;rw[hg]at h;cases g with
   |none=>exact qC h
   |some d=>
    simp only at h⊢;split
    ·rename_i b hb;rw[hb]at h;unfold Br;simp only at h;split
     ·rename_i hbw;rw[ah hbw]at h;exact step h
     ·rename_i hbw;rw[aj hbw]at h;exact qC h
    ·rename_i hb;rw[hb]at h;exact qC h
    ·rename_i hb hb';split at h
     ·rename_i b h2;exact absurd h2 (hb b)
     ·rename_i h2;exact absurd h2 hb'
     ·exact h
theorem agF{P:Program}{k:Nat}{Q:Post}{env:List AV}{s:iM}{ms:List jo}(h:zk P k (Q .normal) ms env s):oR P k (.iE ms) Q env s:=ac3 (qC h)
theorem Td{e id off n:Nat}{env:List AV}{s:iM}:MD env s (.su e id off n)=.ok (.d (iD n)) env s:=(rfl)
theorem aaA{x:D}{env:List AV}{s:iM}:MD env s (.d x)=Tb env s (uw (.d x)):=(rfl)
theorem Te{e id:Nat}{xs:List D}{env:List AV}{s:iM}:MD env s (.own e id xs)=.ok (.d (iD xs.length)) env s:=(rfl)
theorem P6{e e' id off len:Nat}{n:Int}{env:List AV}{s:iM}:GL e n env s (.su e' id off len)=.need (e'=e/\0<=n/\n<len) (.ok (.ptr id (off+n.toNat*e)) env s):=(rfl)
theorem Wq{e:Nat}{n:Int}{x:D}{env:List AV}{s:iM}:GL e n env s (.d x)=Od e n env s (uw (.d x)):=(rfl)
theorem Tc{e id n:Nat}{env:List AV}{s:iM}:MD env s (.kU e id n)=.ok (.d (iD n)) env s:=(rfl)
theorem P5{e e' id m:Nat}{n:Int}{env:List AV}{s:iM}:GL e n env s (.kU e' id m)=.need (e'=e/\0<=n/\n<m) (.ok (.mC id m (n.toNat*e)) env s):=(rfl)
theorem P7{e e' id:Nat}{n:Int}{xs:List D}{env:List AV}{s:iM}:GL e n env s (.own e' id xs)=Od e n env s (some (e',xs)):=(rfl)
theorem Kk{neg b:Bool}{env:List AV}{s:iM}{x:AV}:IZ neg env s x (some b)=.ok (.d (bD (Qm neg b))) env s:=(rfl)
theorem Kj{neg:Bool}{env:List AV}{s:iM}{x:AV}:IZ neg env s x none=Mj neg env s (uw x):=(rfl)
attribute [go_sem] Ob.lA MP FX GJ Jf NH WJ AV.flat Ek F_ DH NF Tc P5 adv MG FW RK Kk Kj kOk UF Mj XR QX QW adF XT Q0 QZ XS abl abk ZX ZU ZW ZV Cb AW Je OL adu MF Il JC Ho Vt RN Nz Qm unO Oz ZH adI Od P6 Wq P7 Wp Yl Tb Td aaA Te OT adx hiO QA Uc M4 Tv OR Nx JU Pb abt FM Pe RR Vx Oj L9 mo List.drop_zero List.drop_succ_cons List.drop_nil List.take_zero List.take_succ_cons List.take_nil List.headD_cons List.append_nil true_and and_true Nat.zero_add Nat.add_zero if_true if_false Nat.le_refl
inductive uI where
 |ok (x:AV) (δ:List (Nat×Ob))
 |need (p:Prop) (o:uI)
 |br (b:Bool) (o1 o2:uI)
 |call (f:Nat) (args:List AV)
 |bad
def Ge(ρ:Operand->AV)(dflt:Int):Option Operand->Option Int
 |none=>some dflt
 |some x=>lz (ρ x)
def vG(ρ:Operand->AV):List AV->List (Nat×Nat×Operand)->Option (List AV)
 |cs,[]=>some cs
 |cs,(off,n,x)::r=>match(ρ x).cells with
  |some xs=>if xs.length=n/\off+n<=cs.length then vG ρ (cs.take off++xs++cs.drop (off+n)) r else none
  |none=>none
def Ti(n:Nat)(ag:Bool)(off:Nat):Ob->uI
 |.obj _ cs=>.need (off+n<=cs.length) (.ok (OL n off cs ag) [])
 |_=>.bad
def Tj(n:Nat)(ag:Bool)(k off:Nat):Ob->uI
 |.lZ _ _ m cs=>.need (m=k/\off+n<=cs.length) (.ok (.d (adv n off cs ag)) [])
 |_=>.bad
def Of(σ:Nat->Ob)(n:Nat)(ag:Bool):AV->uI
 |.ptr id off=>Ti n ag off (σ id)
 |.mC id k off=>Tj n ag k off (σ id)
 |.pv cs=>.need (n<=cs.length) (.ok (.d (adu n cs ag)) [])
 |_=>.bad
def OY(n off id:Nat):Ob->Option (List AV)->uI
 |.obj t cs,some xs=>.need (xs.length=n/\off+n<=cs.length) (.ok .iO [(id,(.obj t (cs.take off++xs++cs.drop (off+n))))])
 |_,_=>.bad
def OZ(n k off id:Nat):Ob->Option D->uI
 |.lZ t e m cs,some d=>.need (m=k/\(iI d).length=n/\off+n<=cs.length) (.ok .iO [(id,.lZ t e m (cs.take off++iI d++cs.drop (off+n)))])
 |_,_=>.bad
def JB(σ:Nat->Ob)(n:Nat)(x:AV):AV->uI
 |.ptr id off=>OY n off id (σ id) x.cells
 |.mC id k off=>OZ n k off id (σ id) x.fin
 |_=>.bad
def abo(op:BinOp):AV->AV->uI
 |.d (.lit (.int k a)),.d (.lit (.int k' b))=>.need (kOk op k k')<|match op with
  |.add=>.ok (.d (.lit (.int k (k.wrap (a+b))))) []
  |.sub=>.ok (.d (.lit (.int k (k.wrap (a-b))))) []
  |.mul=>.ok (.d (.lit (.int k (k.wrap (a*b))))) []
  |.quo=>.need (b≠0) (.ok (.d (.lit (.int k (k.wrap (a.tdiv b))))) [])
  |.rem=>.need (b≠0) (.ok (.d (.lit (.int k (a.tmod b)))) [])
  |.eql=>.ok (.d (bD (a==b))) []
  |.neq=>.ok (.d (bD (a != b))) []
  |.lss=>.ok (.d (bD (decide (a<b)))) []
  |.leq=>.ok (.d (bD (decide (a<=b)))) []
  |.gtr=>.ok (.d (bD (decide (b<a)))) []
  |.geq=>.ok (.d (bD (decide (b<=a)))) []
  |.and=>.ok (.d (.lit (.int k (Vl k a b)))) []
  |.or=>.ok (.d (.lit (.int k (orI k a b)))) []
  |.xor=>.ok (.d (.lit (.int k (XV k a b)))) []
  |.andNot=>.ok (.d (.lit (.int k (Nv k a b)))) []
  |.shl=>.need (0<=b) (.ok (.d (.lit (.int k (Xq k a b)))) [])
  |.shr=>.need (0<=b) (.ok (.d (.lit (.int k (Xr k a b)))) [])
 |.d (.lit (.string a)),.d (.lit (.string b))=>match op with
  |.add=>.need (a.size+b.size<2^63) (.ok (.d (.lit (.string (a++b)))) [])
  |.eql=>.ok (.d (bD (a.toList==b.toList))) []
  |.neq=>.ok (.d (bD (!(a.toList==b.toList)))) []
  |_=>.bad
 |_,_=>.bad
def RM(neg:Bool):AV->AV->uI
 |.d (.lit (.bool a)),.d (.lit (.bool b))=>.ok (.d (bD (RN neg a b))) []
 |_,_=>.bad
def SP(neg:Bool):Option Bool->uI
 |some b=>.ok (.d (bD (Qm neg b))) []
 |none=>.bad
def unL:UnOp->AV->uI
 |.not,.d (.lit (.bool b))=>.ok (.d (bD (!b))) []
 |.neg,.d (.lit (.int k n))=>.ok (.d (.lit (.int k (k.wrap (0-n))))) []
 |_,_=>.bad
def TI(a b:AV):AV->uI
 |.d (.lit (.bool t))=>.br t (.ok a []) (.ok b [])
 |_=>.bad
def ZG:AV->uI
 |.ptr id off=>.ok (.ptr id off) []
 |.pv cs=>.ok (.pv cs) []
 |.fn f a b=>.ok (.fn f a b) []
 |.mC id m off=>.ok (.mC id m off) []
 |_=>.bad
def adH(off:Nat):AV->uI
 |.ptr id o=>.ok (.ptr id (o+off)) []
 |.pv cs=>.ok (.pv (cs.drop off)) []
 |.mC id k o=>.ok (.mC id k (o+off)) []
 |_=>.bad
def Oc(e:Nat)(n:Int):Option (Nat×List D)->uI
 |some (e',xs)=>.need (e'=e/\0<=n/\n<xs.length) (.ok (.pv (iI (xs.getD n.toNat .any))) [])
 |none=>.bad
def KC(e:Nat)(n:Int):AV->uI
 |.su e' id off len=>.need (e'=e/\0<=n/\n<len) (.ok (.ptr id (off+n.toNat*e)) [])
 |.kU e' id m=>.need (e'=e/\0<=n/\n<m) (.ok (.mC id m (n.toNat*e)) [])
 |x=>Oc e n (uw x)
def acW(e:Nat)(x:AV):Option Int->uI
 |some n=>KC e n x
 |none=>.bad
def Yk(e n:Nat):Option Int->AV->uI
 |some j,.ptr id off=>.need (0<=j/\j<n) (.ok (.ptr id (off+j.toNat*e)) [])
 |some j,.pv cs=>.need (0<=j/\j<n) (.ok (.pv (cs.drop (j.toNat*e))) [])
 |_,_=>.bad
def Ta:Option (Nat×List D)->uI
 |some (_,xs)=>.ok (.d (iD xs.length)) []
 |none=>.bad
def acY:AV->uI
 |.su _ _ _ n=>.ok (.d (iD n)) []
 |.kU _ _ n=>.ok (.d (iD n)) []
 |x=>Ta (uw x)
def OS(ρ:Operand->AV)(x:AV)(e:Nat)(lo:Option Int)(hi:Option Operand):Option (Nat×List D)->uI
 |some (e',xs)=>match lo,Ge ρ xs.length hi with
  |some l,some h=>.need ((xs=[]\/e'=e)/\0<=l/\l<=h/\h<=xs.length) (.ok (.d (.sl e' (Ct x) ((xs.take h.toNat).drop l.toNat))) [])
  |_,_=>.bad
 |none=>.bad
def ZP(e:Nat):Option Operand->Option Int->Option Int->Option (Nat×List D)->uI
 |none,some h,some m,some (e',xs)=>.need ((xs=[]\/e'=e)/\h=m/\0<=h/\h<=xs.length) (.ok (.Ey e' (xs.take h.toNat)) [])
 |_,_,_,_=>.bad
def hiL(ρ:Operand->AV):Option Operand->Option Int
 |some h=>lz (ρ h)
 |none=>none
def Qz(ρ:Operand->AV)(x:AV)(e:Nat)(lo hi:Option Operand):Option Operand->uI
 |none=>OS ρ x e (Ge ρ 0 lo) hi (uw x)
 |some m=>ZP e lo (hiL ρ hi) (lz (ρ m)) (uw x)
def OQ(ρ:Operand->AV)(e n:Nat):AV->Option Operand->Option Operand->Option Operand->uI
 |.ptr id off,none,none,none=>.ok (.su e id off n) []
 |.ptr id off,none,some h,none=>match lz (ρ h)with
  |some h=>.need (0<=h/\h<=n) (.ok (.su e id off h.toNat) [])
  |none=>.bad
 |_,_,_,_=>.bad
def RJ(t e bytes:Nat)(j:Nat)(xs ys:List D)(ob:Ob):uI:=
 .need (ob=.tok t e xs.length/\(xs.length+ys.length)*bytes<=2^47) (.ok (.own e j (xs++ys)) [(j,(.tok t e (xs.length+ys.length)))])
def XZ(t e bytes:Nat)(j n:Nat)(ys:List D):Ob->uI
 |.lZ t' e2 m cs=>.need (t'=t/\e2=e/\m=n/\(n+ys.length)*bytes<=2^47) (.ok (.kU e j (n+ys.length)) [(j,.lZ t e (n+ys.length) (cs++ys.flatMap iI))])
 |_=>.bad
def F6(σ:Nat->Ob)(id t e bytes k0:Nat)(e2:Nat)(ys:List D):AV->uI
 |.own e' j xs=>.need ((ys=[]\/e2=e)/\e'=e) (RJ t e bytes j xs ys (σ j))
 |.kU e' j n=>.need ((ys=[]\/e2=e)/\e'=e) (XZ t e bytes j n ys (σ j))
 |.d (.sl _ (some true) [])=>.need ((ys=[]\/e2=e)/\ys.length*bytes<=2^47/\k0<=id/\(σ id).lA=true) (.ok (.own e id ys) [(id,.tok t e ys.length)])
 |.Ey e' xs=>.need ((ys=[]\/e2=e)/\e'=e/\(xs.length+ys.length)*bytes<=2^47) (.ok (.d (.sl e none (xs++ys))) [])
 |_=>.bad
def LM(σ:Nat->Ob)(id t e bytes k0:Nat)(x:AV):Option (Nat×List D)->uI
 |some (e2,ys)=>F6 σ id t e bytes k0 e2 ys x
 |none=>.bad
def IQ(σ:Nat->Ob)(id t e bytes k0:Nat)(e2:Nat)(ys:List D):AV->uI
 |.d (.sl _ (some true) [])=>.need ((ys=[]\/e2=e)/\ys.length*bytes<=2^47/\k0<=id/\(σ id).lA=true) (.ok (.kU e id ys.length) [(id,.lZ t e ys.length (ys.flatMap iI))])
 |x=>F6 σ id t e bytes k0 e2 ys x
def JY(σ:Nat->Ob)(id t e bytes k0:Nat)(x:AV):Option (Nat×List D)->uI
 |some (e2,ys)=>IQ σ id t e bytes k0 e2 ys x
 |none=>.bad
def adG(i:Nat):AV->uI
 |.kZ cs=>.need (i<cs.length) (.ok (cs.getD i .iO) [])
 |_=>.bad
def Jd(mx:Bool):AV->AV->uI
 |.d (.lit (.int k a)),.d (.lit (.int k' b))=>.need (k=k') (.ok (.d (.lit (.int k (match mx with|true=>if b>a then b else a|false=>if b<a then b else a)))) [])
 |_,_=>.bad
def Vv(σ:Nat->Ob)(id t k0:Nat):Option (List AV)->uI
 |some cs=>.need (k0<=id/\(σ id).lA=true) (.ok (.ptr id 0) [(id,.obj t cs)])
 |none=>.bad
def RQ:Option (List AV)->uI
 |some cs=>.ok (AV.mk cs) []
 |none=>.bad
def Vw(σ:Nat->Ob)(id t e k0:Nat):Option (List D)->uI
 |some ds=>.need ((∀d∈ds,(iI d).length=e)/\k0<=id/\(σ id).lA=true) (.ok (.own e id ds) [(id,.tok t e ds.length)])
 |none=>.bad
def NG(σ:Nat->Ob)(id t e k0:Nat):Option (List D)->Option (List AV)->uI
 |some ds,some cs=>.need ((∀d∈ds,(iI d).length=e)/\yd cs=true/\k0<=id/\(σ id).lA=true) (.ok (.own e id ds) [(id,.lI t e ds.length cs)])
 |_,_=>.bad
def ND(σ:Nat->Ob)(id t e k0:Nat):Option (List D)->uI
 |some ds=>.need ((∀d∈ds,(iI d).length=e)/\k0<=id/\(σ id).lA=true) (.ok (.kU e id ds.length) [(id,.lZ t e ds.length (ds.flatMap iI))])
 |none=>.bad
def Oi(σ:Nat->Ob)(id t e bytes k0:Nat)(z:List D):Bool->Option Int->Option Int->uI
 |true,some l,some c=>.need (0<=l/\l<=c/\bytes*c<=2^48/\c<2^62/\k0<=id/\(σ id).lA=true) (.ok (.own e id []) [(id,.tok t e 0)])
 |false,some l,some c=>.need (0<=l/\l<=c/\bytes*c<=2^48/\c<2^62/\k0<=id/\(σ id).lA=true) (.ok (.su e id 0 l.toNat) [(id,.obj t ((List.replicate l.toNat (z.map .d)).flatten))])
 |_,_,_=>.bad
def SE(P:Program)(args:List AV):AV->uI
 |.fn f first cap=>.need (enters P f=true) (.call f (first++args++cap))
 |_=>.bad
def mW(P:Program)(k0:Nat)(ρ:Operand->AV)(σ:Nat->Ob):vJ->uI
 |.mv x=>.ok (ρ x) []
 |.pick c a b=>TI (ρ a) (ρ b) (ρ c)
 |.alloc id t z=>.need (k0<=id/\(σ id).lA=true) (.ok (.ptr id 0) [(id,.obj t (z.map .d))])
 |.box id t x=>Vv σ id t k0 (ρ x).cells
 |.Fw _ _ _ _=>.bad
 |.build z ps=>RQ (vG ρ (z.map .d) ps)
 |.nY id t e xs=>Vw σ id t e k0 (AV.nD (xs.map ρ))
 |.Dj id t e xs=>ND σ id t e k0 (AV.nD (xs.map ρ))
 |.Fx id t e xs=>NG σ id t e k0 (AV.nD (xs.map ρ)) (AV.flat e (xs.map ρ))
 |.load n ag p=>Of σ n ag (ρ p)
 |.store n p x=>JB σ n (ρ x) (ρ p)
 |.pY x=>ZG (ρ x)
 |.bin op x y=>abo op (ρ x) (ρ y)
 |.Fv neg x y=>RM neg (ρ x) (ρ y)
 |.yo neg x=>SP neg (Ct (ρ x))
 |.un op x=>unL op (ρ x)
 |.EI f first cap=>.ok (.fn f (first.map ρ) (cap.map ρ)) []
 |.BI _ _ _ _ _ _ _ _=>.bad
 |.Cr id t e bytes z tok len cap=>Oi σ id t e bytes k0 z tok (lz (ρ len)) (lz (ρ cap))
 |.slc x e lo hi mx=>Qz ρ (ρ x) e lo hi mx
 |.Jt p e n lo hi mx=>OQ ρ e n (ρ p) lo hi mx
 |.Ve off p=>adH off (ρ p)
 |.xR e x i=>acW e (ρ x) (lz (ρ i))
 |.AO e n p i=>Yk e n (lz (ρ i)) (ρ p)
 |.len x=>acY (ρ x)
 |.app id t e bytes x y=>LM σ id t e bytes k0 (ρ x) (uw (ρ y))
 |.F9 id t e bytes x y=>JY σ id t e bytes k0 (ρ x) (uw (ρ y))
 |.mB f args=>.call f (args.map ρ)
 |.pJ g args=>SE P (args.map ρ) (ρ g)
 |.ext x i=>adG i (ρ x)
 |.min x y=>Jd false (ρ x) (ρ y)
 |.Hz _|.Hg _ _ _|.DG _ _=>.bad
 |.dead=>.bad
def tq(s:iM):List (Nat×Ob)->iM
 |[]=>s
 |(i,ob)::r=>tq (sset s i ob) r
def uI.out(env:List AV)(s:iM):uI->Out
 |.ok x δ=>.ok x env (tq s δ)
 |.need p o=>.need p (o.out env s)
 |.br b o1 o2=>.br b (o1.out env s) (o2.out env s)
 |.call f args=>.call f args env s
 |.bad=>.bad
theorem J0{env:List AV}{d:Int}{x:Option Operand}:Ge (ev env) d x=Gd env d x:=by cases x<;>rfl
theorem DR{env:List AV}:∀{ps:List (Nat×Nat×Operand)}{cs:List AV},vG (ev env) cs ps=rO env cs ps
 |[],cs=>rfl
 |(off,n,x)::r,cs=>by
  simp only[vG,rO];cases(ev env x).cells with
  |none=>rfl
  |some xs=>simp only;split<;>simp[DR]
theorem JV{P:Program}{k0 id t e bytes:Nat}{x:AV}{Y:Option (Nat×List D)}{env:List AV}{s:iM}{K:AV->List AV->iM->Prop}(h:runK P k0 K ((LM (sat s) id t e bytes k0 x Y).out env s)):
 runK P k0 K (Pb id t e bytes k0 x env s Y):=by
 have dead:∀{id:Nat},(sat s id).lA=true->sat s id=.dead:=fun{id} h=>by cases hs:sat s id<;>simp_all[Ob.lA]
 cases Y with
 |none=>exact h
 |some p=>
  obtain⟨e2,ys⟩:=p;simp only[LM,Pb,F6,JU]at h⊢;split at h
  ·simp only[RJ,Nx,uI.out,runK,tq]at h⊢;exact h
  ·rename_i e' j n;simp only[uI.out,runK]at h⊢;refine⟨h.1,?_⟩;have h:=h.2;generalize sat s j=X at h⊢;cases X<;>exact h
  ·simp only[uI.out,runK,tq]at h⊢;rw[dead h.1.2.2.2];exact⟨⟨h.1.1,h.1.2.1,h.1.2.2.1⟩,h.2⟩
  ·exact h
  ·exact h.elim
theorem Pc{P:Program}{k0 id t e bytes:Nat}{x:AV}{Y:Option (Nat×List D)}{env:List AV}{s:iM}{K:AV->List AV->iM->Prop}(h:runK P k0 K ((JY (sat s) id t e bytes k0 x Y).out env s)):
 runK P k0 K (F_ id t e bytes k0 x env s Y):=by
 have dead:∀{id:Nat},(sat s id).lA=true->sat s id=.dead:=fun{id} h=>by cases hs:sat s id<;>simp_all[Ob.lA]
 cases Y with
 |none=>exact h
 |some p=>
  obtain⟨e2,ys⟩:=p;simp only[JY,F_]at h⊢;unfold IQ at h;split at h
  ·simp only[Ek,uI.out,runK,tq]at h⊢;rw[dead h.1.2.2.2];exact⟨⟨h.1.1,h.1.2.1,h.1.2.2.1⟩,h.2⟩
  ·rename_i hn;unfold Ek;split
   ·rename_i e4;exact absurd rfl (hn e4)
   ·exact JV (Y:=some (e2,ys)) h
theorem QT{P:Program}{k0:Nat}{m:vJ}{env:List AV}{s:iM}{K:AV->List AV->iM->Prop}
 (h:runK P k0 K ((mW P k0 (ev env) (sat s) m).out env s)):runK P k0 K (mo P k0 env s m):=by
 have dead:∀{id:Nat},(sat s id).lA=true->sat s id=.dead:=fun{id} h=>by cases hs:sat s id<;>simp_all[Ob.lA]
 cases m with
 |mv x=>exact h
 |pick c a b=>
  simp only[mW,mo,TI,Oz]at h⊢;generalize ev env c=Xc at h⊢;cases Xc with
  |d x=>cases x with
   |lit u=>cases u<;>exact h
   |_=>exact h
  |_=>exact h
 |alloc id t z=>
  simp only[mW,mo,uI.out,runK,tq]at h⊢;rw[dead h.1.2];exact⟨h.1.1,h.2⟩
 |Fw id d t x=>simp only[mW]at h;exact h.elim
 |box id t x=>
  simp only[mW,mo]at h⊢;generalize(ev env x).cells=X at h⊢;cases X with
  |none=>exact h
  |some cs=>
   simp only[Vv,Pe,uI.out,runK,tq]at h⊢;rw[dead h.1.2];exact⟨h.1.1,h.2⟩
 |build z ps=>
  simp only[mW,mo,DR]at h⊢;generalize rO env (z.map .d) ps=X at h⊢;cases X<;>exact h
 |nY id t e xs=>
  simp only[mW,mo]at h⊢;generalize AV.nD (xs.map (ev env))=X at h⊢;cases X with
  |none=>exact h
  |some ds=>
   simp only[Vw,Vx,uI.out,runK,tq]at h⊢;rw[dead h.1.2.2];exact⟨⟨h.1.1,h.1.2.1⟩,h.2⟩
 |Fx id t e xs=>
  simp only[mW,mo]at h⊢;generalize AV.nD (xs.map (ev env))=X at h⊢;generalize AV.flat e (xs.map (ev env))=Y at h⊢;cases X with
  |none=>cases Y<;>exact h.elim
  |some ds=>cases Y with
   |none=>exact h.elim
   |some cs=>
    simp only[NG,NH,uI.out,runK,tq]at h⊢;rw[dead h.1.2.2.2];exact⟨⟨h.1.1,h.1.2.1,h.1.2.2.1⟩,h.2⟩
 |Dj id t e xs=>
  simp only[mW,mo]at h⊢;generalize AV.nD (xs.map (ev env))=X at h⊢;cases X with
  |none=>exact h
  |some ds=>
   simp only[ND,NF,uI.out,runK,tq]at h⊢;rw[dead h.1.2.2];exact⟨⟨h.1.1,h.1.2.1⟩,h.2⟩
 |load n ag p=>
  simp only[mW,mo,Of,Il]at h⊢;generalize ev env p=Xp at h⊢;cases Xp with
  |ptr id off=>simp only at h⊢;generalize sat s id=X at h⊢;cases X<;>exact h
  |mC id kk off=>simp only at h⊢;generalize sat s id=X at h⊢;cases X<;>first|exact h|exact h.elim
  |_=>exact h
 |store n p x=>
  simp only[mW,mo,JB,Ho]at h⊢;generalize ev env p=Xp at h⊢;cases Xp with
  |ptr id off=>simp only at h⊢;generalize sat s id=X at h⊢;generalize(ev env x).cells=Y at h⊢;cases X<;>cases Y<;>exact h
  |mC id kk off=>simp only at h⊢;generalize sat s id=X at h⊢;generalize(ev env x).fin=Y at h⊢;cases X<;>cases Y<;>first|exact h|exact h.elim
  |_=>exact h
 |pY x=>simp only[mW,mo]at h⊢;generalize ev env x=X at h⊢;cases X<;>exact h
 |bin op x y=>
  simp only[mW,mo,abo,Vt]at h⊢;generalize ev env x=Xx at h⊢;generalize ev env y=Xy at h⊢;cases Xx with
  |d x1=>cases x1 with
   |lit u=>cases u with
    |int k a=>cases Xy with
     |d y1=>cases y1 with
      |lit v=>cases v with
       |int k' b=>cases op<;>exact h
       |_=>exact h
      |_=>exact h
     |_=>exact h
    |string a=>cases Xy with
     |d y1=>cases y1 with
      |lit v=>cases v with
       |string b=>cases op<;>exact h
       |_=>exact h
      |_=>exact h
     |_=>exact h
    |_=>exact h
   |_=>exact h
  |_=>exact h
 |Fv neg x y=>
  simp only[mW,mo,RM,Nz]at h⊢;generalize ev env x=Xx at h⊢;generalize ev env y=Xy at h⊢;cases Xx with
  |d x1=>cases x1 with
   |lit u=>cases u with
    |bool a=>cases Xy with
     |d y1=>cases y1 with
      |lit v=>cases v<;>exact h
      |_=>exact h
     |_=>exact h
    |_=>exact h
   |_=>exact h
  |_=>exact h
 |yo neg x=>simp only[mW,mo]at h⊢;generalize Ct (ev env x)=X at h⊢;cases X<;>first|exact h|exact h.elim
 |un op x=>
  simp only[mW,mo,unL,unO]at h⊢;generalize ev env x=X at h⊢;cases op<;>cases X with
  |d x1=>cases x1 with
   |lit u=>cases u<;>exact h
   |_=>exact h
  |_=>exact h
 |EI f first cap=>exact h
 |BI id t e bytes z tok len cap=>simp only[mW]at h;exact h.elim
 |Cr id t e bytes z tok len cap=>
  simp only[mW,mo]at h⊢;generalize lz (ev env len)=X at h⊢;generalize lz (ev env cap)=Y at h⊢;cases tok<;>cases X<;>cases Y<;>simp only[Oi,Oj,uI.out,runK,tq]at h⊢
  ·rw[dead h.1.2.2.2.2.2];exact⟨⟨h.1.1,h.1.2.1,h.1.2.2.1,h.1.2.2.2.1,h.1.2.2.2.2.1⟩,h.2⟩
  ·rw[dead h.1.2.2.2.2.2];exact⟨⟨h.1.1,h.1.2.1,h.1.2.2.1,h.1.2.2.2.1,h.1.2.2.2.2.1⟩,h.2⟩
 |slc x e lo hi mx=>
  simp only[mW,mo]at h⊢;cases mx with
  |some m=>
   simp only[Qz,QA]at h⊢;generalize uw (ev env x)=X at h⊢;generalize lz (ev env m)=M at h⊢;cases hi with
   |none=>cases lo<;>cases M<;>cases X<;>exact h
   |some hh=>
    simp only[hiL,hiO]at h⊢;generalize lz (ev env hh)=H at h⊢;cases lo<;>cases H<;>cases M<;>cases X<;>exact h
  |none=>
   simp only[Qz,QA,J0]at h⊢;generalize uw (ev env x)=X at h⊢;cases X with
   |none=>exact h
   |some p=>
    simp only[OS,OT,J0]at h⊢;generalize Gd env 0 lo=X at h⊢;generalize Gd env p.2.length hi=Y at h⊢;cases X<;>cases Y<;>exact h
 |Jt p e n lo hi mx=>
  simp only[mW,mo,OQ,OR]at h⊢;generalize ev env p=X at h⊢;cases X<;>cases lo<;>cases hi<;>cases mx<;>first
   |exact h
   |(rename_i q;simp only at h⊢;generalize lz (ev env q)=Z at h⊢;cases Z<;>exact h)
 |Ve off p=>simp only[mW,mo]at h⊢;generalize ev env p=X at h⊢;cases X<;>exact h
 |xR e x i=>
  simp only[mW,mo]at h⊢;generalize lz (ev env i)=I at h⊢;cases I with
  |none=>exact h
  |some n=>
   simp only[acW,Wp]at h⊢;generalize ev env x=X at h⊢;cases X<;>simp only[KC,GL]at h⊢<;>first
    |exact h
    |(revert h;generalize uw _=q;intro h;cases q<;>exact h)
 |AO e n p i=>simp only[mW,mo]at h⊢;generalize lz (ev env i)=X at h⊢;generalize ev env p=Y at h⊢;cases X<;>cases Y<;>exact h
 |len x=>
  simp only[mW,mo]at h⊢;generalize ev env x=X at h⊢;cases X<;>simp only[acY,MD]at h⊢<;>first
   |exact h
   |(revert h;generalize uw _=q;intro h;cases q<;>exact h)
 |app id t e bytes x y=>exact JV h
 |F9 id t e bytes x y=>exact Pc h
 |mB f args=>exact h
 |pJ g args=>
  simp only[mW,mo]at h⊢;generalize ev env g=X at h⊢;cases X<;>exact h
 |ext x i=>simp only[mW,mo]at h⊢;generalize ev env x=X at h⊢;cases X<;>exact h
 |min x y=>
  simp only[mW,mo,Jd,FM]at h⊢;generalize ev env x=Xx at h⊢;generalize ev env y=Xy at h⊢;cases Xx with
  |d x1=>cases x1 with
   |lit u=>cases u with
    |int k a=>cases Xy with
     |d y1=>cases y1 with
      |lit v=>cases v<;>exact h
      |_=>exact h
     |_=>exact h
    |_=>exact h
   |_=>exact h
  |_=>exact h
 |dead=>exact h
 |_=>exact h.elim
def ye:Operand->List Nat
 |.tmp t=>[t]
 |_=>[]
def DO(xs:List Operand):List Nat:=xs.flatMap ye
def Iz:Option Operand->List Nat
 |some x=>ye x
 |none=>[]
def rN:vJ->List Nat
 |.mv x|.pY x|.un _ x|.Ve _ x|.len x|.ext x _|.box _ _ x|.Fw _ _ _ x|.load _ _ x|.yo _ x=>ye x
 |.pick c a b=>ye c++ye a++ye b
 |.store _ p x=>ye p++ye x
 |.bin _ x y|.Fv _ x y|.min x y|.xR _ x y|.AO _ _ x y|.app _ _ _ _ x y|.F9 _ _ _ _ x y=>ye x++ye y
 |.Cr _ _ _ _ _ _ l c=>ye l++ye c
 |.BI _ _ _ _ _ _ l c=>ye l++ye c
 |.slc x _ lo hi m=>ye x++Iz lo++Iz hi++Iz m
 |.Jt x _ _ lo hi _=>ye x++Iz lo++Iz hi
 |.build _ ps=>DO (ps.map (·.2.2))
 |.nY _ _ _ xs|.Dj _ _ _ xs|.Fx _ _ _ xs=>DO xs
 |.EI _ f c=>DO f++DO c
 |.mB _ xs=>DO xs
 |.pJ g xs=>ye g++DO xs
 |.Hz x=>ye x
 |.DG _ x=>ye x
 |.Hg x _ h=>ye x++ye h
 |.alloc .. |.dead=>[]
def xd(ρ:Operand->AV):vJ->List Nat
 |.Fx id _ _ _=>[id]
 |.load _ _ p=>match ρ p with|.ptr id _=>[id]|.mC id _ _=>[id]|_=>[]
 |.store _ p _=>match ρ p with|.ptr id _=>[id]|.mC id _ _=>[id]|_=>[]
 |.F9 id _ _ _ x _=>match ρ x with|.own _ j _=>[j]|.kU _ j _=>[j]|_=>[id]
 |.alloc id _ _|.box id _ _|.nY id _ _ _|.Dj id _ _ _|.Cr id _ _ _ _ _ _ _=>[id]
 |.app id _ _ _ x _=>match ρ x with|.own _ j _=>[j]|.kU _ j _=>[j]|_=>[id]
 |_=>[]
theorem F7{k0 id t e bytes:Nat}{X:AV}{p:Option (Nat×List D)}{σ σ':Nat->Ob}
 (hf:∀i∈(match X with|.own _ j _=>[j]|.kU _ j _=>[j]|_=>[id]),σ' i=σ i):LM σ' id t e bytes k0 X p=LM σ id t e bytes k0 X p:=by
 unfold LM;cases p with
 |none=>rfl
 |some p=>
  simp only;unfold F6;cases X with
  |own e' j xs=>have hj:=hf j (by simp);simp only[hj]
  |kU e' j n=>have hj:=hf j (by simp);simp only[hj]
  |d x1=>
   have hj:=hf id (by simp);cases x1 with
   |sl e1 nl xs=>cases nl with
    |none=>rfl
    |some b=>cases b<;>cases xs<;>first|rfl|simp only[hj]
   |_=>rfl
  |_=>rfl
theorem Nl{P:Program}{k0:Nat}{m:vJ}{ρ ρ':Operand->AV}{σ σ':Nat->Ob}(hc:∀o:Operand,ye o=[]->ρ' o=ρ o)(hr:∀t∈rN m,ρ' (.tmp t)=ρ (.tmp t))
 (hf:∀id∈xd ρ m,σ' id=σ id):mW P k0 ρ' σ' m=mW P k0 ρ σ m:=by
 have one':∀o:Operand,(∀t∈ye o,ρ' (.tmp t)=ρ (.tmp t))->ρ' o=ρ o:=fun o h=>by
  cases o with
  |tmp t=>exact h t (by simp[ye])
  |_=>exact hc _ rfl
 have many:∀xs:List Operand,(∀t∈DO xs,ρ' (.tmp t)=ρ (.tmp t))->xs.map ρ'=xs.map ρ:=fun xs h=>
  eY fun o ho=>one' o fun t ht=>h t (eM.2 ⟨o,ho,ht⟩)
 have opt:∀(x:Option Operand)(d:Int),(∀t∈Iz x,ρ' (.tmp t)=ρ (.tmp t))->Ge ρ' d x=Ge ρ d x:=fun x d h=>by
  cases x with
  |none=>rfl
  |some o=>simp only[Ge];rw[one' o h]
 cases m with
 |mv x|pY x|un _ x|Ve _ x|len x|ext x _|yo _ x=>simp only[rN]at hr;simp only[mW];rw[one' x hr]
 |Fw id d t x=>rfl
 |box id t x=>simp only[rN]at hr;simp only[xd]at hf;simp only[mW,Vv];rw[one' x hr,hf id (by simp)]
 |pick c a b=>
  simp only[rN,aG]at hr;simp only[mW];rw[one' c fun t h=>hr t (.inl (.inl h)),one' a fun t h=>hr t (.inl (.inr h)),one' b fun t h=>hr t (.inr h)]
 |alloc id t z=>simp only[xd]at hf;simp only[mW];rw[hf id (by simp)]
 |build z ps=>
  simp only[rN]at hr;simp only[mW];have:∀(ps:List (Nat×Nat×Operand))(cs:List AV),(∀t∈DO (ps.map (·.2.2)),ρ' (.tmp t)=ρ (.tmp t))->vG ρ' cs ps=vG ρ cs ps:=by
   intro ps;induction ps with
   |nil=>intro cs _;rfl
   |cons p ps ih=>
    obtain⟨off,n,x⟩:=p;intro cs h;simp only[aK,DO,cQ,aG]at h;simp only[vG];rw[one' x fun t ht=>h t (.inl ht)];cases(ρ x).cells with
    |none=>rfl
    |some xs=>simp only;split<;>first|exact ih _ (fun t ht=>h t (.inr ht))|rfl
  rw[this ps _ hr]
 |nY id t e xs=>simp only[rN]at hr;simp only[xd]at hf;simp only[mW,Vw];rw[many xs hr,hf id (by simp)]
 |Fx id t e xs=>simp only[rN]at hr;simp only[xd]at hf;simp only[mW,NG];rw[many xs hr,hf id (by simp)]
 |Dj id t e xs=>simp only[rN]at hr;simp only[xd]at hf;simp only[mW,ND];rw[many xs hr,hf id (by simp)]
 |load n ag p=>
  simp only[rN]at hr;simp only[xd]at hf;simp only[mW];rw[one' p hr];unfold Of;cases hp:ρ p with
  |ptr id off=>rw[hp]at hf;simp only;rw[hf id (by simp)]
  |mC id kk off=>rw[hp]at hf;simp only;rw[hf id (by simp)]
  |_=>rfl
 |store n p x=>
  simp only[rN,aG]at hr;simp only[xd]at hf;simp only[mW];rw[one' p fun t h=>hr t (.inl h),one' x fun t h=>hr t (.inr h)];unfold JB;cases hp:ρ p with
  |ptr id off=>rw[hp]at hf;simp only;rw[hf id (by simp)]
  |mC id kk off=>rw[hp]at hf;simp only;rw[hf id (by simp)]
  |_=>rfl
 |bin _ x y|Fv _ x y|min x y|xR _ x y|AO _ _ x y=>
  simp only[rN,aG]at hr;simp only[mW];rw[one' x fun t h=>hr t (.inl h),one' y fun t h=>hr t (.inr h)]
 |EI f first cap=>
  simp only[rN,aG]at hr;simp only[mW];rw[many first fun t h=>hr t (.inl h),many cap fun t h=>hr t (.inr h)]
 |BI id t e bytes z tok l c=>rfl
 |Cr id t e bytes z tok l c=>
  simp only[rN,aG]at hr;simp only[xd]at hf;simp only[mW,Oi];rw[one' l fun t h=>hr t (.inl h),one' c fun t h=>hr t (.inr h),hf id (by simp)]
 |slc x e lo hi mx=>
  simp only[rN,aG]at hr;simp only[mW];rw[one' x fun t h=>hr t (.inl (.inl (.inl h)))];cases mx with
  |some m=>
   simp only[Qz];rw[one' m fun t h=>hr t (.inr h)];cases hi with
   |none=>rfl
   |some hh=>simp only[hiL];rw[one' hh fun t h=>hr t (.inl (.inr h))]
  |none=>
   simp only[Qz];rw[opt lo 0 fun t h=>hr t (.inl (.inl (.inr h)))];cases uw (ρ x)with
   |none=>rfl
   |some p=>simp only[OS];rw[opt hi _ fun t h=>hr t (.inl (.inr h))]
 |Jt x e n lo hi mx=>
  simp only[rN,aG]at hr;simp only[mW,OQ];rw[one' x fun t h=>hr t (.inl (.inl h))];cases ρ x<;>cases lo<;>cases hi<;>cases mx<;>first
   |rfl
   |(rename_i q;simp only;rw[one' q fun t h=>hr t (.inr h)])
 |app id t e bytes x y=>
  simp only[rN,aG]at hr;simp only[mW];rw[one' x fun t h=>hr t (.inl h),one' y fun t h=>hr t (.inr h)];exact F7 hf
 |F9 id t e bytes x y=>
  simp only[rN,aG]at hr;simp only[mW];rw[one' x fun t h=>hr t (.inl h),one' y fun t h=>hr t (.inr h)];unfold JY;cases uw (ρ y)with
  |none=>rfl
  |some p=>
   simp only;have h0:F6 σ' id t e bytes k0 p.1 p.2 (ρ x)=F6 σ id t e bytes k0 p.1 p.2 (ρ x):=F7 (p:=some p) hf;simp only[xd]at hf;cases hx:ρ x with
   |d x1=>
    rw[hx]at hf h0;have hj:=hf id (by simp);cases x1 with
    |sl e1 nl xs=>cases nl with
     |none=>exact h0
     |some b=>cases b<;>cases xs<;>first|exact h0|simp only[IQ,hj]
    |_=>exact h0
   |_=>rw[hx]at h0;exact h0
 |mB f xs=>simp only[rN]at hr;simp only[mW];rw[many xs hr]
 |pJ g xs=>
  simp only[rN,aG]at hr;simp only[mW];rw[one' g fun t h=>hr t (.inl h),many xs fun t h=>hr t (.inr h)]
 |dead=>rfl
 |Hz _|Hg _ _ _|DG _ _=>rfl
def Ai:List (Nat×Ob)->Nat->Option Ob
 |[],_=>none
 |(i,ob)::r,id=>match Ai r id with
  |some x=>some x
  |none=>if id=i then some ob else none
theorem G9:∀(δ:List (Nat×Ob))(s:iM)(id:Nat),sat (tq s δ) id=(Ai δ id).getD (sat s id)
 |[],_,_=>rfl
 |(i,ob)::r,s,id=>by
  rw[tq,G9 r,jA,Ai];cases Ai r id with
  |some x=>rfl
  |none=>by_cases h:id=i<;>simp[h]
theorem H8:∀{δ:List (Nat×Ob)}{id:Nat},(Ai δ id).isSome=true->id∈δ.map (·.1)
 |[],_,h=>by simp[Ai]at h
 |(i,ob)::r,id,h=>by
  simp only[Ai]at h;cases hr:Ai r id with
  |some x=>exact aX _ (H8 (by rw[hr];rfl))
  |none=>
   rw[hr]at h;by_cases hi:id=i
   ·simp[hi]
   ·simp[hi]at h
def adt(σ:Nat->Ob)(pr mp:List gU):iM:=mp.map fun(c,j)=>(c,(σ j).jY (qu pr))
def KS(t:iM)(all mp:List gU):List (Nat×Ob):=mp.map fun(c,j)=>(j,(sat t c).jY (nF all))
theorem G_{t:iM}{all:List gU}:∀{mp:List gU}{s:iM},tj s t mp all=tq s (KS t all mp)
 |[],_=>rfl
 |(c,j)::r,s=>by simp only[tj,KS,aK,tq];exact G_
def Yd(P:Program)(k0:Nat)(σ:Nat->Ob)(f:Nat)(args:List AV)(K:AV->List (Nat×Ob)->List Nat->Prop):Prop:=
 (∃dz:List D,ju (args.map fun x=>x.jY (qu [])) (dz.map .d)/\((∃r,jK P f dz r/\K (.d r) [] [])\/∃rs:List D,mO P f dz rs/\K (.kZ (rs.map .d)) [] []))\/
 ∃(pr nw:List gU)(y:AV)(t:iM),pr.map (·.1)=List.range pr.length/\((pr++nw).map (·.1)).Nodup/\((pr++nw).map (·.2)).Nodup/\(∀p∈nw,σ p.2=.dead/\k0<=p.2)/\
  iR P f (args.map fun x=>x.jY (qu pr)) (adt σ pr pr) pr.length (fun x s'=>x=y/\s'=t)/\K (y.jY (nF (pr++nw))) (KS t (pr++nw) (pr++nw)) ((pr++nw).map (·.2))
def CL(P:Program)(k0:Nat)(σ:Nat->Ob)(R:AV->List (Nat×Ob)->List Nat->Prop):uI->Prop
 |.ok x δ=>R x δ []
 |.need p o=>p/\CL P k0 σ R o
 |.br b o1 o2=>if b=true then CL P k0 σ R o1 else CL P k0 σ R o2
 |.call f args=>Yd P k0 σ f args R
 |.bad=>False
theorem Dl{P:Program}{k0:Nat}{σ:Nat->Ob}{R:AV->List (Nat×Ob)->List Nat->Prop}:∀{o:uI},CL P k0 σ R o->
 ∃x δ ex,CL P k0 σ (fun x' δ' e'=>x'=x/\δ'=δ/\e'=ex) o/\R x δ ex
 |.ok x δ,h=>⟨x,δ,[],⟨rfl,rfl,rfl⟩,h⟩
 |.need p o,h=>by obtain⟨hp,h⟩:=h;obtain⟨x,δ,ex,h1,h2⟩:=Dl h;exact⟨x,δ,ex,⟨hp,h1⟩,h2⟩
 |.br b o1 o2,h=>by
  simp only[CL]at h⊢;split at h
  ·rename_i hb;obtain⟨x,δ,ex,h1,h2⟩:=Dl h;exact⟨x,δ,ex,by rw[ah hb];exact h1,h2⟩
  ·rename_i hb;obtain⟨x,δ,ex,h1,h2⟩:=Dl h;exact⟨x,δ,ex,by rw[aj hb];exact h1,h2⟩
 |.call f args,h=>by
  rcases h with⟨ds,h1,h|h⟩|⟨pr,nw,y,t,h1,h2,h3,h4,h5,h6⟩
  ·obtain⟨r,h2,h3⟩:=h;exact⟨_,_,_,.inl ⟨ds,h1,.inl ⟨r,h2,rfl,rfl,rfl⟩⟩,h3⟩
  ·obtain⟨r,h2,h3⟩:=h;exact⟨_,_,_,.inl ⟨ds,h1,.inr ⟨r,h2,rfl,rfl,rfl⟩⟩,h3⟩
  ·exact⟨_,_,_,.inr ⟨pr,nw,y,t,h1,h2,h3,h4,h5,rfl,rfl,rfl⟩,h6⟩
 |.bad,h=>h.elim
theorem AL{P:Program}{k0:Nat}{σ σ':Nat->Ob}{x:AV}{δ:List (Nat×Ob)}{ex:List Nat}(hs:∀id∈ex,σ' id=σ id):∀{o:uI},
 CL P k0 σ (fun x' δ' e'=>x'=x/\δ'=δ/\e'=ex) o->CL P k0 σ' (fun x' δ' e'=>x'=x/\δ'=δ/\e'=ex) o
 |.ok x δ,h=>h
 |.need p o,h=>⟨h.1,AL hs h.2⟩
 |.br b o1 o2,h=>by
  simp only[CL]at h⊢;split at h
  ·rename_i hb;rw[ah hb];exact AL hs h
  ·rename_i hb;rw[aj hb];exact AL hs h
 |.call f args,h=>by
  rcases h with h|⟨pr,nw,y,t,h1,h2,h3,h4,h5,h6,h7,h8⟩
  ·exact .inl h
  ·subst h8;refine .inr ⟨pr,nw,y,t,h1,h2,h3,fun p hp=>?_,?_,h6,h7,rfl⟩
   ·rw[hs p.2 (a_.2 ⟨p,bM _ hp,rfl⟩)];exact h4 p hp
   ·have:adt σ' pr pr=adt σ pr pr:=eY fun p hp=>by
     show(p.1,(σ' p.2).jY (qu pr))=(p.1,(σ p.2).jY (qu pr));rw[hs p.2 (a_.2 ⟨p,bp _ hp,rfl⟩)]
    rw[this];exact h5
 |.bad,h=>h.elim
theorem B7{P:Program}{k0:Nat}{R:AV->List (Nat×Ob)->List Nat->Prop}{K:AV->List AV->iM->Prop}{env:List AV}{s:iM}
 (hK:∀x δ ex,R x δ ex->K x env (tq s δ)):∀{o:uI},CL P k0 (sat s) R o->runK P k0 K (o.out env s)
 |.ok x δ,h=>hK x δ _ h
 |.need p o,h=>⟨h.1,B7 hK h.2⟩
 |.br b o1 o2,h=>by
  simp only[CL]at h;simp only[uI.out,runK];split at h
  ·rename_i hb;rw[ah hb];exact B7 hK h
  ·rename_i hb;rw[aj hb];exact B7 hK h
 |.call f args,h=>by
  rcases h with⟨ds,h1,h|h⟩|⟨pr,nw,y,t,h1,h2,h3,h4,h5,h6⟩
  ·obtain⟨r,h2,h3⟩:=h;exact B4 (J5 h1 h2 (hK _ _ _ h3))
  ·obtain⟨r,h2,h3⟩:=h;exact B4 (H6 h1 h2 (hK _ _ _ h3))
  ·refine B4 ⟨pr,nw,_,h1,h2,h3,h4,h5,?_⟩;rintro x s' ⟨rfl,rfl⟩;rw[G_];exact hK _ _ _ h6
 |.bad,h=>h.elim
def gd(m:jo)(env:List AV):Option Bool:=match m.guard with
 |none=>some true
 |some (none,_)=>none
 |some (some d,want)=>match env.getD d .iO with
  |.d (.lit (.bool b))=>some (b==want)
  |.kZ []=>some false
  |_=>none
def yt(P:Program)(k0:Nat)(F:List (List Nat×List Nat)->List AV->iM->Prop):List jo->List (List Nat×List Nat)->List AV->iM->Prop
 |[],acc,env,s=>F acc env s
 |m::ms,acc,env,s=>match gd m env with
  |none=>False
  |some true=>CL P k0 (sat s) (fun x δ ex=>yt P k0 F ms ((ex++xd (ev env) m.op,δ.map (·.1))::acc) (jB m.dst env x) (tq s δ)) (mW P k0 (ev env) (sat s) m.op)
  |some false=>yt P k0 F ms (([],[])::acc) (jB m.dst env (.kZ [])) s
def RF(P:Program)(k0:Nat)(m:jo)(env:List AV)(s:iM)(x:AV)(δ:List (Nat×Ob))(ft:List Nat×List Nat):Prop:=
 (gd m env=some true/\∃ex,CL P k0 (sat s) (fun x' δ' e'=>x'=x/\δ'=δ/\e'=ex) (mW P k0 (ev env) (sat s) m.op)/\ft=(ex++xd (ev env) m.op,δ.map (·.1)))\/
 (gd m env=some false/\x=.kZ []/\δ=[]/\ft=([],[]))
def Q3(P:Program)(k0:Nat)(F:List (List Nat×List Nat)->List AV->iM->Prop)(ms:List jo)(acc:List (List Nat×List Nat))(env:List AV)(s:iM):Prop:=
 ∃(x:Nat->AV)(δ:Nat->List (Nat×Ob))(ft:Nat->List Nat×List Nat)(E:Nat->List AV)(S:Nat->iM),E 0=env/\S 0=s/\
  (∀i m,ms[i]?=some m->RF P k0 m (E i) (S i) (x i) (δ i) (ft i)/\E (i+1)=jB m.dst (E i) (x i)/\S (i+1)=tq (S i) (δ i))/\
  F (((List.range ms.length).map ft).reverse++acc) (E ms.length) (S ms.length)
theorem Q3.cons{P:Program}{k0:Nat}{F:List (List Nat×List Nat)->List AV->iM->Prop}{m:jo}{ms:List jo}{acc:List (List Nat×List Nat)}{env:List AV}{s:iM}
 {x0:AV} {δ0:List (Nat×Ob)} {f0:List Nat×List Nat} (hs:RF P k0 m env s x0 δ0 f0) (h:Q3 P k0 F ms (f0::acc) (jB m.dst env x0) (tq s δ0)):Q3 P k0 F (m::ms) acc env s:=by
 obtain⟨x,δ,ft,E,S,hE,hS,h1,h2⟩:=h;refine⟨fun i=>Nat.casesOn i x0 x,fun i=>Nat.casesOn i δ0 δ,fun i=>Nat.casesOn i f0 ft,fun i=>Nat.casesOn i env E,fun i=>Nat.casesOn i s S,rfl,rfl,fun i m' hi=>?_,?_⟩
 ·cases i with
  |zero=>
   simp only[List.getElem?_cons_zero,aP]at hi;subst hi;exact⟨hs,hE,hS⟩
  |succ i=>exact h1 i m' (by simpa using hi)
 ·have:((List.range (m::ms).length).map fun i=>(Nat.casesOn i f0 ft:List Nat×List Nat)).reverse++acc=((List.range ms.length).map ft).reverse++(f0::acc):=by
   rw[aN,List.range_succ_eq_map,aK,eF,List.reverse_cons,aF];rfl
  rw[this];exact h2
theorem Cf{P:Program}{k0:Nat}{F:List (List Nat×List Nat)->List AV->iM->Prop}:∀{ms:List jo}{acc:List (List Nat×List Nat)}{env:List AV}{s:iM},
 yt P k0 F ms acc env s->Q3 P k0 F ms acc env s
 |[],acc,env,s,h=>⟨fun _=>.iO,fun _=>[],fun _=>([],[]),fun _=>env,fun _=>s,rfl,rfl,fun i m hi=>by simp at hi,h⟩
 |m::ms,acc,env,s,h=>by
  simp only[yt]at h;split at h
  ·exact h.elim
  ·rename_i hg;obtain⟨x0,δ0,ex,h1,h2⟩:=Dl h;exact Q3.cons (.inl ⟨hg,ex,h1,rfl⟩) (Cf h2)
  ·rename_i hg;exact Q3.cons (x0:=.kZ []) (δ0:=[]) (.inr ⟨hg,rfl,rfl,rfl⟩) (Cf h)
def gl{β:Type}(f:Nat->Option β)(L:Nat->Bool)(b:β):Nat->β
 |0=>b
 |n+1=>if L n=true then(f n).getD (gl f L b n)else gl f L b n
theorem xP{β:Type}{f:Nat->Option β}{L L':Nat->Bool}{b:β}:∀{n:Nat},(∀j,j<n->(f j).isSome=true->L j=L' j)->gl f L b n=gl f L' b n
 |0,_=>rfl
 |n+1,h=>by
  have ih:=xP (b:=b) (n:=n) fun j hj=>h j iA
  simp only[gl];rw[ih];cases hf:f n with
  |none=>simp
  |some v=>rw[h n iA (by rw[hf];rfl)]
theorem Mn{β:Type}{f:Nat->Option β}{L:Nat->Bool}{b v:β}{i:Nat}(hf:f i=some v)(hL:L i=true):
 ∀{n:Nat},i<n->(∀j,i<j->j<n->(f j).isSome=true->L j=false)->gl f L b n=v
 |0,hi,_=>by omega
 |n+1,hi,h=>by
  simp only[gl];by_cases hin:i=n
  ·subst hin;rw[ah hL,hf];rfl
  ·have ih:=Mn (b:=b) hf hL (n:=n) iA fun j h1 h2=>h j h1 iA
   cases hn:f n with
   |none=>simp[ih]
   |some u=>rw[h n iA iA (by rw[hn];rfl)];simpa using ih
theorem Ez{β:Type}{f:Nat->Option β}{b:β}{i:Nat}:∀{n:Nat},i<=n->gl f (fun j=>decide (j<i)) b n=gl f (fun _=>true) b i
 |0,h=>by
  have:i=0:=by omega
  subst this;rfl
 |n+1,h=>by
  by_cases hi:i=n+1
  ·subst hi;exact xP fun j hj _=>by simp[hj]
  ·simp only[gl];rw[aj (by simp;omega)];exact Ez iA
def rdM(m:jo):List Nat:=rN m.op++(match m.guard with|some (some g,_)=>[g]|_=>[])
def EB(xs ys:List Nat):Bool:=xs.any fun x=>ys.contains x
def E5(m m':jo)(f f':List Nat×List Nat):Bool:=
 EB m'.dst.toList (rdM m)||EB m.dst.toList (rdM m')||EB m.dst.toList m'.dst.toList||EB f.2 f'.1||EB f'.2 f.1||EB f.2 f'.2
def J9(after:List g_):List g_:=after.foldl (fun T a=>T++[(a++a.flatMap fun e=>T.getD e []).eraseDups]) []
def Ah(after B:List g_):Bool:=
 ((List.range after.length).all fun i=>(after.getD i []).all fun e=>decide (e<i))&&
 (List.range B.length).all fun i=>(B.getD i []).all fun j=>(after.getD i []).contains j||(after.getD i []).any fun e=>decide (e<i)&&(B.getD e []).contains j
def ZK(ms:List jo)(B:List g_)(fts:List (List Nat×List Nat)):Bool:=
 (List.range ms.length).all fun i=>(List.range i).all fun j=>match ms[i]?,ms[j]? with
  |some m,some m'=>!E5 m m' (fts.getD i ([],[])) (fts.getD j ([],[]))||(B.getD i []).contains j
  |_,_=>false
def yX(ms:List jo)(after:List g_)(fts:List (List Nat×List Nat)):Bool:=Ah after (J9 after)&&ZK ms (J9 after) fts
theorem Bt{after B:List g_}(h:Ah after B=true){L:Nat->Bool}(hL:∀i,L i=true->∀e∈after.getD i [],L e=true):
 ∀(i:Nat),(∀e∈after.getD i [],L e=true)->∀j∈B.getD i [],L j=true:=by
 simp only[Ah,bh,cM,cT,Bool.or_eq_true,dR,au,List.contains_iff_mem]at h;intro i;induction i using Nat.strongRecOn with
 |ind i ih=>
  intro ha j hj;have hi:i<B.length:=by
   rcases cO i B.length with h'|h'
   ·exact h'
   ·rw[List.getD_eq_getElem?_getD,bT h']at hj;simp at hj
  rcases h.2 i hi j hj with h1|⟨e,he,hlt,hje⟩
  ·exact ha j h1
  ·exact ih e hlt (hL e (ha e he)) j hje
def Nj(L:Nat->Bool):Nat->Nat
 |0=>0
 |n+1=>Nj L n+(match L n with|true=>0|false=>1)
theorem JD{L L':Nat->Bool}{i:Nat}(h1:L i=false)(h2:L' i=true)(h:∀j,j≠i->L' j=L j):∀{n:Nat},(n<=i->Nj L' n=Nj L n)/\(i<n->Nj L' n+1=Nj L n)
 |0=>⟨fun _=>rfl,fun h=>by omega⟩
 |n+1=>by
  obtain⟨ih1,ih2⟩:=JD (n:=n) h1 h2 h;refine⟨fun hn=>?_,fun hn=>?_⟩
  ·simp only[Nj];rw[ih1 iA,h n iA]
  ·simp only[Nj];by_cases hin:n=i
   ·subst hin;rw[ih1 iA,h1,h2];simp
   ·rw[h n hin];have:=ih2 iA;omega
theorem Hs{L:Nat->Bool}:∀{n:Nat},Nj L n=0->∀j,j<n->L j=true
 |0,_,j,hj=>by omega
 |n+1,h,j,hj=>by
  simp only[Nj]at h;by_cases hn:j=n
  ·subst hn;cases hL:L j with
   |true=>rfl
   |false=>rw[hL]at h;simp at h
  ·exact Hs (n:=n) iA j iA
def fs(d:Nat->Option Nat)(x:Nat->AV)(t:Nat)(j:Nat):Option AV:=if d j=some t then some (x j)else none
theorem Ih{d:Option Nat}{env:List AV}{x:AV}{t:Nat}(ht:t<env.length):(jB d env x).getD t .iO=if d=some t then x else env.getD t .iO:=by
 cases d with
 |none=>simp[jB]
 |some d=>
  simp only[jB,List.getD_eq_getElem?_getD,de,aP];by_cases h:d=t
  ·subst h;simp[ht]
  ·simp[h]
theorem E8{d:Option Nat}{env:List AV}{x:AV}:(jB d env x).length=env.length:=by cases d<;>simp[jB]
structure ur(P:Program)(k0:Nat)(ms:List jo)(after:List g_)(x:Nat->AV)(δ:Nat->List (Nat×Ob))(ft:Nat->List Nat×List Nat)
 (E:Nat->List AV) (S:Nat->iM):Prop where
 step:∀i m,ms[i]?=some m->RF P k0 m (E i) (S i) (x i) (δ i) (ft i)/\E (i+1)=jB m.dst (E i) (x i)/\S (i+1)=tq (S i) (δ i)
 ok:yX ms after ((List.range ms.length).map ft)=true
def H9(ms:List jo)(j:Nat):Option Nat:=(ms[j]?).bind (·.dst)
section
variable{P:Program}{k0:Nat}{ms:List jo}{after:List g_}{x:Nat->AV}{δ:Nat->List (Nat×Ob)}{ft:Nat->List Nat×List Nat}
 {E:Nat->List AV} {S:Nat->iM}
theorem ur.len(h:ur P k0 ms after x δ ft E S):∀{i:Nat},i<=ms.length->(E i).length=(E 0).length
 |0,_=>rfl
 |i+1,hi=>by
  have hm:ms[i]?=some ms[i]:=az iA;rw[(h.step i _ hm).2.1,E8,h.len iA]
theorem ur.slot(h:ur P k0 ms after x δ ft E S){t:Nat}(ht:t<(E 0).length):∀{i:Nat},i<=ms.length->
 (E i).getD t .iO=gl (fs (H9 ms) x t) (fun _=>true) ((E 0).getD t .iO) i
 |0,_=>rfl
 |i+1,hi=>by
  have hm:ms[i]?=some ms[i]:=az iA;rw[(h.step i _ hm).2.1,Ih (by rw[h.len iA];exact ht),h.slot ht iA];simp only[gl,aA,fs,H9,hm,aa];split<;>rfl
theorem ur.obj(h:ur P k0 ms after x δ ft E S)(id:Nat):∀{i:Nat},i<=ms.length->
 sat (S i) id=gl (fun j=>Ai (δ j) id) (fun _=>true) (sat (S 0) id) i
 |0,_=>rfl
 |i+1,hi=>by
  have hm:ms[i]?=some ms[i]:=az iA;rw[(h.step i _ hm).2.2,G9,h.obj id iA];simp only[gl,aA]
structure Fh(E:Nat->List AV)(S:Nat->iM)(ms:List jo)(x:Nat->AV)(δ:Nat->List (Nat×Ob))(L:Nat->Bool)(env:List AV)(s:iM):Prop where
 len:env.length=(E 0).length
 slot:∀t,t<(E 0).length->env.getD t .iO=gl (fs (H9 ms) x t) L ((E 0).getD t .iO) ms.length
 obj:∀id,sat s id=gl (fun j=>Ai (δ j) id) L (sat (S 0) id) ms.length
theorem ur.ord(h:ur P k0 ms after x δ ft E S){i j:Nat}{m m':jo}(hi:ms[i]?=some m)(hj:ms[j]?=some m')(hji:j<i)
 (hc:E5 m m' (ft i) (ft j)=true):j∈(J9 after).getD i []:=by
 have hl:i<ms.length:=(aO.1 hi).1;have:=h.ok;simp only[yX,bh,ZK,cM,cT]at this;have:=this.2 i hl j hji;rw[hi,hj]at this;have e1:((List.range ms.length).map ft).getD i ([],[])=ft i:=by simp[List.getD_eq_getElem?_getD,hl]
 have e2:((List.range ms.length).map ft).getD j ([],[])=ft j:=by simp[List.getD_eq_getElem?_getD,show j<ms.length by omega]
 rw[e1,e2]at this;simpa[hc]using this
theorem ur.before(h:ur P k0 ms after x δ ft E S){L:Nat->Bool}(hL:∀i,L i=true->∀e∈after.getD i [],L e=true){i:Nat}{m:jo}(hi:ms[i]?=some m)
 (hu:L i=false) (hr:∀e∈after.getD i [],L e=true) {j:Nat} {m':jo} (hj:ms[j]?=some m') (hne:j≠i) (hc:E5 m m' (ft i) (ft j)=true/\E5 m' m (ft j) (ft i)=true):
 L j=decide (j<i):=by
 have hcl:=h.ok;simp only[yX,bh]at hcl;rcases cO j i with hlt|hge
 ·rw[Bt hcl.1 hL i hr j (h.ord hi hj hlt hc.1)];simp[hlt]
 ·have hlt:i<j:=by omega
  have hb:=h.ord hj hi hlt hc.2;cases hLj:L j with
  |false=>simp;omega
  |true=>
   have:=Bt hcl.1 hL j (hL j hLj) i hb;rw[hu]at this;cases this
theorem B9{xs ys:List Nat}{a:Nat}(h1:a∈xs)(h2:a∈ys):EB xs ys=true:=dR.2 ⟨a,h1,by simpa using h2⟩
theorem Mh{j t:Nat}(h:(fs (H9 ms) x t j).isSome=true):∃m',ms[j]?=some m'/\m'.dst=some t:=by
 unfold fs at h;split at h
 ·rename_i hd;unfold H9 at hd;cases hm:ms[j]? with
  |none=>rw[hm]at hd;cases hd
  |some m'=>rw[hm]at hd;exact⟨m',rfl,hd⟩
 ·cases h
theorem ur.write(h:ur P k0 ms after x δ ft E S){j id:Nat}{m':jo}(hj:ms[j]?=some m')(hw:(Ai (δ j) id).isSome=true):id∈(ft j).2:=by
 have:=(h.step j m' hj).1;rcases this with⟨_,_,_,h3⟩|⟨_,_,h3,_⟩
 ·rw[h3];exact H8 hw
 ·rw[h3]at hw;cases hw
theorem ur.reads(h:ur P k0 ms after x δ ft E S){L:Nat->Bool}(hL:∀i,L i=true->∀e∈after.getD i [],L e=true){i:Nat}{m:jo}(hi:ms[i]?=some m)
 (hu:L i=false) (hr:∀e∈after.getD i [],L e=true) {env:List AV} {s:iM} (hb:Fh E S ms x δ L env s) {t:Nat} (ht:t∈rdM m):env.getD t .iO=(E i).getD t .iO:=by
 have hil:i<ms.length:=(aO.1 hi).1;by_cases hlt:t<(E 0).length
 ·rw[hb.slot t hlt,h.slot hlt (i:=i) iA,<-Ez (Nat.le_of_lt hil)];refine xP fun j hj hs=>?_
  by_cases hne:j=i
  ·subst hne;rw[hu];simp
  ·obtain⟨m',hm',hd⟩:=Mh hs;refine h.before hL hi hu hr hm' hne ?_;have:EB m'.dst.toList (rdM m)=true:=B9 (a:=t) (by rw[hd];simp) ht;simp[E5,this]
 ·have e1:env.getD t .iO=.iO:=by rw[List.getD_eq_getElem?_getD,bT (by rw[hb.len];omega)];rfl
  have e2:(E i).getD t .iO=.iO:=by rw[List.getD_eq_getElem?_getD,bT (by rw[h.len iA];omega)];rfl
  rw[e1,e2]
theorem ur.looks(h:ur P k0 ms after x δ ft E S){L:Nat->Bool}(hL:∀i,L i=true->∀e∈after.getD i [],L e=true){i:Nat}{m:jo}(hi:ms[i]?=some m)
 (hu:L i=false) (hr:∀e∈after.getD i [],L e=true) {env:List AV} {s:iM} (hb:Fh E S ms x δ L env s) {id:Nat} (hid:id∈(ft i).1):sat s id=sat (S i) id:=by
 have hil:i<ms.length:=(aO.1 hi).1;rw[hb.obj id,h.obj id (i:=i) iA,<-Ez (Nat.le_of_lt hil)];refine xP fun j hj hs=>?_
 by_cases hne:j=i
 ·subst hne;rw[hu];simp
 ·have hm':ms[j]?=some ms[j]:=az hj;refine h.before hL hi hu hr hm' hne ?_;have:EB (ft j).2 (ft i).1=true:=B9 (a:=id) (h.write hm' hs) hid;simp[E5,this]
theorem ur.next(h:ur P k0 ms after x δ ft E S){L L':Nat->Bool}(hL:∀i,L i=true->∀e∈after.getD i [],L e=true){i:Nat}{m:jo}(hi:ms[i]?=some m)
 (hu:L i=false) (hr:∀e∈after.getD i [],L e=true) (hi':L' i=true) (hn:∀j,j≠i->L' j=L j) {env:List AV} {s:iM} (hb:Fh E S ms x δ L env s):
 Fh E S ms x δ L' (jB m.dst env (x i)) (tq s (δ i)):=by
 have hil:i<ms.length:=(aO.1 hi).1;refine⟨by rw[E8,hb.len],fun t ht=>?_,fun id=>?_⟩
 ·rw[Ih (by rw[hb.len];exact ht)];split
  ·rename_i hd;refine(Mn (i:=i) (by simp[fs,H9,hi,hd]) hi' hil fun j hij hj hs=>?_).symm;obtain⟨m',hm',hd'⟩:=Mh hs;have:EB m.dst.toList m'.dst.toList=true:=B9 (a:=t) (by rw[hd];simp) (by rw[hd'];simp);have this':EB m'.dst.toList m.dst.toList=true:=B9 (a:=t) (by rw[hd'];simp) (by rw[hd];simp);rw[hn j iA,h.before hL hi hu hr hm' iA (by simp[E5,this,this'])];simp;omega
  ·rename_i hd;rw[hb.slot t ht];refine xP fun j hj hs=>?_
   by_cases hne:j=i
   ·subst hne;obtain⟨m',hm',hd'⟩:=Mh hs;rw[hi]at hm';cases hm';exact absurd hd' hd
   ·rw[hn j hne]
 ·rw[G9];cases hd:Ai (δ i) id with
  |some ob=>
   refine(Mn (i:=i) hd hi' hil fun j hij hj hs=>?_).symm;have hm':ms[j]?=some ms[j]:=az hj;have a1:=h.write hm' hs;have a2:=h.write hi (by rw[hd];rfl:(Ai (δ i) id).isSome=true);have:EB (ft i).2 (ft j).2=true:=B9 a2 a1;have this':EB (ft j).2 (ft i).2=true:=B9 a1 a2;rw[hn j iA,h.before hL hi hu hr hm' iA (by simp[E5,this,this'])];simp;omega
  |none=>
   simp only[Option.getD_none];rw[hb.obj id];refine xP fun j hj hs=>?_
   by_cases hne:j=i
   ·subst hne;rw[hd]at hs;cases hs
   ·rw[hn j hne]
theorem ur.run(h:ur P k0 ms after x δ ft E S){L:Nat->Bool}(hL:∀i,L i=true->∀e∈after.getD i [],L e=true){i:Nat}{m:jo}(hi:ms[i]?=some m)
 (hu:L i=false) (hr:∀e∈after.getD i [],L e=true) {env:List AV} {s:iM} (hb:Fh E S ms x δ L env s):
 match m.guard with
  |none=>uF P k0 m.op env s fun x' env' s'=>jB m.dst env' x'=jB m.dst env (x i)/\s'=tq s (δ i)
  |some (g,want)=>match g with
   |none=>jB m.dst env (.kZ [])=jB m.dst env (x i)/\s=tq s (δ i)
   |some d=>match env.getD d .iO with
    |.d (.lit (.bool b))=>Br b want (uF P k0 m.op env s fun x' env' s'=>jB m.dst env' x'=jB m.dst env (x i)/\s'=tq s (δ i)) (jB m.dst env (.kZ [])=jB m.dst env (x i)/\s=tq s (δ i))
    |.kZ []=>jB m.dst env (.kZ [])=jB m.dst env (x i)/\s=tq s (δ i)
    |_=>False:=by
 have hs:=(h.step i m hi).1;have run:(∃ex,CL P k0 (sat (S i)) (fun x' δ' e'=>x'=x i/\δ'=δ i/\e'=ex) (mW P k0 (ev (E i)) (sat (S i)) m.op)/\ft i=(ex++xd (ev (E i)) m.op,(δ i).map (·.1)))->
  uF P k0 m.op env s fun x' env' s'=>jB m.dst env' x'=jB m.dst env (x i)/\s'=tq s (δ i):=fun⟨ex,hd,hf⟩=>by
  have hc:mW P k0 (ev env) (sat s) m.op=mW P k0 (ev (E i)) (sat (S i)) m.op:=by
   refine Nl (fun o ho=>?_) (fun t ht=>?_) (fun id hid=>?_)
   ·cases o with
    |tmp t=>simp[ye]at ho
    |_=>rfl
   ·simpa only[ev]using h.reads hL hi hu hr hb (t:=t) (bp _ ht)
   ·exact h.looks hL hi hu hr hb (by rw[hf];exact bM _ hid)
  rw[<-hc]at hd;replace hd:=AL (σ':=sat s) (fun id hid=>h.looks hL hi hu hr hb (by rw[hf];exact bp _ hid)) hd;exact Lr (QT (B7 (K:=fun x' env' s'=>jB m.dst env' x'=jB m.dst env (x i)/\s'=tq s (δ i)) (fun x' δ' e' hx=>by
   obtain⟨rfl,rfl,_⟩:=hx;exact⟨rfl,rfl⟩) hd))
 cases hg:m.guard with
 |none=>
  rcases hs with⟨_,h2⟩|⟨h1,_⟩
  ·exact run h2
  ·simp[gd,hg]at h1
 |some p=>
  obtain⟨g,want⟩:=p;cases g with
  |none=>rcases hs with⟨h1,_⟩|⟨h1,_⟩<;>simp[gd,hg]at h1
  |some d=>
   have he:env.getD d .iO=(E i).getD d .iO:=h.reads hL hi hu hr hb (by simp[rdM,hg]);simp only;rw[he];have hgd:gd m (E i)=(match(E i).getD d .iO with|.d (.lit (.bool b))=>some (b==want)|.kZ []=>some false|_=>none):=by simp only[gd,hg]
   rcases hs with⟨h1,h2⟩|⟨h1,h2,h3,_⟩
   ·rw[hgd]at h1;split at h1
    ·rename_i b hb';simp only[aP,bC]at h1;simp only[Br,ah h1];exact run h2
    ·cases h1
    ·cases h1
   ·rw[hgd]at h1;split at h1
    ·rename_i b hb';simp only[aP,bV,dP]at h1;simp only[Br,aj h1];rw[h2,h3];exact⟨rfl,rfl⟩
    ·rw[h2,h3];exact⟨rfl,rfl⟩
    ·cases h1
end
theorem Is{P:Program}{c:Code}{ms:List jo}{after:List g_}(h:oA P c=some (.draw ms after)):
 ∃id ops,c=.region id ops true/\ops.toList.mapM (sL P ops)=some ms/\after=ops.toList.map fun o=>(o.after.toList.filter (Region.binds .any)).map (·.on):=by
 cases c<;>simp[oA,av,aB]at h⊢
 case region id' ops' d'=>
  obtain⟨ms',h1,h⟩:=h;split at h
  ·rename_i hd;simp only[iJ.draw.injEq]at h;obtain⟨rfl,rfl⟩:=h;exact⟨id',ops',⟨rfl,rfl,hd⟩,h1,rfl⟩
  ·cases h
theorem za{α β:Type}{f:α->Option β}:∀{xs:List α}{ys:List β},xs.mapM f=some ys->ys.length=xs.length/\∀(i:Nat)(x:α),xs[i]?=some x->∃y,ys[i]?=some y/\f x=some y
 |[],ys,h=>by simp at h;subst h;simp
 |x::xs,ys,h=>by
  simp only[cx,cu,av]at h;obtain⟨y,h1,ys',h2,h3⟩:=h;cases h3;obtain⟨e1,e2⟩:=za h2;refine⟨by simp[e1],fun i u hu=>?_⟩;cases i with
  |zero=>simp at hu;subst hu;exact⟨y,rfl,h1⟩
  |succ i=>simpa using e2 i u (by simpa using hu)
theorem Fh.env{E:Nat->List AV}{S:Nat->iM}{ms:List jo}{x:Nat->AV}{δ:Nat->List (Nat×Ob)}{L L':Nat->Bool}{env:List AV}{s:iM}
 (h:Fh E S ms x δ L env s) (hL:∀j,j<ms.length->L j=L' j):Fh E S ms x δ L' env s:=
 ⟨h.len,fun t ht=>by rw[h.slot t ht];exact xP fun j hj _=>hL j hj,fun id=>by rw[h.obj id];exact xP fun j hj _=>hL j hj⟩
theorem Ke{P:Program}{C:Ctx}{ops:Array Oper}{Q:Post}{ms:List jo}{after:List g_}{x:Nat->AV}{δ:Nat->List (Nat×Ob)}{ft:Nat->List Nat×List Nat}
 {E:Nat->List AV} {S:Nat->iM} (hm:ops.toList.mapM (sL P ops)=some (ms.map jo.erase)) (ha:after=ops.toList.map fun o=>(o.after.toList.filter (Region.binds .any)).map (·.on))
 (h:ur P C.k ms after x δ ft E S) (hQ:Q .normal (E ms.length) (S ms.length)):
 ∀(fuel:Nat)(listed:Array Bool)(env:List AV)(s:iM)(β:i_)(a:Act)(w:World),listed.size=ops.size->Nj (fun j=>listed.getD j false) ops.size<=fuel->
  (∀i,listed.getD i false=true->∀e∈after.getD i [],listed.getD e false=true)->Fh E S ms x δ (fun j=>listed.getD j false) env s->St C β env s a w->
  wpAnyIn C.qt 0 P .any ops (fun e a' w'=>∃C',Ext C C'/\∃β' env' s',St C' β' env' s' a' w'/\Q e env' s') fuel listed a w:=by
 obtain⟨hlen,hget⟩:=za hm;rw[aJ]at hlen;have hsz:ms.length=ops.size:=by rw[hlen];simp
 have haf:∀i o,ops[i]?=some o->after.getD i []=(o.after.toList.filter (Region.binds .any)).map (·.on):=fun i o ho=>by rw[ha,List.getD_eq_getElem?_getD,bt,Array.getElem?_toList,ho];rfl
 have hback:∀i,∀e∈after.getD i [],e<i:=fun i e he=>by
  have hc:=h.ok;simp only[yX,Ah,bh,cM,cT,au]at hc;have hi:i<after.length:=by
   rcases cO i after.length with h'|h'
   ·exact h'
   ·rw[List.getD_eq_getElem?_getD,bT h']at he;simp at he
  exact hc.1.1 i hi e he
 have isReady:∀{listed:Array Bool},listed.size=ops.size->∀{i:Nat},i<ops.size->listed.getD i false=false->(∀e∈after.getD i [],listed.getD e false=true)->
  i∈Region.ready .any ops listed:=fun{listed} hs {i} hi hu hr=>by
  rw[fS];have ho:ops[i]?=some ops[i]:=cW hi;refine⟨?_,_,ho,fun e he hb=>hr _ ?_⟩
  ·have:i<listed.size:=by omega
   simpa[this]using hu
  ·rw[haf i _ ho];exact a_.2 ⟨e,dI.2 ⟨by simpa using he,hb⟩,rfl⟩
 have all:∀{listed:Array Bool},listed.size=ops.size->Region.ready .any ops listed=[]->∀i,i<ops.size->listed.getD i false=true:=fun{listed} hs hn i=>by
  induction i using Nat.strongRecOn with
  |ind i ih=>
   intro hi;cases hu:listed.getD i false with
   |true=>rfl
   |false=>
    have:=isReady hs hi hu fun e he=>ih e (hback i e he) (by have:=hback i e he;omega)
    rw[hn]at this;cases this
 have done:∀{listed:Array Bool}{env:List AV}{s:iM}{β:i_}{a:Act}{w:World},(∀i,i<ops.size->listed.getD i false=true)->
  Fh E S ms x δ (fun j=>listed.getD j false) env s->St C β env s a w->∃C',Ext C C'/\∃β' env' s',St C' β' env' s' a w/\Q .normal env' s':=fun{listed env s β a w} hall hb hst=>by
  have hb':=hb.env (L':=fun _=>true) fun j hj=>hall j iA
  have e1:env=E ms.length:=by
   refine eG fun t=>?_
   by_cases ht:t<(E 0).length
   ·have h1:=hb'.slot t ht;rw[<-h.slot ht (aC _)]at h1;have l1:t<env.length:=by rw[hb'.len];exact ht
    have l2:t<(E ms.length).length:=by rw[h.len (aC _)];exact ht
    rw[List.getD_eq_getElem?_getD,List.getD_eq_getElem?_getD,az l1,az l2]at h1;rw[az l1,az l2];simpa using h1
   ·rw[bT (by rw[hb'.len];omega),bT (by rw[h.len (aC _)];omega)]
  have e2:∀id,sat s id=sat (S ms.length) id:=fun id=>by rw[hb'.obj id,<-h.obj id (aC _)]
  rw[<-e1]at hQ;obtain⟨β',h1⟩:=iW.XC (k:=C.k) (env:=env) e2 C β a w rfl hst;exact⟨C,.refl C,β',env,_,h1,hQ⟩
 intro fuel;induction fuel with
 |zero=>
  intro listed env s β a w hs hf hd hb hst;have hall:=Hs (gz.1 hf);refine⟨?_,done hall hb hst⟩;cases hr:Region.ready .any ops listed with
  |nil=>rfl
  |cons i rs=>
   have hi:i∈Region.ready .any ops listed:=by rw[hr];exact bf
   obtain⟨h1,o,ho,_⟩:=fS.1 hi;have hl:i<ops.size:=(aW.1 ho).1;have h2:=hall i hl;have:i<listed.size:=by omega
   simp[this]at h1 h2;rw[h1]at h2;cases h2
 |succ fuel ih=>
  intro listed env s β a w hs hf hd hb hst;refine⟨fun hn=>done (all hs hn) hb hst,fun i hi=>?_⟩;obtain⟨h1,o,ho,hall⟩:=fS.1 hi;have hl:i<ops.size:=(aW.1 ho).1;have hll:i<listed.size:=by omega
  have hu:listed.getD i false=false:=by simp[hll]at h1⊢;exact h1
  have hr:∀e∈after.getD i [],listed.getD e false=true:=fun e he=>by
   rw[haf i o ho]at he;obtain⟨d,hd1,rfl⟩:=a_.1 he;obtain⟨hd2,hd3⟩:=dI.1 hd1;exact hall d (by simpa using hd2) hd3
  obtain⟨m0,hmi0,hmo⟩:=hget i o (by simpa using ho);rw[bt]at hmi0;obtain⟨m,hmi,rfl⟩:=aB.1 hmi0;unfold wpOpIn;rw[ho];simp only;refine xQ (K:=fun env' s'=>env'=jB m.dst env (x i)/\s'=tq s (δ i)) hmo (h.run hd hmi hu hr hb) hst fun β' env' s' a' w' h4 h5=>?_
  obtain⟨rfl,rfl⟩:=h5;have hset:∀j,j≠i->(listed.setIfInBounds i true).getD j false=listed.getD j false:=fun j hj=>getD_set_ne false (gG hj)
  have hone:(listed.setIfInBounds i true).getD i false=true:=by simp[hll]
  refine ih _ _ _ β' a' w' (by simpa using hs) ?_ (fun j hj e he=>?_) (h.next hd hmi hu hr hone hset hb) h4
  ·have:=(JD (L:=fun j=>listed.getD j false) (L':=fun j=>(listed.setIfInBounds i true).getD j false) hu hone hset (n:=ops.size)).2 hl;omega
  ·by_cases hji:j=i
   ·subst hji;exact f_ (hr e he)
   ·rw[hset j hji]at hj;exact f_ (hd j hj e he)
theorem aaD{P:Program}{k:Nat}{Q:Post}{env:List AV}{s:iM}{ms:List jo}{after:List g_}(hP:P.follows .mixedOrders=true)
 (h:yt P k (fun acc env s=>yX ms after acc.reverse=true/\Q .normal env s) ms [] env s):oR P k (.draw ms after) Q env s:=fun C hC _ c hc β a w hst=>by
 obtain⟨id,ops,rfl,hm,ha⟩:=Is hc;subst hC;obtain⟨x,δ,ft,E,S,hE,hS,h1,h2,h3⟩:=Cf h;rw[aT,List.reverse_reverse]at h2;obtain⟨hlen,_⟩:=za hm;rw[aJ]at hlen;have hrep:∀j,(Array.replicate ops.size false).getD j false=false:=fun j=>by
  rw[cn,Array.getElem?_replicate];split<;>rfl
 have g0:∀{β:Type}{f:Nat->Option β}{b:β}(n:Nat),gl f (fun j=>(Array.replicate ops.size false).getD j false) b n=b:=fun{β f b} n=>by
  induction n with
  |zero=>rfl
  |succ n ih=>simp only[gl];rw[aj (by rw[hrep];simp)];exact ih
 have hu:∀n,Nj (fun j=>(Array.replicate ops.size false).getD j false) n<=n:=fun n=>by
  induction n with
  |zero=>exact aC _
  |succ n ih=>simp only[Nj];rw[hrep];simp only;omega
 refine wpIn_region_any hP (Ke hm ha ⟨h1,h2⟩ h3 ops.size _ env s β a _ (by simp) (hu _) (fun i hi=>?_) ⟨by rw[hE],fun t ht=>?_,fun id'=>?_⟩ hst.drew)
 ·rw[hrep]at hi;cases hi
 ·rw[g0,hE]
 ·rw[g0,hS]
def Dk(ms:List jo)(after:List g_)(Q:Post)(acc:List (List Nat×List Nat))(env:List AV)(s:iM):Prop:=
 yX ms after acc.reverse=true/\Q .normal env s
def mY(P:Program)(k0:Nat)(F:List (List Nat×List Nat)->List AV->iM->Prop)(ms:List jo)(acc:List (List Nat×List Nat))(foot:List Nat)(d:Option Nat)(env:List AV)(s:iM)
 (o:uI):Prop:=CL P k0 (sat s) (fun x δ ex=>yt P k0 F ms ((ex++foot,δ.map (·.1))::acc) (jB d env x) (tq s δ)) o
def oG(P:Program)(k0:Nat)(F:List (List Nat×List Nat)->List AV->iM->Prop)(ms:List jo)(acc:List (List Nat×List Nat))(foot:List Nat)(d:Option Nat)(env:List AV)(s:iM)
 (f:Nat) (args:List AV):Prop:=Yd P k0 (sat s) f args fun x δ ex=>yt P k0 F ms ((ex++foot,δ.map (·.1))::acc) (jB d env x) (tq s δ)
def D9(P:Program)(k0:Nat)(F:List (List Nat×List Nat)->List AV->iM->Prop)(ms:List jo)(acc:List (List Nat×List Nat))(foot:List Nat)(d:Option Nat)(env:List AV)(s:iM)
 (b:Bool) (o1 o2:uI):Prop:=if b=true then mY P k0 F ms acc foot d env s o1 else mY P k0 F ms acc foot d env s o2
def Be(P:Program)(k0:Nat)(F:List (List Nat×List Nat)->List AV->iM->Prop)(b want:Bool)(m:vJ)(d:Option Nat)(ms:List jo)(acc:List (List Nat×List Nat))(env:List AV)(s:iM):Prop:=
 if b=want then mY P k0 F ms acc (xd (ev env) m) d env s (mW P k0 (ev env) (sat s) m)else yt P k0 F ms (([],[])::acc) (jB d env (.kZ [])) s
def adE(P:Program)(k0:Nat)(F:List (List Nat×List Nat)->List AV->iM->Prop)(want:Bool)(m:vJ)(d:Option Nat)(ms:List jo)(acc:List (List Nat×List Nat))(env:List AV)(s:iM):AV->Prop
 |.d (.lit (.bool b))=>Be P k0 F b want m d ms acc env s
 |.kZ []=>yt P k0 F ms (([],[])::acc) (jB d env (.kZ [])) s
 |_=>False
section
variable{P:Program}{k0:Nat}{F:List (List Nat×List Nat)->List AV->iM->Prop}{b want:Bool}{m:vJ}{d:Option Nat}{ms:List jo}{env:List AV}{s:iM}
 {acc:List (List Nat×List Nat)} {foot:List Nat}
theorem XQ:yt P k0 F [] acc env s=F acc env s:=(rfl)
theorem QV:yt P k0 F (⟨d,m,none⟩::ms) acc env s=mY P k0 F ms acc (xd (ev env) m) d env s (mW P k0 (ev env) (sat s) m):=(rfl)
theorem QU{g:Nat}:yt P k0 F (⟨d,m,some (some g,want)⟩::ms) acc env s=adE P k0 F want m d ms acc env s (env.getD g .iO):=by
 simp only[yt,gd];generalize env.getD g .iO=x;cases x with
 |d y=>cases y with
  |lit u=>cases u with
   |bool b=>
    simp only[adE,Be];cases b<;>cases want<;>rfl
   |_=>rfl
  |_=>rfl
 |kZ cs=>cases cs<;>rfl
 |_=>rfl
theorem UE{x:AV}{δ:List (Nat×Ob)}:mY P k0 F ms acc foot d env s (.ok x δ)=yt P k0 F ms ((foot,δ.map (·.1))::acc) (jB d env x) (tq s δ):=(rfl)
theorem Nn{p:Prop}{o:uI}:mY P k0 F ms acc foot d env s (.need p o)=(p/\mY P k0 F ms acc foot d env s o):=(rfl)
theorem Nm{f:Nat}{args:List AV}:mY P k0 F ms acc foot d env s (.call f args)=oG P k0 F ms acc foot d env s f args:=(rfl)
theorem UD{o1 o2:uI}:mY P k0 F ms acc foot d env s (.br b o1 o2)=D9 P k0 F ms acc foot d env s b o1 o2:=(rfl)
theorem abj{o1 o2:uI}:D9 P k0 F ms acc foot d env s true o1 o2=mY P k0 F ms acc foot d env s o1:=by simp[D9]
theorem abi{o1 o2:uI}:D9 P k0 F ms acc foot d env s false o1 o2=mY P k0 F ms acc foot d env s o2:=by simp[D9]
theorem Z1:Be P k0 F true true m d ms acc env s=mY P k0 F ms acc (xd (ev env) m) d env s (mW P k0 (ev env) (sat s) m):=by simp[Be]
theorem ZY:Be P k0 F false false m d ms acc env s=mY P k0 F ms acc (xd (ev env) m) d env s (mW P k0 (ev env) (sat s) m):=by simp[Be]
theorem Z0:Be P k0 F true false m d ms acc env s=yt P k0 F ms (([],[])::acc) (jB d env (.kZ [])) s:=by simp[Be]
theorem ZZ:Be P k0 F false true m d ms acc env s=yt P k0 F ms (([],[])::acc) (jB d env (.kZ [])) s:=by simp[Be]
end
theorem ac2{P:Program}{k:Nat}{Q:Post}{env:List AV}{s:iM}{ms:List jo}{after:List g_}(hP:P.follows .mixedOrders=true)
 (h:yt P k (Dk ms after Q) ms [] env s):oR P k (.draw ms after) Q env s:=aaD hP h
theorem jM{ms:List jo}{after:List g_}{Q:Post}{acc:List (List Nat×List Nat)}{env:List AV}{s:iM}(h:yX ms after acc.reverse=true)(hq:Q .normal env s):
 Dk ms after Q acc env s:=⟨h,hq⟩
theorem aaz{x:D}:acY (.d x)=Ta (uw (.d x)):=(rfl)
theorem P3{e e' id off len:Nat}{n:Int}:KC e n (.su e' id off len)=.need (e'=e/\0<=n/\n<len) (.ok (.ptr id (off+n.toNat*e)) []):=(rfl)
theorem Wo{e:Nat}{n:Int}{x:D}:KC e n (.d x)=Oc e n (uw (.d x)):=(rfl)
theorem P4{e e' id:Nat}{n:Int}{xs:List D}:KC e n (.own e' id xs)=Oc e n (some (e',xs)):=(rfl)
attribute [go_sem] NG IQ JY ND Tj OZ XZ XQ QV QU adE UE Nn Nm UD abj abi Z1 ZY Z0 ZZ Ge vG Ti Of OY JB abo RM SP unL TI ZG adH Oc P3 Wo P4 acW Yk Ta aaz OS Qz OQ RJ F6 LM adG Jd Vv RQ Vw ZP hiL Oi SE mW xd tq
def uY:Value:=.slice none 0 0
theorem St.CY{C:Ctx}{β:i_}{env:List AV}{s:iM}{a:Act}{w:World}(h:St C β env s a w){id t e:Nat}(hd:sat s id=.dead):
 St C (iS β id (.tok uY 0)) env (sset s id (.tok t e 0)) a w/\nT β s w (iS β id (.tok uY 0)) (sset s id (.tok t e 0)) w:=by
 have hno:β id=.no:=by have:=h.inv.obs id;rw[hd]at this;exact this
 have noOwn:∀b o,¬own (iS β id (.tok uY 0)) [(id,.tok t e 0)] b o:=fun b o ⟨i,hi⟩=>by
  by_cases h1:i=id
  ·subst h1;simp[sat,iS,uY]at hi
  ·simp[sat,h1]at hi
 have noBlk:∀b,¬iG (iS β id (.tok uY 0)) [(id,.tok t e 0)] id b:=fun b hi=>by simp[iG,sat,iS,uY]at hi
 have m:nT β s w (iS β id (.tok uY 0)) (sset s id (.tok t e 0)) w:=by
  refine⟨aC _,rfl,fun b o v hc _=>hc,fun b hb _=>rfl,fun b o ho=>?_,fun i b hb=>?_,fun i=>?_⟩
  ·rcases xJ ho with ho|ho
   ·exact .inl ho
   ·exact absurd ho (noOwn b o)
  ·rcases kG hb with⟨_,hb⟩|⟨_,hb⟩
   ·exact .inl ⟨i,hb⟩
   ·exact absurd hb (noBlk b)
  ·by_cases hi:i=id
   ·subst hi;simp only[iS,aA];rw[hno];trivial
   ·simp only[iS,hi,aE];exact .refl _
 refine⟨h.move m (fun i=>?_) (fun i j b hi hj=>?_),m⟩
 ·rw[jA];by_cases hi:i=id
  ·subst hi;simp only[aA,yb];exact⟨uY,by simp[iS],.inl ⟨rfl,rfl⟩⟩
  ·simp only[hi,aE];exact(h.inv.obs i).yq m (by simp[iS,hi]) (fun b hb=>rfl) rfl
 ·rcases kG hi with⟨hi1,hi2⟩|⟨rfl,hi2⟩<;>rcases kG hj with⟨hj1,hj2⟩|⟨rfl,hj2⟩
  ·exact h.inv.inj i j b hi2 hj2
  ·exact absurd hj2 (noBlk b)
  ·exact absurd hi2 (noBlk b)
  ·rfl
theorem CR{O:Own}{w:World}{e0:Nat}{v:Value}(h:D.ok O w (.sl e0 (some true) []) v):v=uY:=by
 simp only[D.ok,O7]at h;obtain⟨a,cap,h1,_,⟨rfl,rfl⟩,_⟩:=h;simpa[uY]using h1
theorem DQ{β:i_}{O:Own}{w:World}{e id:Nat}(hb:β id=.tok uY 0):AV.ok β O w (.own e id []) uY:=by
 simp only[AV.ok,D.ok,O7];exact⟨⟨none,0,by simp[uY],by simp[Nr],trivial,by simp⟩,uY,0,by rw[hb];exact⟨rfl,rfl⟩,aC _,fun _=>rfl⟩
theorem iW.Ll{k:Nat}{env:List AV}{s:iM}(i id t e:Nat){e0:Nat}(hd:sat s id=.dead)(hi:env[i]?=some (.d (.sl e0 (some true) []))):
 iW k env s (env.set i (.own e id [])) (sset s id (.tok t e 0)):=fun _ _ _ _ _ hst=>by
 obtain⟨h1,m⟩:=hst.CY (t:=t) (e:=e) hd;refine⟨_,h1.defers,h1.inv,by rw[h1.len,dW],fun j x hj=>?_⟩;rw[de]at hj;split at hj
 ·rename_i hij;subst hij;split at hj
  ·cases hj;have:=hst.env i _ hi;simp only[AV.ok]at this;rw[CR this];exact DQ (by simp[iS])
  ·cases hj
 ·exact h1.env j x hj
theorem St.MZ{C:Ctx}{β:i_}{env:List AV}{s:iM}{a:Act}{w:World}(h:St C β env s a w){o t:Nat}{cs cs':List AV}(ho:sat s o=.obj t cs)
 (hc:∀vs,AV.jk β (C.iN β s) w cs vs->AV.jk β (C.iN β s) w cs' vs):St C β env (sset s o (.obj t cs')) a w:=by
 have hown:∀b x,own β (sset s o (.obj t cs')) b x<->own β s b x:=fun b x=>by
  constructor<;>rintro⟨i,hi⟩<;>refine⟨i,?_⟩<;>rw[jA]at*<;>by_cases hio:i=o
  ·subst hio;simp only[aA]at hi;rw[ho];exact hi
  ·simpa[hio]using hi
  ·subst hio;rw[ho]at hi;simpa using hi
  ·simpa[hio]using hi
 have hblk:∀i b,iG β (sset s o (.obj t cs')) i b<->iG β s i b:=fun i b=>by
  unfold iG;rw[jA];by_cases hio:i=o
  ·subst hio;simp[ho]
  ·simp[hio]
 have m:nT β s w β (sset s o (.obj t cs')) w:=
  ⟨aC _,rfl,fun b o v hc _=>hc,fun b hb _=>rfl,fun b x hx=>.inl ((hown b x).1 hx),fun i b hb=>.inl ⟨i,(hblk i b).1 hb⟩,fun i=>.refl _⟩
 refine h.move m (fun i=>?_) (fun i j b hi hj=>h.inv.inj i j b ((hblk i b).1 hi) ((hblk j b).1 hj));rw[jA];by_cases hio:i=o
 ·subst hio;simp only[aA];have:=h.inv.obs i;rw[ho]at this;obtain⟨b,vs,h1,h2,h3,h4⟩:=this;exact⟨b,vs,h1,h2,h3,h4.imp fun _ h=>m.jk (hc _ h)⟩
 ·simp only[hio,aE];exact(h.inv.obs i).yq m rfl (fun b hb=>rfl) rfl
theorem DN{β:i_}{O:Own}{w:World}{y:AV}:∀{cs:List AV}{vs:List Value}{j:Nat}{x:AV},cs[j]?=some x->(∀v,AV.ok β O w x v->AV.ok β O w y v)->AV.jk β O w cs vs->AV.jk β O w (cs.set j y) vs
 |[],vs,j,x,hj,_,_=>by simp at hj
 |c::cs,vs,0,x,hj,hy,h=>by
  simp only[AV.jk,bG]at h⊢;simp at hj;subst hj;obtain⟨v,r,h1,h2,h3⟩:=h;exact⟨v,r,h1,hy v h2,h3⟩
 |c::cs,vs,j+1,x,hj,hy,h=>by
  simp only[AV.jk,bK]at h⊢;obtain⟨v,r,h1,h2,h3⟩:=h;exact⟨v,r,h1,h2,DN (by simpa using hj) hy h3⟩
theorem iW.wT{k:Nat}{env:List AV}{s:iM}(o j id t e:Nat){e0 t':Nat}{cs:List AV}(hd:sat s id=.dead)(ho:sat s o=.obj t' cs)(hj:cs[j]?=some (.d (.sl e0 (some true) []))):
 iW k env s env (sset (sset s id (.tok t e 0)) o (.obj t' (cs.set j (.own e id [])))):=fun _ _ _ _ _ hst=>by
 obtain⟨h1,m⟩:=hst.CY (t:=t) (e:=e) hd;have hoi:o≠id:=by rintro rfl;rw[hd]at ho;cases ho
 refine⟨_,h1.MZ (cs:=cs) (by rw[jA,aj hoi,ho]) fun _ hv=>DN hj (fun _ hv=>?_) hv⟩;simp only[AV.ok]at hv;rw[CR hv];exact DQ (by simp[iS])
def D.le(x y:D):Prop:=∀O w vs,D.J6 O w x vs->D.J6 O w y vs
def tr:List D->List D->Prop
 |[],[]=>True
 |x::xs,y::ys=>D.le x y/\tr xs ys
 |_,_=>False
theorem D.le_refl(x:D):D.le x x:=fun _ _ _ h=>h
theorem tr.refl:∀xs:List D,tr xs xs
 |[]=>trivial
 |x::xs=>⟨D.le_refl x,tr.refl xs⟩
theorem tr.length:∀{xs ys:List D},tr xs ys->xs.length=ys.length
 |[],[],_=>rfl
 |_::_,_::_,h=>by simp[tr.length h.2]
 |[],_::_,h=>h.elim
 |_::_,[],h=>h.elim
theorem tr.append:∀{xs ys us vs:List D},tr xs ys->tr us vs->tr (xs++us) (ys++vs)
 |[],[],_,_,_,h=>h
 |_::_,_::_,_,_,h,k=>⟨h.1,tr.append h.2 k⟩
 |[],_::_,_,_,h,_=>h.elim
 |_::_,[],_,_,h,_=>h.elim
theorem tr.row{O:Own}{w:World}{b e:Nat}:∀{xs ys:List D}{o:Nat},tr xs ys->D.row O w b o e xs->D.row O w b o e ys
 |[],[],_,_,h=>h
 |_::_,_::_,_,h,hr=>by
  rw[D.ow]at hr⊢;obtain⟨⟨vs,h1,h2,h3⟩,h4⟩:=hr;exact⟨⟨vs,h1,h2,h.1 O w vs h3⟩,tr.row h.2 h4⟩
 |[],_::_,_,h,_=>h.elim
 |_::_,[],_,h,_=>h.elim
theorem ZO{O:Own}{w:World}{e:Nat}{nl:Option Bool}{xs ys:List D}{v:Value}(h:tr xs ys)(hv:D.ok O w (.sl e nl xs) v):D.ok O w (.sl e nl ys) v:=by
 simp only[D.ok]at hv⊢;obtain⟨a,cap,h1,h2,h3,h4⟩:=hv;refine⟨a,cap,by rw[<-h.length];exact h1,by rw[<-h.length];exact h2,h3,?_⟩;rcases h4 with h4|⟨b,o,h5,h6⟩
 ·subst h4;cases ys with
  |nil=>exact .inl rfl
  |cons y ys=>exact h.elim
 ·exact .inr ⟨b,o,h5,h.row h6⟩
theorem AV.GO{e:Nat}{nl:Option Bool}{xs ys:List D}(h:tr xs ys):AV.le (.d (.sl e nl xs)) (.d (.sl e nl ys)):=fun _ _ _ _ hv=>by
 simp only[AV.ok]at hv⊢;exact ZO h hv
theorem AV.xm{e id:Nat}{xs ys:List D}(h:tr xs ys):AV.le (.own e id xs) (.own e id ys):=fun _ _ _ _ hv=>by
 simp only[AV.ok]at hv⊢;obtain⟨h1,u,n,h2,h3,h4⟩:=hv;exact⟨ZO h h1,u,n,h2,by rw[<-h.length];exact h3,by rw[<-h.length];exact h4⟩
def pch(pv:Value):Exit:=.panic [{v:=pv,recovered:=false}]
def XE(pv:Value)(e:Ending)(v:Value):Prop:=(∃u,e=.returned u/\v=.tuple #[u,.bool true])\/(e=.panicked [{v:=pv,recovered:=false}]/\v=.tuple #[.bool false,.bool false])
def okB(b:Bool):AV:=.d (.lit (.bool b))
def XK(Q:Post)(pv:Value)(d:Option Nat)(x:AV)(env:List AV)(s:iM):Prop:=∃y b,x=.kZ [y,okB b]/\(b=true->Q .normal (jB d env y) s)/\(b=false->Q (pch pv) env s)
def vC(P:Program)(k0:Nat)(pv:Value)(Q:Post)(m:jo)(env:List AV)(s:iM):Prop:=
 match m.op with
 |.mB f args=>SC (XE pv) P k0 f (args.map (ev env)) env s (XK Q pv m.dst)
 |.Hz x=>ev env x=.d (.lit pv)/\(∃t u,pv=.iface t u)/\Q (pch pv) env s
 |_=>False
section
variable{P:Program}{o:Oper}
theorem MM{f:Nat}{args:List Operand}(hm:kY P o=some (.mB f args)):∃c:Call,o.op=.call c/\c.callee=.value (.func f)/\enters P f=true/\c.args.toList=args:=by
 unfold kY at hm;split at hm
 case h_19 c hop=>
  split at hm
  ·rename_i g hc;split at hm
   ·rename_i he;cases hm;exact⟨c,hop,hc,he,rfl⟩
   ·cases hm
  all_goals exfalso
  all_goals repeat(first
   |(cases hm;done)
   |(simp only[av,aB]at hm)
   |(obtain⟨_,_,hm⟩:=hm)
   |split at hm)
 all_goals exfalso
 all_goals repeat(first
  |(cases hm;done)
  |(simp only[av,aB]at hm)
  |(obtain⟨_,_,hm⟩:=hm)
  |split at hm)
theorem Tq{x:Operand}(hm:kY P o=some (.Hz x)):o.op=.panic x:=by
 unfold kY at hm;split at hm
 case h_20 y hop=>cases hm;exact hop
 all_goals exfalso
 all_goals repeat(first
  |(cases hm;done)
  |(simp only[av,aB]at hm)
  |(obtain⟨_,_,hm⟩:=hm)
  |split at hm)
end
theorem GM{P:Program}{C:Ctx}{ops:Array Oper}{o:Oper}{m:jo}(hm:sL P ops o=some m.erase)(hg:m.guard=none){env:List AV}{s:iM}{pv:Value}{Q:Post}(hk:vC P C.k pv Q m env s)
 {β:i_} {a:Act} {w:World} (hst:St C β env s a w) {N:Act->World->Prop} (hN:∀a' w',(∃C',Ext C C'/\∃β' env' s',St C' β' env' s' a' w'/\Q .normal env' s')->N a' w'):
 o.guard=none/\o.wpIn C.qt 0 P a w N (fun e a' w'=>∃C',Ext C C'/\∃β' env' s',St C' β' env' s' a' w'/\Q e env' s'):=by
 obtain⟨h1,h2,h3⟩:=xI hm;have hgo:o.guard=none:=by
  rw[hg]at h3;cases hq:o.guard with
  |none=>rfl
  |some p=>rw[hq]at h3;cases h3
 refine⟨hgo,?_⟩;unfold vC at hk;split at hk
 ·rename_i f args hop;have h1':kY P o=some (.mB f args):=by
   rw[hop]at h1;cases hq:kY P o with
   |some x=>rw[hq]at h1;rw[Option.getD_some]at h1;rw[<-h1];rfl
   |none=>rw[hq]at h1;cases h1
  obtain⟨c,hoc,hc,he,rfl⟩:=MM h1';have hnd:∀c,o.op≠ .defer c:=fun c' hc'=>by rw[hoc]at hc';cases hc'
  have hargs:AV.jk β (C.iN β s) w (c.args.toList.map (ev env)) (c.args.map a.eval).toList:=by rw[dy];exact CM hst c.args.toList
  have hrun:(execOp a.eval o).run P w=.ok (.enter f (c.args.map a.eval)) w:=by
   simp only[execOp,hoc,resolve,hc,Act.eval,Deferred.ofValue,aY,bu,aM,invoke];rw[show #[]++c.args.map a.eval++#[]=c.args.map a.eval by simp];exact Bu he _ _
  refine⟨fun _ _=>trivial,?_⟩;rw[eA _ _ _ hnd,hrun,Oper.uponIn_enter];refine⟨fun h=>by simp[Ctx.qt]at h,Gm.2 ((E4 hk hst hargs).mono ?_)⟩;rintro e w' ⟨v,x,β',s',hE,hst',hx,y,b,rfl,hq1,hq2⟩;rcases hE with⟨u,rfl,rfl⟩|⟨rfl,rfl⟩
  ·simp only[AV.ok,AV.jk,okB,D.ok]at hx;obtain⟨vs,hvs,v1,r1,e1,hy,v2,r2,e2,hb,hr⟩:=hx;cases hvs;simp only[bY]at e1;obtain⟨rfl,rfl⟩:=e1;simp only[bY]at e2;obtain⟨rfl,rfl⟩:=e2;have hb':b=true:=by simpa using hb.1.symm
   refine hN _ _ ⟨C,.refl C,β',_,s',hst'.put hy o.dst,?_⟩;have:=hq1 hb';rwa [h2]at this
  ·simp only[AV.ok,AV.jk,okB,D.ok]at hx;obtain⟨vs,hvs,v1,r1,e1,hy,v2,r2,e2,hb,hr⟩:=hx;cases hvs;simp only[bY]at e1;obtain⟨rfl,rfl⟩:=e1;simp only[bY]at e2;obtain⟨rfl,rfl⟩:=e2;have hb':b=false:=by simpa using hb.1.symm
   exact⟨C,.refl C,β',_,s',hst',hq2 hb'⟩
 ·rename_i x hop;obtain⟨hx,⟨t,u,rfl⟩,hq⟩:=hk;have h1':kY P o=some (.Hz x):=by
   rw[hop]at h1;cases hq:kY P o with
   |some x=>rw[hq]at h1;rw[Option.getD_some]at h1;rw[<-h1];rfl
   |none=>rw[hq]at h1;cases h1
  have hoc:=Tq h1';have hnd:∀c,o.op≠ .defer c:=fun c' hc'=>by rw[hoc]at hc';cases hc'
  refine⟨fun _ _=>trivial,?_⟩;have hxv:=hst.ev x;rw[hx]at hxv;have hxv:a.eval x=.iface t u:=tO hxv;have hrun:(execOp a.eval o).run P w=.halt (.panic (.iface t u)) w:=by
   simp only[execOp,hoc,hxv];rfl
  rw[eA _ _ _ hnd,hrun,Oper.uponIn_panic];exact⟨C,.refl C,β,env,s,hst,hq⟩
 ·exact hk.elim
theorem Ff{P:Program}{C:Ctx}{ops:Array Oper}{Q:Post}{m:jo}{pv:Value}(hg:m.guard=none):∀(n i:Nat)(ms:List jo)(env:List AV)(s:iM),i+n+1=ops.size->ms.length=n->
 (ops.toList.drop i).mapM (sL P ops)=some ((ms++[m]).map jo.erase)->xA P C.k ms env s (vC P C.k pv Q m)->
 ∀(β:i_)(a:Act)(w:World),St C β env s a w->wpOpsIn C.qt 0 P ops (fun e a' w'=>∃C',Ext C C'/\∃β' env' s',St C' β' env' s' a' w'/\Q e env' s') (List.range' i (n+1)) a w
 |0,i,ms,env,s=>fun hi hms hm hk β a w hst=>by
  have hms':ms=[]:=bQ.1 hms;subst hms';have hlt:i<ops.toList.length:=by simp;omega
  rw[ay hlt]at hm;simp only[cx,cu,av,aZ,aK,cJ]at hm;obtain⟨m0,h1,ms0,h2,h3⟩:=hm;simp only[dH,aP,bY]at h3;obtain⟨rfl,rfl⟩:=h3;have ho:ops[i]?=some ops.toList[i]:=by simp at hlt;simp[hlt]
  obtain⟨k1,k2⟩:=GM h1 hg (show vC P C.k pv Q m env s from hk) hst (N:=fun a' w'=>∃C',Ext C C'/\∃β' env' s',St C' β' env' s' a' w'/\Q .normal env' s') fun _ _ h=>h
  rw[show List.range' i (0+1)=[i]from rfl];simp only[wpOpsIn];rw[ho];simp only;rw[ah (zK k1)];exact k2
 |n+1,i,ms,env,s=>fun hi hms hm hk β a w hst=>by
  have hlt:i<ops.toList.length:=by simp;omega
  rw[ay hlt]at hm;simp only[cx,cu,av]at hm;obtain⟨m0,h1,ms0,h2,h3⟩:=hm;cases ms with
  |nil=>cases hms
  |cons m' ms'=>
  simp only[bz,aK,dH,aP,bY]at h3;obtain⟨rfl,rfl⟩:=h3;rw[dQ];simp only[wpOpsIn];have ho:ops[i]?=some ops.toList[i]:=by simp at hlt;simp[hlt]
  rw[ho];simp only;refine xQ (K:=fun env s=>xA P C.k ms' env s (vC P C.k pv Q m)) h1 ?_ hst fun β' env' s' a' w' h4 h5=>Ff hg n (i+1) ms' env' s' iA (by simpa using hms) h2 h5 β' a' w' h4
  simpa only[xA]using hk
theorem MJ{P:Program}{k:Nat}{Q:Post}{env:List AV}{s:iM}{ms:List jo}{m:jo}(pv:Value)(hg:m.guard=none)(h:xA P k ms env s (vC P k pv Q m)):oR P k (.iE (ms++[m])) Q env s:=
 fun C hC _ c hc β a w hst=>by
 obtain⟨id,ops,rfl,hm⟩:=DF hc;subst hC;refine wpIn_region ?_;have hsz:ms.length+1=ops.size:=by
  have:=gH _ _ hm;simpa using this
 have:=Ff (Q:=Q) (ops:=ops) hg ms.length 0 ms env s iA rfl (by simpa using hm) h β a w hst;rwa [show ops.size=ms.length+1 by omega,dL]
theorem IX{P:Program}{C:Ctx}{ops:Array Oper}{Q:Post}{pv:Value}{m0:jo}(hg0:m0.guard=none){ms:List jo}{after:List g_}{x:Nat->AV}{δ:Nat->List (Nat×Ob)}{ft:Nat->List Nat×List Nat}
 {E:Nat->List AV} {S:Nat->iM} (hm:ops.toList.mapM (sL P ops)=some ((ms++[m0]).map jo.erase)) (hlast:∀i,i<ms.length->i∈(J9 after).getD ms.length []) (ha:after=ops.toList.map fun o=>(o.after.toList.filter (Region.binds .any)).map (·.on))
 (h:ur P C.k ms after x δ ft E S) (hQ:vC P C.k pv Q m0 (E ms.length) (S ms.length)):
 ∀(fuel:Nat)(listed:Array Bool)(env:List AV)(s:iM)(β:i_)(a:Act)(w:World),listed.size=ops.size->Nj (fun j=>listed.getD j false) ops.size<=fuel->listed.getD ms.length false=false->
  (∀i,listed.getD i false=true->∀e∈after.getD i [],listed.getD e false=true)->Fh E S ms x δ (fun j=>listed.getD j false) env s->St C β env s a w->
  wpAnyIn C.qt 0 P .any ops (fun e a' w'=>∃C',Ext C C'/\∃β' env' s',St C' β' env' s' a' w'/\Q e env' s') fuel listed a w:=by
 obtain⟨hlen,hget⟩:=za hm;rw[aJ,ak]at hlen;have hsz:ms.length+1=ops.size:=by simpa using hlen
 have haf:∀i o,ops[i]?=some o->after.getD i []=(o.after.toList.filter (Region.binds .any)).map (·.on):=fun i o ho=>by rw[ha,List.getD_eq_getElem?_getD,bt,Array.getElem?_toList,ho];rfl
 have hcl:Ah after (J9 after)=true:=by
  have:=h.ok;simp only[yX,bh]at this;exact this.1
 have hback:∀i,∀e∈after.getD i [],e<i:=fun i e he=>by
  have hc:=hcl;simp only[Ah,bh,cM,cT,au]at hc;have hi:i<after.length:=by
   rcases cO i after.length with h'|h'
   ·exact h'
   ·rw[List.getD_eq_getElem?_getD,bT h']at he;simp at he
  exact hc.1 i hi e he
 have isReady:∀{listed:Array Bool},listed.size=ops.size->∀{i:Nat},i<ops.size->listed.getD i false=false->(∀e∈after.getD i [],listed.getD e false=true)->
  i∈Region.ready .any ops listed:=fun{listed} hs {i} hi hu hr=>by
  rw[fS];have ho:ops[i]?=some ops[i]:=cW hi;refine⟨?_,_,ho,fun e he hb=>hr _ ?_⟩
  ·have:i<listed.size:=by omega
   simpa[this]using hu
  ·rw[haf i _ ho];exact a_.2 ⟨e,dI.2 ⟨by simpa using he,hb⟩,rfl⟩
 have none_ready:∀{listed:Array Bool},listed.size=ops.size->(∀i,i<ops.size->listed.getD i false=true)->Region.ready .any ops listed=[]:=fun{listed} hs hall=>by
  cases hr:Region.ready .any ops listed with
  |nil=>rfl
  |cons i rs=>
   have hi:i∈Region.ready .any ops listed:=by rw[hr];exact bf
   obtain⟨h1,o,ho,_⟩:=fS.1 hi;have hl:i<ops.size:=(aW.1 ho).1;have h2:=hall i hl;have:i<listed.size:=by omega
   simp[this]at h1 h2;rw[h1]at h2;cases h2
 have all:∀{listed:Array Bool},listed.size=ops.size->Region.ready .any ops listed=[]->∀i,i<ops.size->listed.getD i false=true:=fun{listed} hs hn i=>by
  induction i using Nat.strongRecOn with
  |ind i ih=>
   intro hi;cases hu:listed.getD i false with
   |true=>rfl
   |false=>
    have:=isReady hs hi hu fun e he=>ih e (hback i e he) (by have:=hback i e he;omega)
    rw[hn]at this;cases this
 have done:∀{listed:Array Bool}{env:List AV}{s:iM},(∀i,i<ms.length->listed.getD i false=true)->
  Fh E S ms x δ (fun j=>listed.getD j false) env s->env=E ms.length/\∀id,sat s id=sat (S ms.length) id:=fun{listed env s} hall hb=>by
  have hb':=hb.env (L':=fun _=>true) fun j hj=>hall j hj
  have e1:env=E ms.length:=by
   refine eG fun t=>?_
   by_cases ht:t<(E 0).length
   ·have h1:=hb'.slot t ht;rw[<-h.slot ht (aC _)]at h1;have l1:t<env.length:=by rw[hb'.len];exact ht
    have l2:t<(E ms.length).length:=by rw[h.len (aC _)];exact ht
    rw[List.getD_eq_getElem?_getD,List.getD_eq_getElem?_getD,az l1,az l2]at h1;rw[az l1,az l2];simpa using h1
   ·rw[bT (by rw[hb'.len];omega),bT (by rw[h.len (aC _)];omega)]
  exact⟨e1,fun id=>by rw[hb'.obj id,<-h.obj id (aC _)]⟩
 intro fuel;induction fuel with
 |zero=>
  intro listed env s β a w hs hf hu0 hd hb hst;exact absurd (Hs (gz.1 hf) ms.length iA) (by rw[hu0];simp)
 |succ fuel ih=>
  intro listed env s β a w hs hf hu0 hd hb hst;refine⟨fun hn=>absurd (all hs hn ms.length iA) (by rw[hu0];simp),fun i hi=>?_⟩;obtain⟨h1,o,ho,hall⟩:=fS.1 hi;have hl:i<ops.size:=(aW.1 ho).1;have hll:i<listed.size:=by omega
  have hu:listed.getD i false=false:=by simp[hll]at h1⊢;exact h1
  have hr:∀e∈after.getD i [],listed.getD e false=true:=fun e he=>by
   rw[haf i o ho]at he;obtain⟨d,hd1,rfl⟩:=a_.1 he;obtain⟨hd2,hd3⟩:=dI.1 hd1;exact hall d (by simpa using hd2) hd3
  obtain⟨m0',hmi0,hmo⟩:=hget i o (by simpa using ho);rw[bt]at hmi0;obtain⟨m,hmi,rfl⟩:=aB.1 hmi0;unfold wpOpIn;rw[ho];simp only;have hset:∀j,j≠i->(listed.setIfInBounds i true).getD j false=listed.getD j false:=fun j hj=>getD_set_ne false (gG hj)
  have hone:(listed.setIfInBounds i true).getD i false=true:=by simp[hll]
  by_cases hin:i=ms.length
  ·subst hin;rw[bJ (aC _),cN]at hmi;cases hmi;have hall':∀i,i<ms.length->listed.getD i false=true:=fun j hj=>Bt hcl hd ms.length hr j (hlast j hj)
   obtain⟨e1,e2⟩:=done hall' hb;rw[<-e1]at hQ;obtain⟨β1,hst1⟩:=iW.XC (k:=C.k) (env:=env) e2 C β a w rfl hst;have hN:∀a' w',(∃C',Ext C C'/\∃β' env' s',St C' β' env' s' a' w'/\Q .normal env' s')->
    wpAnyIn C.qt 0 P .any ops (fun e a' w'=>∃C',Ext C C'/\∃β' env' s',St C' β' env' s' a' w'/\Q e env' s') fuel (listed.setIfInBounds ms.length true) a' w':=fun a' w' hq=>by
    have hnr:Region.ready .any ops (listed.setIfInBounds ms.length true)=[]:=none_ready (by simpa using hs) fun j hj=>by
     by_cases hj':j=ms.length
     ·subst hj';exact hone
     ·rw[hset j hj'];exact hall' j iA
    cases fuel with
    |zero=>exact⟨hnr,hq⟩
    |succ fuel=>exact⟨fun _=>hq,fun j hj=>by rw[hnr]at hj;cases hj⟩
   obtain⟨k1,k2⟩:=GM (Q:=Q) hmo hg0 hQ hst1 hN;rw[ah (zK k1)];exact k2
  ·have hlt:i<ms.length:=by omega
   rw[aV hlt]at hmi;refine xQ (K:=fun env' s'=>env'=jB m.dst env (x i)/\s'=tq s (δ i)) hmo (h.run hd hmi hu hr hb) hst fun β' env' s' a' w' h4 h5=>?_
   obtain⟨rfl,rfl⟩:=h5;refine ih _ _ _ β' a' w' (by simpa using hs) ?_ (by rw[hset _ (gG hin)];exact hu0) (fun j hj e he=>?_) (h.next hd hmi hu hr hone hset hb) h4
   ·have:=(JD (L:=fun j=>listed.getD j false) (L':=fun j=>(listed.setIfInBounds i true).getD j false) hu hone hset (n:=ops.size)).2 hl;omega
   ·by_cases hji:j=i
    ·subst hji;exact f_ (hr e he)
    ·rw[hset j hji]at hj;exact f_ (hd j hj e he)
theorem WB{P:Program}{k:Nat}{Q:Post}{env:List AV}{s:iM}{ms:List jo}{m0:jo}{after:List g_}(pv:Value)(hP:P.follows .mixedOrders=true)(hg0:m0.guard=none)
 (hlast:((List.range ms.length).all fun i=>((J9 after).getD ms.length []).contains i)=true)
 (h:yt P k (fun acc env s=>yX ms after acc.reverse=true/\vC P k pv Q m0 env s) ms [] env s):oR P k (.draw (ms++[m0]) after) Q env s:=fun C hC _ c hc β a w hst=>by
 obtain⟨id,ops,rfl,hm,ha⟩:=Is hc;subst hC;obtain⟨x,δ,ft,E,S,hE,hS,h1,h2,h3⟩:=Cf h;rw[aT,List.reverse_reverse]at h2;obtain⟨hlen,_⟩:=za hm;rw[aJ,ak]at hlen;have hsz:ms.length+1=ops.size:=by simpa using hlen
 have hrep:∀j,(Array.replicate ops.size false).getD j false=false:=fun j=>by
  rw[cn,Array.getElem?_replicate];split<;>rfl
 have g0:∀{β:Type}{f:Nat->Option β}{b:β}(n:Nat),gl f (fun j=>(Array.replicate ops.size false).getD j false) b n=b:=fun{β f b} n=>by
  induction n with
  |zero=>rfl
  |succ n ih=>simp only[gl];rw[aj (by rw[hrep];simp)];exact ih
 have hu:∀n,Nj (fun j=>(Array.replicate ops.size false).getD j false) n<=n:=fun n=>by
  induction n with
  |zero=>exact aC _
  |succ n ih=>simp only[Nj];rw[hrep];simp only;omega
 have hlast':∀i,i<ms.length->i∈(J9 after).getD ms.length []:=fun i hi=>by
  rw[cM]at hlast;simpa using hlast i (cT.2 hi)
 refine wpIn_region_any hP (IX hg0 hm hlast' ha ⟨h1,h2⟩ h3 ops.size _ env s β a _ (by simp) (hu _) (hrep _) (fun i hi=>?_) ⟨by rw[hE],fun t ht=>?_,fun id'=>?_⟩ hst.drew)
 ·rw[hrep]at hi;cases hi
 ·rw[g0,hE]
 ·rw[g0,hS]
def Km(pv:Value)(rs:List vK)(R:AV->iM->Prop):Post
 |.normal,env,s=>zH env s rs fun xs=>R (.kZ [xe xs,okB true]) s
 |.ret,env,s=>zH env s rs fun xs=>R (.kZ [xe xs,okB true]) s
 |.panic ch,_,s=>ch=[{v:=pv,recovered:=false}]/\R (.kZ [okB false,okB false]) s
 |_,_,_=>False
theorem BF{P:Program}{fn:Func}{tmps:Array Value}{R:Ending->World->Prop}{ch:List PanicEntry}(Z:World->Prop){B:Nat}
 (hZ:∀w w' D,Z w->w.grownBy w' (some D)->B<=D->(∃o:Obj,w.heap[D]?=some o/\Fu o)->Z w')
 (hfin:∀w,Z w->R (.panicked ch) w):
 ∀(Ds:List Nat)(w:World),Ds.Nodup->(∀D∈Ds,B<=D/\w.heap[D]?=some (.deferred (some [])))->Z w->LeavesInM Fence.wide 0 P fn tmps R (Ds.map BH) (.panicking ch) w
 |[],w,_,_,hz=>by simp only[cJ,LeavesInM,LeavesIn];exact hfin w hz
 |D::Ds,w,hn,hd,hz=>by
  simp only[aK,LeavesInM];have h1:=hd D bf;rw[bX]at hn;refine⟨by simp,.inl ⟨D,_,rfl,run_takeDeferred h1.2,BF Z hZ hfin Ds _ hn.2 (fun D' hD'=>?_) ?_⟩⟩
  ·have h2:=hd D' (aX _ hD');exact⟨h2.1,(dr fun e=>hn.1 (by rw[<-e];exact hD')).trans h2.2⟩
  ·exact hZ _ _ D hz (e_ w D _) h1.1 ⟨_,h1.2,rfl,rfl⟩
theorem Q2{pv:Value}{P:Program}{f:Nat}{fn:Func}{c:Code}{mc:iJ}{rs:List vK}{args:List AV}{s:iM}{k n:Nat}{R:AV->iM->Prop}
 (hf:P.funcs[f]?=some fn) (hb:fn.body=some c) (hm:oA P c=some mc.erase) (hn:fn.ntmps=n) (hr:fn.results.toList.mapM (AU P)=some rs)
 (h:oR P k mc (Km pv rs R) (args++List.replicate (n-args.length) .iO) s):rU (XE pv) P f args s k R:=by
 intro C vs hCs hCk hinv hargs;have hlen:=AV.jy hargs;let C0:Ctx:={C with ro:=none,dom:=C.w.heap.size,nm:=false};refine callsIn_wide.1 (callsIn_of_wp_marks (F:=Fence.wide) (n:=0) hf hb trivial ?_);have hst:St C0 C.β (args++List.replicate (n-args.length) .iO) s {tmps:=vs++Array.replicate (fn.ntmps-vs.size) undef,defers:=[]} C.w:=by
  refine⟨.nil,hCs▸hinv.ro none C.w.heap.size,?_,fun i x hx=>?_⟩
  ·simp at hlen;simp[hn,hlen]
  ·rw[hCs]at hargs;rw[eS]at hx;split at hx
   ·rename_i hi;have hi2:i<vs.size:=by simp at hlen;omega
    have h1:(vs++Array.replicate (fn.ntmps-vs.size) undef).getD i undef=vs[i]:=by simp[cn,fI,hi2]
    rw[h1];exact(AV.j_.1 hargs).2 i x _ hx (by simp[hi2])
   ·have:x=.iO:=by
     rw[dn]at hx;split at hx
     ·cases hx;rfl
     ·cases hx
    subst this;simp[AV.ok]
 refine dM (h C0 hCk (.inr ⟨rfl,rfl,aC _⟩) c hm C.β _ _ hst) fun e a' w' he=>?_
 obtain⟨C',hx,β',env',s',hst',hq⟩:=he;have fin:zH env' s' rs (fun xs=>R (.kZ [xe xs,okB true]) s')->LeavesInM Fence.wide 0 P fn a'.tmps (fun e w'=>∃v x β' s',XE pv e v/\Inv C β' s' w'/\AV.ok β' (C.iN β' s') w' x v/\R x s') a'.defers .returning w':=fun hq=>by
  obtain⟨_,Ds,hDs,hnd,hmk⟩:=hst'.defers;rw[hDs];refine AQ (B:=C.w.heap.size) (fun w=>Inv C0 β' s' w/\∀i x,env'[i]?=some x->AV.ok β' (C0.iN β' s') w x (a'.tmps.getD i undef)) (fun w1 w2 D hz hg hB ho=>?_) (fun w1 hz=>?_) Ds w' hnd (fun D hD=>?_) ⟨hx.inv _ _ _ hst'.inv,fun i x hi=>?_⟩
  ·have hr:∀r,some D=some r->∃o:Obj,w1.heap[r]?=some o/\Fu o:=fun r e=>by cases e;exact ho
   exact⟨hz.1.sv hg fun r e=>⟨by cases e;exact hB,hr r e⟩,fun i x hi=>AV.kA (fun b o v hc hn=>⟨eT hc hg (FD hr),hn⟩) (fun _=>.refl _) _ _ (hz.2 i x hi)⟩
  ·have hst1:St C0 β' env' s' {a' with defers:=[]} w1:=⟨.nil,hz.1,hst'.len,hz.2⟩;obtain⟨us,xs,h1,h2,h3⟩:=FU hst1 fn.results.toList rs _ hr hq;refine⟨if h:us.toArray.size=1 then us.toArray[0]else .tuple us.toArray,?_,.tuple #[if h:us.toArray.size=1 then us.toArray[0]else .tuple us.toArray,.bool true],.kZ [xe xs,okB true],β',s',.inl ⟨_,rfl,rfl⟩,hz.1.ro',?_,h3⟩
   ·rw[CV,ej];simp only[aY,Sem.run_map];rw[h1];simp only[aM,bu]
   ·have hl:=AV.jy h2;have hfb:C0.iN β' s'=C.iN β' s':=rfl;rw[hfb]at h2
    suffices hq:AV.ok β' (C.iN β' s') w1 (xe xs) (if h:us.toArray.size=1 then us.toArray[0]else .tuple us.toArray) by
     simp only[AV.ok,AV.jk,okB,D.ok];exact⟨_,rfl,_,_,rfl,hq,_,_,rfl,⟨rfl,rfl⟩,rfl⟩
    match xs,us,h2 with
    |[x],[u],h2=>
     simp only[AV.jk]at h2;obtain⟨_,_,h4,h5,h6⟩:=h2;cases h4;simpa[xe]using h5
    |[],[],h2=>simp only[xe,AV.ok];exact⟨#[],by simp,by simp[AV.jk]⟩
    |x::y::xs,u::v::us,h2=>
     simp only[xe,AV.ok];exact⟨(u::v::us).toArray,by simp,by simpa using h2⟩
  ·obtain⟨h1,h2,h3,h4⟩:=hmk D hD;exact⟨by rw[hx.dom]at h1;exact h1,(hst'.inv.pU D h2 h4).trans h3⟩
  ·have:=hst'.env i x hi;rwa [hx.iN]at this
 cases e with
 |normal=>exact fin hq
 |ret=>exact fin hq
 |exit id=>exact hq.elim
 |goto l=>exact hq.elim
 |panic ch=>
  obtain⟨rfl,hr'⟩:=hq;obtain⟨_,Ds,hDs,hnd,hmk⟩:=hst'.defers;show LeavesInM _ _ _ _ _ _ _ _ _;rw[hDs];refine BF (B:=C.w.heap.size) (fun w=>Inv C0 β' s' w) (fun w1 w2 D hz hg hB ho=>?_) (fun w1 hz=>?_) Ds w' hnd (fun D hD=>?_) (hx.inv _ _ _ hst'.inv)
  ·have hr:∀r,some D=some r->∃o:Obj,w1.heap[r]?=some o/\Fu o:=fun r e=>by cases e;exact ho
   exact hz.sv hg fun r e=>⟨by cases e;exact hB,hr r e⟩
  ·refine⟨.tuple #[.bool false,.bool false],.kZ [okB false,okB false],β',s',.inr ⟨rfl,rfl⟩,hz.ro',?_,hr'⟩;simp only[AV.ok,AV.jk,okB,D.ok];exact⟨_,rfl,_,_,rfl,⟨rfl,rfl⟩,_,_,rfl,⟨rfl,rfl⟩,rfl⟩
  ·obtain⟨h1,h2,h3,h4⟩:=hmk D hD;exact⟨by rw[hx.dom]at h1;exact h1,(hst'.inv.pU D h2 h4).trans h3⟩
 |outgrown=>exact hq.elim
theorem jV.abd{pv:Value}{P:Program}{f:Nat}{mc:iJ}{n:Nat}{rs:List vK}(h:jV P f mc n rs){args:List AV}{s:iM}{k:Nat}{R:AV->iM->Prop}
 (hm:oR P k mc (Km pv rs R) (args++List.replicate (n-args.length) .iO) s):rU (XE pv) P f args s k R:=by
 obtain⟨fn,h1,h2,h3,h4⟩:=h.fn;rw[av]at h2;obtain⟨c,h5,h6⟩:=h2;exact Q2 h1 h5 h6 h3 h4 hm
end oq
