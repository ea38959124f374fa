/- A part of the proof about FnJoinedPeaks (LaAct, LaPan). -/
import Derived.Test.YtjgbnaihpicpgaaGreatDoorPa
set_option linter.all false
namespace mm
open Go
abbrev Post:=Exit->List AV->ij->Prop
structure Ext(C C':Ctx):Prop where
 size:C.w.heap.size<=C'.w.heap.size
 k:C'.k=C.k
 ro:C'.ro=C.ro
 nm:C'.nm=C.nm
 dom:C'.dom=C.dom
 O:C'.O=C.O
 inv:∀β s w,Inv C' β s w->Inv C β s w
theorem Ext.refl(C:Ctx):Ext C C:=⟨aF _,rfl,rfl,rfl,rfl,rfl,fun _ _ _ h=>h⟩
theorem Ext.trans{C C' C'':Ctx}(h:Ext C C')(h':Ext C' C''):Ext C C'':=
 ⟨cw h.size h'.size,h'.k.trans h.k,h'.ro.trans h.ro,h'.nm.trans h.nm,h'.dom.trans h.dom,h'.O.trans h.O,fun β s w hi=>h.inv β s w (h'.inv β s w hi)⟩
theorem Ext.oy{C C':Ctx}(h:Ext C C'):C'.oy=C.oy:=by unfold Ctx.oy;rw[h.ro]
theorem Ext.ir{C C':Ctx}(h:Ext C C')(β:iE)(s:ij):C'.ir β s=C.ir β s:=by unfold Ctx.ir;rw[h.O]
def Ctx.plain(C:Ctx):Prop:=C.ro=none/\C.nm=false/\C.dom<=C.w.heap.size
theorem Ext.plain{C C':Ctx}(h:Ext C C')(hp:C.plain):C'.plain:=⟨h.ro.trans hp.1,h.nm.trans hp.2.1,by rw[h.dom];exact cw hp.2.2 h.size⟩
def CWp(P:Program)(C:Ctx)(c:Code)(Q:Post)(env:List AV)(s:ij):Prop:=
 ∀β a w,St C β env s a w->c.wpIn C.oy 0 P (fun e a' w'=>∃C',Ext C C'/\∃β' env' s',St C' β' env' s' a' w'/\Q e env' s') a w
def ie.flat:ie->Bool
 |.seq a b=>a.flat&&b.flat
 |.cond _ a b=>a.flat&&b.flat
 |.block _ a=>a.flat
 |.loop a=>a.flat
 |.ghost a=>a.flat
 |.scope a=>a.flat
 |.Es .. =>false
 |_=>true
def nj(P:Program)(k:Nat)(mc:ie)(Q:Post)(env:List AV)(s:ij):Prop:=
 ∀C:Ctx,C.k=k->(mc.flat=true\/C.plain)->∀c,mW P c=some mc.erase->CWp P C c Q env s
def xD(K:List AV->ij->Prop)(Q:Post):Post
 |.normal,env,s=>K env s
 |e,env,s=>Q e env s
def C9(id:Nat)(Q:Post):Post
 |.exit id',env,s=>if id'=id then Q .normal env s else Q (.exit id') env s
 |e,env,s=>Q e env s
def Hh(Q:Post):Post
 |.goto _,_,_=>False
 |e,env,s=>Q e env s
def ue(P:Program)(k0:Nat):List iJ->List AV->ij->(List AV->ij->Prop)->Prop
 |[],env,s,K=>K env s
 |m::ms,env,s,K=>match m.guard with
  |none=>qX P k0 m.op env s fun x env s=>ue P k0 ms (iU m.dst env x) s K
  |some (g,want)=>match g with
   |none=>ue P k0 ms (iU m.dst env (.mj [])) s K
   |some d=>match env.getD d .ig with
    |.d (.lit (.bool b))=>Br b want (qX P k0 m.op env s fun x env s=>ue P k0 ms (iU m.dst env x) s K) (ue P k0 ms (iU m.dst env (.mj [])) s K)
    |.mj []=>ue P k0 ms (iU m.dst env (.mj [])) s K
    |_=>False
theorem L4{P:Program}{c:Code}(h:mW P c=some .skip):c=.skip:=by
 cases c<;>simp[mW,au,az]at h⊢
 case region=>obtain⟨ms,_,h⟩:=h;split at h<;>cases h
theorem OG{P:Program}{c:Code}(h:mW P c=some .ret):c=.ret:=by
 cases c<;>simp[mW,au,az]at h⊢
 case region=>obtain⟨ms,_,h⟩:=h;split at h<;>cases h
theorem L2{P:Program}{c:Code}{id:Nat}(h:mW P c=some (.exit id)):c=.exit id:=by
 cases c<;>simp[mW,au,az]at h⊢
 case region=>obtain⟨ms,_,h⟩:=h;split at h<;>cases h
 case exit=>exact h
theorem Hf{P:Program}{c:Code}{x y:ie}(h:mW P c=some (.seq x y)):∃a b,c=.seq a b/\mW P a=some x/\mW P b=some y:=by
 cases c<;>simp[mW,au,az]at h⊢
 case region=>obtain⟨ms,_,h⟩:=h;split at h<;>cases h
 case seq=>exact⟨_,_,⟨rfl,rfl⟩,h⟩
theorem L1{P:Program}{c:Code}{o:Operand}{x y:ie}(h:mW P c=some (.cond o x y)):∃a b,c=.cond o a b/\mW P a=some x/\mW P b=some y:=by
 cases c<;>simp[mW,au,az]at h⊢
 case region=>obtain⟨ms,_,h⟩:=h;split at h<;>cases h
 case cond=>obtain⟨x',h1,y',h2,rfl,rfl,rfl⟩:=h;exact⟨_,_,⟨rfl,rfl,rfl⟩,h1,h2⟩
theorem DI{P:Program}{c:Code}{id:Nat}{x:ie}(h:mW P c=some (.block id x)):∃a,c=.block id a/\mW P a=some x:=by
 cases c<;>simp[mW,au,az]at h⊢
 case region=>obtain⟨ms,_,h⟩:=h;split at h<;>cases h
 case block=>exact⟨_,⟨h.2,rfl⟩,h.1⟩
theorem EY{P:Program}{c:Code}{x:ie}(h:mW P c=some (.loop x)):∃a,c=.loop a/\mW P a=some x:=by
 cases c<;>simp[mW,au,az]at h⊢
 case region=>obtain⟨ms,_,h⟩:=h;split at h<;>cases h
 case loop=>exact h
theorem OH{P:Program}{c:Code}{g:Operand}{ps:List Nat}{x y:ie}(h:mW P c=some (.Es g ps x y)):
 ∃ps' a b,c=.rangeFunc g ps' a b/\ps'.toList=ps/\mW P a=some x/\mW P b=some y:=by
 cases c<;>simp[mW,au,az]at h⊢
 case region=>obtain⟨ms,_,h⟩:=h;split at h<;>cases h
 case rangeFunc=>obtain⟨x',h1,y',h2,rfl,rfl,rfl,rfl⟩:=h;exact⟨_,_,_,⟨rfl,rfl,rfl,rfl⟩,rfl,h1,h2⟩
theorem A0{P:Program}{c:Code}{ms:List iJ}(h:mW P c=some (.h_ ms)):∃id ops,c=.region id ops false/\ops.toList.mapM (pU P ops)=some ms:=by
 cases c<;>simp[mW,au,az]at h⊢
 case region=>
  obtain⟨ms',h1,h2⟩:=h;split at h2
  ·cases h2
  ·rename_i hd;cases h2;exact⟨_,_,⟨rfl,rfl,by simpa using hd⟩,h1⟩
section
variable{P:Program}{k:Nat}{Q:Post}{env:List AV}{s:ij}
theorem GK{x y:Bool}{p:Prop}(h:(x&&y)=true\/p):(x=true\/p)/\(y=true\/p):=by
 rcases h with h|h
 ·rw[bu]at h;exact⟨.inl h.1,.inl h.2⟩
 ·exact⟨.inr h,.inr h⟩
theorem Vg(h:Q .normal env s):nj P k .skip Q env s:=fun C _ _ c hc β a w hst=>by rw[L4 hc];exact wpIn_skip ⟨C,.refl C,β,env,s,hst,h⟩
theorem XS(h:Q .ret env s):nj P k .ret Q env s:=fun C _ _ c hc β a w hst=>by rw[OG hc];exact wpIn_ret ⟨C,.refl C,β,env,s,hst,h⟩
theorem Vb{id:Nat}(h:Q (.exit id) env s):nj P k (.exit id) Q env s:=fun C _ _ c hc β a w hst=>by rw[L2 hc];exact wpIn_exit ⟨C,.refl C,β,env,s,hst,h⟩
theorem XU{x y:ie}(h:nj P k x (xD (fun env s=>nj P k y Q env s) Q) env s):nj P k (.seq x y) Q env s:=fun C hC hf c hc β a w hst=>by
 obtain⟨c1,c2,rfl,h1,h2⟩:=Hf hc;obtain⟨f1,f2⟩:=GK hf;refine wpIn_seq (dH (h C hC f1 c1 h1 β a w hst) fun e a' w' he=>?_);obtain⟨C',hx,β',env',s',hst',hq⟩:=he;cases e with
 |normal=>
  have:=hq C' (hx.k.trans hC) (f2.imp id hx.plain) c2 h2 β' a' w' hst';rw[hx.oy]at this;exact dH this fun e a' w' ⟨C'',hx',r⟩=>⟨C'',hx.trans hx',r⟩
 |exit id=>exact⟨C',hx,β',env',s',hst',hq⟩
 |goto l=>exact⟨C',hx,β',env',s',hst',hq⟩
 |ret=>exact⟨C',hx,β',env',s',hst',hq⟩
 |panic ch=>exact⟨C',hx,β',env',s',hst',hq⟩
 |outgrown=>exact⟨C',hx,β',env',s',hst',hq⟩
theorem Rx{id:Nat}{x:ie}(h:nj P k x (C9 id Q) env s):nj P k (.block id x) Q env s:=fun C hC hf c hc β a w hst=>by
 obtain⟨c1,rfl,h1⟩:=DI hc;refine wpIn_block (dH (h C hC hf c1 h1 β a w hst) fun e a' w' he=>?_);obtain⟨C',hx,β',env',s',hst',hq⟩:=he;cases e with
 |exit id'=>
  simp only[C9]at hq;simp only[Exit.inBlock];split<;>rename_i hid<;>simp only[hid,aC,aE]at hq<;>exact⟨C',hx,β',env',s',hst',hq⟩
 |normal=>exact⟨C',hx,β',env',s',hst',hq⟩
 |goto l=>exact⟨C',hx,β',env',s',hst',hq⟩
 |ret=>exact⟨C',hx,β',env',s',hst',hq⟩
 |panic ch=>exact⟨C',hx,β',env',s',hst',hq⟩
 |outgrown=>exact⟨C',hx,β',env',s',hst',hq⟩
theorem Jc{P:Program}{c:Code}{x:ie}(h:mW P c=some (.scope x)):∃a,c=.scope a/\mW P a=some x:=by
 cases c<;>simp[mW,au,az]at h⊢
 case region=>obtain⟨ms,_,h⟩:=h;split at h<;>cases h
 case scope=>exact h
theorem Jb{P:Program}{c:Code}(h:mW P c=some .label):∃l,c=.label l:=by
 cases c<;>simp[mW,au,az]at h⊢
 case region=>obtain⟨ms,_,h⟩:=h;split at h<;>cases h
section
variable{b:Frame}{a:Act}{ks:List Item}{cs:List Frame}{w:World}
theorem sI{c:Code}:step P (lone (b.atR a (.code (.scope c)::ks)) cs w)=.next (lone (b.atR a (.code c:: .inScope c::ks)) cs w):=
 step_lone_go (by simp[stepG,stepG.exec,Frame.atR])
theorem Ew{c:Code}:step P (lone (b.atR a (.inScope c::ks)) cs w)=.next (lone (b.atR a ks) cs w):=
 step_lone_go (by simp[stepG,stepG.exec,Frame.atR])
theorem JJ{F:Fence}{n:Nat}{Q:Exit->Act->World->Prop}{c:Code}(h:c.wpIn F n P (fun e a w=>(∀l,e≠ .goto l)/\Q e a w) a w):(Code.scope c).wpIn F n P Q a w:=by
 intro b k cs hro hb hr;have h0:(lone (b.atR a (.code (.scope c)::k)) cs w).fenced P F:=fe hb hr rfl;obtain⟨e,a₁,w₁,hq,harr⟩:=h b (.inScope c::k) cs hro hb hr;cases e with
 |normal=>exact⟨.normal,a₁,w₁,hq.2,.head h0 sI (StepsIn.trans harr (.one (fe hb hr rfl) Ew))⟩
 |exit id'=>
  have hx:exitTo id' (.inScope c::k)=exitTo id' k:=by simp[exitTo]
  exact⟨.exit id',a₁,w₁,hq.2,fun k' hk=>.head h0 sI (harr.1 k' (by rw[hx];exact hk)),
   fun hr' hk=>let⟨k₁,h1,h2⟩:=harr.2 hr' (by rw[hx];exact hk);⟨k₁,h1,.head h0 sI h2⟩⟩
 |goto l=>exact absurd rfl (hq.1 l)
 |ret=>exact⟨_,a₁,w₁,hq.2,.of_steps (.one h0 sI) harr⟩
 |panic ch=>exact⟨_,a₁,w₁,hq.2,.of_steps (.one h0 sI) harr⟩
 |outgrown=>exact⟨_,a₁,w₁,hq.2,.of_steps (.one h0 sI) harr⟩
end
theorem RB(h:Q .normal env s):nj P k .label Q env s:=fun C _ _ c hc β a w hst=>by
 obtain⟨l,rfl⟩:=Jb hc;exact wpIn_label ⟨C,.refl C,β,env,s,hst,h⟩
theorem RD{x:ie}(h:nj P k x (Hh Q) env s):nj P k (.scope x) Q env s:=fun C hC hf c hc β a w hst=>by
 obtain⟨c1,rfl,h1⟩:=Jc hc;refine JJ (dH (h C hC hf c1 h1 β a w hst) fun e a' w' he=>?_);obtain⟨C',hx,β',env',s',hst',hq⟩:=he;cases e with
 |goto l=>exact hq.elim
 |_=>exact⟨(fun l e=>nomatch e),C',hx,β',env',s',hst',hq⟩
theorem U_{o:Operand}{x y:ie}{b:Bool}(hb:ev env o=.d (.lit (.bool b)))(h:Br b true (nj P k x Q env s) (nj P k y Q env s)):
 nj P k (.cond o x y) Q env s:=fun C hC hf c hc β a w hst=>by
 obtain⟨c1,c2,rfl,h1,h2⟩:=L1 hc;obtain⟨f1,f2⟩:=GK hf;have hv:=hst.ev o;rw[hb]at hv;refine wpIn_cond (qf hv) ?_;unfold Br at h;cases b with
 |true=>exact h C hC f1 c1 h1 β a w hst
 |false=>exact h C hC f2 c2 h2 β a w hst
def iL(k:Nat)(env:List AV)(s:ij)(env':List AV)(s':ij):Prop:=
 ∀(C:Ctx)(β:iE)(a:Act)(w:World),C.k=k->St C β env s a w->∃β',St C β' env' s' a w
theorem Vh{mc:ie}{env':List AV}{s':ij}(hw:iL k env s env' s')(h:nj P k mc Q env' s'):nj P k mc Q env s:=fun C hC hf c hc β a w hst=>by
 obtain⟨β',hst'⟩:=hw C β a w hC hst;exact h C hC hf c hc β' a w hst'
theorem RA{x:ie}{env':List AV}{s':ij}(hw:iL k env s env' s')(h:nj P k x Q env' s'):nj P k (.ghost x) Q env s:=fun C hC hf c hc β a w hst=>by
 obtain⟨β',hst'⟩:=hw C β a w hC hst;exact h C hC hf c hc β' a w hst'
theorem Vf{x:ie}{ι:Type}(E:ι->List AV)(S:ι->ij)(inv:ι->Prop)(μ:ι->Nat)(i0:ι)(h0:inv i0)(hw:iL k env s (E i0) (S i0))
 (round:∀i,inv i->nj P k x (xD (fun env' s'=>∃i',inv i'/\μ i'<μ i/\iL k env' s' (E i') (S i')) Q) (E i) (S i)):nj P k (.loop x) Q env s:=
 fun C hC hf c hc β a w hst=>by
 obtain⟨c1,rfl,h1⟩:=EY hc;obtain⟨β0,hst0⟩:=hw C β a w hC hst;intro b kk cs hro hb hr;have key:∀n i C' β a w,Ext C C'->μ i=n->inv i->St C' β (E i) (S i) a w->
  ∃e a' w',(∃C'',Ext C C''/\∃β' env' s',St C'' β' env' s' a' w'/\Q e env' s')/\ArrivesIn (Machine.fenced P C.oy) P (lone (b.atR a (.code c1:: .inLoop c1::kk)) cs w) b kk cs e a' w':=by
  intro n;induction n using Nat.strongRecOn with
  |_ n ih=>
   intro i C' β a w hx hn hi hst;have hrd:=round i hi C' (hx.k.trans hC) (hf.imp id hx.plain) c1 h1 β a w hst;rw[hx.oy]at hrd;obtain⟨e,a₁,w₁,hq,harr⟩:=hrd b (.inLoop c1::kk) cs hro hb hr;obtain⟨C'',hx',β',env',s',hst',hq⟩:=hq;have hxx:=hx.trans hx';cases e with
   |normal=>
    obtain⟨i',hi',hlt,hwk⟩:=hq;obtain⟨β2,hst2⟩:=hwk C'' β' a₁ w₁ (hxx.k.trans hC) hst';obtain⟨e₂,a₂,w₂,hq₂,harr₂⟩:=ih (μ i') (hn▸hlt) i' C'' β2 a₁ w₁ hxx rfl hi' hst2;exact⟨e₂,a₂,w₂,hq₂,.of_steps (StepsIn.trans harr (.one (fe hb hr rfl) stepR_inLoop)) harr₂⟩
   |exit id=>exact⟨_,a₁,w₁,⟨C'',hxx,β',env',s',hst',hq⟩,.pass (x:=.inLoop c1) rfl (fun _ _=>.inl (by simp)) harr⟩
   |goto l=>exact⟨_,a₁,w₁,⟨C'',hxx,β',env',s',hst',hq⟩,.pass (x:=.inLoop c1) rfl (fun _ _=>.inl (by simp)) harr⟩
   |ret=>exact⟨_,a₁,w₁,⟨C'',hxx,β',env',s',hst',hq⟩,.pass (x:=.inLoop c1) rfl (fun _ _=>.inl (by simp)) harr⟩
   |panic ch=>exact⟨_,a₁,w₁,⟨C'',hxx,β',env',s',hst',hq⟩,.pass (x:=.inLoop c1) rfl (fun _ _=>.inl (by simp)) harr⟩
   |outgrown=>exact⟨_,a₁,w₁,⟨C'',hxx,β',env',s',hst',hq⟩,.pass (x:=.inLoop c1) rfl (fun _ _=>.inl (by simp)) harr⟩
 obtain⟨e,a',w',hq,harr⟩:=key _ i0 C β0 a w (.refl C) rfl h0 hst0;exact⟨e,a',w',hq,.of_steps (.one (fe hb hr rfl) stepR_loop) harr⟩
end
theorem uo{P:Program}{ops:Array Oper}{o:Oper}{m:iJ}(h:pU P ops o=some m.erase):
 m.op.erase=(ku P o).getD .dead/\m.dst=o.dst/\m.guard=o.guard.map fun(j,b)=>((ops[j]?).bind (·.dst),b):=by
 unfold pU iJ.erase at h;simp only[aJ,iJ.mk.injEq]at h;exact⟨h.2.1.symm,h.1.symm,h.2.2.symm⟩
theorem wB{o:Oper}{y:Nat->Option Bool}(h:o.guard=none):Region.wanted o y=true:=by simp[Region.wanted,h]
theorem Bj{C:Ctx}{β:iE}{env:List AV}{s:ij}{a:Act}{w:World}(hst:St C β env s a w){ops:Array Oper}{j d:Nat}{b:Bool}
 (hd:(ops[j]?).bind (·.dst)=some d) (hb:env.getD d .ig=.d (.lit (.bool b))):yielded ops a.tmps j=some b:=by
 have h1:=hst.ev (.tmp d);simp only[ev]at h1;rw[hb]at h1;have h1:=qf h1;simp only[Act.eval]at h1;unfold yielded;rw[hd];simp only[aa];have hlt:d<a.tmps.size:=by
  rcases cI d a.tmps.size with h|h
  ·exact h
  ·have:a.tmps.getD d undef=undef:=by simp[cc,Array.getElem?_eq_none h]
   rw[this]at h1;cases h1
 have h2:a.tmps[d]?=some (.bool b):=by
  rw[cO hlt];rw[cc,cO hlt]at h1;simpa using h1
 rw[h2]
theorem F4{C:Ctx}{β:iE}{env:List AV}{s:ij}{a:Act}{w:World}(hst:St C β env s a w){ops:Array Oper}{j d:Nat}
 (hd:(ops[j]?).bind (·.dst)=some d) (hb:env.getD d .ig=.mj []):yielded ops a.tmps j=none:=by
 have h1:=hst.ev (.tmp d);simp only[ev]at h1;rw[hb]at h1;simp only[AV.ok,AV.iK,Act.eval]at h1;obtain⟨vs,h1,_⟩:=h1;unfold yielded;rw[hd];simp only[aa];cases hx:a.tmps[d]? with
 |none=>rfl
 |some v=>
  have:a.tmps.getD d undef=v:=by rw[cc,hx];rfl
  rw[this]at h1;subst h1;rfl
theorem uz{P:Program}{C:Ctx}{ops:Array Oper}{o:Oper}{m:iJ}(hm:pU P ops o=some m.erase){env:List AV}{s:ij}{K:List AV->ij->Prop}
 (hk:match m.guard with
  |none=>qX P C.k m.op env s fun x env s=>K (iU m.dst env x) s
  |some (g,want)=>match g with
   |none=>K (iU m.dst env (.mj [])) s
   |some d=>match env.getD d .ig with
    |.d (.lit (.bool b))=>Br b want (qX P C.k m.op env s fun x env s=>K (iU m.dst env x) s) (K (iU m.dst env (.mj [])) s)
    |.mj []=>K (iU m.dst env (.mj [])) s
    |_=>False)
 {β:iE} {a:Act} {w:World} (hst:St C β env s a w) {Q:Exit->Act->World->Prop} {next:Act->World->Prop}
 (hn:∀β' env' s' a' w',St C β' env' s' a' w'->K env' s'->next a' w'):
 if Region.wanted o (yielded ops a.tmps)then o.wpIn C.oy 0 P a w next Q else(∀f,o.about P w a.eval=some f->C.oy.fn f)/\next (a.put o.dst undef) w:=by
 obtain⟨h1,h2,h3⟩:=uo hm;have run:qX P C.k m.op env s (fun x env s=>K (iU m.dst env x) s)->o.wpIn C.oy 0 P a w next Q:=fun h=>by
  rw[h2]at h;have h1':ku P o=some m.op.erase:=by
   cases hq:ku P o with
   |some x=>rw[hq]at h1;rw[h1];rfl
   |none=>
    rw[hq]at h1;simp only[Option.getD_none]at h1;have:m.op=.dead:=by cases hmo:m.op<;>rw[hmo]at h1<;>simp[sJ.erase]at h1⊢
    rw[this]at h;exact h.elim
  have hnd:∀c,o.op≠ .defer c:=fun c hc=>by unfold ku at h1';rw[hc]at h1';cases h1'
  have:=Mx h1' h hnd Q β a w hst;exact Oper.wpIn_mono (fun a' w' ⟨β',env',s',h4,h5⟩=>hn β' env' s' a' w' h4 h5) this
 have skip:K (iU m.dst env (.mj [])) s->(∀f,o.about P w a.eval=some f->C.oy.fn f)/\next (a.put o.dst undef) w:=fun h=>by
  rw[h2]at h;refine⟨fun _ _=>trivial,?_⟩;exact hn _ _ _ _ _ (hst.put (x:=.mj []) (v:=undef) (by simp[AV.ok,AV.iK,undef]) o.dst) h
 cases hg:o.guard with
 |none=>
  rw[hg]at h3;simp only[eO]at h3;rw[h3]at hk;rw[ah (wB hg)];exact run hk
 |some p=>
  obtain⟨j,want⟩:=p;rw[hg]at h3;simp only[aK]at h3;rw[h3]at hk;have hw:Region.wanted o (yielded ops a.tmps)=(yielded ops a.tmps j==some want):=by simp[Region.wanted,hg]
  rw[hw];cases hd:(ops[j]?).bind (·.dst)with
  |none=>
   rw[hd]at hk;have:yielded ops a.tmps j=none:=by simp[yielded,hd]
   rw[this];exact skip hk
  |some d=>
   rw[hd]at hk;simp only at hk;split at hk
   ·rename_i b hb;rw[Bj hst hd hb];unfold Br at hk;by_cases hbw:b=want
    ·rw[ah hbw]at hk;subst hbw;rw[ah (by simp)];exact run hk
    ·rw[ak hbw]at hk;rw[ak (by simpa using hbw)];exact skip hk
   ·rename_i hb;rw[F4 hst hd hb];exact skip hk
   ·exact hk.elim
theorem D5{P:Program}{C:Ctx}{ops:Array Oper}{Q:Post}:∀(n i:Nat)(ms:List iJ)(env:List AV)(s:ij),i+n=ops.size->
 (ops.toList.drop i).mapM (pU P ops)=some (ms.map iJ.erase)->ue P C.k ms env s (fun env s=>Q .normal env s)->
 ∀(β:iE)(a:Act)(w:World),St C β env s a w->wpOpsIn C.oy 0 P ops (fun e a' w'=>∃C',Ext C C'/\∃β' env' s',St C' β' env' s' a' w'/\Q e env' s') (List.range' i n) a w
 |0,i,ms,env,s=>fun hi hm hk β a w hst=>by
  have:ops.toList.drop i=[]:=by apply eC;simp;omega
  rw[this]at hm;simp at hm;subst hm;exact⟨C,.refl C,β,env,s,hst,hk⟩
 |n+1,i,ms,env,s=>fun hi hm hk β a w hst=>by
  have hlt:i<ops.toList.length:=by simp;omega
  rw[aA hlt]at hm;simp only[cr,cp,au]at hm;obtain⟨m0,h1,ms0,h2,h3⟩:=hm;cases ms with
  |nil=>cases h3
  |cons m ms'=>
  simp only[aP,dB,aJ,bT]at h3;obtain⟨rfl,rfl⟩:=h3;rw[dL];simp only[wpOpsIn];have ho:ops[i]?=some ops.toList[i]:=by simp at hlt;simp[hlt]
  rw[ho];simp only;refine uz (K:=fun env s=>ue P C.k ms' env s fun env s=>Q .normal env s) h1 ?_ hst fun β' env' s' a' w' h4 h5=>D5 n (i+1) ms' env' s' gY h2 h5 β' a' w' h4
  simpa only[ue]using hk
theorem XR{P:Program}{k:Nat}{Q:Post}{env:List AV}{s:ij}{ms:List iJ}(h:ue P k ms env s fun env s=>Q .normal env s):nj P k (.h_ ms) Q env s:=
 fun C hC _ c hc β a w hst=>by
 obtain⟨id,ops,rfl,hm⟩:=A0 hc;subst hC;refine wpIn_region ?_;have:=D5 (Q:=Q) (ops:=ops) ops.size 0 ms env s gY (by simpa using hm) h β a w hst;rwa [<-dG]at this
inductive tc where
 |tmp (t:Nat)
 |cell (a n:Nat) (ag:Bool)
def xR(P:Program):ResultVar->Option tc
 |.tmp t=>some (.tmp t)
 |.cell a t=>(kL P t).bind fun n=>(Gg P t).map fun ag=>.cell a (if ag then n else 1) ag
def wo(env:List AV)(s:ij):List tc->(List AV->Prop)->Prop
 |[],K=>K []
 |.tmp t::r,K=>wo env s r fun xs=>K (env.getD t .ig::xs)
 |.cell a n ag::r,K=>qZ n ag (env.getD a .ig) s fun x=>wo env s r fun xs=>K (x::xs)
def tP:List AV->AV
 |[x]=>x
 |xs=>.mj xs
def GI(rs:List tc)(R:AV->ij->Prop):Post
 |.normal,env,s=>wo env s rs fun xs=>R (tP xs) s
 |.ret,env,s=>wo env s rs fun xs=>R (tP xs) s
 |_,_,_=>False
def O0(tmps:Array Value):ResultVar->Sem Value
 |.tmp t=>pure (tmps.getD t undef)
 |.cell b t=>do loadVar t (<-asAddr (tmps.getD b undef))
theorem Aq(fn:Func)(tmps:Array Value):results fn tmps=(do let vs <-fn.results.mapM (O0 tmps);pure (if h:vs.size=1 then vs[0]else .tuple vs)):=by
 unfold results;have:(fun x=>match x with|ResultVar.tmp t=>(pure (tmps.getD t undef):Sem Value)|ResultVar.cell a t=>do loadVar t (<-asAddr (tmps.getD a undef)))=O0 tmps:=by
  funext x;cases x<;>rfl
 rw[<-this];rfl
theorem CO{P:Program}{C:Ctx}{β:iE}{env:List AV}{s:ij}{a:Act}{w:World}(hst:St C β env s a w):∀(rv:List ResultVar)(rs:List tc)(K:List AV->Prop),
 rv.mapM (xR P)=some rs->wo env s rs K->
 ∃vs xs,(rv.mapM (O0 a.tmps)).run P w=.ok vs w/\
  AV.iK β (C.ir β s) w xs vs/\K xs
 |[],rs,K=>fun h1 h2=>by
  simp at h1;subst h1;exact⟨[],[],by simp,by simp[AV.iK],h2⟩
 |.tmp t::rv,rs,K=>fun h1 h2=>by
  simp only[cr,cp,au,xR]at h1;obtain⟨_,h3,rs',h4,h5⟩:=h1;cases h3;cases h5;simp only[wo]at h2;obtain⟨vs,xs,h6,h7,h8⟩:=CO hst rv rs' _ h4 h2;refine⟨a.tmps.getD t undef::vs,_,?_,?_,h8⟩
  ·rw[cr];simp only[O0,aY,bq,aH,h6]
  ·simp only[AV.iK];exact⟨_,_,rfl,hst.ev (.tmp t),h7⟩
 |.cell b t::rv,rs,K=>fun h1 h2=>by
  simp only[cr,cp,au,az,xR]at h1;obtain⟨_,⟨n,hn,ag,hg,h3⟩,rs',h4,h5⟩:=h1;subst h3;cases h5;simp only[wo]at h2;obtain⟨v,x,h6,h7,h8⟩:=ET (P:=P) hn hg hst (hst.ev (.tmp b)) h2;obtain⟨vs,xs,h9,h10,h11⟩:=CO hst rv rs' _ h4 h8;refine⟨v::vs,x::xs,?_,?_,h11⟩
  ·rw[cr];have hload:(asAddr (a.tmps.getD b undef) >>=fun ad=>loadVar t ad:Sem Value).run P w=.ok v w:=by
    simp only[Instr.loadAt,Act.eval]at h6;simp only[aY]at h6⊢;cases hv:a.tmps.getD b undef with
    |pointer ad=>
     cases ad with
     |some ad=>rw[hv]at h6;simpa[Instr.sureAddr,asAddr]using h6
     |none=>rw[hv]at h6;simp[Instr.sureAddr]at h6
    |_=>rw[hv]at h6;simp[Instr.sureAddr]at h6
   simp only[aY]at hload;simp only[O0,aY,hload,aH,h9,bq]
  ·simp only[AV.iK];exact⟨_,_,rfl,h7,h10⟩
theorem xP{P:Program}{fn:Func}{tmps:Array Value}{R:Ending->World->Prop}(Z:World->Prop){B:Nat}
 (hZ:∀w w' D,Z w->w.grownBy w' (some D)->B<=D->(∃o:Obj,w.heap[D]?=some o/\Bo o)->Z w')
 (hfin:∀w,Z w->∃v,(results fn tmps).run P w=.ok v w/\R (.returned v) w):
 ∀(Ds:List Nat)(w:World),Ds.Nodup->(∀D∈Ds,B<=D/\w.heap[D]?=some (.deferred (some [])))->Z w->LeavesInM Fence.wide 0 P fn tmps R (Ds.map yV) .returning w
 |[],w,_,_,hz=>by simp only[dr,LeavesInM,LeavesIn];exact hfin w hz
 |D::Ds,w,hn,hd,hz=>by
  simp only[aP,LeavesInM];have h1:=hd D bh;rw[cF]at hn;refine⟨by simp,.inl ⟨D,_,rfl,run_takeDeferred h1.2,xP Z hZ hfin Ds _ hn.2 (fun D' hD'=>?_) ?_⟩⟩
  ·have h2:=hd D' (a_ _ hD');exact⟨h2.1,(dn fun e=>hn.1 (by rw[<-e];exact hD')).trans h2.2⟩
  ·exact hZ _ _ D hz (eT w D _) h1.1 ⟨_,h1.2,rfl,rfl⟩
theorem K8{P:Program}{f:Nat}{fn:Func}{c:Code}{mc:ie}{rs:List tc}{args:List AV}{s:ij}{k n:Nat}{R:AV->ij->Prop}
 (hf:P.funcs[f]?=some fn) (hb:fn.body=some c) (hm:mW P c=some mc.erase) (hn:fn.ntmps=n) (hr:fn.results.toList.mapM (xR P)=some rs)
 (h:nj P k mc (GI rs R) (args++List.replicate (n-args.length) .ig) s):iC P f args s k R:=by
 intro C vs hCs hCk hinv hargs;have hlen:=AV.iP hargs;let C0:Ctx:={C with ro:=none,dom:=C.w.heap.size,nm:=false};refine callsIn_wide.1 (callsIn_of_wp_marks (F:=Fence.wide) (n:=0) hf hb trivial ?_);have hst:St C0 C.β (args++List.replicate (n-args.length) .ig) s {tmps:=vs++Array.replicate (fn.ntmps-vs.size) undef,defers:=[]} C.w:=by
  refine⟨.nil,hCs▸hinv.ro none C.w.heap.size,?_,fun i x hx=>?_⟩
  ·simp at hlen;simp[hn,hlen]
  ·rw[hCs]at hargs;rw[eK]at hx;split at hx
   ·rename_i hi;have hi2:i<vs.size:=by simp at hlen;omega
    have h1:(vs++Array.replicate (fn.ntmps-vs.size) undef).getD i undef=vs[i]:=by simp[cc,fA,hi2]
    rw[h1];exact(AV.jD.1 hargs).2 i x _ hx (by simp[hi2])
   ·have:x=.ig:=by
     rw[dj]at hx;split at hx
     ·cases hx;rfl
     ·cases hx
    subst this;simp[AV.ok]
 refine dH (h C0 hCk (.inr ⟨rfl,rfl,aF _⟩) c hm C.β _ _ hst) fun e a' w' he=>?_
 obtain⟨C',hx,β',env',s',hst',hq⟩:=he;have fin:wo env' s' rs (fun xs=>R (tP xs) s')->LeavesInM Fence.wide 0 P fn a'.tmps (fun e w'=>∃v x β' s',e=.returned v/\Inv C β' s' w'/\AV.ok β' (C.ir β' s') w' x v/\R x s') a'.defers .returning w':=fun hq=>by
  obtain⟨_,Ds,hDs,hnd,hmk⟩:=hst'.defers;rw[hDs];refine xP (B:=C.w.heap.size) (fun w=>Inv C0 β' s' w/\∀i x,env'[i]?=some x->AV.ok β' (C0.ir β' s') w x (a'.tmps.getD i undef)) (fun w1 w2 D hz hg hB ho=>?_) (fun w1 hz=>?_) Ds w' hnd (fun D hD=>?_) ⟨hx.inv _ _ _ hst'.inv,fun i x hi=>?_⟩
  ·have hr:∀r,some D=some r->∃o:Obj,w1.heap[r]?=some o/\Bo o:=fun r e=>by cases e;exact ho
   exact⟨hz.1.pN hg fun r e=>⟨by cases e;exact hB,hr r e⟩,fun i x hi=>AV.iY (fun b o v hc hn=>⟨eL hc hg (Cy hr),hn⟩) (fun _=>.refl _) _ _ (hz.2 i x hi)⟩
  ·have hst1:St C0 β' env' s' {a' with defers:=[]} w1:=⟨.nil,hz.1,hst'.len,hz.2⟩;obtain⟨us,xs,h1,h2,h3⟩:=CO hst1 fn.results.toList rs _ hr hq;refine⟨if h:us.toArray.size=1 then us.toArray[0]else .tuple us.toArray,?_,_,tP xs,β',s',rfl,hz.1.Y1,?_,h3⟩
   ·rw[Aq,ee];simp only[aY,Sem.run_map];rw[h1];simp only[aH,bq]
   ·have hl:=AV.iP h2;have hfb:C0.ir β' s'=C.ir β' s':=rfl;rw[hfb]at h2
    match xs,us,h2 with
    |[x],[u],h2=>
     simp only[AV.iK]at h2;obtain⟨_,_,h4,h5,h6⟩:=h2;cases h4;simpa[tP]using h5
    |[],[],h2=>simp only[tP,AV.ok];exact⟨#[],by simp,by simp[AV.iK]⟩
    |x::y::xs,u::v::us,h2=>
     simp only[tP,AV.ok];exact⟨(u::v::us).toArray,by simp,by simpa using h2⟩
  ·obtain⟨h1,h2,h3,h4⟩:=hmk D hD;exact⟨by rw[hx.dom]at h1;exact h1,(hst'.inv.qq D h2 h4).trans h3⟩
  ·have:=hst'.env i x hi;rwa [hx.ir]at this
 cases e with
 |normal=>exact fin hq
 |ret=>exact fin hq
 |exit id=>exact hq.elim
 |goto l=>exact hq.elim
 |panic ch=>exact hq.elim
 |outgrown=>exact hq.elim
structure kH(P:Program)(f:Nat)(mc:ie)(n:Nat)(rs:List tc):Prop where
 fn:∃fn,P.funcs[f]?=some fn/\fn.body.bind (mW P)=some mc.erase/\fn.ntmps=n/\fn.results.toList.mapM (xR P)=some rs
theorem kH.calls{P:Program}{f:Nat}{mc:ie}{n:Nat}{rs:List tc}(h:kH P f mc n rs){args:List AV}{s:ij}{k:Nat}{R:AV->ij->Prop}
 (hm:nj P k mc (GI rs R) (args++List.replicate (n-args.length) .ig) s):iC P f args s k R:=by
 obtain⟨fn,h1,h2,h3,h4⟩:=h.fn;rw[au]at h2;obtain⟨c,h5,h6⟩:=h2;exact K8 h1 h5 h6 h3 h4 hm
def AV.le(x y:AV):Prop:=∀β O w v,AV.ok β O w x v->AV.ok β O w y v
theorem AV.le_refl(x:AV):AV.le x x:=fun _ _ _ _ h=>h
theorem AV.Rr(x:AV):AV.le x .ig:=fun _ _ _ _ _=>by simp[AV.ok]
theorem AV.U5{e id:Nat}{xs:List D}:AV.le (.own e id xs) (.d (.sl e none xs)):=fun _ _ _ _ h=>by simp only[AV.ok]at h⊢;exact h.1
def iS:List AV->List AV->Prop
 |[],[]=>True
 |x::xs,y::ys=>AV.le x y/\iS xs ys
 |_,_=>False
theorem iS.get:∀{xs ys:List AV},iS xs ys->xs.length=ys.length/\∀(i:Nat)(y:AV),ys[i]?=some y->∃x,xs[i]?=some x/\AV.le x y
 |[],[],_=>by simp
 |[],_::_,h=>h.elim
 |_::_,[],h=>h.elim
 |x::xs,y::ys,h=>by
  obtain⟨h1,h2⟩:=h;obtain⟨h3,h4⟩:=iS.get h2;refine⟨by simp[h3],fun i z hz=>?_⟩;cases i with
  |zero=>simp at hz;subst hz;exact⟨x,rfl,h1⟩
  |succ i=>simpa using h4 i z (by simpa using hz)
section
variable{k:Nat}{env env' env'':List AV}{s s' s'':ij}
theorem iL.refl:iL k env s env s:=fun _ β _ _ _ h=>⟨β,h⟩
theorem iL.trans(h:iL k env s env' s')(h2:iL k env' s' env'' s''):iL k env s env'' s'':=fun C β a w hC hst=>let⟨β',h3⟩:=h C β a w hC hst;h2 C β' a w hC h3
theorem iL.kill(id:Nat)(hid:k<=id):iL k env s (AV.i_ (iM id) env) (jz id s):=fun _ _ _ _ hC hst=>⟨_,hst.kill id (hC▸hid)⟩
theorem iL.Uh(hs:∀id,sat s id=sat s' id):iL k env s env s':=fun C β a w hC hst=>by
 have h1:∀b o,own β s' b o<->own β s b o:=by intro b o;unfold own;simp only[hs]
 have h2:∀i b,ic β s' i b<->ic β s i b:=by intro i b;unfold ic;simp only[hs]
 have m:mO β s w β s' w:=⟨aF _,rfl,fun _ _ _ h _=>h,fun _ _ _=>rfl,fun b o h=>.inl ((h1 b o).1 h),fun q b h=>.inl ⟨q,(h2 q b).1 h⟩,fun _=>.refl _⟩;exact⟨β,hst.move m (fun q=>by rw[<-hs];exact(hst.inv.obs q).wj m rfl (fun _ _=>rfl) rfl) (fun p q b hp hq=>hst.inv.inj p q b ((h2 p b).1 hp) ((h2 q b).1 hq))⟩
end
theorem wrap_i64{n:Int}(h1: -9223372036854775808<=n)(h2:n<9223372036854775808):IntKind.i64.wrap n=n:=by
 unfold IntKind.wrap IntKind.bits IntKind.signed;simp only[cn];split<;>rename_i h<;>simp at h<;>omega
theorem Qx{k:IntKind}{n:Int}:Ni (.int k n)=.d (.lit (.int k n)):=rfl
theorem Nk{b:Bool}:Ni (.bool b)=.d (.lit (.bool b)):=rfl
theorem Ig{b:ByteArray}:Ni (.string b)=.d (.lit (.string b)):=rfl
theorem Qy:Ni (.slice none 0 0)=.d (.sl 0 (some true) []):=rfl
theorem Nj:Ni (.agg #[])=.d (.agg []):=rfl
mutual
def AV.toD:AV->Option D
 |.d x=>some x
 |.own e _ xs=>some (.sl e none xs)
 |.agg cs=>(AV.VR cs).map .agg
 |.ig=>none
 |.ptr _ _=>none
 |.pV _ _ _ _=>none
 |.pv _=>none
 |.Ea _ _=>none
 |.mj _=>none
 |.fn _ _ _=>none
 |.nr _ _ _=>none
 |.lP _ _ _=>none
 |.CG _ _=>none
 |.dp _=>none
 |.mp _=>none
def AV.VR:List AV->Option (List D)
 |[]=>some []
 |x::xs=>(AV.toD x).bind fun y=>(AV.VR xs).map (y::·)
end
def AV.Y0:AV->Option (List D)
 |.mj cs=>AV.Jy cs
 |_=>none
where
 AV.Jy:List AV->Option (List D)
 |[]=>some []
 |x::xs=>(AV.toD x).bind fun y=>(AV.Jy xs).map (y::·)
theorem iC.mono{P:Program}{f:Nat}{args:List AV}{s:ij}{k:Nat}{R R':AV->ij->Prop}(h:iC P f args s k R)
 (hR:∀x s,R x s->∃y,AV.le x y/\R' y s):iC P f args s k R':=fun C vs h1 h2 h3 h4=>
 (h C vs h1 h2 h3 h4).mono fun _ _ ⟨v,x,β',s',he,hi,hx,hr⟩=>let⟨y,hle,hr'⟩:=hR x s' hr;⟨v,y,β',s',he,hi,hle _ _ _ _ hx,hr'⟩
def jU(P:Program)(f:Nat)(args:List D)(r:D):Prop:=iC P f (args.map .d) [] 0 fun x _=>x=.d r
def oH(P:Program)(f:Nat)(args:List D)(rs:List D):Prop:=iC P f (args.map .d) [] 0 fun x _=>x=.mj (rs.map .d)
theorem iS.iK{β:iE}{O:Own}{w:World}:∀{xs ys:List AV}{vs:List Value},iS xs ys->AV.iK β O w xs vs->AV.iK β O w ys vs
 |[],[],_,_,h=>h
 |_::_,_::_,_,hl,h=>by
  simp only[AV.iK]at h⊢;obtain⟨v,r,h1,h2,h3⟩:=h;exact⟨v,r,h1,hl.1 _ _ _ _ h2,iS.iK hl.2 h3⟩
 |[],_::_,_,hl,_=>hl.elim
 |_::_,[],_,hl,_=>hl.elim
theorem iC.args{P:Program}{f:Nat}{args dz:List AV}{s:ij}{k:Nat}{R:AV->ij->Prop}(h:iC P f dz s k R)(hl:iS args dz):iC P f args s k R:=
 fun C vs h1 h2 h3 h4=>h C vs h1 h2 h3 (hl.iK h4)
theorem Gt{P:Program}{k0 f:Nat}{args env:List AV}{s:ij}{K:AV->List AV->ij->Prop}{dz:List D}{r:D}(ha:iS (args.map fun x=>x.kV (oz [])) (dz.map .d))
 (hc:jU P f dz r) (hk:K (.d r) env s):J2 P k0 f args env s K:=
 ⟨[],[],fun x _=>x=.d r,rfl,by simp,by simp,by simp,iC.args hc ha,by rintro x s' rfl;exact hk⟩
theorem Ez{P:Program}{k0 f:Nat}{args env:List AV}{s:ij}{K:AV->List AV->ij->Prop}{dz:List D}{rs:List D}(ha:iS (args.map fun x=>x.kV (oz [])) (dz.map .d))
 (hc:oH P f dz rs) (hk:K (.mj (rs.map .d)) env s):J2 P k0 f args env s K:=by
 refine⟨[],[],fun x _=>x=.mj (rs.map .d),rfl,by simp,by simp,by simp,iC.args hc ha,?_⟩;rintro x s' rfl;have h2:∀qs:List D,AV.i_ (mh ([]++[])) (qs.map .d)=qs.map .d:=fun qs=>by
  induction qs with
  |nil=>rfl
  |cons d ds ih=>simp only[aP,AV.i_,AV.kV,ih]
 simp only[AV.kV,h2];exact hk
def qm(env:List AV):List Nat->List AV
 |[]=>env
 |w::ws=>qm (env.set w .ig) ws
def oF(env:List AV):List (Nat×AV)->List AV
 |[]=>env
 |(w,x)::r=>oF (env.set w x) r
theorem RC{P:Program}{k:Nat}{Q:Post}{env:List AV}{s:ij}{x:ie}{ι:Type}(ws:List Nat)(vs:ι->List (Nat×AV))(S:ι->ij)(inv:ι->Prop)(μ:ι->Nat)(i0:ι)(h0:inv i0)
 (hw:iL k env s (oF (qm env ws) (vs i0)) (S i0))
 (round:∀i,inv i->nj P k x (xD (fun env' s'=>∃i',inv i'/\μ i'<μ i/\iL k env' s' (oF (qm env ws) (vs i')) (S i')) Q) (oF (qm env ws) (vs i)) (S i)):
 nj P k (.loop x) Q env s:=Vf (fun i=>oF (qm env ws) (vs i)) S inv μ i0 h0 hw round
theorem G7(x:AV):AV.le x x<->True:=⟨fun _=>trivial,fun _=>AV.le_refl x⟩
theorem G6(x:AV):AV.le x .ig<->True:=⟨fun _=>trivial,fun _=>AV.Rr x⟩
theorem I0{e id:Nat}{xs:List D}:AV.le (.own e id xs) (.d (.sl e none xs))<->True:=⟨fun _=>trivial,fun _=>AV.U5⟩
def ints(l:gv):D:=.sl 1 none (l.map iD)
theorem Pe(l:gv):qF (.d (ints l))=some (1,l.map iD):=rfl
theorem Iu(l:gv):AV.cells (.d (ints l))=some [.d (ints l)]:=rfl
theorem Ge(l:gv):AV.CY (.d (ints l))=none:=rfl
theorem Gz(l:gv):iq (ints l)=[ints l]:=rfl
theorem VN{e:Nat}{nl:Option Bool}{xs:List D}:qF (.d (.sl e nl xs))=some (e,xs):=rfl
theorem Sm{e id:Nat}{xs:List D}:qF (.own e id xs)=some (e,xs):=rfl
theorem ON{e:Nat}{b:Bool}{xs:List D}:yX (.d (.sl e (some b) xs))=some b:=rfl
theorem OM{e:Nat}{xs:List D}:yX (.d (.sl e none xs))=none:=rfl
theorem RL{e id:Nat}{xs:List D}:yX (.own e id xs)=none:=rfl
theorem RJ{e id off n:Nat}:yX (.pV e id off n)=some false:=rfl
theorem Ln{cs:List D}:AV.cells (.d (.agg cs))=some (cs.map .d):=rfl
theorem Iq{cs:List AV}:AV.cells (.agg cs)=some cs:=rfl
theorem Lr{u:Value}:AV.cells (.d (.lit u))=some [.d (.lit u)]:=rfl
theorem Lo:AV.cells (.d .any)=some [.d .any]:=rfl
theorem NQ{e:Nat}{nl:Option Bool}{xs:List D}:AV.cells (.d (.sl e nl xs))=some [.d (.sl e nl xs)]:=rfl
theorem Lu{e id:Nat}{xs:List D}:AV.cells (.own e id xs)=some [.own e id xs]:=rfl
theorem Lv{id off:Nat}:AV.cells (.ptr id off)=some [.ptr id off]:=rfl
theorem Ls{e id off n:Nat}:AV.cells (.pV e id off n)=some [.pV e id off n]:=rfl
theorem NP{cs:List D}:AV.cells (.pv cs)=some [.pv cs]:=rfl
theorem Lq{t:Nat}{cs:List D}:AV.cells (.Ea t cs)=some [.Ea t cs]:=rfl
theorem NN{f:Nat}{a b:List AV}:AV.cells (.fn f a b)=some [.fn f a b]:=rfl
theorem H8{cs:List D}:AV.CY (.d (.agg cs))=some (cs.map .d):=rfl
theorem Gd{cs:List AV}:AV.CY (.agg cs)=some cs:=rfl
theorem Iv{cs:List D}:iq (.agg cs)=cs:=rfl
theorem Iw{u:Value}:iq (.lit u)=[.lit u]:=rfl
theorem Lx{e:Nat}{nl:Option Bool}{xs:List D}:iq (.sl e nl xs)=[.sl e nl xs]:=rfl
theorem M7{k:IntKind}{n:Int}:kr (.d (.lit (.int k n)))=some n:=rfl
attribute [go_sem] ev Qx Nk Ig Qy Nj iU List.getD_cons_zero List.getD_cons_succ List.set_cons_zero List.set_cons_succ List.cons_append List.nil_append List.length_cons List.length_nil List.replicate List.map_cons List.map_nil sat sset jz iM AV.i_ AV.kV Ob.kill Ob.kF pn AV.fin AV.l_ C_ xD C9 GI wo tP iS AV.toD AV.VR AV.Y0 AV.Y0.AV.Jy qm oF G7 G6 I0 VN Sm ON OM RL RJ Ln Iq Lr Lo NQ Lu Lv Ls NP Lq NN H8 Gd Iv Iw Lx M7 Pe Iu Ge Gz
inductive Out where
 |ok (x:AV) (env:List AV) (s:ij)
 |need (p:Prop) (o:Out)
 |br (b:Bool) (o1 o2:Out)
 |call (f:Nat) (args env:List AV) (s:ij)
 |Qj (p:Prop) (o1 o2:Out)
 |bad
def runK(P:Program)(k0:Nat)(K:AV->List AV->ij->Prop):Out->Prop
 |.ok x env s=>K x env s
 |.need p o=>p/\runK P k0 K o
 |.br b o1 o2=>if b=true then runK P k0 K o1 else runK P k0 K o2
 |.call f args env s=>B4 P k0 f args env s K
 |.Qj p o1 o2=>(p->runK P k0 K o1)/\runK P k0 K o2
 |.bad=>False
def zD(id t:Nat)(cs env:List AV)(s:ij):Ob->Out
 |.dead=>.ok (.ptr id 0) env (sset s id (.obj t cs))
 |.obj _ _=>.ok (.ptr id 0) (AV.i_ (iM id) env) (sset (jz id s) id (.obj t (AV.i_ (iM id) cs)))
 |.tok _ _ _=>.ok (.ptr id 0) (AV.i_ (iM id) env) (sset (jz id s) id (.obj t (AV.i_ (iM id) cs)))
 |.kQ _ _ _ _=>.ok (.ptr id 0) (AV.i_ (iM id) env) (sset (jz id s) id (.obj t (AV.i_ (iM id) cs)))
 |.pF _ _ _ _=>.ok (.ptr id 0) (AV.i_ (iM id) env) (sset (jz id s) id (.obj t (AV.i_ (iM id) cs)))
 |.uq _ _ _=>.ok (.ptr id 0) (AV.i_ (iM id) env) (sset (jz id s) id (.obj t (AV.i_ (iM id) cs)))
 |.mp _ _ _=>.ok (.ptr id 0) (AV.i_ (iM id) env) (sset (jz id s) id (.obj t (AV.i_ (iM id) cs)))
def xS(id t e:Nat)(xs:List D)(env:List AV)(s:ij):Ob->Out
 |.dead=>.ok (.own e id xs) env (sset s id (.tok t e xs.length))
 |.obj _ _=>.ok (.own e id xs) (AV.i_ (iM id) env) (sset (jz id s) id (.tok t e xs.length))
 |.tok _ _ _=>.ok (.own e id xs) (AV.i_ (iM id) env) (sset (jz id s) id (.tok t e xs.length))
 |.kQ _ _ _ _=>.ok (.own e id xs) (AV.i_ (iM id) env) (sset (jz id s) id (.tok t e xs.length))
 |.pF _ _ _ _=>.ok (.own e id xs) (AV.i_ (iM id) env) (sset (jz id s) id (.tok t e xs.length))
 |.uq _ _ _=>.ok (.own e id xs) (AV.i_ (iM id) env) (sset (jz id s) id (.tok t e xs.length))
 |.mp _ _ _=>.ok (.own e id xs) (AV.i_ (iM id) env) (sset (jz id s) id (.tok t e xs.length))
def A5(id t e:Nat)(xs:List D)(env:List AV)(s:ij):Ob->Out
 |.dead=>.ok (.nr e id xs.length) env (sset s id (.kQ t e xs.length (xs.flatMap iq)))
 |.obj _ _=>.ok (.nr e id xs.length) (AV.i_ (iM id) env) (sset (jz id s) id (.kQ t e xs.length (xs.flatMap iq)))
 |.tok _ _ _=>.ok (.nr e id xs.length) (AV.i_ (iM id) env) (sset (jz id s) id (.kQ t e xs.length (xs.flatMap iq)))
 |.kQ _ _ _ _=>.ok (.nr e id xs.length) (AV.i_ (iM id) env) (sset (jz id s) id (.kQ t e xs.length (xs.flatMap iq)))
 |.pF _ _ _ _=>.ok (.nr e id xs.length) (AV.i_ (iM id) env) (sset (jz id s) id (.kQ t e xs.length (xs.flatMap iq)))
 |.uq _ _ _=>.ok (.nr e id xs.length) (AV.i_ (iM id) env) (sset (jz id s) id (.kQ t e xs.length (xs.flatMap iq)))
 |.mp _ _ _=>.ok (.nr e id xs.length) (AV.i_ (iM id) env) (sset (jz id s) id (.kQ t e xs.length (xs.flatMap iq)))
def FE(id t e n:Nat)(cs env:List AV)(s:ij):Ob->Out
 |.dead=>.ok (.pV e id 0 n) env (sset s id (.obj t cs))
 |.obj _ _=>.ok (.pV e id 0 n) (AV.i_ (iM id) env) (sset (jz id s) id (.obj t cs))
 |.tok _ _ _=>.ok (.pV e id 0 n) (AV.i_ (iM id) env) (sset (jz id s) id (.obj t cs))
 |.kQ _ _ _ _=>.ok (.pV e id 0 n) (AV.i_ (iM id) env) (sset (jz id s) id (.obj t cs))
 |.pF _ _ _ _=>.ok (.pV e id 0 n) (AV.i_ (iM id) env) (sset (jz id s) id (.obj t cs))
 |.uq _ _ _=>.ok (.pV e id 0 n) (AV.i_ (iM id) env) (sset (jz id s) id (.obj t cs))
 |.mp _ _ _=>.ok (.pV e id 0 n) (AV.i_ (iM id) env) (sset (jz id s) id (.obj t cs))
def KK(n off:Nat)(cs:List AV):Bool->AV
 |true=>AV.mk ((cs.drop off).take n)
 |false=>cs.getD off .ig
def VL(n:Nat)(cs:List D):Bool->D
 |true=>.agg (cs.take n)
 |false=>cs.headD .any
def I3(n:Nat)(ag:Bool)(off:Nat)(env:List AV)(s:ij):Ob->Out
 |.obj _ cs=>.need (off+n<=cs.length) (.ok (KK n off cs ag) env s)
 |_=>.bad
def VM(n off:Nat)(cs:List D):Bool->D
 |true=>.agg ((cs.drop off).take n)
 |false=>cs.getD off .any
def I4(n:Nat)(ag:Bool)(k off:Nat)(env:List AV)(s:ij):Ob->Out
 |.kQ _ _ m cs=>.need (m=k/\off+n<=cs.length) (.ok (.d (VM n off cs ag)) env s)
 |.uq _ m cs=>.need (m=k/\off+n<=cs.length/\ag=false/\n=1/\DA (cs.getD off .ig)=false) (.ok (cs.getD off .ig) env s)
 |_=>.bad
def ES(n:Nat)(ag:Bool)(env:List AV)(s:ij):AV->Out
 |.ptr id off=>I3 n ag off env s (sat s id)
 |.lP id k off=>I4 n ag k off env s (sat s id)
 |.pv cs=>.need (n<=cs.length) (.ok (.d (VL n cs ag)) env s)
 |_=>.bad
def F0(n off id:Nat)(env:List AV)(s:ij):Ob->Option (List AV)->Out
 |.obj t cs,some xs=>.need (xs.length=n/\off+n<=cs.length) (.ok .ig env (sset s id (.obj t (cs.take off++xs++cs.drop (off+n)))))
 |_,_=>.bad
def CR(n k off id e m:Nat)(cs:List AV)(env:List AV)(s:ij):Option (List AV)->Out
 |some xs=>.need (m=k/\xs.length=n/\0<n/\off+n<=cs.length/\ym xs=true) (.ok .ig env (sset s id (.uq e m (cs.take off++xs++cs.drop (off+n)))))
 |none=>.bad
def CQ(n k off id:Nat)(env:List AV)(s:ij)(X:Option (List AV)):Ob->Option D->Out
 |.kQ t e m cs,some d=>.need (m=k/\(iq d).length=n/\off+n<=cs.length) (.ok .ig env (sset s id (.kQ t e m (cs.take off++iq d++cs.drop (off+n)))))
 |.uq e m cs,_=>CR n k off id e m cs env s X
 |_,_=>.bad
def D0(n:Nat)(env:List AV)(s:ij)(x:AV):AV->Out
 |.ptr id off=>F0 n off id env s (sat s id) x.cells
 |.lP id k off=>CQ n k off id env s x.cells (sat s id) x.fin
 |_=>.bad
def Qr(op:BinOp)(env:List AV)(s:ij):AV->AV->Out
 |.d (.lit (.int k a)),.d (.lit (.int k' b))=>.need (Zn op k k')<|match op with
  |.add=>.ok (.d (.lit (.int k (k.wrap (a+b))))) env s
  |.sub=>.ok (.d (.lit (.int k (k.wrap (a-b))))) env s
  |.mul=>.ok (.d (.lit (.int k (k.wrap (a*b))))) env s
  |.quo=>.need (b≠0) (.ok (.d (.lit (.int k (k.wrap (a.tdiv b))))) env s)
  |.rem=>.need (b≠0) (.ok (.d (.lit (.int k (a.tmod b)))) env s)
  |.eql=>.ok (.d (bD (a==b))) env s
  |.neq=>.ok (.d (bD (a != b))) env s
  |.lss=>.ok (.d (bD (decide (a<b)))) env s
  |.leq=>.ok (.d (bD (decide (a<=b)))) env s
  |.gtr=>.ok (.d (bD (decide (b<a)))) env s
  |.geq=>.ok (.d (bD (decide (b<=a)))) env s
  |.and=>.ok (.d (.lit (.int k (Ee k a b)))) env s
  |.or=>.ok (.d (.lit (.int k (Zq k a b)))) env s
  |.xor=>.ok (.d (.lit (.int k (SI k a b)))) env s
  |.andNot=>.ok (.d (.lit (.int k (JM k a b)))) env s
  |.shl=>.need (0<=b) (.ok (.d (.lit (.int k (Sj k a b)))) env s)
  |.shr=>.need (0<=b) (.ok (.d (.lit (.int k (Hy k a b)))) env s)
 |.d (.lit (.string a)),.d (.lit (.string b))=>match op with
  |.add=>.need (a.size+b.size<2^63) (.ok (.d (.lit (.string (a++b)))) env s)
  |.eql=>.ok (.d (bD (a.toList==b.toList))) env s
  |.neq=>.ok (.d (bD (!(a.toList==b.toList)))) env s
  |_=>.bad
 |_,_=>.bad
def Nc(neg:Bool)(a b:Bool):Bool:=match neg with|true=>a != b|false=>a==b
def JO(neg:Bool)(env:List AV)(s:ij):AV->AV->Out
 |.d (.lit (.bool a)),.d (.lit (.bool b))=>.ok (.d (bD (Nc neg a b))) env s
 |_,_=>.bad
def L7(neg b:Bool):Bool:=match neg with|true=>!b|false=>b
def IC(neg:Bool)(env:List AV)(s:ij):Option (Nat×List D)->Out
 |some (_,xs)=>.Qj (xs=[]) (.ok (.d (bD (L7 neg true))) env s) (.ok (.d (bD (L7 neg false))) env s)
 |none=>.bad
def Fo(neg:Bool)(env:List AV)(s:ij)(x:AV):Option Bool->Out
 |some b=>.ok (.d (bD (L7 neg b))) env s
 |none=>IC neg env s (qF x)
def Zs(env:List AV)(s:ij):UnOp->AV->Out
 |.not,.d (.lit (.bool b))=>.ok (.d (bD (!b))) env s
 |.neg,.d (.lit (.int k n))=>.ok (.d (.lit (.int k (k.wrap (0-n))))) env s
 |_,_=>.bad
def J4(k:IntKind)(env:List AV)(s:ij):AV->Out
 |.d (.lit (.int _ n))=>.ok (.d (.lit (.int k (k.wrap n)))) env s
 |_=>.bad
def Ky(env:List AV)(s:ij)(a b:AV):AV->Out
 |.d (.lit (.bool t))=>.br t (.ok a env s) (.ok b env s)
 |_=>.bad
def T5(env:List AV)(s:ij):AV->Out
 |.ptr id off=>.ok (.ptr id off) env s
 |.pv cs=>.ok (.pv cs) env s
 |.fn f a b=>.ok (.fn f a b) env s
 |.lP id m off=>.ok (.lP id m off) env s
 |_=>.bad
def Wx(off:Nat)(env:List AV)(s:ij):AV->Out
 |.ptr id o=>.ok (.ptr id (o+off)) env s
 |.pv cs=>.ok (.pv (cs.drop off)) env s
 |.lP id k o=>.ok (.lP id k (o+off)) env s
 |_=>.bad
def Ki(e:Nat)(n:Int)(env:List AV)(s:ij):Option (Nat×List D)->Out
 |some (e',xs)=>.need (e'=e/\0<=n/\n<xs.length) (.ok (.pv (iq (xs.getD n.toNat .any))) env s)
 |none=>.bad
def DC(e:Nat)(n:Int)(env:List AV)(s:ij):AV->Out
 |.pV e' id off len=>.need (e'=e/\0<=n/\n<len) (.ok (.ptr id (off+n.toNat*e)) env s)
 |.nr e' id m=>.need (e'=e/\0<=n/\n<m) (.ok (.lP id m (n.toNat*e)) env s)
 |x=>Ki e n env s (qF x)
def Rl(e:Nat)(env:List AV)(s:ij)(x:AV):Option Int->Out
 |some n=>DC e n env s x
 |none=>.bad
def S6(e n:Nat)(env:List AV)(s:ij):Option Int->AV->Out
 |some j,.ptr id off=>.need (0<=j/\j<n) (.ok (.ptr id (off+j.toNat*e)) env s)
 |some j,.pv cs=>.need (0<=j/\j<n) (.ok (.pv (cs.drop (j.toNat*e))) env s)
 |_,_=>.bad
def Oq(env:List AV)(s:ij):Option (Nat×List D)->Out
 |some (_,xs)=>.ok (.d (iD xs.length)) env s
 |none=>.bad
def I2(env:List AV)(s:ij):AV->Out
 |.pV _ _ _ n=>.ok (.d (iD n)) env s
 |.nr _ _ n=>.ok (.d (iD n)) env s
 |x=>Oq env s (qF x)
def KS(x:AV)(e:Nat)(env:List AV)(s:ij)(lo:Option Int)(hi:Option Operand):Option (Nat×List D)->Out
 |some (e',xs)=>match lo,C_ env xs.length hi with
  |some l,some h=>.need ((xs=[]\/e'=e)/\0<=l/\l<=h/\h<=xs.length) (.ok (.d (.sl e' (yX x) ((xs.take h.toNat).drop l.toNat))) env s)
  |_,_=>.bad
 |none=>.bad
def VO(e:Nat)(env:List AV)(s:ij):Option Operand->Option Int->Option Int->Option (Nat×List D)->Out
 |none,some h,some m,some (e',xs)=>.need ((xs=[]\/e'=e)/\h=m/\0<=h/\h<=xs.length) (.ok (.CG e' (xs.take h.toNat)) env s)
 |_,_,_,_=>.bad
def Zl(env:List AV):Option Operand->Option Int
 |some h=>kr (ev env h)
 |none=>none
def Mf(x:AV)(e:Nat)(env:List AV)(s:ij)(lo hi:Option Operand):Option Operand->Out
 |none=>KS x e env s (C_ env 0 lo) hi (qF x)
 |some m=>VO e env s lo (Zl env hi) (kr (ev env m)) (qF x)
def OK(t:Nat)(env:List AV)(s:ij):AV->Out
 |.d (.agg [])=>.ok (.d (.lit (.iface t (.agg #[])))) env s
 |_=>.bad
def Jm(e k0 j n:Nat)(h:Int)(env:List AV)(s:ij):Ob->Out
 |.kQ t e2 m cs=>.need (e2=e/\n=m/\0<=h/\h<=m/\k0<=j) (.ok (.nr e j (LD h.toNat m)) (AV.i_ (iM j) env) (sset (jz j s) j (.kQ t e (LD h.toNat m) (Q_ h.toNat e cs))))
 |_=>.bad
def Pf(e k0:Nat)(env:List AV)(s:ij):AV->Option Int->Out
 |.nr e' j n,some h=>.need (e'=e) (Jm e k0 j n h env s (sat s j))
 |_,_=>.bad
def KQ(e n:Nat)(env:List AV)(s:ij):AV->Option Operand->Option Operand->Option Operand->Out
 |.ptr id off,none,none,none=>.ok (.pV e id off n) env s
 |.ptr id off,none,some h,none=>match kr (ev env h)with
  |some h=>.need (0<=h/\h<=n) (.ok (.pV e id off h.toNat) env s)
  |none=>.bad
 |_,_,_,_=>.bad
def JN(t e bytes:Nat)(j:Nat)(xs ys:List D)(env:List AV)(s:ij)(ob:Ob):Out:=
 .need (ob=.tok t e xs.length/\(xs.length+ys.length)*bytes<=2^47) (.ok (.own e j (xs++ys)) env (sset s j (.tok t e (xs.length+ys.length))))
def M9(t e bytes:Nat)(j n:Nat)(ys:List D)(env:List AV)(s:ij):Ob->Out
 |.kQ t' e2 m cs=>.need (t'=t/\e2=e/\m=n/\(n+ys.length)*bytes<=2^47) (.ok (.nr e j (n+ys.length)) env (sset s j (.kQ t e (n+ys.length) (cs++ys.flatMap iq))))
 |_=>.bad
def Gj(id t e bytes k0:Nat)(e2:Nat)(ys:List D)(env:List AV)(s:ij):AV->Out
 |.own e' j xs=>.need ((ys=[]\/e2=e)/\e'=e) (JN t e bytes j xs ys env s (sat s j))
 |.nr e' j n=>.need ((ys=[]\/e2=e)/\e'=e) (M9 t e bytes j n ys env s (sat s j))
 |.d (.sl _ (some true) [])=>.need ((ys=[]\/e2=e)/\ys.length*bytes<=2^47/\k0<=id) (xS id t e ys env s (sat s id))
 |.CG e' xs=>.need ((ys=[]\/e2=e)/\e'=e/\(xs.length+ys.length)*bytes<=2^47) (.ok (.d (.sl e none (xs++ys))) env s)
 |_=>.bad
def La(id t e bytes k0:Nat)(x:AV)(env:List AV)(s:ij):Option (Nat×List D)->Out
 |some (e2,ys)=>Gj id t e bytes k0 e2 ys env s x
 |none=>.bad
def Bz(id t e bytes k0:Nat)(e2:Nat)(ys:List D)(env:List AV)(s:ij):AV->Out
 |.d (.sl _ (some true) [])=>.need ((ys=[]\/e2=e)/\ys.length*bytes<=2^47/\k0<=id) (A5 id t e ys env s (sat s id))
 |x=>Gj id t e bytes k0 e2 ys env s x
def C8(id t e bytes k0:Nat)(x:AV)(env:List AV)(s:ij):Option (Nat×List D)->Out
 |some (e2,ys)=>Bz id t e bytes k0 e2 ys env s x
 |none=>.bad
def US(i:Nat)(env:List AV)(s:ij):AV->Out
 |.mj cs=>.need (i<cs.length) (.ok (cs.getD i .ig) env s)
 |_=>.bad
def CK(mx:Bool)(env:List AV)(s:ij):AV->AV->Out
 |.d (.lit (.int k a)),.d (.lit (.int k' b))=>.need (k=k') (.ok (.d (.lit (.int k (match mx with|true=>if b>a then b else a|false=>if b<a then b else a)))) env s)
 |_,_=>.bad
def Le(id t k0:Nat)(env:List AV)(s:ij):Option (List AV)->Out
 |some cs=>.need (k0<=id) (zD id t cs env s (sat s id))
 |none=>.bad
def Nh(env:List AV)(s:ij):Option (List AV)->Out
 |some cs=>.ok (AV.mk cs) env s
 |none=>.bad
def Qv(id t e k0:Nat)(env:List AV)(s:ij):Option (List D)->Out
 |some ds=>.need ((∀d∈ds,(iq d).length=e)/\k0<=id) (xS id t e ds env s (sat s id))
 |none=>.bad
def RG(id t e n:Nat)(cs env:List AV)(s:ij):Ob->Out
 |.dead=>.ok (.pV e id 0 n) env (sset s id (.obj t cs))
 |_=>.bad
def FF(id t e:Nat)(ds:List D)(cs env:List AV)(s:ij):Ob->Out
 |.dead=>.ok (.own e id ds) env (sset s id (.pF t e ds.length cs))
 |.obj _ _=>.ok (.own e id ds) (AV.i_ (iM id) env) (sset (jz id s) id (.pF t e ds.length (AV.i_ (iM id) cs)))
 |.tok _ _ _=>.ok (.own e id ds) (AV.i_ (iM id) env) (sset (jz id s) id (.pF t e ds.length (AV.i_ (iM id) cs)))
 |.kQ _ _ _ _=>.ok (.own e id ds) (AV.i_ (iM id) env) (sset (jz id s) id (.pF t e ds.length (AV.i_ (iM id) cs)))
 |.pF _ _ _ _=>.ok (.own e id ds) (AV.i_ (iM id) env) (sset (jz id s) id (.pF t e ds.length (AV.i_ (iM id) cs)))
 |.uq _ _ _=>.ok (.own e id ds) (AV.i_ (iM id) env) (sset (jz id s) id (.pF t e ds.length (AV.i_ (iM id) cs)))
 |.mp _ _ _=>.ok (.own e id ds) (AV.i_ (iM id) env) (sset (jz id s) id (.pF t e ds.length (AV.i_ (iM id) cs)))
def JU(id t e k0:Nat)(env:List AV)(s:ij):Option (List D)->Option (List AV)->Out
 |some ds,some cs=>.need ((∀d∈ds,(iq d).length=e)/\ym cs=true/\k0<=id) (FF id t e ds cs env s (sat s id))
 |_,_=>.bad
def JS(id t e k0:Nat)(env:List AV)(s:ij):Option (List D)->Out
 |some ds=>.need ((∀d∈ds,(iq d).length=e)/\k0<=id) (A5 id t e ds env s (sat s id))
 |none=>.bad
def Kn(id t e bytes k0:Nat)(z:List D)(env:List AV)(s:ij):Bool->Option Int->Option Int->Out
 |true,some l,some c=>.need (0<=l/\l<=c/\bytes*c<=2^48/\c<2^62/\k0<=id) (xS id t e [] env s (sat s id))
 |false,some l,some c=>.need (0<=l/\l<=c/\bytes*c<=2^48/\c<2^62/\k0<=id) (FE id t e l.toNat ((List.replicate l.toNat (z.map .d)).flatten) env s (sat s id))
 |_,_,_=>.bad
def Jd(id e bytes k0:Nat)(z:List D)(env:List AV)(s:ij):Bool->Option Int->Option Int->Out
 |false,some l,some c=>.need (0<e/\0<=l/\l<=c/\bytes*c<=2^48/\c<2^62/\k0<=id/\(sat s id).kF=true) (.ok (.nr e id l.toNat) env (sset s id (.uq e l.toNat ((List.replicate l.toNat (z.map .d)).flatten))))
 |_,_,_=>.bad
def Ip(P:Program)(args env:List AV)(s:ij):AV->Out
 |.fn f first cap=>.need (enters P f=true) (.call f (first++args++cap) env s)
 |_=>.bad
def RH(P:Program)(id k:Nat)(env:List AV)(s:ij):Bool->Out
 |true=>.ok (.mp id) env (sset s id (.mp P k []))
 |false=>.ok (.mp id) (AV.i_ (iM id) env) (sset (jz id s) id (.mp P k []))
noncomputable def kR(P:Program)(k0:Nat)(env:List AV)(s:ij):sJ->Out
 |.mv x=>.ok (ev env x) env s
 |.pick c a b=>Ky env s (ev env a) (ev env b) (ev env c)
 |.alloc id t z=>.need (k0<=id) (zD id t (z.map .d) env s (sat s id))
 |.box id t x=>Le id t k0 env s (ev env x).cells
 |.Fi id _ t x=>Le id t k0 env s (ev env x).cells
 |.build z ps=>Nh env s (pn env (z.map .d) ps)
 |.mP id t e xs=>Qv id t e k0 env s (AV.l_ (xs.map (ev env)))
 |.zM id t e xs=>JS id t e k0 env s (AV.l_ (xs.map (ev env)))
 |.Eh id t e xs=>JU id t e k0 env s (AV.l_ (xs.map (ev env))) (AV.flat e (xs.map (ev env)))
 |.load n ag p=>ES n ag env s (ev env p)
 |.store n p x=>D0 n env s (ev env x) (ev env p)
 |.me x=>T5 env s (ev env x)
 |.bin op x y=>Qr op env s (ev env x) (ev env y)
 |.Eg neg x y=>JO neg env s (ev env x) (ev env y)
 |.uT neg x=>Fo neg env s (ev env x) (yX (ev env x))
 |.un op x=>Zs env s op (ev env x)
 |.conv k x=>J4 k env s (ev env x)
 |.A2 f first cap=>.ok (.fn f (first.map (ev env)) (cap.map (ev env))) env s
 |.A4 id _ e bytes z tok len cap=>Jd id e bytes k0 z env s tok (kr (ev env len)) (kr (ev env cap))
 |.zO id t e bytes z tok len cap=>Kn id t e bytes k0 z env s tok (kr (ev env len)) (kr (ev env cap))
 |.slc x e lo hi mx=>Mf (ev env x) e env s lo hi mx
 |.FU p e n lo hi mx=>KQ e n env s (ev env p) lo hi mx
 |.Qf off p=>Wx off env s (ev env p)
 |.uE e x i=>Rl e env s (ev env x) (kr (ev env i))
 |.xN e n p i=>S6 e n env s (kr (ev env i)) (ev env p)
 |.len x=>I2 env s (ev env x)
 |.app id t e bytes x y=>La id t e bytes k0 (ev env x) env s (qF (ev env y))
 |.Ef id t e bytes x y=>C8 id t e bytes k0 (ev env x) env s (qF (ev env y))
 |.kA f args=>.call f (args.map (ev env)) env s
 |.ng g args=>Ip P (args.map (ev env)) env s (ev env g)
 |.ext x i=>US i env s (ev env x)
 |.min x y=>CK false env s (ev env x) (ev env y)
 |.Eb _=>.bad
 |.DZ x e y=>Pf e k0 env s (ev env x) (kr (ev env y))
 |.A3 t x=>OK t env s (ev env x)
 |.dead=>.bad
theorem OY(ρ:Nat->Option Nat):∀z:List D,AV.i_ ρ (z.map .d)=z.map .d
 |[]=>rfl
 |x::xs=>by simp only[aP,AV.i_,AV.kV,OY ρ xs]
theorem Ba(ρ:Nat->Option Nat):∀z:List AV,AV.i_ ρ z=z.map (AV.kV ρ)
 |[]=>rfl
 |x::xs=>by simp only[aP,AV.i_,Ba ρ xs]
theorem Gl{P:Program}{k0 id t e bytes:Nat}{x y:AV}{env:List AV}{s:ij}{K:AV->List AV->ij->Prop}(h:runK P k0 K (La id t e bytes k0 x env s (qF y))):
 K_ id t e bytes k0 x y env s K:=by
 unfold K_;cases hs:qF y with
 |none=>rw[hs]at h;exact h.elim
 |some p=>
  obtain⟨e2,ys⟩:=p;rw[hs]at h;simp only[La,Gj]at h⊢;split at h
  ·simp only[runK,JN]at h;exact⟨h.1.1,h.1.2,h.2.1.1,h.2.1.2,h.2.2⟩
  ·rename_i e' j n;simp only[runK]at h;refine⟨h.1.1,h.1.2,?_⟩;have h:=h.2;cases hq:sat s j<;>simp only[hq,M9,runK]at h⊢
   exact⟨h.1.1,h.1.2.1,h.1.2.2.1,h.1.2.2.2,h.2⟩
  ·simp only[runK]at h;refine⟨h.1.1,h.1.2.1,h.1.2.2,?_⟩;have h:=h.2;cases hq:sat s id<;>simp only[hq,xS,runK,Ob.kF,aC,aj,aE]at h⊢<;>exact h
  ·simp only[runK]at h;exact⟨h.1.1,h.1.2.1,h.1.2.2,h.2⟩
  ·exact h.elim
theorem Lc{P:Program}{k0 id t e bytes:Nat}{x y:AV}{env:List AV}{s:ij}{K:AV->List AV->ij->Prop}(h:runK P k0 K (C8 id t e bytes k0 x env s (qF y))):
 Gm id t e bytes k0 x y env s K:=by
 unfold Gm;split
 ·rename_i e2 ys e4 hs;rw[hs]at h;simp only[C8,Bz,runK]at h;refine⟨h.1.1,h.1.2.1,?_⟩;unfold vS;refine⟨h.1.2.2,?_⟩;have h:=h.2;cases hq:sat s id<;>simp only[hq,A5,runK,Ob.kF,aC,aj,aE]at h⊢<;>exact h
 ·rename_i hn;refine Gl (P:=P) ?_;cases hs:qF y with
  |none=>rw[hs]at h;exact h
  |some p=>
   obtain⟨e2,ys⟩:=p;rw[hs]at h;simp only[C8]at h;unfold Bz at h;split at h
   ·rename_i e4;exact absurd rfl (hn e2 ys e4 hs)
   ·exact h
theorem HO{P:Program}{k0:Nat}{m:sJ}{env:List AV}{s:ij}{K:AV->List AV->ij->Prop}(h:runK P k0 K (kR P k0 env s m)):qX P k0 m env s K:=by
 cases m with
 |mv x=>exact h
 |pick c a b=>
  simp only[kR,Ky,qX]at h⊢;split at h
  ·rename_i t ht;try rw[ht]
   simpa[Br,runK]using h
  ·exact h.elim
 |alloc id t z=>
  simp only[kR,runK,qX,vS]at h⊢;refine⟨h.1,?_⟩;cases hs:sat s id<;>simp only[hs,zD,runK,Ob.kF,aC,aj,aE,OY]at h⊢<;>exact h.2
 |Fi id d t x=>
  simp only[kR,qX]at h⊢;cases hc:(ev env x).cells with
  |none=>rw[hc]at h;exact h.elim
  |some cs=>
   rw[hc]at h;simp only[Le,runK,vS]at h⊢;refine⟨h.1,?_⟩;cases hs:sat s id<;>simp only[hs,zD,runK,Ob.kF,aC,aj,aE,Ba]at h⊢
   ·simpa using h.2
   all_goals exact h.2
 |box id t x=>
  simp only[kR,qX]at h⊢;cases hc:(ev env x).cells with
  |none=>rw[hc]at h;exact h.elim
  |some cs=>
   rw[hc]at h;simp only[Le,runK,vS]at h⊢;refine⟨h.1,?_⟩;cases hs:sat s id<;>simp only[hs,zD,runK,Ob.kF,aC,aj,aE,Ba]at h⊢
   ·simpa using h.2
   all_goals exact h.2
 |build z ps=>
  simp only[kR,qX]at h⊢;cases hc:pn env (z.map .d) ps with
  |none=>rw[hc]at h;exact h.elim
  |some cs=>rw[hc]at h;exact h
 |mP id t e xs=>
  simp only[kR,qX]at h⊢;cases hc:AV.l_ (xs.map (ev env))with
  |none=>rw[hc]at h;exact h.elim
  |some ds=>
   rw[hc]at h;simp only[Qv,runK,vS]at h⊢;refine⟨h.1.1,h.1.2,?_⟩;cases hs:sat s id<;>simp only[hs,xS,runK,Ob.kF,aC,aj,aE]at h⊢<;>exact h.2
 |zM id t e xs=>
  simp only[kR,qX]at h⊢;cases hc:AV.l_ (xs.map (ev env))with
  |none=>rw[hc]at h;exact h.elim
  |some ds=>
   rw[hc]at h;simp only[JS,runK,vS]at h⊢;refine⟨h.1.1,h.1.2,?_⟩;cases hs:sat s id<;>simp only[hs,A5,runK,Ob.kF,aC,aj,aE]at h⊢<;>exact h.2
 |load n ag p=>
  simp only[kR,qX,qZ]at h⊢;cases hp:ev env p with
  |ptr id off=>
   rw[hp]at h;simp only[ES]at h⊢;cases hs:sat s id<;>rw[hs]at h<;>simp only[I3,runK]at h⊢
   cases ag<;>exact h
  |pv cs=>rw[hp]at h;simp only[ES,runK]at h⊢;cases ag<;>exact h
  |lP id kk off=>
   rw[hp]at h;simp only[ES]at h⊢;cases hs:sat s id<;>rw[hs]at h<;>simp only[I4,runK]at h⊢
   ·cases ag<;>exact⟨h.1.1,h.1.2,h.2⟩
   ·exact⟨h.1.1,h.1.2.1,h.1.2.2.1,h.1.2.2.2.1,h.1.2.2.2.2,h.2⟩
  |_=>rw[hp]at h;exact h.elim
 |store n p x=>
  simp only[kR,qX,FY]at h⊢;cases hp:ev env p with
  |ptr id off=>
   rw[hp]at h;simp only[D0]at h⊢;cases hs:sat s id<;>rw[hs]at h<;>cases hc:(ev env x).cells<;>rw[hc]at h<;>simp only[F0,runK]at h⊢
   exact⟨h.1.1,h.1.2,h.2⟩
  |lP id kk off=>
   rw[hp]at h;simp only[D0]at h⊢;cases hs:sat s id<;>rw[hs]at h<;>simp only at h⊢
   case kQ=>cases hc:(ev env x).fin<;>rw[hc]at h<;>simp only[CQ,runK]at h⊢<;>exact⟨h.1.1,h.1.2.1,h.1.2.2,h.2⟩
   case uq e1 m1 cs1=>
    have h:runK P k0 K (CR n kk off id e1 m1 cs1 env s (ev env x).cells):=by cases hc:(ev env x).fin<;>rw[hc]at h<;>exact h
    cases hc:(ev env x).cells<;>rw[hc]at h<;>simp only[CR,runK]at h⊢
    exact⟨h.1.1,h.1.2.1,h.1.2.2.1,h.1.2.2.2.1,h.1.2.2.2.2,h.2⟩
   all_goals(cases hc:(ev env x).fin<;>rw[hc]at h<;>simp only[CQ,runK]at h)
  |_=>rw[hp]at h;exact h.elim
 |me x=>
  simp only[kR,qX]at h⊢;cases hp:ev env x<;>rw[hp]at h<;>first|exact h|exact h.elim
 |bin op x y=>
  simp only[kR,qX,Qq,Qr]at h⊢;split at h
  ·rename_i k a k' b h1 h2;try rw[h1,h2]
   simp only[runK]at h;refine⟨h.1,?_⟩;have h:=h.2;cases op<;>exact h
  ·rename_i a b h1 h2;try rw[h1,h2]
   cases op<;>first|exact h|exact h.elim
  ·exact h.elim
 |Eg neg x y=>
  simp only[kR,qX,JO]at h⊢;split at h
  ·rename_i a b h1 h2;try rw[h1,h2]
   cases neg<;>exact h
  ·exact h.elim
 |uT neg x=>
  simp only[kR,qX]at h⊢;cases hc:yX (ev env x)with
  |none=>
   rw[hc]at h;simp only[Fo]at h;cases hs:qF (ev env x)with
   |none=>rw[hs]at h;exact h.elim
   |some p=>rw[hs]at h;cases neg<;>exact h
  |some b=>rw[hc]at h;cases neg<;>exact h
 |un op x=>
  simp only[kR,qX,Zs]at h⊢;split at h
  ·rename_i b h1;(try rw[h1]);exact h
  ·rename_i k n h1;(try rw[h1]);exact h
  ·exact h.elim
 |conv k x=>
  simp only[kR,qX,J4]at h⊢;split at h
  ·rename_i k' n h1;(try rw[h1]);exact h
  ·exact h.elim
 |A2 f first cap=>exact h
 |A4 id t e bytes z tok len cap=>
  simp only[kR,qX]at h⊢;generalize kr (ev env len)=X at h⊢;generalize kr (ev env cap)=Y at h⊢;cases tok<;>cases X<;>cases Y<;>simp only[Jd,runK]at h⊢<;>first
   |exact⟨trivial,h.1.1,h.1.2.1,h.1.2.2.1,h.1.2.2.2.1,h.1.2.2.2.2.1,h.1.2.2.2.2.2.1,h.1.2.2.2.2.2.2,h.2⟩
   |exact h
 |zO id t e bytes z tok len cap=>
  simp only[kR,qX]at h⊢;cases h1:kr (ev env len)<;>cases h2:kr (ev env cap)<;>cases tok<;>rw[h1,h2]at h<;>simp only[Kn,runK]at h⊢
  ·obtain⟨⟨a1,a2,a3,a4,a5⟩,h⟩:=h;refine⟨a1,a2,a3,a4,a5,?_⟩;cases hs:sat s id<;>simp only[hs,FE,runK,Ob.kF,aC,aj,aE]at h⊢<;>exact h
  ·obtain⟨⟨a1,a2,a3,a4,a5⟩,h⟩:=h;refine⟨a1,a2,a3,a4,a5,?_⟩;cases hs:sat s id<;>simp only[hs,xS,runK,Ob.kF,aC,aj,aE]at h⊢<;>exact h
 |slc x e lo hi mx=>
  simp only[kR,qX]at h⊢;cases mx with
  |some m=>
   simp only[Mf]at h;cases lo with
   |some _=>cases hi<;>exact h.elim
   |none=>
    cases hi with
    |none=>exact h.elim
    |some hh=>
     simp only[Zl]at h;cases h1:kr (ev env hh)with
     |none=>rw[h1]at h;exact h.elim
     |some hv=>
      cases h2:kr (ev env m)with
      |none=>rw[h1,h2]at h;exact h.elim
      |some mv=>
       cases hs:qF (ev env x)with
       |none=>rw[h1,h2,hs]at h;exact h.elim
       |some p=>
        obtain⟨e',xs⟩:=p;rw[h1,h2,hs]at h;simp only[VO,runK]at h;obtain⟨⟨k1,rfl,k2,k3⟩,k4⟩:=h;exact⟨rfl,hh,hv,rfl,h1,h2,k1,k2,k3,k4⟩
  |none=>
   simp only[Mf]at h;cases hs:qF (ev env x)with
   |none=>rw[hs]at h;exact h.elim
   |some p=>
    obtain⟨e',xs⟩:=p;rw[hs]at h;simp only[KS]at h⊢;split at h
    ·rename_i l hh h1 h2;simp only[runK]at h;refine⟨h.1.1,?_⟩;unfold So;rw[hs,h1,h2];exact⟨h.1.2.1,h.1.2.2.1,h.1.2.2.2,h.2⟩
    ·exact h.elim
 |FU p e n lo hi mx=>
  simp only[kR,qX,KQ]at h⊢;split at h
  ·rename_i id off h1;(try rw[h1]);exact h
  ·rename_i id off hh h1;try rw[h1]
   split at h
   ·rename_i h' h2;(try simp only[h2]);exact⟨h.1.1,h.1.2,h.2⟩
   ·exact h.elim
  ·exact h.elim
 |Qf off p=>
  simp only[kR,qX]at h⊢;cases hp:ev env p<;>rw[hp]at h<;>first|exact h|exact h.elim
 |uE e x i=>
  simp only[kR,qX,Rj]at h⊢;cases hi:kr (ev env i)with
  |none=>rw[hi]at h;exact h.elim
  |some n=>
   rw[hi]at h;simp only[Rl]at h⊢;cases hx:ev env x<;>rw[hx]at h<;>simp only[DC]at h⊢<;>first
    |exact⟨h.1.1,h.1.2.1,h.1.2.2,h.2⟩
    |(
     split
     ·rename_i e' xs hs;rw[hs]at h;exact⟨h.1.1,h.1.2.1,h.1.2.2,h.2⟩
     ·rename_i hs;rw[hs]at h;exact h.elim)
 |xN e n p i=>
  simp only[kR,qX]at h⊢;cases hi:kr (ev env i)<;>cases hp:ev env p<;>rw[hi,hp]at h<;>first|exact⟨h.1.1,h.1.2,h.2⟩|exact h.elim
 |len x=>
  simp only[kR,qX]at h⊢;cases hx:ev env x<;>rw[hx]at h<;>simp only[I2]at h⊢<;>first
   |exact h
   |(
    split
    ·rename_i e' xs hs;rw[hs]at h;exact h
    ·rename_i hs;rw[hs]at h;exact h.elim)
 |app id t e bytes x y=>exact Gl h
 |Eh id t e xs=>
  simp only[kR,qX,Nf]at h⊢;generalize AV.l_ (xs.map (ev env))=X at h⊢;generalize AV.flat e (xs.map (ev env))=Y at h⊢;unfold JU at h;split at h
  ·simp only[runK]at h;refine⟨h.1.1,h.1.2.1,h.1.2.2,?_⟩;have h:=h.2;cases hs:sat s id<;>simp only[hs,FF,runK,Ob.kF,aC,aj,aE,Ba]at h⊢<;>first|exact h|simpa using h
  ·exact h.elim
 |Ef id t e bytes x y=>exact Lc h
 |kA f args=>exact h
 |ng g args=>
  simp only[kR,qX,Ip]at h⊢;split at h
  ·rename_i f first cap h1;(try rw[h1]);exact h
  ·exact h.elim
 |ext x i=>
  simp only[kR,qX,US]at h⊢;split at h
  ·rename_i cs h1;(try rw[h1]);exact h
  ·exact h.elim
 |min x y=>
  simp only[kR,qX,CK]at h⊢;split at h
  ·rename_i k a k' b h1 h2;(try rw[h1,h2]);exact h
  ·exact h.elim
 |Eb x=>exact h
 |A3 t x=>
  simp only[kR,qX]at h⊢;generalize ev env x=X at h⊢;unfold OK at h;split at h
  ·exact⟨rfl,h⟩
  ·exact h.elim
 |DZ x e y=>
  simp only[kR,qX]at h⊢;generalize ev env x=X at h⊢;generalize kr (ev env y)=Y at h⊢;cases X<;>cases Y<;>simp only[Pf]at h⊢<;>first
   |exact h.elim
   |(rename_i e1 j n hv;simp only[runK]at h;obtain⟨he,h⟩:=h;unfold R9;cases hs:sat s j<;>rw[hs]at h<;>simp only[Jm,runK]at h⊢<;>first|exact h.elim|exact⟨he,h.1.1,h.1.2.1,h.1.2.2.1,h.1.2.2.2.1,h.1.2.2.2.2,h.2⟩)
 |dead=>exact h
def lM(P:Program)(k0 f:Nat)(args env:List AV)(s:ij)(d:Option Nat)(R:List AV->ij->Prop):Prop:=
 B4 P k0 f args env s fun x env s=>R (iU d env x) s
def mz(P:Program)(k0:Nat)(R:List AV->ij->Prop)(d:Option Nat):Out->Prop
 |.ok x env s=>R (iU d env x) s
 |.need p o=>p/\mz P k0 R d o
 |.br b o1 o2=>if b=true then mz P k0 R d o1 else mz P k0 R d o2
 |.call f args env s=>lM P k0 f args env s d R
 |.Qj p o1 o2=>(p->mz P k0 R d o1)/\mz P k0 R d o2
 |.bad=>False
def Bm(P:Program)(k0:Nat)(R:List AV->ij->Prop)(d:Option Nat)(b:Bool)(o1 o2:Out):Prop:=
 if b=true then mz P k0 R d o1 else mz P k0 R d o2
theorem SE{P:Program}{k0:Nat}{R:List AV->ij->Prop}{d:Option Nat}{b:Bool}{o1 o2:Out}:mz P k0 R d (.br b o1 o2)=Bm P k0 R d b o1 o2:=(rfl)
theorem Wi{P:Program}{k0:Nat}{R:List AV->ij->Prop}{d:Option Nat}{o1 o2:Out}:Bm P k0 R d true o1 o2=mz P k0 R d o1:=by simp[Bm]
theorem Wh{P:Program}{k0:Nat}{R:List AV->ij->Prop}{d:Option Nat}{o1 o2:Out}:Bm P k0 R d false o1 o2=mz P k0 R d o2:=by simp[Bm]
def vP(P:Program)(k0:Nat)(K:List AV->ij->Prop):List iJ->List AV->ij->Prop
 |[],env,s=>K env s
 |m::ms,env,s=>match m.guard with
  |none=>mz P k0 (vP P k0 K ms) m.dst (kR P k0 env s m.op)
  |some (g,want)=>match g with
   |none=>vP P k0 K ms (iU m.dst env (.mj [])) s
   |some d=>match env.getD d .ig with
    |.d (.lit (.bool b))=>if b=want then mz P k0 (vP P k0 K ms) m.dst (kR P k0 env s m.op)else vP P k0 K ms (iU m.dst env (.mj [])) s
    |.mj []=>vP P k0 K ms (iU m.dst env (.mj [])) s
    |_=>False
def zm(P:Program)(k0:Nat)(K:List AV->ij->Prop)(b want:Bool)(m:sJ)(d:Option Nat)(ms:List iJ)(env:List AV)(s:ij):Prop:=
 if b=want then mz P k0 (vP P k0 K ms) d (kR P k0 env s m)else vP P k0 K ms (iU d env (.mj [])) s
section
variable{P:Program}{k0:Nat}{K:List AV->ij->Prop}{b want:Bool}{m:sJ}{d:Option Nat}{ms:List iJ}{env:List AV}{s:ij}
theorem Up:zm P k0 K true true m d ms env s=mz P k0 (vP P k0 K ms) d (kR P k0 env s m):=by simp[zm]
theorem Ul:zm P k0 K false false m d ms env s=mz P k0 (vP P k0 K ms) d (kR P k0 env s m):=by simp[zm]
theorem Uo:zm P k0 K true false m d ms env s=vP P k0 K ms (iU d env (.mj [])) s:=by simp[zm]
theorem Um:zm P k0 K false true m d ms env s=vP P k0 K ms (iU d env (.mj [])) s:=by simp[zm]
def VU(P:Program)(k0:Nat)(K:List AV->ij->Prop)(want:Bool)(m:sJ)(d:Option Nat)(ms:List iJ)(env:List AV)(s:ij):AV->Prop
 |.d (.lit (.bool b))=>zm P k0 K b want m d ms env s
 |.mj []=>vP P k0 K ms (iU d env (.mj [])) s
 |_=>False
theorem SD:vP P k0 K [] env s=K env s:=(rfl)
theorem Mw:vP P k0 K (⟨d,m,none⟩::ms) env s=mz P k0 (vP P k0 K ms) d (kR P k0 env s m):=(rfl)
theorem Mu{g:Nat}:vP P k0 K (⟨d,m,some (some g,want)⟩::ms) env s=VU P k0 K want m d ms env s (env.getD g .ig):=by
 simp only[vP];split
 ·rename_i b h;rw[h];rfl
 ·rename_i h;rw[h];rfl
 ·rename_i h h';unfold VU;split
  ·rename_i b h2;exact absurd h2 (h b)
  ·rename_i h2;exact absurd h2 h'
  ·rfl
theorem SF{R:List AV->ij->Prop}{x:AV}:mz P k0 R d (.ok x env s)=R (iU d env x) s:=(rfl)
theorem Mz{R:List AV->ij->Prop}{p:Prop}{o:Out}:mz P k0 R d (.need p o)=(p/\mz P k0 R d o):=(rfl)
def tF(P:Program)(k0:Nat)(R:List AV->ij->Prop)(d:Option Nat)(p:Prop)(o1 o2:Out):Prop:=(p->mz P k0 R d o1)/\mz P k0 R d o2
theorem tF.of{P:Program}{k0:Nat}{R:List AV->ij->Prop}{d:Option Nat}{p:Prop}{o1 o2:Out}(h1:p->mz P k0 R d o1)(h2:mz P k0 R d o2):tF P k0 R d p o1 o2:=⟨h1,h2⟩
theorem PJ{R:List AV->ij->Prop}{p:Prop}{o1 o2:Out}:mz P k0 R d (.Qj p o1 o2)=tF P k0 R d p o1 o2:=(rfl)
theorem My{R:List AV->ij->Prop}{f:Nat}{args:List AV}:mz P k0 R d (.call f args env s)=lM P k0 f args env s d R:=(rfl)
end
theorem vo{P:Program}{k0:Nat}{R:List AV->ij->Prop}{d:Option Nat}{K:AV->List AV->ij->Prop}(hK:∀x env s,R (iU d env x) s->K x env s):
 ∀{o:Out},mz P k0 R d o->runK P k0 K o
 |.ok x env s=>fun h=>hK x env s h
 |.need p o=>fun h=>⟨h.1,vo hK h.2⟩
 |.br b o1 o2=>fun h=>by
  cases b with
  |true=>simp only[mz,aC]at h;simp only[runK,aC];exact vo hK h
  |false=>simp only[mz,aj,aE]at h;simp only[runK,aj,aE];exact vo hK h
 |.call _ _ _ _=>fun h=>Il (K:=fun x env s=>R (iU d env x) s) h fun x env s=>hK x env s
 |.Qj p o1 o2=>fun h=>⟨fun hp=>vo hK (h.1 hp),vo hK h.2⟩
 |.bad=>fun h=>h
theorem oA{P:Program}{k0:Nat}{K:List AV->ij->Prop}:∀{ms:List iJ}{env:List AV}{s:ij},vP P k0 K ms env s->ue P k0 ms env s K
 |[],env,s=>fun h=>h
 |m::ms,env,s=>fun h=>by
  have step:mz P k0 (vP P k0 K ms) m.dst (kR P k0 env s m.op)->qX P k0 m.op env s fun x env s=>ue P k0 ms (iU m.dst env x) s K:=
   fun h=>HO (vo (fun _ _ _ h=>oA h) h)
  simp only[vP,ue]at h⊢;split
  ·rename_i hg;rw[hg]at h;exact step h
  ·rename_i g want hg;rw[hg]at h;cases g with
   |none=>exact oA h
   |some d=>
    simp only at h⊢;split
    ·rename_i b hb;rw[hb]at h;unfold Br;simp only at h;split
     ·rename_i hbw;rw[ah hbw]at h;exact step h
     ·rename_i hbw;rw[ak hbw]at h;exact oA h
    ·rename_i hb;rw[hb]at h;exact oA h
    ·rename_i hb hb';split at h
     ·rename_i b h2;exact absurd h2 (hb b)
     ·rename_i h2;exact absurd h2 hb'
     ·exact h
theorem aaJ{P:Program}{k:Nat}{Q:Post}{env:List AV}{s:ij}{ms:List iJ}(h:vP P k (Q .normal) ms env s):nj P k (.h_ ms) Q env s:=XR (oA h)
theorem Ou{e id off n:Nat}{env:List AV}{s:ij}:I2 env s (.pV e id off n)=.ok (.d (iD n)) env s:=(rfl)
theorem U8{x:D}{env:List AV}{s:ij}:I2 env s (.d x)=Oq env s (qF (.d x)):=(rfl)
theorem Ow{e id:Nat}{xs:List D}{env:List AV}{s:ij}:I2 env s (.own e id xs)=.ok (.d (iD xs.length)) env s:=(rfl)
theorem LQ{e e' id off len:Nat}{n:Int}{env:List AV}{s:ij}:DC e n env s (.pV e' id off len)=.need (e'=e/\0<=n/\n<len) (.ok (.ptr id (off+n.toNat*e)) env s):=(rfl)
theorem Rm{e:Nat}{n:Int}{x:D}{env:List AV}{s:ij}:DC e n env s (.d x)=Ki e n env s (qF (.d x)):=(rfl)
theorem Ot{e id n:Nat}{env:List AV}{s:ij}:I2 env s (.nr e id n)=.ok (.d (iD n)) env s:=(rfl)
theorem LP{e e' id m:Nat}{n:Int}{env:List AV}{s:ij}:DC e n env s (.nr e' id m)=.need (e'=e/\0<=n/\n<m) (.ok (.lP id m (n.toNat*e)) env s):=(rfl)
theorem LR{e e' id:Nat}{n:Int}{xs:List D}{env:List AV}{s:ij}:DC e n env s (.own e' id xs)=Ki e n env s (some (e',xs)):=(rfl)
theorem GG{neg b:Bool}{env:List AV}{s:ij}{x:AV}:Fo neg env s x (some b)=.ok (.d (bD (L7 neg b))) env s:=(rfl)
theorem GF{neg:Bool}{env:List AV}{s:ij}{x:AV}:Fo neg env s x none=IC neg env s (qF x):=(rfl)
attribute [go_sem] RH U4 XO Ob.kF Jd CR DA FF JU RG AV.flat Bz C8 A5 JS Ot LP VM I4 CQ M9 GG GF Zn PJ IC SD Mw Mu VU SF Mz My SE Wi Wh Up Ul Uo Um zD xS FE KK VL I3 ES F0 D0 Qr Nc JO L7 Zs J4 Ky T5 Wx Ki LQ Rm LR Rl S6 Oq Ou U8 Ow KS VO Zl Mf Pf Jm OK KQ JN Gj La US CK Le Nh Qv Kn Ip kR List.drop_zero List.drop_succ_cons List.drop_nil List.take_zero List.take_succ_cons List.take_nil List.headD_cons List.append_nil true_and and_true Nat.zero_add Nat.add_zero if_true if_false Nat.le_refl
inductive rA where
 |ok (x:AV) (δ:List (Nat×Ob))
 |need (p:Prop) (o:rA)
 |br (b:Bool) (o1 o2:rA)
 |call (f:Nat) (args:List AV)
 |bad
def Da(ρ:Operand->AV)(dflt:Int):Option Operand->Option Int
 |none=>some dflt
 |some x=>kr (ρ x)
def sG(ρ:Operand->AV):List AV->List (Nat×Nat×Operand)->Option (List AV)
 |cs,[]=>some cs
 |cs,(off,n,x)::r=>match(ρ x).cells with
  |some xs=>if xs.length=n/\off+n<=cs.length then sG ρ (cs.take off++xs++cs.drop (off+n)) r else none
  |none=>none
def OA(n:Nat)(ag:Bool)(off:Nat):Ob->rA
 |.obj _ cs=>.need (off+n<=cs.length) (.ok (KK n off cs ag) [])
 |_=>.bad
def OB(n:Nat)(ag:Bool)(k off:Nat):Ob->rA
 |.kQ _ _ m cs=>.need (m=k/\off+n<=cs.length) (.ok (.d (VM n off cs ag)) [])
 |_=>.bad
def Kk(σ:Nat->Ob)(n:Nat)(ag:Bool):AV->rA
 |.ptr id off=>OA n ag off (σ id)
 |.lP id k off=>OB n ag k off (σ id)
 |.pv cs=>.need (n<=cs.length) (.ok (.d (VL n cs ag)) [])
 |_=>.bad
def KU(n off id:Nat):Ob->Option (List AV)->rA
 |.obj t cs,some xs=>.need (xs.length=n/\off+n<=cs.length) (.ok .ig [(id,(.obj t (cs.take off++xs++cs.drop (off+n))))])
 |_,_=>.bad
def KV(n k off id:Nat):Ob->Option D->rA
 |.kQ t e m cs,some d=>.need (m=k/\(iq d).length=n/\off+n<=cs.length) (.ok .ig [(id,.kQ t e m (cs.take off++iq d++cs.drop (off+n)))])
 |_,_=>.bad
def FZ(σ:Nat->Ob)(n:Nat)(x:AV):AV->rA
 |.ptr id off=>KU n off id (σ id) x.cells
 |.lP id k off=>KV n k off id (σ id) x.fin
 |_=>.bad
def Uz(op:BinOp):AV->AV->rA
 |.d (.lit (.int k a)),.d (.lit (.int k' b))=>.need (Zn op k k')<|match op with
  |.add=>.ok (.d (.lit (.int k (k.wrap (a+b))))) []
  |.sub=>.ok (.d (.lit (.int k (k.wrap (a-b))))) []
  |.mul=>.ok (.d (.lit (.int k (k.wrap (a*b))))) []
  |.quo=>.need (b≠0) (.ok (.d (.lit (.int k (k.wrap (a.tdiv b))))) [])
  |.rem=>.need (b≠0) (.ok (.d (.lit (.int k (a.tmod b)))) [])
  |.eql=>.ok (.d (bD (a==b))) []
  |.neq=>.ok (.d (bD (a != b))) []
  |.lss=>.ok (.d (bD (decide (a<b)))) []
  |.leq=>.ok (.d (bD (decide (a<=b)))) []
  |.gtr=>.ok (.d (bD (decide (b<a)))) []
  |.geq=>.ok (.d (bD (decide (b<=a)))) []
  |.and=>.ok (.d (.lit (.int k (Ee k a b)))) []
  |.or=>.ok (.d (.lit (.int k (Zq k a b)))) []
  |.xor=>.ok (.d (.lit (.int k (SI k a b)))) []
  |.andNot=>.ok (.d (.lit (.int k (JM k a b)))) []
  |.shl=>.need (0<=b) (.ok (.d (.lit (.int k (Sj k a b)))) [])
  |.shr=>.need (0<=b) (.ok (.d (.lit (.int k (Hy k a b)))) [])
 |.d (.lit (.string a)),.d (.lit (.string b))=>match op with
  |.add=>.need (a.size+b.size<2^63) (.ok (.d (.lit (.string (a++b)))) [])
  |.eql=>.ok (.d (bD (a.toList==b.toList))) []
  |.neq=>.ok (.d (bD (!(a.toList==b.toList)))) []
  |_=>.bad
 |_,_=>.bad
def Na(neg:Bool):AV->AV->rA
 |.d (.lit (.bool a)),.d (.lit (.bool b))=>.ok (.d (bD (Nc neg a b))) []
 |_,_=>.bad
def N4(neg:Bool):Option Bool->rA
 |some b=>.ok (.d (bD (L7 neg b))) []
 |none=>.bad
def F1:UnOp->AV->rA
 |.not,.d (.lit (.bool b))=>.ok (.d (bD (!b))) []
 |.neg,.d (.lit (.int k n))=>.ok (.d (.lit (.int k (k.wrap (0-n))))) []
 |_,_=>.bad
def NT(k:IntKind):AV->rA
 |.d (.lit (.int _ n))=>.ok (.d (.lit (.int k (k.wrap n)))) []
 |_=>.bad
def OS(a b:AV):AV->rA
 |.d (.lit (.bool t))=>.br t (.ok a []) (.ok b [])
 |_=>.bad
def T4:AV->rA
 |.ptr id off=>.ok (.ptr id off) []
 |.pv cs=>.ok (.pv cs) []
 |.fn f a b=>.ok (.fn f a b) []
 |.lP id m off=>.ok (.lP id m off) []
 |_=>.bad
def Ww(off:Nat):AV->rA
 |.ptr id o=>.ok (.ptr id (o+off)) []
 |.pv cs=>.ok (.pv (cs.drop off)) []
 |.lP id k o=>.ok (.lP id k (o+off)) []
 |_=>.bad
def Kh(e:Nat)(n:Int):Option (Nat×List D)->rA
 |some (e',xs)=>.need (e'=e/\0<=n/\n<xs.length) (.ok (.pv (iq (xs.getD n.toNat .any))) [])
 |none=>.bad
def G3(e:Nat)(n:Int):AV->rA
 |.pV e' id off len=>.need (e'=e/\0<=n/\n<len) (.ok (.ptr id (off+n.toNat*e)) [])
 |.nr e' id m=>.need (e'=e/\0<=n/\n<m) (.ok (.lP id m (n.toNat*e)) [])
 |x=>Kh e n (qF x)
def U3(e:Nat)(x:AV):Option Int->rA
 |some n=>G3 e n x
 |none=>.bad
def S5(e n:Nat):Option Int->AV->rA
 |some j,.ptr id off=>.need (0<=j/\j<n) (.ok (.ptr id (off+j.toNat*e)) [])
 |some j,.pv cs=>.need (0<=j/\j<n) (.ok (.pv (cs.drop (j.toNat*e))) [])
 |_,_=>.bad
def Oo:Option (Nat×List D)->rA
 |some (_,xs)=>.ok (.d (iD xs.length)) []
 |none=>.bad
def U6:AV->rA
 |.pV _ _ _ n=>.ok (.d (iD n)) []
 |.nr _ _ n=>.ok (.d (iD n)) []
 |x=>Oo (qF x)
def KR(ρ:Operand->AV)(x:AV)(e:Nat)(lo:Option Int)(hi:Option Operand):Option (Nat×List D)->rA
 |some (e',xs)=>match lo,Da ρ xs.length hi with
  |some l,some h=>.need ((xs=[]\/e'=e)/\0<=l/\l<=h/\h<=xs.length) (.ok (.d (.sl e' (yX x) ((xs.take h.toNat).drop l.toNat))) [])
  |_,_=>.bad
 |none=>.bad
def Ue(e:Nat):Option Operand->Option Int->Option Int->Option (Nat×List D)->rA
 |none,some h,some m,some (e',xs)=>.need ((xs=[]\/e'=e)/\h=m/\0<=h/\h<=xs.length) (.ok (.CG e' (xs.take h.toNat)) [])
 |_,_,_,_=>.bad
def Zk(ρ:Operand->AV):Option Operand->Option Int
 |some h=>kr (ρ h)
 |none=>none
def Me(ρ:Operand->AV)(x:AV)(e:Nat)(lo hi:Option Operand):Option Operand->rA
 |none=>KR ρ x e (Da ρ 0 lo) hi (qF x)
 |some m=>Ue e lo (Zk ρ hi) (kr (ρ m)) (qF x)
def KP(ρ:Operand->AV)(e n:Nat):AV->Option Operand->Option Operand->Option Operand->rA
 |.ptr id off,none,none,none=>.ok (.pV e id off n) []
 |.ptr id off,none,some h,none=>match kr (ρ h)with
  |some h=>.need (0<=h/\h<=n) (.ok (.pV e id off h.toNat) [])
  |none=>.bad
 |_,_,_,_=>.bad
def M8(t e bytes:Nat)(j:Nat)(xs ys:List D)(ob:Ob):rA:=
 .need (ob=.tok t e xs.length/\(xs.length+ys.length)*bytes<=2^47) (.ok (.own e j (xs++ys)) [(j,(.tok t e (xs.length+ys.length)))])
def SL(t e bytes:Nat)(j n:Nat)(ys:List D):Ob->rA
 |.kQ t' e2 m cs=>.need (t'=t/\e2=e/\m=n/\(n+ys.length)*bytes<=2^47) (.ok (.nr e j (n+ys.length)) [(j,.kQ t e (n+ys.length) (cs++ys.flatMap iq))])
 |_=>.bad
def CZ(σ:Nat->Ob)(id t e bytes k0:Nat)(e2:Nat)(ys:List D):AV->rA
 |.own e' j xs=>.need ((ys=[]\/e2=e)/\e'=e) (M8 t e bytes j xs ys (σ j))
 |.nr e' j n=>.need ((ys=[]\/e2=e)/\e'=e) (SL t e bytes j n ys (σ j))
 |.d (.sl _ (some true) [])=>.need ((ys=[]\/e2=e)/\ys.length*bytes<=2^47/\k0<=id/\(σ id).kF=true) (.ok (.own e id ys) [(id,.tok t e ys.length)])
 |.CG e' xs=>.need ((ys=[]\/e2=e)/\e'=e/\(xs.length+ys.length)*bytes<=2^47) (.ok (.d (.sl e none (xs++ys))) [])
 |_=>.bad
def Ia(σ:Nat->Ob)(id t e bytes k0:Nat)(x:AV):Option (Nat×List D)->rA
 |some (e2,ys)=>CZ σ id t e bytes k0 e2 ys x
 |none=>.bad
def Fe(σ:Nat->Ob)(id t e bytes k0:Nat)(e2:Nat)(ys:List D):AV->rA
 |.d (.sl _ (some true) [])=>.need ((ys=[]\/e2=e)/\ys.length*bytes<=2^47/\k0<=id/\(σ id).kF=true) (.ok (.nr e id ys.length) [(id,.kQ t e ys.length (ys.flatMap iq))])
 |x=>CZ σ id t e bytes k0 e2 ys x
def Gn(σ:Nat->Ob)(id t e bytes k0:Nat)(x:AV):Option (Nat×List D)->rA
 |some (e2,ys)=>Fe σ id t e bytes k0 e2 ys x
 |none=>.bad
def Wu(i:Nat):AV->rA
 |.mj cs=>.need (i<cs.length) (.ok (cs.getD i .ig) [])
 |_=>.bad
def FD(mx:Bool):AV->AV->rA
 |.d (.lit (.int k a)),.d (.lit (.int k' b))=>.need (k=k') (.ok (.d (.lit (.int k (match mx with|true=>if b>a then b else a|false=>if b<a then b else a)))) [])
 |_,_=>.bad
def Qt(σ:Nat->Ob)(id t k0:Nat):Option (List AV)->rA
 |some cs=>.need (k0<=id/\(σ id).kF=true) (.ok (.ptr id 0) [(id,.obj t cs)])
 |none=>.bad
def Ng:Option (List AV)->rA
 |some cs=>.ok (AV.mk cs) []
 |none=>.bad
def Qu(σ:Nat->Ob)(id t e k0:Nat):Option (List D)->rA
 |some ds=>.need ((∀d∈ds,(iq d).length=e)/\k0<=id/\(σ id).kF=true) (.ok (.own e id ds) [(id,.tok t e ds.length)])
 |none=>.bad
def JT(σ:Nat->Ob)(id t e k0:Nat):Option (List D)->Option (List AV)->rA
 |some ds,some cs=>.need ((∀d∈ds,(iq d).length=e)/\ym cs=true/\k0<=id/\(σ id).kF=true) (.ok (.own e id ds) [(id,.pF t e ds.length cs)])
 |_,_=>.bad
def JR(σ:Nat->Ob)(id t e k0:Nat):Option (List D)->rA
 |some ds=>.need ((∀d∈ds,(iq d).length=e)/\k0<=id/\(σ id).kF=true) (.ok (.nr e id ds.length) [(id,.kQ t e ds.length (ds.flatMap iq))])
 |none=>.bad
def Km(σ:Nat->Ob)(id t e bytes k0:Nat)(z:List D):Bool->Option Int->Option Int->rA
 |true,some l,some c=>.need (0<=l/\l<=c/\bytes*c<=2^48/\c<2^62/\k0<=id/\(σ id).kF=true) (.ok (.own e id []) [(id,.tok t e 0)])
 |false,some l,some c=>.need (0<=l/\l<=c/\bytes*c<=2^48/\c<2^62/\k0<=id/\(σ id).kF=true) (.ok (.pV e id 0 l.toNat) [(id,.obj t ((List.replicate l.toNat (z.map .d)).flatten))])
 |_,_,_=>.bad
def NM(P:Program)(args:List AV):AV->rA
 |.fn f first cap=>.need (enters P f=true) (.call f (first++args++cap))
 |_=>.bad
def lG(P:Program)(k0:Nat)(ρ:Operand->AV)(σ:Nat->Ob):sJ->rA
 |.mv x=>.ok (ρ x) []
 |.pick c a b=>OS (ρ a) (ρ b) (ρ c)
 |.alloc id t z=>.need (k0<=id/\(σ id).kF=true) (.ok (.ptr id 0) [(id,.obj t (z.map .d))])
 |.box id t x=>Qt σ id t k0 (ρ x).cells
 |.Fi _ _ _ _=>.bad
 |.build z ps=>Ng (sG ρ (z.map .d) ps)
 |.mP id t e xs=>Qu σ id t e k0 (AV.l_ (xs.map ρ))
 |.zM id t e xs=>JR σ id t e k0 (AV.l_ (xs.map ρ))
 |.Eh id t e xs=>JT σ id t e k0 (AV.l_ (xs.map ρ)) (AV.flat e (xs.map ρ))
 |.load n ag p=>Kk σ n ag (ρ p)
 |.store n p x=>FZ σ n (ρ x) (ρ p)
 |.me x=>T4 (ρ x)
 |.bin op x y=>Uz op (ρ x) (ρ y)
 |.Eg neg x y=>Na neg (ρ x) (ρ y)
 |.uT neg x=>N4 neg (yX (ρ x))
 |.un op x=>F1 op (ρ x)
 |.conv k x=>NT k (ρ x)
 |.A2 f first cap=>.ok (.fn f (first.map ρ) (cap.map ρ)) []
 |.A4 _ _ _ _ _ _ _ _=>.bad
 |.zO id t e bytes z tok len cap=>Km σ id t e bytes k0 z tok (kr (ρ len)) (kr (ρ cap))
 |.slc x e lo hi mx=>Me ρ (ρ x) e lo hi mx
 |.FU p e n lo hi mx=>KP ρ e n (ρ p) lo hi mx
 |.Qf off p=>Ww off (ρ p)
 |.uE e x i=>U3 e (ρ x) (kr (ρ i))
 |.xN e n p i=>S5 e n (kr (ρ i)) (ρ p)
 |.len x=>U6 (ρ x)
 |.app id t e bytes x y=>Ia σ id t e bytes k0 (ρ x) (qF (ρ y))
 |.Ef id t e bytes x y=>Gn σ id t e bytes k0 (ρ x) (qF (ρ y))
 |.kA f args=>.call f (args.map ρ)
 |.ng g args=>NM P (args.map ρ) (ρ g)
 |.ext x i=>Wu i (ρ x)
 |.min x y=>FD false (ρ x) (ρ y)
 |.Eb _|.DZ _ _ _|.A3 _ _=>.bad
 |.dead=>.bad
def qt(s:ij):List (Nat×Ob)->ij
 |[]=>s
 |(i,ob)::r=>qt (sset s i ob) r
def rA.out(env:List AV)(s:ij):rA->Out
 |.ok x δ=>.ok x env (qt s δ)
 |.need p o=>.need p (o.out env s)
 |.br b o1 o2=>.br b (o1.out env s) (o2.out env s)
 |.call f args=>.call f args env s
 |.bad=>.bad
theorem Gq{env:List AV}{d:Int}{x:Option Operand}:Da (ev env) d x=C_ env d x:=by cases x<;>rfl
theorem A_{env:List AV}:∀{ps:List (Nat×Nat×Operand)}{cs:List AV},sG (ev env) cs ps=pn env cs ps
 |[],cs=>rfl
 |(off,n,x)::r,cs=>by
  simp only[sG,pn];cases(ev env x).cells with
  |none=>rfl
  |some xs=>simp only;split<;>simp[A_]
theorem Gk{P:Program}{k0 id t e bytes:Nat}{x:AV}{Y:Option (Nat×List D)}{env:List AV}{s:ij}{K:AV->List AV->ij->Prop}(h:runK P k0 K ((Ia (sat s) id t e bytes k0 x Y).out env s)):
 runK P k0 K (La id t e bytes k0 x env s Y):=by
 have dead:∀{id:Nat},(sat s id).kF=true->sat s id=.dead:=fun{id} h=>by cases hs:sat s id<;>simp_all[Ob.kF]
 cases Y with
 |none=>exact h
 |some p=>
  obtain⟨e2,ys⟩:=p;simp only[Ia,La,CZ,Gj]at h⊢;split at h
  ·simp only[M8,JN,rA.out,runK,qt]at h⊢;exact h
  ·rename_i e' j n;simp only[rA.out,runK]at h⊢;refine⟨h.1,?_⟩;have h:=h.2;generalize sat s j=X at h⊢;cases X<;>exact h
  ·simp only[rA.out,runK,qt]at h⊢;rw[dead h.1.2.2.2];exact⟨⟨h.1.1,h.1.2.1,h.1.2.2.1⟩,h.2⟩
  ·exact h
  ·exact h.elim
theorem Lb{P:Program}{k0 id t e bytes:Nat}{x:AV}{Y:Option (Nat×List D)}{env:List AV}{s:ij}{K:AV->List AV->ij->Prop}(h:runK P k0 K ((Gn (sat s) id t e bytes k0 x Y).out env s)):
 runK P k0 K (C8 id t e bytes k0 x env s Y):=by
 have dead:∀{id:Nat},(sat s id).kF=true->sat s id=.dead:=fun{id} h=>by cases hs:sat s id<;>simp_all[Ob.kF]
 cases Y with
 |none=>exact h
 |some p=>
  obtain⟨e2,ys⟩:=p;simp only[Gn,C8]at h⊢;unfold Fe at h;split at h
  ·simp only[Bz,rA.out,runK,qt]at h⊢;rw[dead h.1.2.2.2];exact⟨⟨h.1.1,h.1.2.1,h.1.2.2.1⟩,h.2⟩
  ·rename_i hn;unfold Bz;split
   ·rename_i e4;exact absurd rfl (hn e4)
   ·exact Gk (Y:=some (e2,ys)) h
theorem Mr{P:Program}{k0:Nat}{m:sJ}{env:List AV}{s:ij}{K:AV->List AV->ij->Prop}
 (h:runK P k0 K ((lG P k0 (ev env) (sat s) m).out env s)):runK P k0 K (kR P k0 env s m):=by
 have dead:∀{id:Nat},(sat s id).kF=true->sat s id=.dead:=fun{id} h=>by cases hs:sat s id<;>simp_all[Ob.kF]
 cases m with
 |mv x=>exact h
 |pick c a b=>
  simp only[lG,kR,OS,Ky]at h⊢;generalize ev env c=Xc at h⊢;cases Xc with
  |d x=>cases x with
   |lit u=>cases u<;>exact h
   |_=>exact h
  |_=>exact h
 |alloc id t z=>
  simp only[lG,kR,rA.out,runK,qt]at h⊢;rw[dead h.1.2];exact⟨h.1.1,h.2⟩
 |Fi id d t x=>simp only[lG]at h;exact h.elim
 |box id t x=>
  simp only[lG,kR]at h⊢;generalize(ev env x).cells=X at h⊢;cases X with
  |none=>exact h
  |some cs=>
   simp only[Qt,Le,rA.out,runK,qt]at h⊢;rw[dead h.1.2];exact⟨h.1.1,h.2⟩
 |build z ps=>
  simp only[lG,kR,A_]at h⊢;generalize pn env (z.map .d) ps=X at h⊢;cases X<;>exact h
 |mP id t e xs=>
  simp only[lG,kR]at h⊢;generalize AV.l_ (xs.map (ev env))=X at h⊢;cases X with
  |none=>exact h
  |some ds=>
   simp only[Qu,Qv,rA.out,runK,qt]at h⊢;rw[dead h.1.2.2];exact⟨⟨h.1.1,h.1.2.1⟩,h.2⟩
 |Eh id t e xs=>
  simp only[lG,kR]at h⊢;generalize AV.l_ (xs.map (ev env))=X at h⊢;generalize AV.flat e (xs.map (ev env))=Y at h⊢;cases X with
  |none=>cases Y<;>exact h.elim
  |some ds=>cases Y with
   |none=>exact h.elim
   |some cs=>
    simp only[JT,JU,rA.out,runK,qt]at h⊢;rw[dead h.1.2.2.2];exact⟨⟨h.1.1,h.1.2.1,h.1.2.2.1⟩,h.2⟩
 |zM id t e xs=>
  simp only[lG,kR]at h⊢;generalize AV.l_ (xs.map (ev env))=X at h⊢;cases X with
  |none=>exact h
  |some ds=>
   simp only[JR,JS,rA.out,runK,qt]at h⊢;rw[dead h.1.2.2];exact⟨⟨h.1.1,h.1.2.1⟩,h.2⟩
 |load n ag p=>
  simp only[lG,kR,Kk,ES]at h⊢;generalize ev env p=Xp at h⊢;cases Xp with
  |ptr id off=>simp only at h⊢;generalize sat s id=X at h⊢;cases X<;>exact h
  |lP id kk off=>simp only at h⊢;generalize sat s id=X at h⊢;cases X<;>first|exact h|exact h.elim
  |_=>exact h
 |store n p x=>
  simp only[lG,kR,FZ,D0]at h⊢;generalize ev env p=Xp at h⊢;cases Xp with
  |ptr id off=>simp only at h⊢;generalize sat s id=X at h⊢;generalize(ev env x).cells=Y at h⊢;cases X<;>cases Y<;>exact h
  |lP id kk off=>simp only at h⊢;generalize sat s id=X at h⊢;generalize(ev env x).fin=Y at h⊢;cases X<;>cases Y<;>first|exact h|exact h.elim
  |_=>exact h
 |me x=>simp only[lG,kR]at h⊢;generalize ev env x=X at h⊢;cases X<;>exact h
 |bin op x y=>
  simp only[lG,kR,Uz,Qr]at h⊢;generalize ev env x=Xx at h⊢;generalize ev env y=Xy at h⊢;cases Xx with
  |d x1=>cases x1 with
   |lit u=>cases u with
    |int k a=>cases Xy with
     |d y1=>cases y1 with
      |lit v=>cases v with
       |int k' b=>cases op<;>exact h
       |_=>exact h
      |_=>exact h
     |_=>exact h
    |string a=>cases Xy with
     |d y1=>cases y1 with
      |lit v=>cases v with
       |string b=>cases op<;>exact h
       |_=>exact h
      |_=>exact h
     |_=>exact h
    |_=>exact h
   |_=>exact h
  |_=>exact h
 |Eg neg x y=>
  simp only[lG,kR,Na,JO]at h⊢;generalize ev env x=Xx at h⊢;generalize ev env y=Xy at h⊢;cases Xx with
  |d x1=>cases x1 with
   |lit u=>cases u with
    |bool a=>cases Xy with
     |d y1=>cases y1 with
      |lit v=>cases v<;>exact h
      |_=>exact h
     |_=>exact h
    |_=>exact h
   |_=>exact h
  |_=>exact h
 |uT neg x=>simp only[lG,kR]at h⊢;generalize yX (ev env x)=X at h⊢;cases X<;>first|exact h|exact h.elim
 |un op x=>
  simp only[lG,kR,F1,Zs]at h⊢;generalize ev env x=X at h⊢;cases op<;>cases X with
  |d x1=>cases x1 with
   |lit u=>cases u<;>exact h
   |_=>exact h
  |_=>exact h
 |conv k x=>
  simp only[lG,kR,NT,J4]at h⊢;generalize ev env x=Xx at h⊢;cases Xx with
  |d x1=>cases x1 with
   |lit u=>cases u<;>exact h
   |_=>exact h
  |_=>exact h
 |A2 f first cap=>exact h
 |A4 id t e bytes z tok len cap=>simp only[lG]at h;exact h.elim
 |zO id t e bytes z tok len cap=>
  simp only[lG,kR]at h⊢;generalize kr (ev env len)=X at h⊢;generalize kr (ev env cap)=Y at h⊢;cases tok<;>cases X<;>cases Y<;>simp only[Km,Kn,rA.out,runK,qt]at h⊢
  ·rw[dead h.1.2.2.2.2.2];exact⟨⟨h.1.1,h.1.2.1,h.1.2.2.1,h.1.2.2.2.1,h.1.2.2.2.2.1⟩,h.2⟩
  ·rw[dead h.1.2.2.2.2.2];exact⟨⟨h.1.1,h.1.2.1,h.1.2.2.1,h.1.2.2.2.1,h.1.2.2.2.2.1⟩,h.2⟩
 |slc x e lo hi mx=>
  simp only[lG,kR]at h⊢;cases mx with
  |some m=>
   simp only[Me,Mf]at h⊢;generalize qF (ev env x)=X at h⊢;generalize kr (ev env m)=M at h⊢;cases hi with
   |none=>cases lo<;>cases M<;>cases X<;>exact h
   |some hh=>
    simp only[Zk,Zl]at h⊢;generalize kr (ev env hh)=H at h⊢;cases lo<;>cases H<;>cases M<;>cases X<;>exact h
  |none=>
   simp only[Me,Mf,Gq]at h⊢;generalize qF (ev env x)=X at h⊢;cases X with
   |none=>exact h
   |some p=>
    simp only[KR,KS,Gq]at h⊢;generalize C_ env 0 lo=X at h⊢;generalize C_ env p.2.length hi=Y at h⊢;cases X<;>cases Y<;>exact h
 |FU p e n lo hi mx=>
  simp only[lG,kR,KP,KQ]at h⊢;generalize ev env p=X at h⊢;cases X<;>cases lo<;>cases hi<;>cases mx<;>first
   |exact h
   |(rename_i q;simp only at h⊢;generalize kr (ev env q)=Z at h⊢;cases Z<;>exact h)
 |Qf off p=>simp only[lG,kR]at h⊢;generalize ev env p=X at h⊢;cases X<;>exact h
 |uE e x i=>
  simp only[lG,kR]at h⊢;generalize kr (ev env i)=I at h⊢;cases I with
  |none=>exact h
  |some n=>
   simp only[U3,Rl]at h⊢;generalize ev env x=X at h⊢;cases X<;>simp only[G3,DC]at h⊢<;>first
    |exact h
    |(revert h;generalize qF _=q;intro h;cases q<;>exact h)
 |xN e n p i=>simp only[lG,kR]at h⊢;generalize kr (ev env i)=X at h⊢;generalize ev env p=Y at h⊢;cases X<;>cases Y<;>exact h
 |len x=>
  simp only[lG,kR]at h⊢;generalize ev env x=X at h⊢;cases X<;>simp only[U6,I2]at h⊢<;>first
   |exact h
   |(revert h;generalize qF _=q;intro h;cases q<;>exact h)
 |app id t e bytes x y=>exact Gk h
 |Ef id t e bytes x y=>exact Lb h
 |kA f args=>exact h
 |ng g args=>
  simp only[lG,kR]at h⊢;generalize ev env g=X at h⊢;cases X<;>exact h
 |ext x i=>simp only[lG,kR]at h⊢;generalize ev env x=X at h⊢;cases X<;>exact h
 |min x y=>
  simp only[lG,kR,FD,CK]at h⊢;generalize ev env x=Xx at h⊢;generalize ev env y=Xy at h⊢;cases Xx with
  |d x1=>cases x1 with
   |lit u=>cases u with
    |int k a=>cases Xy with
     |d y1=>cases y1 with
      |lit v=>cases v<;>exact h
      |_=>exact h
     |_=>exact h
    |_=>exact h
   |_=>exact h
  |_=>exact h
 |dead=>exact h
 |_=>exact h.elim
def uO:Operand->List Nat
 |.tmp t=>[t]
 |_=>[]
def A8(xs:List Operand):List Nat:=xs.flatMap uO
def E1:Option Operand->List Nat
 |some x=>uO x
 |none=>[]
def o_:sJ->List Nat
 |.mv x|.me x|.un _ x|.conv _ x|.Qf _ x|.len x|.ext x _|.box _ _ x|.Fi _ _ _ x|.load _ _ x|.uT _ x=>uO x
 |.pick c a b=>uO c++uO a++uO b
 |.store _ p x=>uO p++uO x
 |.bin _ x y|.Eg _ x y|.min x y|.uE _ x y|.xN _ _ x y|.app _ _ _ _ x y|.Ef _ _ _ _ x y=>uO x++uO y
 |.zO _ _ _ _ _ _ l c=>uO l++uO c
 |.A4 _ _ _ _ _ _ l c=>uO l++uO c
 |.slc x _ lo hi m=>uO x++E1 lo++E1 hi++E1 m
 |.FU x _ _ lo hi _=>uO x++E1 lo++E1 hi
 |.build _ ps=>A8 (ps.map (·.2.2))
 |.mP _ _ _ xs|.zM _ _ _ xs|.Eh _ _ _ xs=>A8 xs
 |.A2 _ f c=>A8 f++A8 c
 |.kA _ xs=>A8 xs
 |.ng g xs=>uO g++A8 xs
 |.Eb x=>uO x
 |.A3 _ x=>uO x
 |.DZ x _ h=>uO x++uO h
 |.alloc .. |.dead=>[]
def tO(ρ:Operand->AV):sJ->List Nat
 |.Eh id _ _ _=>[id]
 |.load _ _ p=>match ρ p with|.ptr id _=>[id]|.lP id _ _=>[id]|_=>[]
 |.store _ p _=>match ρ p with|.ptr id _=>[id]|.lP id _ _=>[id]|_=>[]
 |.Ef id _ _ _ x _=>match ρ x with|.own _ j _=>[j]|.nr _ j _=>[j]|_=>[id]
 |.alloc id _ _|.box id _ _|.mP id _ _ _|.zM id _ _ _|.zO id _ _ _ _ _ _ _=>[id]
 |.app id _ _ _ x _=>match ρ x with|.own _ j _=>[j]|.nr _ j _=>[j]|_=>[id]
 |_=>[]
theorem C6{k0 id t e bytes:Nat}{X:AV}{p:Option (Nat×List D)}{σ σ':Nat->Ob}
 (hf:∀i∈(match X with|.own _ j _=>[j]|.nr _ j _=>[j]|_=>[id]),σ' i=σ i):Ia σ' id t e bytes k0 X p=Ia σ id t e bytes k0 X p:=by
 unfold Ia;cases p with
 |none=>rfl
 |some p=>
  simp only;unfold CZ;cases X with
  |own e' j xs=>have hj:=hf j (by simp);simp only[hj]
  |nr e' j n=>have hj:=hf j (by simp);simp only[hj]
  |d x1=>
   have hj:=hf id (by simp);cases x1 with
   |sl e1 nl xs=>cases nl with
    |none=>rfl
    |some b=>cases b<;>cases xs<;>first|rfl|simp only[hj]
   |_=>rfl
  |_=>rfl
theorem JE{P:Program}{k0:Nat}{m:sJ}{ρ ρ':Operand->AV}{σ σ':Nat->Ob}(hc:∀o:Operand,uO o=[]->ρ' o=ρ o)(hr:∀t∈o_ m,ρ' (.tmp t)=ρ (.tmp t))
 (hf:∀id∈tO ρ m,σ' id=σ id):lG P k0 ρ' σ' m=lG P k0 ρ σ m:=by
 have one':∀o:Operand,(∀t∈uO o,ρ' (.tmp t)=ρ (.tmp t))->ρ' o=ρ o:=fun o h=>by
  cases o with
  |tmp t=>exact h t (by simp[uO])
  |_=>exact hc _ rfl
 have many:∀xs:List Operand,(∀t∈A8 xs,ρ' (.tmp t)=ρ (.tmp t))->xs.map ρ'=xs.map ρ:=fun xs h=>
  eP fun o ho=>one' o fun t ht=>h t (fj.2 ⟨o,ho,ht⟩)
 have opt:∀(x:Option Operand)(d:Int),(∀t∈E1 x,ρ' (.tmp t)=ρ (.tmp t))->Da ρ' d x=Da ρ d x:=fun x d h=>by
  cases x with
  |none=>rfl
  |some o=>simp only[Da];rw[one' o h]
 cases m with
 |mv x|me x|un _ x|conv _ x|Qf _ x|len x|ext x _|uT _ x=>simp only[o_]at hr;simp only[lG];rw[one' x hr]
 |Fi id d t x=>rfl
 |box id t x=>simp only[o_]at hr;simp only[tO]at hf;simp only[lG,Qt];rw[one' x hr,hf id (by simp)]
 |pick c a b=>
  simp only[o_,aN]at hr;simp only[lG];rw[one' c fun t h=>hr t (.inl (.inl h)),one' a fun t h=>hr t (.inl (.inr h)),one' b fun t h=>hr t (.inr h)]
 |alloc id t z=>simp only[tO]at hf;simp only[lG];rw[hf id (by simp)]
 |build z ps=>
  simp only[o_]at hr;simp only[lG];have:∀(ps:List (Nat×Nat×Operand))(cs:List AV),(∀t∈A8 (ps.map (·.2.2)),ρ' (.tmp t)=ρ (.tmp t))->sG ρ' cs ps=sG ρ cs ps:=by
   intro ps;induction ps with
   |nil=>intro cs _;rfl
   |cons p ps ih=>
    obtain⟨off,n,x⟩:=p;intro cs h;simp only[aP,A8,cX,aN]at h;simp only[sG];rw[one' x fun t ht=>h t (.inl ht)];cases(ρ x).cells with
    |none=>rfl
    |some xs=>simp only;split<;>first|exact ih _ (fun t ht=>h t (.inr ht))|rfl
  rw[this ps _ hr]
 |mP id t e xs=>simp only[o_]at hr;simp only[tO]at hf;simp only[lG,Qu];rw[many xs hr,hf id (by simp)]
 |Eh id t e xs=>simp only[o_]at hr;simp only[tO]at hf;simp only[lG,JT];rw[many xs hr,hf id (by simp)]
 |zM id t e xs=>simp only[o_]at hr;simp only[tO]at hf;simp only[lG,JR];rw[many xs hr,hf id (by simp)]
 |load n ag p=>
  simp only[o_]at hr;simp only[tO]at hf;simp only[lG];rw[one' p hr];unfold Kk;cases hp:ρ p with
  |ptr id off=>rw[hp]at hf;simp only;rw[hf id (by simp)]
  |lP id kk off=>rw[hp]at hf;simp only;rw[hf id (by simp)]
  |_=>rfl
 |store n p x=>
  simp only[o_,aN]at hr;simp only[tO]at hf;simp only[lG];rw[one' p fun t h=>hr t (.inl h),one' x fun t h=>hr t (.inr h)];unfold FZ;cases hp:ρ p with
  |ptr id off=>rw[hp]at hf;simp only;rw[hf id (by simp)]
  |lP id kk off=>rw[hp]at hf;simp only;rw[hf id (by simp)]
  |_=>rfl
 |bin _ x y|Eg _ x y|min x y|uE _ x y|xN _ _ x y=>
  simp only[o_,aN]at hr;simp only[lG];rw[one' x fun t h=>hr t (.inl h),one' y fun t h=>hr t (.inr h)]
 |A2 f first cap=>
  simp only[o_,aN]at hr;simp only[lG];rw[many first fun t h=>hr t (.inl h),many cap fun t h=>hr t (.inr h)]
 |A4 id t e bytes z tok l c=>rfl
 |zO id t e bytes z tok l c=>
  simp only[o_,aN]at hr;simp only[tO]at hf;simp only[lG,Km];rw[one' l fun t h=>hr t (.inl h),one' c fun t h=>hr t (.inr h),hf id (by simp)]
 |slc x e lo hi mx=>
  simp only[o_,aN]at hr;simp only[lG];rw[one' x fun t h=>hr t (.inl (.inl (.inl h)))];cases mx with
  |some m=>
   simp only[Me];rw[one' m fun t h=>hr t (.inr h)];cases hi with
   |none=>rfl
   |some hh=>simp only[Zk];rw[one' hh fun t h=>hr t (.inl (.inr h))]
  |none=>
   simp only[Me];rw[opt lo 0 fun t h=>hr t (.inl (.inl (.inr h)))];cases qF (ρ x)with
   |none=>rfl
   |some p=>simp only[KR];rw[opt hi _ fun t h=>hr t (.inl (.inr h))]
 |FU x e n lo hi mx=>
  simp only[o_,aN]at hr;simp only[lG,KP];rw[one' x fun t h=>hr t (.inl (.inl h))];cases ρ x<;>cases lo<;>cases hi<;>cases mx<;>first
   |rfl
   |(rename_i q;simp only;rw[one' q fun t h=>hr t (.inr h)])
 |app id t e bytes x y=>
  simp only[o_,aN]at hr;simp only[lG];rw[one' x fun t h=>hr t (.inl h),one' y fun t h=>hr t (.inr h)];exact C6 hf
 |Ef id t e bytes x y=>
  simp only[o_,aN]at hr;simp only[lG];rw[one' x fun t h=>hr t (.inl h),one' y fun t h=>hr t (.inr h)];unfold Gn;cases qF (ρ y)with
  |none=>rfl
  |some p=>
   simp only;have h0:CZ σ' id t e bytes k0 p.1 p.2 (ρ x)=CZ σ id t e bytes k0 p.1 p.2 (ρ x):=C6 (p:=some p) hf;simp only[tO]at hf;cases hx:ρ x with
   |d x1=>
    rw[hx]at hf h0;have hj:=hf id (by simp);cases x1 with
    |sl e1 nl xs=>cases nl with
     |none=>exact h0
     |some b=>cases b<;>cases xs<;>first|exact h0|simp only[Fe,hj]
    |_=>exact h0
   |_=>rw[hx]at h0;exact h0
 |kA f xs=>simp only[o_]at hr;simp only[lG];rw[many xs hr]
 |ng g xs=>
  simp only[o_,aN]at hr;simp only[lG];rw[one' g fun t h=>hr t (.inl h),many xs fun t h=>hr t (.inr h)]
 |dead=>rfl
 |Eb _|DZ _ _ _|A3 _ _=>rfl
def xe:List (Nat×Ob)->Nat->Option Ob
 |[],_=>none
 |(i,ob)::r,id=>match xe r id with
  |some x=>some x
  |none=>if id=i then some ob else none
theorem DW:∀(δ:List (Nat×Ob))(s:ij)(id:Nat),sat (qt s δ) id=(xe δ id).getD (sat s id)
 |[],_,_=>rfl
 |(i,ob)::r,s,id=>by
  rw[qt,DW r,ki,xe];cases xe r id with
  |some x=>rfl
  |none=>by_cases h:id=i<;>simp[h]
theorem EA:∀{δ:List (Nat×Ob)}{id:Nat},(xe δ id).isSome=true->id∈δ.map (·.1)
 |[],_,h=>by simp[xe]at h
 |(i,ob)::r,id,h=>by
  simp only[xe]at h;cases hr:xe r id with
  |some x=>exact a_ _ (EA (by rw[hr];rfl))
  |none=>
   rw[hr]at h;by_cases hi:id=i
   ·simp[hi]
   ·simp[hi]at h
def VK(σ:Nat->Ob)(pr mp:List gF):ij:=mp.map fun(c,j)=>(c,(σ j).kV (oz pr))
def Hj(t:ij)(all mp:List gF):List (Nat×Ob):=mp.map fun(c,j)=>(j,(sat t c).kV (mh all))
theorem DX{t:ij}{all:List gF}:∀{mp:List gF}{s:ij},qo s t mp all=qt s (Hj t all mp)
 |[],_=>rfl
 |(c,j)::r,s=>by simp only[qo,Hj,aP,qt];exact DX
def SY(P:Program)(k0:Nat)(σ:Nat->Ob)(f:Nat)(args:List AV)(K:AV->List (Nat×Ob)->List Nat->Prop):Prop:=
 (∃dz:List D,iS (args.map fun x=>x.kV (oz [])) (dz.map .d)/\((∃r,jU P f dz r/\K (.d r) [] [])\/∃rs:List D,oH P f dz rs/\K (.mj (rs.map .d)) [] []))\/
 ∃(pr nw:List gF)(y:AV)(t:ij),pr.map (·.1)=List.range pr.length/\((pr++nw).map (·.1)).Nodup/\((pr++nw).map (·.2)).Nodup/\(∀p∈nw,σ p.2=.dead/\k0<=p.2)/\
  iC P f (args.map fun x=>x.kV (oz pr)) (VK σ pr pr) pr.length (fun x s'=>x=y/\s'=t)/\K (y.kV (mh (pr++nw))) (Hj t (pr++nw) (pr++nw)) ((pr++nw).map (·.2))
def Ah(P:Program)(k0:Nat)(σ:Nat->Ob)(R:AV->List (Nat×Ob)->List Nat->Prop):rA->Prop
 |.ok x δ=>R x δ []
 |.need p o=>p/\Ah P k0 σ R o
 |.br b o1 o2=>if b=true then Ah P k0 σ R o1 else Ah P k0 σ R o2
 |.call f args=>SY P k0 σ f args R
 |.bad=>False
theorem AK{P:Program}{k0:Nat}{σ:Nat->Ob}{R:AV->List (Nat×Ob)->List Nat->Prop}:∀{o:rA},Ah P k0 σ R o->
 ∃x δ ex,Ah P k0 σ (fun x' δ' e'=>x'=x/\δ'=δ/\e'=ex) o/\R x δ ex
 |.ok x δ,h=>⟨x,δ,[],⟨rfl,rfl,rfl⟩,h⟩
 |.need p o,h=>by obtain⟨hp,h⟩:=h;obtain⟨x,δ,ex,h1,h2⟩:=AK h;exact⟨x,δ,ex,⟨hp,h1⟩,h2⟩
 |.br b o1 o2,h=>by
  simp only[Ah]at h⊢;split at h
  ·rename_i hb;obtain⟨x,δ,ex,h1,h2⟩:=AK h;exact⟨x,δ,ex,by rw[ah hb];exact h1,h2⟩
  ·rename_i hb;obtain⟨x,δ,ex,h1,h2⟩:=AK h;exact⟨x,δ,ex,by rw[ak hb];exact h1,h2⟩
 |.call f args,h=>by
  rcases h with⟨ds,h1,h|h⟩|⟨pr,nw,y,t,h1,h2,h3,h4,h5,h6⟩
  ·obtain⟨r,h2,h3⟩:=h;exact⟨_,_,_,.inl ⟨ds,h1,.inl ⟨r,h2,rfl,rfl,rfl⟩⟩,h3⟩
  ·obtain⟨r,h2,h3⟩:=h;exact⟨_,_,_,.inl ⟨ds,h1,.inr ⟨r,h2,rfl,rfl,rfl⟩⟩,h3⟩
  ·exact⟨_,_,_,.inr ⟨pr,nw,y,t,h1,h2,h3,h4,h5,rfl,rfl,rfl⟩,h6⟩
 |.bad,h=>h.elim
theorem xK{P:Program}{k0:Nat}{σ σ':Nat->Ob}{x:AV}{δ:List (Nat×Ob)}{ex:List Nat}(hs:∀id∈ex,σ' id=σ id):∀{o:rA},
 Ah P k0 σ (fun x' δ' e'=>x'=x/\δ'=δ/\e'=ex) o->Ah P k0 σ' (fun x' δ' e'=>x'=x/\δ'=δ/\e'=ex) o
 |.ok x δ,h=>h
 |.need p o,h=>⟨h.1,xK hs h.2⟩
 |.br b o1 o2,h=>by
  simp only[Ah]at h⊢;split at h
  ·rename_i hb;rw[ah hb];exact xK hs h
  ·rename_i hb;rw[ak hb];exact xK hs h
 |.call f args,h=>by
  rcases h with h|⟨pr,nw,y,t,h1,h2,h3,h4,h5,h6,h7,h8⟩
  ·exact .inl h
  ·subst h8;refine .inr ⟨pr,nw,y,t,h1,h2,h3,fun p hp=>?_,?_,h6,h7,rfl⟩
   ·rw[hs p.2 (bz.2 ⟨p,bE _ hp,rfl⟩)];exact h4 p hp
   ·have:VK σ' pr pr=VK σ pr pr:=eP fun p hp=>by
     show(p.1,(σ' p.2).kV (oz pr))=(p.1,(σ p.2).kV (oz pr));rw[hs p.2 (bz.2 ⟨p,bk _ hp,rfl⟩)]
    rw[this];exact h5
 |.bad,h=>h.elim
theorem zz{P:Program}{k0:Nat}{R:AV->List (Nat×Ob)->List Nat->Prop}{K:AV->List AV->ij->Prop}{env:List AV}{s:ij}
 (hK:∀x δ ex,R x δ ex->K x env (qt s δ)):∀{o:rA},Ah P k0 (sat s) R o->runK P k0 K (o.out env s)
 |.ok x δ,h=>hK x δ _ h
 |.need p o,h=>⟨h.1,zz hK h.2⟩
 |.br b o1 o2,h=>by
  simp only[Ah]at h;simp only[rA.out,runK];split at h
  ·rename_i hb;rw[ah hb];exact zz hK h
  ·rename_i hb;rw[ak hb];exact zz hK h
 |.call f args,h=>by
  rcases h with⟨ds,h1,h|h⟩|⟨pr,nw,y,t,h1,h2,h3,h4,h5,h6⟩
  ·obtain⟨r,h2,h3⟩:=h;exact zw (Gt h1 h2 (hK _ _ _ h3))
  ·obtain⟨r,h2,h3⟩:=h;exact zw (Ez h1 h2 (hK _ _ _ h3))
  ·refine zw ⟨pr,nw,_,h1,h2,h3,h4,h5,?_⟩;rintro x s' ⟨rfl,rfl⟩;rw[DX];exact hK _ _ _ h6
 |.bad,h=>h.elim
def gd(m:iJ)(env:List AV):Option Bool:=match m.guard with
 |none=>some true
 |some (none,_)=>none
 |some (some d,want)=>match env.getD d .ig with
  |.d (.lit (.bool b))=>some (b==want)
  |.mj []=>some false
  |_=>none
def uV(P:Program)(k0:Nat)(F:List (List Nat×List Nat)->List AV->ij->Prop):List iJ->List (List Nat×List Nat)->List AV->ij->Prop
 |[],acc,env,s=>F acc env s
 |m::ms,acc,env,s=>match gd m env with
  |none=>False
  |some true=>Ah P k0 (sat s) (fun x δ ex=>uV P k0 F ms ((ex++tO (ev env) m.op,δ.map (·.1))::acc) (iU m.dst env x) (qt s δ)) (lG P k0 (ev env) (sat s) m.op)
  |some false=>uV P k0 F ms (([],[])::acc) (iU m.dst env (.mj [])) s
def M6(P:Program)(k0:Nat)(m:iJ)(env:List AV)(s:ij)(x:AV)(δ:List (Nat×Ob))(ft:List Nat×List Nat):Prop:=
 (gd m env=some true/\∃ex,Ah P k0 (sat s) (fun x' δ' e'=>x'=x/\δ'=δ/\e'=ex) (lG P k0 (ev env) (sat s) m.op)/\ft=(ex++tO (ev env) m.op,δ.map (·.1)))\/
 (gd m env=some false/\x=.mj []/\δ=[]/\ft=([],[]))
def K5(P:Program)(k0:Nat)(F:List (List Nat×List Nat)->List AV->ij->Prop)(ms:List iJ)(acc:List (List Nat×List Nat))(env:List AV)(s:ij):Prop:=
 ∃(x:Nat->AV)(δ:Nat->List (Nat×Ob))(ft:Nat->List Nat×List Nat)(E:Nat->List AV)(S:Nat->ij),E 0=env/\S 0=s/\
  (∀i m,ms[i]?=some m->M6 P k0 m (E i) (S i) (x i) (δ i) (ft i)/\E (i+1)=iU m.dst (E i) (x i)/\S (i+1)=qt (S i) (δ i))/\
  F (((List.range ms.length).map ft).reverse++acc) (E ms.length) (S ms.length)
theorem K5.cons{P:Program}{k0:Nat}{F:List (List Nat×List Nat)->List AV->ij->Prop}{m:iJ}{ms:List iJ}{acc:List (List Nat×List Nat)}{env:List AV}{s:ij}
 {x0:AV} {δ0:List (Nat×Ob)} {f0:List Nat×List Nat} (hs:M6 P k0 m env s x0 δ0 f0) (h:K5 P k0 F ms (f0::acc) (iU m.dst env x0) (qt s δ0)):K5 P k0 F (m::ms) acc env s:=by
 obtain⟨x,δ,ft,E,S,hE,hS,h1,h2⟩:=h;refine⟨fun i=>Nat.casesOn i x0 x,fun i=>Nat.casesOn i δ0 δ,fun i=>Nat.casesOn i f0 ft,fun i=>Nat.casesOn i env E,fun i=>Nat.casesOn i s S,rfl,rfl,fun i m' hi=>?_,?_⟩
 ·cases i with
  |zero=>
   simp only[List.getElem?_cons_zero,aJ]at hi;subst hi;exact⟨hs,hE,hS⟩
  |succ i=>exact h1 i m' (by simpa using hi)
 ·have:((List.range (m::ms).length).map fun i=>(Nat.casesOn i f0 ft:List Nat×List Nat)).reverse++acc=((List.range ms.length).map ft).reverse++(f0::acc):=by
   rw[aQ,List.range_succ_eq_map,aP,eS,List.reverse_cons,aG];rfl
  rw[this];exact h2
theorem zG{P:Program}{k0:Nat}{F:List (List Nat×List Nat)->List AV->ij->Prop}:∀{ms:List iJ}{acc:List (List Nat×List Nat)}{env:List AV}{s:ij},
 uV P k0 F ms acc env s->K5 P k0 F ms acc env s
 |[],acc,env,s,h=>⟨fun _=>.ig,fun _=>[],fun _=>([],[]),fun _=>env,fun _=>s,rfl,rfl,fun i m hi=>by simp at hi,h⟩
 |m::ms,acc,env,s,h=>by
  simp only[uV]at h;split at h
  ·exact h.elim
  ·rename_i hg;obtain⟨x0,δ0,ex,h1,h2⟩:=AK h;exact K5.cons (.inl ⟨hg,ex,h1,rfl⟩) (zG h2)
  ·rename_i hg;exact K5.cons (x0:=.mj []) (δ0:=[]) (.inr ⟨hg,rfl,rfl,rfl⟩) (zG h)
def gl{β:Type}(f:Nat->Option β)(L:Nat->Bool)(b:β):Nat->β
 |0=>b
 |n+1=>if L n=true then(f n).getD (gl f L b n)else gl f L b n
theorem uy{β:Type}{f:Nat->Option β}{L L':Nat->Bool}{b:β}:∀{n:Nat},(∀j,j<n->(f j).isSome=true->L j=L' j)->gl f L b n=gl f L' b n
 |0,_=>rfl
 |n+1,h=>by
  have ih:=uy (b:=b) (n:=n) fun j hj=>h j gY
  simp only[gl];rw[ih];cases hf:f n with
  |none=>simp
  |some v=>rw[h n gY (by rw[hf];rfl)]
theorem IJ{β:Type}{f:Nat->Option β}{L:Nat->Bool}{b v:β}{i:Nat}(hf:f i=some v)(hL:L i=true):
 ∀{n:Nat},i<n->(∀j,i<j->j<n->(f j).isSome=true->L j=false)->gl f L b n=v
 |0,hi,_=>by omega
 |n+1,hi,h=>by
  simp only[gl];by_cases hin:i=n
  ·subst hin;rw[ah hL,hf];rfl
  ·have ih:=IJ (b:=b) hf hL (n:=n) gY fun j h1 h2=>h j h1 gY
   cases hn:f n with
   |none=>simp[ih]
   |some u=>rw[h n gY gY (by rw[hn];rfl)];simpa using ih
theorem BK{β:Type}{f:Nat->Option β}{b:β}{i:Nat}:∀{n:Nat},i<=n->gl f (fun j=>decide (j<i)) b n=gl f (fun _=>true) b i
 |0,h=>by
  have:i=0:=by omega
  subst this;rfl
 |n+1,h=>by
  by_cases hi:i=n+1
  ·subst hi;exact uy fun j hj _=>by simp[hj]
  ·simp only[gl];rw[ak (by simp;omega)];exact BK gY
def YY(m:iJ):List Nat:=o_ m.op++(match m.guard with|some (some g,_)=>[g]|_=>[])
def BL(xs ys:List Nat):Bool:=xs.any fun x=>ys.contains x
def B6(m m':iJ)(f f':List Nat×List Nat):Bool:=
 BL m'.dst.toList (YY m)||BL m.dst.toList (YY m')||BL m.dst.toList m'.dst.toList||BL f.2 f'.1||BL f'.2 f.1||BL f.2 f'.2
def Gw(after:List gP):List gP:=after.foldl (fun T a=>T++[(a++a.flatMap fun e=>T.getD e []).eraseDups]) []
def xd(after B:List gP):Bool:=
 ((List.range after.length).all fun i=>(after.getD i []).all fun e=>decide (e<i))&&
 (List.range B.length).all fun i=>(B.getD i []).all fun j=>(after.getD i []).contains j||(after.getD i []).any fun e=>decide (e<i)&&(B.getD e []).contains j
def T8(ms:List iJ)(B:List gP)(fts:List (List Nat×List Nat)):Bool:=
 (List.range ms.length).all fun i=>(List.range i).all fun j=>match ms[i]?,ms[j]? with
  |some m,some m'=>!B6 m m' (fts.getD i ([],[])) (fts.getD j ([],[]))||(B.getD i []).contains j
  |_,_=>false
def vB(ms:List iJ)(after:List gP)(fts:List (List Nat×List Nat)):Bool:=xd after (Gw after)&&T8 ms (Gw after) fts
theorem yJ{after B:List gP}(h:xd after B=true){L:Nat->Bool}(hL:∀i,L i=true->∀e∈after.getD i [],L e=true):
 ∀(i:Nat),(∀e∈after.getD i [],L e=true)->∀j∈B.getD i [],L j=true:=by
 simp only[xd,bu,cy,cW,Bool.or_eq_true,ec,av,List.contains_iff_mem]at h;intro i;induction i using Nat.strongRecOn with
 |ind i ih=>
  intro ha j hj;have hi:i<B.length:=by
   rcases cI i B.length with h'|h'
   ·exact h'
   ·rw[ay,bQ h']at hj;simp at hj
  rcases h.2 i hi j hj with h1|⟨e,he,hlt,hje⟩
  ·exact ha j h1
  ·exact ih e hlt (hL e (ha e he)) j hje
def JC(L:Nat->Bool):Nat->Nat
 |0=>0
 |n+1=>JC L n+(match L n with|true=>0|false=>1)
theorem F3{L L':Nat->Bool}{i:Nat}(h1:L i=false)(h2:L' i=true)(h:∀j,j≠i->L' j=L j):∀{n:Nat},(n<=i->JC L' n=JC L n)/\(i<n->JC L' n+1=JC L n)
 |0=>⟨fun _=>rfl,fun h=>by omega⟩
 |n+1=>by
  obtain⟨ih1,ih2⟩:=F3 (n:=n) h1 h2 h;refine⟨fun hn=>?_,fun hn=>?_⟩
  ·simp only[JC];rw[ih1 gY,h n gY]
  ·simp only[JC];by_cases hin:n=i
   ·subst hin;rw[ih1 gY,h1,h2];simp
   ·rw[h n hin];have:=ih2 gY;omega
theorem D4{L:Nat->Bool}:∀{n:Nat},JC L n=0->∀j,j<n->L j=true
 |0,_,j,hj=>by omega
 |n+1,h,j,hj=>by
  simp only[JC]at h;by_cases hn:j=n
  ·subst hn;cases hL:L j with
   |true=>rfl
   |false=>rw[hL]at h;simp at h
  ·exact D4 (n:=n) gY j gY
def fs(d:Nat->Option Nat)(x:Nat->AV)(t:Nat)(j:Nat):Option AV:=if d j=some t then some (x j)else none
theorem EL{d:Option Nat}{env:List AV}{x:AV}{t:Nat}(ht:t<env.length):(iU d env x).getD t .ig=if d=some t then x else env.getD t .ig:=by
 cases d with
 |none=>simp[iU]
 |some d=>
  simp only[iU,ay,dX,aJ];by_cases h:d=t
  ·subst h;simp[ht]
  ·simp[h]
theorem Ca{d:Option Nat}{env:List AV}{x:AV}:(iU d env x).length=env.length:=by cases d<;>simp[iU]
structure qY(P:Program)(k0:Nat)(ms:List iJ)(after:List gP)(x:Nat->AV)(δ:Nat->List (Nat×Ob))(ft:Nat->List Nat×List Nat)
 (E:Nat->List AV) (S:Nat->ij):Prop where
 step:∀i m,ms[i]?=some m->M6 P k0 m (E i) (S i) (x i) (δ i) (ft i)/\E (i+1)=iU m.dst (E i) (x i)/\S (i+1)=qt (S i) (δ i)
 ok:vB ms after ((List.range ms.length).map ft)=true
def EC(ms:List iJ)(j:Nat):Option Nat:=(ms[j]?).bind (·.dst)
section
variable{P:Program}{k0:Nat}{ms:List iJ}{after:List gP}{x:Nat->AV}{δ:Nat->List (Nat×Ob)}{ft:Nat->List Nat×List Nat}
 {E:Nat->List AV} {S:Nat->ij}
theorem qY.len(h:qY P k0 ms after x δ ft E S):∀{i:Nat},i<=ms.length->(E i).length=(E 0).length
 |0,_=>rfl
 |i+1,hi=>by
  have hm:ms[i]?=some ms[i]:=aB gY;rw[(h.step i _ hm).2.1,Ca,h.len gY]
theorem qY.slot(h:qY P k0 ms after x δ ft E S){t:Nat}(ht:t<(E 0).length):∀{i:Nat},i<=ms.length->
 (E i).getD t .ig=gl (fs (EC ms) x t) (fun _=>true) ((E 0).getD t .ig) i
 |0,_=>rfl
 |i+1,hi=>by
  have hm:ms[i]?=some ms[i]:=aB gY;rw[(h.step i _ hm).2.1,EL (by rw[h.len gY];exact ht),h.slot ht gY];simp only[gl,aC,fs,EC,hm,aa];split<;>rfl
theorem qY.obj(h:qY P k0 ms after x δ ft E S)(id:Nat):∀{i:Nat},i<=ms.length->
 sat (S i) id=gl (fun j=>xe (δ j) id) (fun _=>true) (sat (S 0) id) i
 |0,_=>rfl
 |i+1,hi=>by
  have hm:ms[i]?=some ms[i]:=aB gY;rw[(h.step i _ hm).2.2,DW,h.obj id gY];simp only[gl,aC]
structure Ck(E:Nat->List AV)(S:Nat->ij)(ms:List iJ)(x:Nat->AV)(δ:Nat->List (Nat×Ob))(L:Nat->Bool)(env:List AV)(s:ij):Prop where
 len:env.length=(E 0).length
 slot:∀t,t<(E 0).length->env.getD t .ig=gl (fs (EC ms) x t) L ((E 0).getD t .ig) ms.length
 obj:∀id,sat s id=gl (fun j=>xe (δ j) id) L (sat (S 0) id) ms.length
theorem qY.ord(h:qY P k0 ms after x δ ft E S){i j:Nat}{m m':iJ}(hi:ms[i]?=some m)(hj:ms[j]?=some m')(hji:j<i)
 (hc:B6 m m' (ft i) (ft j)=true):j∈(Gw after).getD i []:=by
 have hl:i<ms.length:=(aO.1 hi).1;have:=h.ok;simp only[vB,bu,T8,cy,cW]at this;have:=this.2 i hl j hji;rw[hi,hj]at this;have e1:((List.range ms.length).map ft).getD i ([],[])=ft i:=by simp[ay,hl]
 have e2:((List.range ms.length).map ft).getD j ([],[])=ft j:=by simp[ay,show j<ms.length by omega]
 rw[e1,e2]at this;simpa[hc]using this
theorem qY.before(h:qY P k0 ms after x δ ft E S){L:Nat->Bool}(hL:∀i,L i=true->∀e∈after.getD i [],L e=true){i:Nat}{m:iJ}(hi:ms[i]?=some m)
 (hu:L i=false) (hr:∀e∈after.getD i [],L e=true) {j:Nat} {m':iJ} (hj:ms[j]?=some m') (hne:j≠i) (hc:B6 m m' (ft i) (ft j)=true/\B6 m' m (ft j) (ft i)=true):
 L j=decide (j<i):=by
 have hcl:=h.ok;simp only[vB,bu]at hcl;rcases cI j i with hlt|hge
 ·rw[yJ hcl.1 hL i hr j (h.ord hi hj hlt hc.1)];simp[hlt]
 ·have hlt:i<j:=by omega
  have hb:=h.ord hj hi hlt hc.2;cases hLj:L j with
  |false=>simp;omega
  |true=>
   have:=yJ hcl.1 hL j (hL j hLj) i hb;rw[hu]at this;cases this
theorem zA{xs ys:List Nat}{a:Nat}(h1:a∈xs)(h2:a∈ys):BL xs ys=true:=ec.2 ⟨a,h1,by simpa using h2⟩
theorem IA{j t:Nat}(h:(fs (EC ms) x t j).isSome=true):∃m',ms[j]?=some m'/\m'.dst=some t:=by
 unfold fs at h;split at h
 ·rename_i hd;unfold EC at hd;cases hm:ms[j]? with
  |none=>rw[hm]at hd;cases hd
  |some m'=>rw[hm]at hd;exact⟨m',rfl,hd⟩
 ·cases h
theorem qY.write(h:qY P k0 ms after x δ ft E S){j id:Nat}{m':iJ}(hj:ms[j]?=some m')(hw:(xe (δ j) id).isSome=true):id∈(ft j).2:=by
 have:=(h.step j m' hj).1;rcases this with⟨_,_,_,h3⟩|⟨_,_,h3,_⟩
 ·rw[h3];exact EA hw
 ·rw[h3]at hw;cases hw
theorem qY.reads(h:qY P k0 ms after x δ ft E S){L:Nat->Bool}(hL:∀i,L i=true->∀e∈after.getD i [],L e=true){i:Nat}{m:iJ}(hi:ms[i]?=some m)
 (hu:L i=false) (hr:∀e∈after.getD i [],L e=true) {env:List AV} {s:ij} (hb:Ck E S ms x δ L env s) {t:Nat} (ht:t∈YY m):env.getD t .ig=(E i).getD t .ig:=by
 have hil:i<ms.length:=(aO.1 hi).1;by_cases hlt:t<(E 0).length
 ·rw[hb.slot t hlt,h.slot hlt (i:=i) gY,<-BK (Nat.le_of_lt hil)];refine uy fun j hj hs=>?_
  by_cases hne:j=i
  ·subst hne;rw[hu];simp
  ·obtain⟨m',hm',hd⟩:=IA hs;refine h.before hL hi hu hr hm' hne ?_;have:BL m'.dst.toList (YY m)=true:=zA (a:=t) (by rw[hd];simp) ht;simp[B6,this]
 ·have e1:env.getD t .ig=.ig:=by rw[ay,bQ (by rw[hb.len];omega)];rfl
  have e2:(E i).getD t .ig=.ig:=by rw[ay,bQ (by rw[h.len gY];omega)];rfl
  rw[e1,e2]
theorem qY.looks(h:qY P k0 ms after x δ ft E S){L:Nat->Bool}(hL:∀i,L i=true->∀e∈after.getD i [],L e=true){i:Nat}{m:iJ}(hi:ms[i]?=some m)
 (hu:L i=false) (hr:∀e∈after.getD i [],L e=true) {env:List AV} {s:ij} (hb:Ck E S ms x δ L env s) {id:Nat} (hid:id∈(ft i).1):sat s id=sat (S i) id:=by
 have hil:i<ms.length:=(aO.1 hi).1;rw[hb.obj id,h.obj id (i:=i) gY,<-BK (Nat.le_of_lt hil)];refine uy fun j hj hs=>?_
 by_cases hne:j=i
 ·subst hne;rw[hu];simp
 ·have hm':ms[j]?=some ms[j]:=aB hj;refine h.before hL hi hu hr hm' hne ?_;have:BL (ft j).2 (ft i).1=true:=zA (a:=id) (h.write hm' hs) hid;simp[B6,this]
theorem qY.next(h:qY P k0 ms after x δ ft E S){L L':Nat->Bool}(hL:∀i,L i=true->∀e∈after.getD i [],L e=true){i:Nat}{m:iJ}(hi:ms[i]?=some m)
 (hu:L i=false) (hr:∀e∈after.getD i [],L e=true) (hi':L' i=true) (hn:∀j,j≠i->L' j=L j) {env:List AV} {s:ij} (hb:Ck E S ms x δ L env s):
 Ck E S ms x δ L' (iU m.dst env (x i)) (qt s (δ i)):=by
 have hil:i<ms.length:=(aO.1 hi).1;refine⟨by rw[Ca,hb.len],fun t ht=>?_,fun id=>?_⟩
 ·rw[EL (by rw[hb.len];exact ht)];split
  ·rename_i hd;refine(IJ (i:=i) (by simp[fs,EC,hi,hd]) hi' hil fun j hij hj hs=>?_).symm;obtain⟨m',hm',hd'⟩:=IA hs;have:BL m.dst.toList m'.dst.toList=true:=zA (a:=t) (by rw[hd];simp) (by rw[hd'];simp);have this':BL m'.dst.toList m.dst.toList=true:=zA (a:=t) (by rw[hd'];simp) (by rw[hd];simp);rw[hn j gY,h.before hL hi hu hr hm' gY (by simp[B6,this,this'])];simp;omega
  ·rename_i hd;rw[hb.slot t ht];refine uy fun j hj hs=>?_
   by_cases hne:j=i
   ·subst hne;obtain⟨m',hm',hd'⟩:=IA hs;rw[hi]at hm';cases hm';exact absurd hd' hd
   ·rw[hn j hne]
 ·rw[DW];cases hd:xe (δ i) id with
  |some ob=>
   refine(IJ (i:=i) hd hi' hil fun j hij hj hs=>?_).symm;have hm':ms[j]?=some ms[j]:=aB hj;have a1:=h.write hm' hs;have a2:=h.write hi (by rw[hd];rfl:(xe (δ i) id).isSome=true);have:BL (ft i).2 (ft j).2=true:=zA a2 a1;have this':BL (ft j).2 (ft i).2=true:=zA a1 a2;rw[hn j gY,h.before hL hi hu hr hm' gY (by simp[B6,this,this'])];simp;omega
  |none=>
   simp only[Option.getD_none];rw[hb.obj id];refine uy fun j hj hs=>?_
   by_cases hne:j=i
   ·subst hne;rw[hd]at hs;cases hs
   ·rw[hn j hne]
theorem qY.run(h:qY P k0 ms after x δ ft E S){L:Nat->Bool}(hL:∀i,L i=true->∀e∈after.getD i [],L e=true){i:Nat}{m:iJ}(hi:ms[i]?=some m)
 (hu:L i=false) (hr:∀e∈after.getD i [],L e=true) {env:List AV} {s:ij} (hb:Ck E S ms x δ L env s):
 match m.guard with
  |none=>qX P k0 m.op env s fun x' env' s'=>iU m.dst env' x'=iU m.dst env (x i)/\s'=qt s (δ i)
  |some (g,want)=>match g with
   |none=>iU m.dst env (.mj [])=iU m.dst env (x i)/\s=qt s (δ i)
   |some d=>match env.getD d .ig with
    |.d (.lit (.bool b))=>Br b want (qX P k0 m.op env s fun x' env' s'=>iU m.dst env' x'=iU m.dst env (x i)/\s'=qt s (δ i)) (iU m.dst env (.mj [])=iU m.dst env (x i)/\s=qt s (δ i))
    |.mj []=>iU m.dst env (.mj [])=iU m.dst env (x i)/\s=qt s (δ i)
    |_=>False:=by
 have hs:=(h.step i m hi).1;have run:(∃ex,Ah P k0 (sat (S i)) (fun x' δ' e'=>x'=x i/\δ'=δ i/\e'=ex) (lG P k0 (ev (E i)) (sat (S i)) m.op)/\ft i=(ex++tO (ev (E i)) m.op,(δ i).map (·.1)))->
  qX P k0 m.op env s fun x' env' s'=>iU m.dst env' x'=iU m.dst env (x i)/\s'=qt s (δ i):=fun⟨ex,hd,hf⟩=>by
  have hc:lG P k0 (ev env) (sat s) m.op=lG P k0 (ev (E i)) (sat (S i)) m.op:=by
   refine JE (fun o ho=>?_) (fun t ht=>?_) (fun id hid=>?_)
   ·cases o with
    |tmp t=>simp[uO]at ho
    |_=>rfl
   ·simpa only[ev]using h.reads hL hi hu hr hb (t:=t) (bk _ ht)
   ·exact h.looks hL hi hu hr hb (by rw[hf];exact bE _ hid)
  rw[<-hc]at hd;replace hd:=xK (σ':=sat s) (fun id hid=>h.looks hL hi hu hr hb (by rw[hf];exact bk _ hid)) hd;exact HO (Mr (zz (K:=fun x' env' s'=>iU m.dst env' x'=iU m.dst env (x i)/\s'=qt s (δ i)) (fun x' δ' e' hx=>by
   obtain⟨rfl,rfl,_⟩:=hx;exact⟨rfl,rfl⟩) hd))
 cases hg:m.guard with
 |none=>
  rcases hs with⟨_,h2⟩|⟨h1,_⟩
  ·exact run h2
  ·simp[gd,hg]at h1
 |some p=>
  obtain⟨g,want⟩:=p;cases g with
  |none=>rcases hs with⟨h1,_⟩|⟨h1,_⟩<;>simp[gd,hg]at h1
  |some d=>
   have he:env.getD d .ig=(E i).getD d .ig:=h.reads hL hi hu hr hb (by simp[YY,hg]);simp only;rw[he];have hgd:gd m (E i)=(match(E i).getD d .ig with|.d (.lit (.bool b))=>some (b==want)|.mj []=>some false|_=>none):=by simp only[gd,hg]
   rcases hs with⟨h1,h2⟩|⟨h1,h2,h3,_⟩
   ·rw[hgd]at h1;split at h1
    ·rename_i b hb';simp only[aJ,bw]at h1;simp only[Br,ah h1];exact run h2
    ·cases h1
    ·cases h1
   ·rw[hgd]at h1;split at h1
    ·rename_i b hb';simp only[aJ,bW,fP]at h1;simp only[Br,ak h1];rw[h2,h3];exact⟨rfl,rfl⟩
    ·rw[h2,h3];exact⟨rfl,rfl⟩
    ·cases h1
end
theorem EX{P:Program}{c:Code}{ms:List iJ}{after:List gP}(h:mW P c=some (.draw ms after)):
 ∃id ops,c=.region id ops true/\ops.toList.mapM (pU P ops)=some ms/\after=ops.toList.map fun o=>(o.after.toList.filter (Region.binds .any)).map (·.on):=by
 cases c<;>simp[mW,au,az]at h⊢
 case region id' ops' d'=>
  obtain⟨ms',h1,h⟩:=h;split at h
  ·rename_i hd;simp only[ie.draw.injEq]at h;obtain⟨rfl,rfl⟩:=h;exact⟨id',ops',⟨rfl,rfl,hd⟩,h1,rfl⟩
  ·cases h
theorem vF{α β:Type}{f:α->Option β}:∀{xs:List α}{ys:List β},xs.mapM f=some ys->ys.length=xs.length/\∀(i:Nat)(x:α),xs[i]?=some x->∃y,ys[i]?=some y/\f x=some y
 |[],ys,h=>by simp at h;subst h;simp
 |x::xs,ys,h=>by
  simp only[cr,cp,au]at h;obtain⟨y,h1,ys',h2,h3⟩:=h;cases h3;obtain⟨e1,e2⟩:=vF h2;refine⟨by simp[e1],fun i u hu=>?_⟩;cases i with
  |zero=>simp at hu;subst hu;exact⟨y,rfl,h1⟩
  |succ i=>simpa using e2 i u (by simpa using hu)
theorem Ck.env{E:Nat->List AV}{S:Nat->ij}{ms:List iJ}{x:Nat->AV}{δ:Nat->List (Nat×Ob)}{L L':Nat->Bool}{env:List AV}{s:ij}
 (h:Ck E S ms x δ L env s) (hL:∀j,j<ms.length->L j=L' j):Ck E S ms x δ L' env s:=
 ⟨h.len,fun t ht=>by rw[h.slot t ht];exact uy fun j hj _=>hL j hj,fun id=>by rw[h.obj id];exact uy fun j hj _=>hL j hj⟩
theorem GB{P:Program}{C:Ctx}{ops:Array Oper}{Q:Post}{ms:List iJ}{after:List gP}{x:Nat->AV}{δ:Nat->List (Nat×Ob)}{ft:Nat->List Nat×List Nat}
 {E:Nat->List AV} {S:Nat->ij} (hm:ops.toList.mapM (pU P ops)=some (ms.map iJ.erase)) (ha:after=ops.toList.map fun o=>(o.after.toList.filter (Region.binds .any)).map (·.on))
 (h:qY P C.k ms after x δ ft E S) (hQ:Q .normal (E ms.length) (S ms.length)):
 ∀(fuel:Nat)(listed:Array Bool)(env:List AV)(s:ij)(β:iE)(a:Act)(w:World),listed.size=ops.size->JC (fun j=>listed.getD j false) ops.size<=fuel->
  (∀i,listed.getD i false=true->∀e∈after.getD i [],listed.getD e false=true)->Ck E S ms x δ (fun j=>listed.getD j false) env s->St C β env s a w->
  wpAnyIn C.oy 0 P .any ops (fun e a' w'=>∃C',Ext C C'/\∃β' env' s',St C' β' env' s' a' w'/\Q e env' s') fuel listed a w:=by
 obtain⟨hlen,hget⟩:=vF hm;rw[aM]at hlen;have hsz:ms.length=ops.size:=by rw[hlen];simp
 have haf:∀i o,ops[i]?=some o->after.getD i []=(o.after.toList.filter (Region.binds .any)).map (·.on):=fun i o ho=>by rw[ha,ay,bt,Array.getElem?_toList,ho];rfl
 have hback:∀i,∀e∈after.getD i [],e<i:=fun i e he=>by
  have hc:=h.ok;simp only[vB,xd,bu,cy,cW,av]at hc;have hi:i<after.length:=by
   rcases cI i after.length with h'|h'
   ·exact h'
   ·rw[ay,bQ h']at he;simp at he
  exact hc.1.1 i hi e he
 have isReady:∀{listed:Array Bool},listed.size=ops.size->∀{i:Nat},i<ops.size->listed.getD i false=false->(∀e∈after.getD i [],listed.getD e false=true)->
  i∈Region.ready .any ops listed:=fun{listed} hs {i} hi hu hr=>by
  rw[fH];have ho:ops[i]?=some ops[i]:=cO hi;refine⟨?_,_,ho,fun e he hb=>hr _ ?_⟩
  ·have:i<listed.size:=by omega
   simpa[this]using hu
  ·rw[haf i _ ho];exact bz.2 ⟨e,ej.2 ⟨by simpa using he,hb⟩,rfl⟩
 have all:∀{listed:Array Bool},listed.size=ops.size->Region.ready .any ops listed=[]->∀i,i<ops.size->listed.getD i false=true:=fun{listed} hs hn i=>by
  induction i using Nat.strongRecOn with
  |ind i ih=>
   intro hi;cases hu:listed.getD i false with
   |true=>rfl
   |false=>
    have:=isReady hs hi hu fun e he=>ih e (hback i e he) (by have:=hback i e he;omega)
    rw[hn]at this;cases this
 have done:∀{listed:Array Bool}{env:List AV}{s:ij}{β:iE}{a:Act}{w:World},(∀i,i<ops.size->listed.getD i false=true)->
  Ck E S ms x δ (fun j=>listed.getD j false) env s->St C β env s a w->∃C',Ext C C'/\∃β' env' s',St C' β' env' s' a w/\Q .normal env' s':=fun{listed env s β a w} hall hb hst=>by
  have hb':=hb.env (L':=fun _=>true) fun j hj=>hall j gY
  have e1:env=E ms.length:=by
   refine eA fun t=>?_
   by_cases ht:t<(E 0).length
   ·have h1:=hb'.slot t ht;rw[<-h.slot ht (aF _)]at h1;have l1:t<env.length:=by rw[hb'.len];exact ht
    have l2:t<(E ms.length).length:=by rw[h.len (aF _)];exact ht
    rw[ay,ay,aB l1,aB l2]at h1;rw[aB l1,aB l2];simpa using h1
   ·rw[bQ (by rw[hb'.len];omega),bQ (by rw[h.len (aF _)];omega)]
  have e2:∀id,sat s id=sat (S ms.length) id:=fun id=>by rw[hb'.obj id,<-h.obj id (aF _)]
  rw[<-e1]at hQ;obtain⟨β',h1⟩:=iL.Uh (k:=C.k) (env:=env) e2 C β a w rfl hst;exact⟨C,.refl C,β',env,_,h1,hQ⟩
 intro fuel;induction fuel with
 |zero=>
  intro listed env s β a w hs hf hd hb hst;have hall:=D4 (gh.1 hf);refine⟨?_,done hall hb hst⟩;cases hr:Region.ready .any ops listed with
  |nil=>rfl
  |cons i rs=>
   have hi:i∈Region.ready .any ops listed:=by rw[hr];exact bh
   obtain⟨h1,o,ho,_⟩:=fH.1 hi;have hl:i<ops.size:=(aV.1 ho).1;have h2:=hall i hl;have:i<listed.size:=by omega
   simp[this]at h1 h2;rw[h1]at h2;cases h2
 |succ fuel ih=>
  intro listed env s β a w hs hf hd hb hst;refine⟨fun hn=>done (all hs hn) hb hst,fun i hi=>?_⟩;obtain⟨h1,o,ho,hall⟩:=fH.1 hi;have hl:i<ops.size:=(aV.1 ho).1;have hll:i<listed.size:=by omega
  have hu:listed.getD i false=false:=by simp[hll]at h1⊢;exact h1
  have hr:∀e∈after.getD i [],listed.getD e false=true:=fun e he=>by
   rw[haf i o ho]at he;obtain⟨d,hd1,rfl⟩:=bz.1 he;obtain⟨hd2,hd3⟩:=ej.1 hd1;exact hall d (by simpa using hd2) hd3
  obtain⟨m0,hmi0,hmo⟩:=hget i o (by simpa using ho);rw[bt]at hmi0;obtain⟨m,hmi,rfl⟩:=az.1 hmi0;unfold wpOpIn;rw[ho];simp only;refine uz (K:=fun env' s'=>env'=iU m.dst env (x i)/\s'=qt s (δ i)) hmo (h.run hd hmi hu hr hb) hst fun β' env' s' a' w' h4 h5=>?_
  obtain⟨rfl,rfl⟩:=h5;have hset:∀j,j≠i->(listed.setIfInBounds i true).getD j false=listed.getD j false:=fun j hj=>getD_set_ne false (Ne.symm hj)
  have hone:(listed.setIfInBounds i true).getD i false=true:=by simp[hll]
  refine ih _ _ _ β' a' w' (by simpa using hs) ?_ (fun j hj e he=>?_) (h.next hd hmi hu hr hone hset hb) h4
  ·have:=(F3 (L:=fun j=>listed.getD j false) (L':=fun j=>(listed.setIfInBounds i true).getD j false) hu hone hset (n:=ops.size)).2 hl;omega
  ·by_cases hji:j=i
   ·subst hji;exact fQ (hr e he)
   ·rw[hset j hji]at hj;exact fQ (hd j hj e he)
theorem Va{P:Program}{k:Nat}{Q:Post}{env:List AV}{s:ij}{ms:List iJ}{after:List gP}(hP:P.follows .mixedOrders=true)
 (h:uV P k (fun acc env s=>vB ms after acc.reverse=true/\Q .normal env s) ms [] env s):nj P k (.draw ms after) Q env s:=fun C hC _ c hc β a w hst=>by
 obtain⟨id,ops,rfl,hm,ha⟩:=EX hc;subst hC;obtain⟨x,δ,ft,E,S,hE,hS,h1,h2,h3⟩:=zG h;rw[aW,List.reverse_reverse]at h2;obtain⟨hlen,_⟩:=vF hm;rw[aM]at hlen;have hrep:∀j,(Array.replicate ops.size false).getD j false=false:=fun j=>by
  rw[cc,Array.getElem?_replicate];split<;>rfl
 have g0:∀{β:Type}{f:Nat->Option β}{b:β}(n:Nat),gl f (fun j=>(Array.replicate ops.size false).getD j false) b n=b:=fun{β f b} n=>by
  induction n with
  |zero=>rfl
  |succ n ih=>simp only[gl];rw[ak (by rw[hrep];simp)];exact ih
 have hu:∀n,JC (fun j=>(Array.replicate ops.size false).getD j false) n<=n:=fun n=>by
  induction n with
  |zero=>exact aF _
  |succ n ih=>simp only[JC];rw[hrep];simp only;omega
 refine wpIn_region_any hP (GB hm ha ⟨h1,h2⟩ h3 ops.size _ env s β a _ (by simp) (hu _) (fun i hi=>?_) ⟨by rw[hE],fun t ht=>?_,fun id'=>?_⟩ hst.drew)
 ·rw[hrep]at hi;cases hi
 ·rw[g0,hE]
 ·rw[g0,hS]
def AJ(ms:List iJ)(after:List gP)(Q:Post)(acc:List (List Nat×List Nat))(env:List AV)(s:ij):Prop:=
 vB ms after acc.reverse=true/\Q .normal env s
def lN(P:Program)(k0:Nat)(F:List (List Nat×List Nat)->List AV->ij->Prop)(ms:List iJ)(acc:List (List Nat×List Nat))(foot:List Nat)(d:Option Nat)(env:List AV)(s:ij)
 (o:rA):Prop:=Ah P k0 (sat s) (fun x δ ex=>uV P k0 F ms ((ex++foot,δ.map (·.1))::acc) (iU d env x) (qt s δ)) o
def nc(P:Program)(k0:Nat)(F:List (List Nat×List Nat)->List AV->ij->Prop)(ms:List iJ)(acc:List (List Nat×List Nat))(foot:List Nat)(d:Option Nat)(env:List AV)(s:ij)
 (f:Nat) (args:List AV):Prop:=SY P k0 (sat s) f args fun x δ ex=>uV P k0 F ms ((ex++foot,δ.map (·.1))::acc) (iU d env x) (qt s δ)
def Bl(P:Program)(k0:Nat)(F:List (List Nat×List Nat)->List AV->ij->Prop)(ms:List iJ)(acc:List (List Nat×List Nat))(foot:List Nat)(d:Option Nat)(env:List AV)(s:ij)
 (b:Bool) (o1 o2:rA):Prop:=if b=true then lN P k0 F ms acc foot d env s o1 else lN P k0 F ms acc foot d env s o2
def yp(P:Program)(k0:Nat)(F:List (List Nat×List Nat)->List AV->ij->Prop)(b want:Bool)(m:sJ)(d:Option Nat)(ms:List iJ)(acc:List (List Nat×List Nat))(env:List AV)(s:ij):Prop:=
 if b=want then lN P k0 F ms acc (tO (ev env) m) d env s (lG P k0 (ev env) (sat s) m)else uV P k0 F ms (([],[])::acc) (iU d env (.mj [])) s
def VT(P:Program)(k0:Nat)(F:List (List Nat×List Nat)->List AV->ij->Prop)(want:Bool)(m:sJ)(d:Option Nat)(ms:List iJ)(acc:List (List Nat×List Nat))(env:List AV)(s:ij):AV->Prop
 |.d (.lit (.bool b))=>yp P k0 F b want m d ms acc env s
 |.mj []=>uV P k0 F ms (([],[])::acc) (iU d env (.mj [])) s
 |_=>False
section
variable{P:Program}{k0:Nat}{F:List (List Nat×List Nat)->List AV->ij->Prop}{b want:Bool}{m:sJ}{d:Option Nat}{ms:List iJ}{env:List AV}{s:ij}
 {acc:List (List Nat×List Nat)} {foot:List Nat}
theorem SC:uV P k0 F [] acc env s=F acc env s:=(rfl)
theorem Mt:uV P k0 F (⟨d,m,none⟩::ms) acc env s=lN P k0 F ms acc (tO (ev env) m) d env s (lG P k0 (ev env) (sat s) m):=(rfl)
theorem Ms{g:Nat}:uV P k0 F (⟨d,m,some (some g,want)⟩::ms) acc env s=VT P k0 F want m d ms acc env s (env.getD g .ig):=by
 simp only[uV,gd];generalize env.getD g .ig=x;cases x with
 |d y=>cases y with
  |lit u=>cases u with
   |bool b=>
    simp only[VT,yp];cases b<;>cases want<;>rfl
   |_=>rfl
  |_=>rfl
 |mj cs=>cases cs<;>rfl
 |_=>rfl
theorem PI{x:AV}{δ:List (Nat×Ob)}:lN P k0 F ms acc foot d env s (.ok x δ)=uV P k0 F ms ((foot,δ.map (·.1))::acc) (iU d env x) (qt s δ):=(rfl)
theorem JG{p:Prop}{o:rA}:lN P k0 F ms acc foot d env s (.need p o)=(p/\lN P k0 F ms acc foot d env s o):=(rfl)
theorem JF{f:Nat}{args:List AV}:lN P k0 F ms acc foot d env s (.call f args)=nc P k0 F ms acc foot d env s f args:=(rfl)
theorem PG{o1 o2:rA}:lN P k0 F ms acc foot d env s (.br b o1 o2)=Bl P k0 F ms acc foot d env s b o1 o2:=(rfl)
theorem Wg{o1 o2:rA}:Bl P k0 F ms acc foot d env s true o1 o2=lN P k0 F ms acc foot d env s o1:=by simp[Bl]
theorem We{o1 o2:rA}:Bl P k0 F ms acc foot d env s false o1 o2=lN P k0 F ms acc foot d env s o2:=by simp[Bl]
theorem Ut:yp P k0 F true true m d ms acc env s=lN P k0 F ms acc (tO (ev env) m) d env s (lG P k0 (ev env) (sat s) m):=by simp[yp]
theorem Uq:yp P k0 F false false m d ms acc env s=lN P k0 F ms acc (tO (ev env) m) d env s (lG P k0 (ev env) (sat s) m):=by simp[yp]
theorem Us:yp P k0 F true false m d ms acc env s=uV P k0 F ms (([],[])::acc) (iU d env (.mj [])) s:=by simp[yp]
theorem Ur:yp P k0 F false true m d ms acc env s=uV P k0 F ms (([],[])::acc) (iU d env (.mj [])) s:=by simp[yp]
end
theorem XQ{P:Program}{k:Nat}{Q:Post}{env:List AV}{s:ij}{ms:List iJ}{after:List gP}(hP:P.follows .mixedOrders=true)
 (h:uV P k (AJ ms after Q) ms [] env s):nj P k (.draw ms after) Q env s:=Va hP h
theorem jV{ms:List iJ}{after:List gP}{Q:Post}{acc:List (List Nat×List Nat)}{env:List AV}{s:ij}(h:vB ms after acc.reverse=true)(hq:Q .normal env s):
 AJ ms after Q acc env s:=⟨h,hq⟩
theorem U7{x:D}:U6 (.d x)=Oo (qF (.d x)):=(rfl)
theorem LN{e e' id off len:Nat}{n:Int}:G3 e n (.pV e' id off len)=.need (e'=e/\0<=n/\n<len) (.ok (.ptr id (off+n.toNat*e)) []):=(rfl)
theorem Rk{e:Nat}{n:Int}{x:D}:G3 e n (.d x)=Kh e n (qF (.d x)):=(rfl)
theorem LO{e e' id:Nat}{n:Int}{xs:List D}:G3 e n (.own e' id xs)=Kh e n (some (e',xs)):=(rfl)
attribute [go_sem] JT Fe Gn JR OB KV SL SC Mt Ms VT PI JG JF PG Wg We Ut Uq Us Ur Da sG OA Kk KU FZ Uz Na N4 F1 NT OS T4 Ww Kh LN Rk LO U3 S5 Oo U7 KR Me KP M8 CZ Ia Wu FD Qt Ng Qu Ue Zk Km NM lG tO qt
def tQ:Value:=.slice none 0 0
theorem St.D2{C:Ctx}{β:iE}{env:List AV}{s:ij}{a:Act}{w:World}(h:St C β env s a w){id t e:Nat}(hd:sat s id=.dead):
 St C (iy β id (.tok tQ 0)) env (sset s id (.tok t e 0)) a w/\mO β s w (iy β id (.tok tQ 0)) (sset s id (.tok t e 0)) w:=by
 have hno:β id=.no:=by have:=h.inv.obs id;rw[hd]at this;exact this
 have noOwn:∀b o,¬own (iy β id (.tok tQ 0)) [(id,.tok t e 0)] b o:=fun b o ⟨i,hi⟩=>by
  by_cases h1:i=id
  ·subst h1;simp[sat,iy,tQ]at hi
  ·simp[sat,h1]at hi
 have noBlk:∀b,¬ic (iy β id (.tok tQ 0)) [(id,.tok t e 0)] id b:=fun b hi=>by simp[ic,sat,iy,tQ]at hi
 have m:mO β s w (iy β id (.tok tQ 0)) (sset s id (.tok t e 0)) w:=by
  refine⟨aF _,rfl,fun b o v hc _=>hc,fun b hb _=>rfl,fun b o ho=>?_,fun i b hb=>?_,fun i=>?_⟩
  ·rcases vf ho with ho|ho
   ·exact .inl ho
   ·exact absurd ho (noOwn b o)
  ·rcases jQ hb with⟨_,hb⟩|⟨_,hb⟩
   ·exact .inl ⟨i,hb⟩
   ·exact absurd hb (noBlk b)
  ·by_cases hi:i=id
   ·subst hi;simp only[iy,aC];rw[hno];trivial
   ·simp only[iy,hi,aE];exact .refl _
 refine⟨h.move m (fun i=>?_) (fun i j b hi hj=>?_),m⟩
 ·rw[ki];by_cases hi:i=id
  ·subst hi;simp only[aC,vQ];exact⟨tQ,by simp[iy],.inl ⟨rfl,rfl⟩⟩
  ·simp only[hi,aE];exact(h.inv.obs i).wj m (by simp[iy,hi]) (fun b hb=>rfl) rfl
 ·rcases jQ hi with⟨hi1,hi2⟩|⟨rfl,hi2⟩<;>rcases jQ hj with⟨hj1,hj2⟩|⟨rfl,hj2⟩
  ·exact h.inv.inj i j b hi2 hj2
  ·exact absurd hj2 (noBlk b)
  ·exact absurd hi2 (noBlk b)
  ·rfl
theorem DK{O:Own}{w:World}{e0:Nat}{v:Value}(h:D.ok O w (.sl e0 (some true) []) v):v=tQ:=by
 simp only[D.ok,K7]at h;obtain⟨a,cap,h1,_,⟨rfl,rfl⟩,_⟩:=h;simpa[tQ]using h1
theorem CM{β:iE}{O:Own}{w:World}{e id:Nat}(hb:β id=.tok tQ 0):AV.ok β O w (.own e id []) tQ:=by
 simp only[AV.ok,D.ok,K7];exact⟨⟨none,0,by simp[tQ],by simp[JK],trivial,by simp⟩,tQ,0,by rw[hb];exact⟨rfl,rfl⟩,aF _,fun _=>rfl⟩
theorem iL.Mj{k:Nat}{env:List AV}{s:ij}(i id t e:Nat){e0:Nat}(hd:sat s id=.dead)(hi:env[i]?=some (.d (.sl e0 (some true) []))):
 iL k env s (env.set i (.own e id [])) (sset s id (.tok t e 0)):=fun _ _ _ _ _ hst=>by
 obtain⟨h1,m⟩:=hst.D2 (t:=t) (e:=e) hd;refine⟨_,h1.defers,h1.inv,by rw[h1.len,fo],fun j x hj=>?_⟩;rw[dX]at hj;split at hj
 ·rename_i hij;subst hij;split at hj
  ·cases hj;have:=hst.env i _ hi;simp only[AV.ok]at this;rw[DK this];exact CM (by simp[iy])
  ·cases hj
 ·exact h1.env j x hj
theorem St.Vv{C:Ctx}{β:iE}{env:List AV}{s:ij}{a:Act}{w:World}(h:St C β env s a w){o t:Nat}{cs cs':List AV}(ho:sat s o=.obj t cs)
 (hc:∀vs,AV.iK β (C.ir β s) w cs vs->AV.iK β (C.ir β s) w cs' vs):St C β env (sset s o (.obj t cs')) a w:=by
 have hown:∀b x,own β (sset s o (.obj t cs')) b x<->own β s b x:=fun b x=>by
  constructor<;>rintro⟨i,hi⟩<;>refine⟨i,?_⟩<;>rw[ki]at*<;>by_cases hio:i=o
  ·subst hio;simp only[aC]at hi;rw[ho];exact hi
  ·simpa[hio]using hi
  ·subst hio;rw[ho]at hi;simpa using hi
  ·simpa[hio]using hi
 have hblk:∀i b,ic β (sset s o (.obj t cs')) i b<->ic β s i b:=fun i b=>by
  unfold ic;rw[ki];by_cases hio:i=o
  ·subst hio;simp[ho]
  ·simp[hio]
 have m:mO β s w β (sset s o (.obj t cs')) w:=
  ⟨aF _,rfl,fun b o v hc _=>hc,fun b hb _=>rfl,fun b x hx=>.inl ((hown b x).1 hx),fun i b hb=>.inl ⟨i,(hblk i b).1 hb⟩,fun i=>.refl _⟩
 refine h.move m (fun i=>?_) (fun i j b hi hj=>h.inv.inj i j b ((hblk i b).1 hi) ((hblk j b).1 hj));rw[ki];by_cases hio:i=o
 ·subst hio;simp only[aC];have:=h.inv.obs i;rw[ho]at this;obtain⟨b,vs,h1,h2,h3,h4⟩:=this;exact⟨b,vs,h1,h2,h3,h4.imp fun _ h=>m.iK (hc _ h)⟩
 ·simp only[hio,aE];exact(h.inv.obs i).wj m rfl (fun b hb=>rfl) rfl
theorem FK{β:iE}{O:Own}{w:World}{y:AV}:∀{cs:List AV}{vs:List Value}{j:Nat}{x:AV},cs[j]?=some x->(∀v,AV.ok β O w x v->AV.ok β O w y v)->AV.iK β O w cs vs->AV.iK β O w (cs.set j y) vs
 |[],vs,j,x,hj,_,_=>by simp at hj
 |c::cs,vs,0,x,hj,hy,h=>by
  simp only[AV.iK,fK]at h⊢;simp at hj;subst hj;obtain⟨v,r,h1,h2,h3⟩:=h;exact⟨v,r,h1,hy v h2,h3⟩
 |c::cs,vs,j+1,x,hj,hy,h=>by
  simp only[AV.iK,fL]at h⊢;obtain⟨v,r,h1,h2,h3⟩:=h;exact⟨v,r,h1,h2,FK (by simpa using hj) hy h3⟩
theorem iL.xC{k:Nat}{env:List AV}{s:ij}(o j id t e:Nat){e0 t':Nat}{cs:List AV}(hd:sat s id=.dead)(ho:sat s o=.obj t' cs)(hj:cs[j]?=some (.d (.sl e0 (some true) []))):
 iL k env s env (sset (sset s id (.tok t e 0)) o (.obj t' (cs.set j (.own e id [])))):=fun _ _ _ _ _ hst=>by
 obtain⟨h1,m⟩:=hst.D2 (t:=t) (e:=e) hd;have hoi:o≠id:=by rintro rfl;rw[hd]at ho;cases ho
 refine⟨_,h1.Vv (cs:=cs) (by rw[ki,ak hoi,ho]) fun _ hv=>FK hj (fun _ hv=>?_) hv⟩;simp only[AV.ok]at hv;rw[DK hv];exact CM (by simp[iy])
def D.le(x y:D):Prop:=∀O w vs,D.HT O w x vs->D.HT O w y vs
def qu:List D->List D->Prop
 |[],[]=>True
 |x::xs,y::ys=>D.le x y/\qu xs ys
 |_,_=>False
theorem D.le_refl(x:D):D.le x x:=fun _ _ _ h=>h
theorem qu.refl:∀xs:List D,qu xs xs
 |[]=>trivial
 |x::xs=>⟨D.le_refl x,qu.refl xs⟩
theorem qu.length:∀{xs ys:List D},qu xs ys->xs.length=ys.length
 |[],[],_=>rfl
 |_::_,_::_,h=>by simp[qu.length h.2]
 |[],_::_,h=>h.elim
 |_::_,[],h=>h.elim
theorem qu.append:∀{xs ys us vs:List D},qu xs ys->qu us vs->qu (xs++us) (ys++vs)
 |[],[],_,_,_,h=>h
 |_::_,_::_,_,_,h,k=>⟨h.1,qu.append h.2 k⟩
 |[],_::_,_,_,h,_=>h.elim
 |_::_,[],_,_,h,_=>h.elim
theorem qu.row{O:Own}{w:World}{b e:Nat}:∀{xs ys:List D}{o:Nat},qu xs ys->D.row O w b o e xs->D.row O w b o e ys
 |[],[],_,_,h=>h
 |_::_,_::_,_,h,hr=>by
  rw[D.mQ]at hr⊢;obtain⟨⟨vs,h1,h2,h3⟩,h4⟩:=hr;exact⟨⟨vs,h1,h2,h.1 O w vs h3⟩,qu.row h.2 h4⟩
 |[],_::_,_,h,_=>h.elim
 |_::_,[],_,h,_=>h.elim
theorem Ud{O:Own}{w:World}{e:Nat}{nl:Option Bool}{xs ys:List D}{v:Value}(h:qu xs ys)(hv:D.ok O w (.sl e nl xs) v):D.ok O w (.sl e nl ys) v:=by
 simp only[D.ok]at hv⊢;obtain⟨a,cap,h1,h2,h3,h4⟩:=hv;refine⟨a,cap,by rw[<-h.length];exact h1,by rw[<-h.length];exact h2,h3,?_⟩;rcases h4 with h4|⟨b,o,h5,h6⟩
 ·subst h4;cases ys with
  |nil=>exact .inl rfl
  |cons y ys=>exact h.elim
 ·exact .inr ⟨b,o,h5,h.row h6⟩
theorem AV.DH{e:Nat}{nl:Option Bool}{xs ys:List D}(h:qu xs ys):AV.le (.d (.sl e nl xs)) (.d (.sl e nl ys)):=fun _ _ _ _ hv=>by
 simp only[AV.ok]at hv⊢;exact Ud h hv
theorem AV.tZ{e id:Nat}{xs ys:List D}(h:qu xs ys):AV.le (.own e id xs) (.own e id ys):=fun _ _ _ _ hv=>by
 simp only[AV.ok]at hv⊢;obtain⟨h1,u,n,h2,h3,h4⟩:=hv;exact⟨Ud h h1,u,n,h2,by rw[<-h.length];exact h3,by rw[<-h.length];exact h4⟩
def YT(pv:Value):Exit:=.panic [{v:=pv,recovered:=false}]
def XE(pv:Value)(e:Ending)(v:Value):Prop:=(∃u,e=.returned u/\v=.tuple #[u,.bool true])\/(e=.panicked [{v:=pv,recovered:=false}]/\v=.tuple #[.bool false,.bool false])
def okB(b:Bool):AV:=.d (.lit (.bool b))
def XK(Q:Post)(pv:Value)(d:Option Nat)(x:AV)(env:List AV)(s:ij):Prop:=∃y b,x=.mj [y,okB b]/\(b=true->Q .normal (iU d env y) s)/\(b=false->Q (YT pv) env s)
def sE(P:Program)(k0:Nat)(pv:Value)(Q:Post)(m:iJ)(env:List AV)(s:ij):Prop:=
 match m.op with
 |.kA f args=>NK (XE pv) P k0 f (args.map (ev env)) env s (XK Q pv m.dst)
 |.Eb x=>ev env x=.d (.lit pv)/\(∃t u,pv=.iface t u)/\Q (YT pv) env s
 |_=>False
section
variable{P:Program}{o:Oper}
theorem Ja{f:Nat}{args:List Operand}(hm:ku P o=some (.kA f args)):∃c:Call,o.op=.call c/\c.callee=.value (.func f)/\enters P f=true/\c.args.toList=args:=by
 unfold ku at hm;split at hm
 case h_20 c hop=>
  split at hm
  ·rename_i g hc;split at hm
   ·rename_i he;cases hm;exact⟨c,hop,hc,he,rfl⟩
   ·cases hm
  all_goals exfalso
  all_goals repeat(first
   |(cases hm;done)
   |(simp only[au,az]at hm)
   |(obtain⟨_,_,hm⟩:=hm)
   |split at hm)
 all_goals exfalso
 all_goals repeat(first
  |(cases hm;done)
  |(simp only[au,az]at hm)
  |(obtain⟨_,_,hm⟩:=hm)
  |split at hm)
theorem OF{x:Operand}(hm:ku P o=some (.Eb x)):o.op=.panic x:=by
 unfold ku at hm;split at hm
 case h_21 y hop=>cases hm;exact hop
 all_goals exfalso
 all_goals repeat(first
  |(cases hm;done)
  |(simp only[au,az]at hm)
  |(obtain⟨_,_,hm⟩:=hm)
  |split at hm)
end
theorem DF{P:Program}{C:Ctx}{ops:Array Oper}{o:Oper}{m:iJ}(hm:pU P ops o=some m.erase)(hg:m.guard=none){env:List AV}{s:ij}{pv:Value}{Q:Post}(hk:sE P C.k pv Q m env s)
 {β:iE} {a:Act} {w:World} (hst:St C β env s a w) {N:Act->World->Prop} (hN:∀a' w',(∃C',Ext C C'/\∃β' env' s',St C' β' env' s' a' w'/\Q .normal env' s')->N a' w'):
 o.guard=none/\o.wpIn C.oy 0 P a w N (fun e a' w'=>∃C',Ext C C'/\∃β' env' s',St C' β' env' s' a' w'/\Q e env' s'):=by
 obtain⟨h1,h2,h3⟩:=uo hm;have hgo:o.guard=none:=by
  rw[hg]at h3;cases hq:o.guard with
  |none=>rfl
  |some p=>rw[hq]at h3;cases h3
 refine⟨hgo,?_⟩;unfold sE at hk;split at hk
 ·rename_i f args hop;have h1':ku P o=some (.kA f args):=by
   rw[hop]at h1;cases hq:ku P o with
   |some x=>rw[hq]at h1;rw[Option.getD_some]at h1;rw[<-h1];rfl
   |none=>rw[hq]at h1;cases h1
  obtain⟨c,hoc,hc,he,rfl⟩:=Ja h1';have hnd:∀c,o.op≠ .defer c:=fun c' hc'=>by rw[hoc]at hc';cases hc'
  have hargs:AV.iK β (C.ir β s) w (c.args.toList.map (ev env)) (c.args.map a.eval).toList:=by rw[dy];exact Ai hst c.args.toList
  have hrun:(execOp a.eval o).run P w=.ok (.enter f (c.args.map a.eval)) w:=by
   simp only[execOp,hoc,resolve,hc,Act.eval,Deferred.ofValue,aY,bq,aH,invoke];rw[show #[]++c.args.map a.eval++#[]=c.args.map a.eval by simp];exact yK he _ _
  refine⟨fun _ _=>trivial,?_⟩;rw[er _ _ _ hnd,hrun,Oper.uponIn_enter];refine⟨fun h=>by simp[Ctx.oy]at h,Dg.2 ((B5 hk hst hargs).mono ?_)⟩;rintro e w' ⟨v,x,β',s',hE,hst',hx,y,b,rfl,hq1,hq2⟩;rcases hE with⟨u,rfl,rfl⟩|⟨rfl,rfl⟩
  ·simp only[AV.ok,AV.iK,okB,D.ok]at hx;obtain⟨vs,hvs,v1,r1,e1,hy,v2,r2,e2,hb,hr⟩:=hx;cases hvs;simp only[bT]at e1;obtain⟨rfl,rfl⟩:=e1;simp only[bT]at e2;obtain⟨rfl,rfl⟩:=e2;have hb':b=true:=by simpa using hb.1.symm
   refine hN _ _ ⟨C,.refl C,β',_,s',hst'.put hy o.dst,?_⟩;have:=hq1 hb';rwa [h2]at this
  ·simp only[AV.ok,AV.iK,okB,D.ok]at hx;obtain⟨vs,hvs,v1,r1,e1,hy,v2,r2,e2,hb,hr⟩:=hx;cases hvs;simp only[bT]at e1;obtain⟨rfl,rfl⟩:=e1;simp only[bT]at e2;obtain⟨rfl,rfl⟩:=e2;have hb':b=false:=by simpa using hb.1.symm
   exact⟨C,.refl C,β',_,s',hst',hq2 hb'⟩
 ·rename_i x hop;obtain⟨hx,⟨t,u,rfl⟩,hq⟩:=hk;have h1':ku P o=some (.Eb x):=by
   rw[hop]at h1;cases hq:ku P o with
   |some x=>rw[hq]at h1;rw[Option.getD_some]at h1;rw[<-h1];rfl
   |none=>rw[hq]at h1;cases h1
  have hoc:=OF h1';have hnd:∀c,o.op≠ .defer c:=fun c' hc'=>by rw[hoc]at hc';cases hc'
  refine⟨fun _ _=>trivial,?_⟩;have hxv:=hst.ev x;rw[hx]at hxv;have hxv:a.eval x=.iface t u:=qf hxv;have hrun:(execOp a.eval o).run P w=.halt (.panic (.iface t u)) w:=by
   simp only[execOp,hoc,hxv];rfl
  rw[er _ _ _ hnd,hrun,Oper.uponIn_panic];exact⟨C,.refl C,β,env,s,hst,hq⟩
 ·exact hk.elim
theorem Ci{P:Program}{C:Ctx}{ops:Array Oper}{Q:Post}{m:iJ}{pv:Value}(hg:m.guard=none):∀(n i:Nat)(ms:List iJ)(env:List AV)(s:ij),i+n+1=ops.size->ms.length=n->
 (ops.toList.drop i).mapM (pU P ops)=some ((ms++[m]).map iJ.erase)->ue P C.k ms env s (sE P C.k pv Q m)->
 ∀(β:iE)(a:Act)(w:World),St C β env s a w->wpOpsIn C.oy 0 P ops (fun e a' w'=>∃C',Ext C C'/\∃β' env' s',St C' β' env' s' a' w'/\Q e env' s') (List.range' i (n+1)) a w
 |0,i,ms,env,s=>fun hi hms hm hk β a w hst=>by
  have hms':ms=[]:=b_.1 hms;subst hms';have hlt:i<ops.toList.length:=by simp;omega
  rw[aA hlt]at hm;simp only[cr,cp,au,bp,aP,dr]at hm;obtain⟨m0,h1,ms0,h2,h3⟩:=hm;simp only[dB,aJ,bT]at h3;obtain⟨rfl,rfl⟩:=h3;have ho:ops[i]?=some ops.toList[i]:=by simp at hlt;simp[hlt]
  obtain⟨k1,k2⟩:=DF h1 hg (show sE P C.k pv Q m env s from hk) hst (N:=fun a' w'=>∃C',Ext C C'/\∃β' env' s',St C' β' env' s' a' w'/\Q .normal env' s') fun _ _ h=>h
  rw[show List.range' i (0+1)=[i]from rfl];simp only[wpOpsIn];rw[ho];simp only;rw[ah (wB k1)];exact k2
 |n+1,i,ms,env,s=>fun hi hms hm hk β a w hst=>by
  have hlt:i<ops.toList.length:=by simp;omega
  rw[aA hlt]at hm;simp only[cr,cp,au]at hm;obtain⟨m0,h1,ms0,h2,h3⟩:=hm;cases ms with
  |nil=>cases hms
  |cons m' ms'=>
  simp only[bP,aP,dB,aJ,bT]at h3;obtain⟨rfl,rfl⟩:=h3;rw[dL];simp only[wpOpsIn];have ho:ops[i]?=some ops.toList[i]:=by simp at hlt;simp[hlt]
  rw[ho];simp only;refine uz (K:=fun env s=>ue P C.k ms' env s (sE P C.k pv Q m)) h1 ?_ hst fun β' env' s' a' w' h4 h5=>Ci hg n (i+1) ms' env' s' gY (by simpa using hms) h2 h5 β' a' w' h4
  simpa only[ue]using hk
theorem I8{P:Program}{k:Nat}{Q:Post}{env:List AV}{s:ij}{ms:List iJ}{m:iJ}(pv:Value)(hg:m.guard=none)(h:ue P k ms env s (sE P k pv Q m)):nj P k (.h_ (ms++[m])) Q env s:=
 fun C hC _ c hc β a w hst=>by
 obtain⟨id,ops,rfl,hm⟩:=A0 hc;subst hC;refine wpIn_region ?_;have hsz:ms.length+1=ops.size:=by
  have:=gu _ _ hm;simpa using this
 have:=Ci (Q:=Q) (ops:=ops) hg ms.length 0 ms env s gY rfl (by simpa using hm) h β a w hst;rwa [show ops.size=ms.length+1 by omega,dG]
theorem Fl{P:Program}{C:Ctx}{ops:Array Oper}{Q:Post}{pv:Value}{m0:iJ}(hg0:m0.guard=none){ms:List iJ}{after:List gP}{x:Nat->AV}{δ:Nat->List (Nat×Ob)}{ft:Nat->List Nat×List Nat}
 {E:Nat->List AV} {S:Nat->ij} (hm:ops.toList.mapM (pU P ops)=some ((ms++[m0]).map iJ.erase)) (hlast:∀i,i<ms.length->i∈(Gw after).getD ms.length []) (ha:after=ops.toList.map fun o=>(o.after.toList.filter (Region.binds .any)).map (·.on))
 (h:qY P C.k ms after x δ ft E S) (hQ:sE P C.k pv Q m0 (E ms.length) (S ms.length)):
 ∀(fuel:Nat)(listed:Array Bool)(env:List AV)(s:ij)(β:iE)(a:Act)(w:World),listed.size=ops.size->JC (fun j=>listed.getD j false) ops.size<=fuel->listed.getD ms.length false=false->
  (∀i,listed.getD i false=true->∀e∈after.getD i [],listed.getD e false=true)->Ck E S ms x δ (fun j=>listed.getD j false) env s->St C β env s a w->
  wpAnyIn C.oy 0 P .any ops (fun e a' w'=>∃C',Ext C C'/\∃β' env' s',St C' β' env' s' a' w'/\Q e env' s') fuel listed a w:=by
 obtain⟨hlen,hget⟩:=vF hm;rw[aM,ai]at hlen;have hsz:ms.length+1=ops.size:=by simpa using hlen
 have haf:∀i o,ops[i]?=some o->after.getD i []=(o.after.toList.filter (Region.binds .any)).map (·.on):=fun i o ho=>by rw[ha,ay,bt,Array.getElem?_toList,ho];rfl
 have hcl:xd after (Gw after)=true:=by
  have:=h.ok;simp only[vB,bu]at this;exact this.1
 have hback:∀i,∀e∈after.getD i [],e<i:=fun i e he=>by
  have hc:=hcl;simp only[xd,bu,cy,cW,av]at hc;have hi:i<after.length:=by
   rcases cI i after.length with h'|h'
   ·exact h'
   ·rw[ay,bQ h']at he;simp at he
  exact hc.1 i hi e he
 have isReady:∀{listed:Array Bool},listed.size=ops.size->∀{i:Nat},i<ops.size->listed.getD i false=false->(∀e∈after.getD i [],listed.getD e false=true)->
  i∈Region.ready .any ops listed:=fun{listed} hs {i} hi hu hr=>by
  rw[fH];have ho:ops[i]?=some ops[i]:=cO hi;refine⟨?_,_,ho,fun e he hb=>hr _ ?_⟩
  ·have:i<listed.size:=by omega
   simpa[this]using hu
  ·rw[haf i _ ho];exact bz.2 ⟨e,ej.2 ⟨by simpa using he,hb⟩,rfl⟩
 have none_ready:∀{listed:Array Bool},listed.size=ops.size->(∀i,i<ops.size->listed.getD i false=true)->Region.ready .any ops listed=[]:=fun{listed} hs hall=>by
  cases hr:Region.ready .any ops listed with
  |nil=>rfl
  |cons i rs=>
   have hi:i∈Region.ready .any ops listed:=by rw[hr];exact bh
   obtain⟨h1,o,ho,_⟩:=fH.1 hi;have hl:i<ops.size:=(aV.1 ho).1;have h2:=hall i hl;have:i<listed.size:=by omega
   simp[this]at h1 h2;rw[h1]at h2;cases h2
 have all:∀{listed:Array Bool},listed.size=ops.size->Region.ready .any ops listed=[]->∀i,i<ops.size->listed.getD i false=true:=fun{listed} hs hn i=>by
  induction i using Nat.strongRecOn with
  |ind i ih=>
   intro hi;cases hu:listed.getD i false with
   |true=>rfl
   |false=>
    have:=isReady hs hi hu fun e he=>ih e (hback i e he) (by have:=hback i e he;omega)
    rw[hn]at this;cases this
 have done:∀{listed:Array Bool}{env:List AV}{s:ij},(∀i,i<ms.length->listed.getD i false=true)->
  Ck E S ms x δ (fun j=>listed.getD j false) env s->env=E ms.length/\∀id,sat s id=sat (S ms.length) id:=fun{listed env s} hall hb=>by
  have hb':=hb.env (L':=fun _=>true) fun j hj=>hall j hj
  have e1:env=E ms.length:=by
   refine eA fun t=>?_
   by_cases ht:t<(E 0).length
   ·have h1:=hb'.slot t ht;rw[<-h.slot ht (aF _)]at h1;have l1:t<env.length:=by rw[hb'.len];exact ht
    have l2:t<(E ms.length).length:=by rw[h.len (aF _)];exact ht
    rw[ay,ay,aB l1,aB l2]at h1;rw[aB l1,aB l2];simpa using h1
   ·rw[bQ (by rw[hb'.len];omega),bQ (by rw[h.len (aF _)];omega)]
  exact⟨e1,fun id=>by rw[hb'.obj id,<-h.obj id (aF _)]⟩
 intro fuel;induction fuel with
 |zero=>
  intro listed env s β a w hs hf hu0 hd hb hst;exact absurd (D4 (gh.1 hf) ms.length gY) (by rw[hu0];simp)
 |succ fuel ih=>
  intro listed env s β a w hs hf hu0 hd hb hst;refine⟨fun hn=>absurd (all hs hn ms.length gY) (by rw[hu0];simp),fun i hi=>?_⟩;obtain⟨h1,o,ho,hall⟩:=fH.1 hi;have hl:i<ops.size:=(aV.1 ho).1;have hll:i<listed.size:=by omega
  have hu:listed.getD i false=false:=by simp[hll]at h1⊢;exact h1
  have hr:∀e∈after.getD i [],listed.getD e false=true:=fun e he=>by
   rw[haf i o ho]at he;obtain⟨d,hd1,rfl⟩:=bz.1 he;obtain⟨hd2,hd3⟩:=ej.1 hd1;exact hall d (by simpa using hd2) hd3
  obtain⟨m0',hmi0,hmo⟩:=hget i o (by simpa using ho);rw[bt]at hmi0;obtain⟨m,hmi,rfl⟩:=az.1 hmi0;unfold wpOpIn;rw[ho];simp only;have hset:∀j,j≠i->(listed.setIfInBounds i true).getD j false=listed.getD j false:=fun j hj=>getD_set_ne false (Ne.symm hj)
  have hone:(listed.setIfInBounds i true).getD i false=true:=by simp[hll]
  by_cases hin:i=ms.length
  ·subst hin;rw[bH (aF _),cM]at hmi;cases hmi;have hall':∀i,i<ms.length->listed.getD i false=true:=fun j hj=>yJ hcl hd ms.length hr j (hlast j hj)
   obtain⟨e1,e2⟩:=done hall' hb;rw[<-e1]at hQ;obtain⟨β1,hst1⟩:=iL.Uh (k:=C.k) (env:=env) e2 C β a w rfl hst;have hN:∀a' w',(∃C',Ext C C'/\∃β' env' s',St C' β' env' s' a' w'/\Q .normal env' s')->
    wpAnyIn C.oy 0 P .any ops (fun e a' w'=>∃C',Ext C C'/\∃β' env' s',St C' β' env' s' a' w'/\Q e env' s') fuel (listed.setIfInBounds ms.length true) a' w':=fun a' w' hq=>by
    have hnr:Region.ready .any ops (listed.setIfInBounds ms.length true)=[]:=none_ready (by simpa using hs) fun j hj=>by
     by_cases hj':j=ms.length
     ·subst hj';exact hone
     ·rw[hset j hj'];exact hall' j gY
    cases fuel with
    |zero=>exact⟨hnr,hq⟩
    |succ fuel=>exact⟨fun _=>hq,fun j hj=>by rw[hnr]at hj;cases hj⟩
   obtain⟨k1,k2⟩:=DF (Q:=Q) hmo hg0 hQ hst1 hN;rw[ah (wB k1)];exact k2
  ·have hlt:i<ms.length:=by omega
   rw[aZ hlt]at hmi;refine uz (K:=fun env' s'=>env'=iU m.dst env (x i)/\s'=qt s (δ i)) hmo (h.run hd hmi hu hr hb) hst fun β' env' s' a' w' h4 h5=>?_
   obtain⟨rfl,rfl⟩:=h5;refine ih _ _ _ β' a' w' (by simpa using hs) ?_ (by rw[hset _ (Ne.symm hin)];exact hu0) (fun j hj e he=>?_) (h.next hd hmi hu hr hone hset hb) h4
   ·have:=(F3 (L:=fun j=>listed.getD j false) (L':=fun j=>(listed.setIfInBounds i true).getD j false) hu hone hset (n:=ops.size)).2 hl;omega
   ·by_cases hji:j=i
    ·subst hji;exact fQ (hr e he)
    ·rw[hset j hji]at hj;exact fQ (hd j hj e he)
theorem Rz{P:Program}{k:Nat}{Q:Post}{env:List AV}{s:ij}{ms:List iJ}{m0:iJ}{after:List gP}(pv:Value)(hP:P.follows .mixedOrders=true)(hg0:m0.guard=none)
 (hlast:((List.range ms.length).all fun i=>((Gw after).getD ms.length []).contains i)=true)
 (h:uV P k (fun acc env s=>vB ms after acc.reverse=true/\sE P k pv Q m0 env s) ms [] env s):nj P k (.draw (ms++[m0]) after) Q env s:=fun C hC _ c hc β a w hst=>by
 obtain⟨id,ops,rfl,hm,ha⟩:=EX hc;subst hC;obtain⟨x,δ,ft,E,S,hE,hS,h1,h2,h3⟩:=zG h;rw[aW,List.reverse_reverse]at h2;obtain⟨hlen,_⟩:=vF hm;rw[aM,ai]at hlen;have hsz:ms.length+1=ops.size:=by simpa using hlen
 have hrep:∀j,(Array.replicate ops.size false).getD j false=false:=fun j=>by
  rw[cc,Array.getElem?_replicate];split<;>rfl
 have g0:∀{β:Type}{f:Nat->Option β}{b:β}(n:Nat),gl f (fun j=>(Array.replicate ops.size false).getD j false) b n=b:=fun{β f b} n=>by
  induction n with
  |zero=>rfl
  |succ n ih=>simp only[gl];rw[ak (by rw[hrep];simp)];exact ih
 have hu:∀n,JC (fun j=>(Array.replicate ops.size false).getD j false) n<=n:=fun n=>by
  induction n with
  |zero=>exact aF _
  |succ n ih=>simp only[JC];rw[hrep];simp only;omega
 have hlast':∀i,i<ms.length->i∈(Gw after).getD ms.length []:=fun i hi=>by
  rw[cy]at hlast;simpa using hlast i (cW.2 hi)
 refine wpIn_region_any hP (Fl hg0 hm hlast' ha ⟨h1,h2⟩ h3 ops.size _ env s β a _ (by simp) (hu _) (hrep _) (fun i hi=>?_) ⟨by rw[hE],fun t ht=>?_,fun id'=>?_⟩ hst.drew)
 ·rw[hrep]at hi;cases hi
 ·rw[g0,hE]
 ·rw[g0,hS]
def GJ(pv:Value)(rs:List tc)(R:AV->ij->Prop):Post
 |.normal,env,s=>wo env s rs fun xs=>R (.mj [tP xs,okB true]) s
 |.ret,env,s=>wo env s rs fun xs=>R (.mj [tP xs,okB true]) s
 |.panic ch,_,s=>ch=[{v:=pv,recovered:=false}]/\R (.mj [okB false,okB false]) s
 |_,_,_=>False
theorem yU{P:Program}{fn:Func}{tmps:Array Value}{R:Ending->World->Prop}{ch:List PanicEntry}(Z:World->Prop){B:Nat}
 (hZ:∀w w' D,Z w->w.grownBy w' (some D)->B<=D->(∃o:Obj,w.heap[D]?=some o/\Bo o)->Z w')
 (hfin:∀w,Z w->R (.panicked ch) w):
 ∀(Ds:List Nat)(w:World),Ds.Nodup->(∀D∈Ds,B<=D/\w.heap[D]?=some (.deferred (some [])))->Z w->LeavesInM Fence.wide 0 P fn tmps R (Ds.map yV) (.panicking ch) w
 |[],w,_,_,hz=>by simp only[dr,LeavesInM,LeavesIn];exact hfin w hz
 |D::Ds,w,hn,hd,hz=>by
  simp only[aP,LeavesInM];have h1:=hd D bh;rw[cF]at hn;refine⟨by simp,.inl ⟨D,_,rfl,run_takeDeferred h1.2,yU Z hZ hfin Ds _ hn.2 (fun D' hD'=>?_) ?_⟩⟩
  ·have h2:=hd D' (a_ _ hD');exact⟨h2.1,(dn fun e=>hn.1 (by rw[<-e];exact hD')).trans h2.2⟩
  ·exact hZ _ _ D hz (eT w D _) h1.1 ⟨_,h1.2,rfl,rfl⟩
theorem MB{pv:Value}{P:Program}{f:Nat}{fn:Func}{c:Code}{mc:ie}{rs:List tc}{args:List AV}{s:ij}{k n:Nat}{R:AV->ij->Prop}
 (hf:P.funcs[f]?=some fn) (hb:fn.body=some c) (hm:mW P c=some mc.erase) (hn:fn.ntmps=n) (hr:fn.results.toList.mapM (xR P)=some rs)
 (h:nj P k mc (GJ pv rs R) (args++List.replicate (n-args.length) .ig) s):pG (XE pv) P f args s k R:=by
 intro C vs hCs hCk hinv hargs;have hlen:=AV.iP hargs;let C0:Ctx:={C with ro:=none,dom:=C.w.heap.size,nm:=false};refine callsIn_wide.1 (callsIn_of_wp_marks (F:=Fence.wide) (n:=0) hf hb trivial ?_);have hst:St C0 C.β (args++List.replicate (n-args.length) .ig) s {tmps:=vs++Array.replicate (fn.ntmps-vs.size) undef,defers:=[]} C.w:=by
  refine⟨.nil,hCs▸hinv.ro none C.w.heap.size,?_,fun i x hx=>?_⟩
  ·simp at hlen;simp[hn,hlen]
  ·rw[hCs]at hargs;rw[eK]at hx;split at hx
   ·rename_i hi;have hi2:i<vs.size:=by simp at hlen;omega
    have h1:(vs++Array.replicate (fn.ntmps-vs.size) undef).getD i undef=vs[i]:=by simp[cc,fA,hi2]
    rw[h1];exact(AV.jD.1 hargs).2 i x _ hx (by simp[hi2])
   ·have:x=.ig:=by
     rw[dj]at hx;split at hx
     ·cases hx;rfl
     ·cases hx
    subst this;simp[AV.ok]
 refine dH (h C0 hCk (.inr ⟨rfl,rfl,aF _⟩) c hm C.β _ _ hst) fun e a' w' he=>?_
 obtain⟨C',hx,β',env',s',hst',hq⟩:=he;have fin:wo env' s' rs (fun xs=>R (.mj [tP xs,okB true]) s')->LeavesInM Fence.wide 0 P fn a'.tmps (fun e w'=>∃v x β' s',XE pv e v/\Inv C β' s' w'/\AV.ok β' (C.ir β' s') w' x v/\R x s') a'.defers .returning w':=fun hq=>by
  obtain⟨_,Ds,hDs,hnd,hmk⟩:=hst'.defers;rw[hDs];refine xP (B:=C.w.heap.size) (fun w=>Inv C0 β' s' w/\∀i x,env'[i]?=some x->AV.ok β' (C0.ir β' s') w x (a'.tmps.getD i undef)) (fun w1 w2 D hz hg hB ho=>?_) (fun w1 hz=>?_) Ds w' hnd (fun D hD=>?_) ⟨hx.inv _ _ _ hst'.inv,fun i x hi=>?_⟩
  ·have hr:∀r,some D=some r->∃o:Obj,w1.heap[r]?=some o/\Bo o:=fun r e=>by cases e;exact ho
   exact⟨hz.1.pN hg fun r e=>⟨by cases e;exact hB,hr r e⟩,fun i x hi=>AV.iY (fun b o v hc hn=>⟨eL hc hg (Cy hr),hn⟩) (fun _=>.refl _) _ _ (hz.2 i x hi)⟩
  ·have hst1:St C0 β' env' s' {a' with defers:=[]} w1:=⟨.nil,hz.1,hst'.len,hz.2⟩;obtain⟨us,xs,h1,h2,h3⟩:=CO hst1 fn.results.toList rs _ hr hq;refine⟨if h:us.toArray.size=1 then us.toArray[0]else .tuple us.toArray,?_,.tuple #[if h:us.toArray.size=1 then us.toArray[0]else .tuple us.toArray,.bool true],.mj [tP xs,okB true],β',s',.inl ⟨_,rfl,rfl⟩,hz.1.Y1,?_,h3⟩
   ·rw[Aq,ee];simp only[aY,Sem.run_map];rw[h1];simp only[aH,bq]
   ·have hl:=AV.iP h2;have hfb:C0.ir β' s'=C.ir β' s':=rfl;rw[hfb]at h2
    suffices hq:AV.ok β' (C.ir β' s') w1 (tP xs) (if h:us.toArray.size=1 then us.toArray[0]else .tuple us.toArray) by
     simp only[AV.ok,AV.iK,okB,D.ok];exact⟨_,rfl,_,_,rfl,hq,_,_,rfl,⟨rfl,rfl⟩,rfl⟩
    match xs,us,h2 with
    |[x],[u],h2=>
     simp only[AV.iK]at h2;obtain⟨_,_,h4,h5,h6⟩:=h2;cases h4;simpa[tP]using h5
    |[],[],h2=>simp only[tP,AV.ok];exact⟨#[],by simp,by simp[AV.iK]⟩
    |x::y::xs,u::v::us,h2=>
     simp only[tP,AV.ok];exact⟨(u::v::us).toArray,by simp,by simpa using h2⟩
  ·obtain⟨h1,h2,h3,h4⟩:=hmk D hD;exact⟨by rw[hx.dom]at h1;exact h1,(hst'.inv.qq D h2 h4).trans h3⟩
  ·have:=hst'.env i x hi;rwa [hx.ir]at this
 cases e with
 |normal=>exact fin hq
 |ret=>exact fin hq
 |exit id=>exact hq.elim
 |goto l=>exact hq.elim
 |panic ch=>
  obtain⟨rfl,hr'⟩:=hq;obtain⟨_,Ds,hDs,hnd,hmk⟩:=hst'.defers;show LeavesInM _ _ _ _ _ _ _ _ _;rw[hDs];refine yU (B:=C.w.heap.size) (fun w=>Inv C0 β' s' w) (fun w1 w2 D hz hg hB ho=>?_) (fun w1 hz=>?_) Ds w' hnd (fun D hD=>?_) (hx.inv _ _ _ hst'.inv)
  ·have hr:∀r,some D=some r->∃o:Obj,w1.heap[r]?=some o/\Bo o:=fun r e=>by cases e;exact ho
   exact hz.pN hg fun r e=>⟨by cases e;exact hB,hr r e⟩
  ·refine⟨.tuple #[.bool false,.bool false],.mj [okB false,okB false],β',s',.inr ⟨rfl,rfl⟩,hz.Y1,?_,hr'⟩;simp only[AV.ok,AV.iK,okB,D.ok];exact⟨_,rfl,_,_,rfl,⟨rfl,rfl⟩,_,_,rfl,⟨rfl,rfl⟩,rfl⟩
  ·obtain⟨h1,h2,h3,h4⟩:=hmk D hD;exact⟨by rw[hx.dom]at h1;exact h1,(hst'.inv.qq D h2 h4).trans h3⟩
 |outgrown=>exact hq.elim
theorem kH.VY{pv:Value}{P:Program}{f:Nat}{mc:ie}{n:Nat}{rs:List tc}(h:kH P f mc n rs){args:List AV}{s:ij}{k:Nat}{R:AV->ij->Prop}
 (hm:nj P k mc (GJ pv rs R) (args++List.replicate (n-args.length) .ig) s):pG (XE pv) P f args s k R:=by
 obtain⟨fn,h1,h2,h3,h4⟩:=h.fn;rw[au]at h2;obtain⟨c,h5,h6⟩:=h2;exact MB h1 h5 h6 h3 h4 hm
end mm
