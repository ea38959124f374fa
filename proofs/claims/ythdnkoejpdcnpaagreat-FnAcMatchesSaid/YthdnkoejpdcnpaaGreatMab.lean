/- A part of the proof about FnAcMatches (LaAct, LaPan). -/
import Derived.Test.YthdnkoejpdcnpaaGreatMaa
set_option linter.all false
namespace kJ
open Go
abbrev Post:=Exit->List AV->gA->Prop
structure Ext(C C':Ctx):Prop where
 size:C.w.heap.size<=C'.w.heap.size
 k:C'.k=C.k
 ro:C'.ro=C.ro
 nm:C'.nm=C.nm
 dom:C'.dom=C.dom
 O:C'.O=C.O
 inv:∀β s w,Inv C' β s w->Inv C β s w
theorem Ext.refl(C:Ctx):Ext C C:=⟨au _,rfl,rfl,rfl,rfl,rfl,fun _ _ _ h=>h⟩
theorem Ext.trans{C C' C'':Ctx}(h:Ext C C')(h':Ext C' C''):Ext C C'':=
 ⟨bN h.size h'.size,h'.k.trans h.k,h'.ro.trans h.ro,h'.nm.trans h.nm,h'.dom.trans h.dom,h'.O.trans h.O,fun β s w hi=>h.inv β s w (h'.inv β s w hi)⟩
theorem Ext.sV{C C':Ctx}(h:Ext C C'):C'.sV=C.sV:=by unfold Ctx.sV;rw[h.ro]
theorem Ext.gD{C C':Ctx}(h:Ext C C')(β:gI)(s:gA):C'.gD β s=C.gD β s:=by unfold Ctx.gD;rw[h.O]
def Ctx.plain(C:Ctx):Prop:=C.ro=none/\C.nm=false/\C.dom<=C.w.heap.size
theorem Ext.plain{C C':Ctx}(h:Ext C C')(hp:C.plain):C'.plain:=⟨h.ro.trans hp.1,h.nm.trans hp.2.1,by rw[h.dom];exact bN hp.2.2 h.size⟩
def W6(P:Program)(C:Ctx)(c:Code)(Q:Post)(env:List AV)(s:gA):Prop:=
 ∀β a w,St C β env s a w->c.wpIn C.sV 0 P (fun e a' w'=>∃C',Ext C C'/\∃β' env' s',St C' β' env' s' a' w'/\Q e env' s') a w
def gB.flat:gB->Bool
 |.seq a b=>a.flat&&b.flat
 |.cond _ a b=>a.flat&&b.flat
 |.block _ a=>a.flat
 |.loop a=>a.flat
 |.ghost a=>a.flat
 |.scope a=>a.flat
 |.Sa .. =>false
 |_=>true
def oZ(P:Program)(k:Nat)(mc:gB)(Q:Post)(env:List AV)(s:gA):Prop:=
 ∀C:Ctx,C.k=k->(mc.flat=true\/C.plain)->∀c,nL P c=some mc.erase->W6 P C c Q env s
def AJ(K:List AV->gA->Prop)(Q:Post):Post
 |.normal,env,s=>K env s
 |e,env,s=>Q e env s
def Bl(id:Nat)(Q:Post):Post
 |.exit id',env,s=>if id'=id then Q .normal env s else Q (.exit id') env s
 |e,env,s=>Q e env s
def QI(Q:Post):Post
 |.goto _,_,_=>False
 |e,env,s=>Q e env s
def AR(P:Program)(k0:Nat):List h_->List AV->gA->(List AV->gA->Prop)->Prop
 |[],env,s,K=>K env s
 |m::ms,env,s,K=>match m.guard with
  |none=>oW P k0 m.op env s fun x env s=>AR P k0 ms (gU m.dst env x) s K
  |some (g,want)=>match g with
   |none=>AR P k0 ms (gU m.dst env (.l_ [])) s K
   |some d=>match env.getD d .hM with
    |.d (.lit (.bool b))=>Br b want (oW P k0 m.op env s fun x env s=>AR P k0 ms (gU m.dst env x) s K) (AR P k0 ms (gU m.dst env (.l_ [])) s K)
    |.l_ []=>AR P k0 ms (gU m.dst env (.l_ [])) s K
    |_=>False
theorem JF{P:Program}{c:Code}(h:nL P c=some .skip):c=.skip:=by
 cases c<;>simp[nL,aB,aF]at h⊢
 case region=>obtain⟨ms,_,h⟩:=h;split at h<;>cases h
theorem LV{P:Program}{c:Code}(h:nL P c=some .ret):c=.ret:=by
 cases c<;>simp[nL,aB,aF]at h⊢
 case region=>obtain⟨ms,_,h⟩:=h;split at h<;>cases h
theorem JD{P:Program}{c:Code}{id:Nat}(h:nL P c=some (.exit id)):c=.exit id:=by
 cases c<;>simp[nL,aB,aF]at h⊢
 case region=>obtain⟨ms,_,h⟩:=h;split at h<;>cases h
 case exit=>exact h
theorem LW{P:Program}{c:Code}{x y:gB}(h:nL P c=some (.seq x y)):∃a b,c=.seq a b/\nL P a=some x/\nL P b=some y:=by
 cases c<;>simp[nL,aB,aF]at h⊢
 case region=>obtain⟨ms,_,h⟩:=h;split at h<;>cases h
 case seq=>exact⟨_,_,⟨rfl,rfl⟩,h⟩
theorem JB{P:Program}{c:Code}{o:Operand}{x y:gB}(h:nL P c=some (.cond o x y)):∃a b,c=.cond o a b/\nL P a=some x/\nL P b=some y:=by
 cases c<;>simp[nL,aB,aF]at h⊢
 case region=>obtain⟨ms,_,h⟩:=h;split at h<;>cases h
 case cond=>obtain⟨x',h1,y',h2,rfl,rfl,rfl⟩:=h;exact⟨_,_,⟨rfl,rfl,rfl⟩,h1,h2⟩
theorem GR{P:Program}{c:Code}{id:Nat}{x:gB}(h:nL P c=some (.block id x)):∃a,c=.block id a/\nL P a=some x:=by
 cases c<;>simp[nL,aB,aF]at h⊢
 case region=>obtain⟨ms,_,h⟩:=h;split at h<;>cases h
 case block=>exact⟨_,⟨h.2,rfl⟩,h.1⟩
theorem JE{P:Program}{c:Code}{x:gB}(h:nL P c=some (.loop x)):∃a,c=.loop a/\nL P a=some x:=by
 cases c<;>simp[nL,aB,aF]at h⊢
 case region=>obtain⟨ms,_,h⟩:=h;split at h<;>cases h
 case loop=>exact h
theorem LU{P:Program}{c:Code}{ms:List h_}(h:nL P c=some (.gv ms)):∃id ops,c=.region id ops false/\ops.toList.mapM (ta P ops)=some ms:=by
 cases c<;>simp[nL,aB,aF]at h⊢
 case region=>
  obtain⟨ms',h1,h2⟩:=h;split at h2
  ·cases h2
  ·rename_i hd;cases h2;exact⟨_,_,⟨rfl,rfl,by simpa using hd⟩,h1⟩
section
variable{P:Program}{k:Nat}{Q:Post}{env:List AV}{s:gA}
theorem EO{x y:Bool}{p:Prop}(h:(x&&y)=true\/p):(x=true\/p)/\(y=true\/p):=by
 rcases h with h|h
 ·rw[bL]at h;exact⟨.inl h.1,.inl h.2⟩
 ·exact⟨.inr h,.inr h⟩
theorem RZ(h:Q .normal env s):oZ P k .skip Q env s:=fun C _ _ c hc β a w hst=>by rw[JF hc];exact wpIn_skip ⟨C,.refl C,β,env,s,hst,h⟩
theorem Ui(h:Q .ret env s):oZ P k .ret Q env s:=fun C _ _ c hc β a w hst=>by rw[LV hc];exact wpIn_ret ⟨C,.refl C,β,env,s,hst,h⟩
theorem RX{id:Nat}(h:Q (.exit id) env s):oZ P k (.exit id) Q env s:=fun C _ _ c hc β a w hst=>by rw[JD hc];exact wpIn_exit ⟨C,.refl C,β,env,s,hst,h⟩
theorem Uj{x y:gB}(h:oZ P k x (AJ (fun env s=>oZ P k y Q env s) Q) env s):oZ P k (.seq x y) Q env s:=fun C hC hf c hc β a w hst=>by
 obtain⟨c1,c2,rfl,h1,h2⟩:=LW hc;obtain⟨f1,f2⟩:=EO hf;refine wpIn_seq (fk (h C hC f1 c1 h1 β a w hst) fun e a' w' he=>?_);obtain⟨C',hx,β',env',s',hst',hq⟩:=he;cases e with
 |normal=>
  have:=hq C' (hx.k.trans hC) (f2.imp id hx.plain) c2 h2 β' a' w' hst';rw[hx.sV]at this;exact fk this fun e a' w' ⟨C'',hx',r⟩=>⟨C'',hx.trans hx',r⟩
 |exit id=>exact⟨C',hx,β',env',s',hst',hq⟩
 |goto l=>exact⟨C',hx,β',env',s',hst',hq⟩
 |ret=>exact⟨C',hx,β',env',s',hst',hq⟩
 |panic ch=>exact⟨C',hx,β',env',s',hst',hq⟩
 |outgrown=>exact⟨C',hx,β',env',s',hst',hq⟩
theorem Ox{id:Nat}{x:gB}(h:oZ P k x (Bl id Q) env s):oZ P k (.block id x) Q env s:=fun C hC hf c hc β a w hst=>by
 obtain⟨c1,rfl,h1⟩:=GR hc;refine wpIn_block (fk (h C hC hf c1 h1 β a w hst) fun e a' w' he=>?_);obtain⟨C',hx,β',env',s',hst',hq⟩:=he;cases e with
 |exit id'=>
  simp only[Bl]at hq;simp only[Exit.inBlock];split<;>rename_i hid<;>simp only[hid,aO,aI]at hq<;>exact⟨C',hx,β',env',s',hst',hq⟩
 |normal=>exact⟨C',hx,β',env',s',hst',hq⟩
 |goto l=>exact⟨C',hx,β',env',s',hst',hq⟩
 |ret=>exact⟨C',hx,β',env',s',hst',hq⟩
 |panic ch=>exact⟨C',hx,β',env',s',hst',hq⟩
 |outgrown=>exact⟨C',hx,β',env',s',hst',hq⟩
theorem GW{P:Program}{c:Code}{x:gB}(h:nL P c=some (.scope x)):∃a,c=.scope a/\nL P a=some x:=by
 cases c<;>simp[nL,aB,aF]at h⊢
 case region=>obtain⟨ms,_,h⟩:=h;split at h<;>cases h
 case scope=>exact h
theorem GU{P:Program}{c:Code}(h:nL P c=some .label):∃l,c=.label l:=by
 cases c<;>simp[nL,aB,aF]at h⊢
 case region=>obtain⟨ms,_,h⟩:=h;split at h<;>cases h
section
variable{b:Frame}{a:Act}{ks:List Item}{cs:List Frame}{w:World}
theorem q_{c:Code}:step P (lone (b.atR a (.code (.scope c)::ks)) cs w)=.next (lone (b.atR a (.code c:: .inScope c::ks)) cs w):=
 step_lone_go (by simp[stepG,stepG.exec,Frame.atR])
theorem CH{c:Code}:step P (lone (b.atR a (.inScope c::ks)) cs w)=.next (lone (b.atR a ks) cs w):=
 step_lone_go (by simp[stepG,stepG.exec,Frame.atR])
theorem Hz{F:Fence}{n:Nat}{Q:Exit->Act->World->Prop}{c:Code}(h:c.wpIn F n P (fun e a w=>(∀l,e≠ .goto l)/\Q e a w) a w):(Code.scope c).wpIn F n P Q a w:=by
 intro b k cs hro hb hr;have h0:(lone (b.atR a (.code (.scope c)::k)) cs w).fenced P F:=fenced_calm hb hr rfl;obtain⟨e,a₁,w₁,hq,harr⟩:=h b (.inScope c::k) cs hro hb hr;cases e with
 |normal=>exact⟨.normal,a₁,w₁,hq.2,.head h0 q_ (StepsIn.trans harr (.one (fenced_calm hb hr rfl) CH))⟩
 |exit id'=>
  have hx:exitTo id' (.inScope c::k)=exitTo id' k:=by simp[exitTo]
  exact⟨.exit id',a₁,w₁,hq.2,fun k' hk=>.head h0 q_ (harr.1 k' (by rw[hx];exact hk)),
   fun hr' hk=>let⟨k₁,h1,h2⟩:=harr.2 hr' (by rw[hx];exact hk);⟨k₁,h1,.head h0 q_ h2⟩⟩
 |goto l=>exact absurd rfl (hq.1 l)
 |ret=>exact⟨_,a₁,w₁,hq.2,.of_steps (.one h0 q_) harr⟩
 |panic ch=>exact⟨_,a₁,w₁,hq.2,.of_steps (.one h0 q_) harr⟩
 |outgrown=>exact⟨_,a₁,w₁,hq.2,.of_steps (.one h0 q_) harr⟩
end
theorem Oz(h:Q .normal env s):oZ P k .label Q env s:=fun C _ _ c hc β a w hst=>by
 obtain⟨l,rfl⟩:=GU hc;exact wpIn_label ⟨C,.refl C,β,env,s,hst,h⟩
theorem OB{x:gB}(h:oZ P k x (QI Q) env s):oZ P k (.scope x) Q env s:=fun C hC hf c hc β a w hst=>by
 obtain⟨c1,rfl,h1⟩:=GW hc;refine Hz (fk (h C hC hf c1 h1 β a w hst) fun e a' w' he=>?_);obtain⟨C',hx,β',env',s',hst',hq⟩:=he;cases e with
 |goto l=>exact hq.elim
 |_=>exact⟨(fun l e=>nomatch e),C',hx,β',env',s',hst',hq⟩
theorem RV{o:Operand}{x y:gB}{b:Bool}(hb:ev env o=.d (.lit (.bool b)))(h:Br b true (oZ P k x Q env s) (oZ P k y Q env s)):
 oZ P k (.cond o x y) Q env s:=fun C hC hf c hc β a w hst=>by
 obtain⟨c1,c2,rfl,h1,h2⟩:=JB hc;obtain⟨f1,f2⟩:=EO hf;have hv:=hst.ev o;rw[hb]at hv;refine wpIn_cond (qK hv) ?_;unfold Br at h;cases b with
 |true=>exact h C hC f1 c1 h1 β a w hst
 |false=>exact h C hC f2 c2 h2 β a w hst
def gM(k:Nat)(env:List AV)(s:gA)(env':List AV)(s':gA):Prop:=
 ∀(C:Ctx)(β:gI)(a:Act)(w:World),C.k=k->St C β env s a w->∃β',St C β' env' s' a w
theorem Oy{x:gB}{env':List AV}{s':gA}(hw:gM k env s env' s')(h:oZ P k x Q env' s'):oZ P k (.ghost x) Q env s:=fun C hC hf c hc β a w hst=>by
 obtain⟨β',hst'⟩:=hw C β a w hC hst;exact h C hC hf c hc β' a w hst'
theorem RY{x:gB}{ι:Type}(E:ι->List AV)(S:ι->gA)(inv:ι->Prop)(μ:ι->Nat)(i0:ι)(h0:inv i0)(hw:gM k env s (E i0) (S i0))
 (round:∀i,inv i->oZ P k x (AJ (fun env' s'=>∃i',inv i'/\μ i'<μ i/\gM k env' s' (E i') (S i')) Q) (E i) (S i)):oZ P k (.loop x) Q env s:=
 fun C hC hf c hc β a w hst=>by
 obtain⟨c1,rfl,h1⟩:=JE hc;obtain⟨β0,hst0⟩:=hw C β a w hC hst;intro b kk cs hro hb hr;have key:∀n i C' β a w,Ext C C'->μ i=n->inv i->St C' β (E i) (S i) a w->
  ∃e a' w',(∃C'',Ext C C''/\∃β' env' s',St C'' β' env' s' a' w'/\Q e env' s')/\ArrivesIn (Machine.fenced P C.sV) P (lone (b.atR a (.code c1:: .inLoop c1::kk)) cs w) b kk cs e a' w':=by
  intro n;induction n using Nat.strongRecOn with
  |_ n ih=>
   intro i C' β a w hx hn hi hst;have hrd:=round i hi C' (hx.k.trans hC) (hf.imp id hx.plain) c1 h1 β a w hst;rw[hx.sV]at hrd;obtain⟨e,a₁,w₁,hq,harr⟩:=hrd b (.inLoop c1::kk) cs hro hb hr;obtain⟨C'',hx',β',env',s',hst',hq⟩:=hq;have hxx:=hx.trans hx';cases e with
   |normal=>
    obtain⟨i',hi',hlt,hwk⟩:=hq;obtain⟨β2,hst2⟩:=hwk C'' β' a₁ w₁ (hxx.k.trans hC) hst';obtain⟨e₂,a₂,w₂,hq₂,harr₂⟩:=ih (μ i') (hn▸hlt) i' C'' β2 a₁ w₁ hxx rfl hi' hst2;exact⟨e₂,a₂,w₂,hq₂,.of_steps (StepsIn.trans harr (.one (fenced_calm hb hr rfl) stepR_inLoop)) harr₂⟩
   |exit id=>exact⟨_,a₁,w₁,⟨C'',hxx,β',env',s',hst',hq⟩,.pass (x:=.inLoop c1) rfl (fun _ _=>.inl (by simp)) harr⟩
   |goto l=>exact⟨_,a₁,w₁,⟨C'',hxx,β',env',s',hst',hq⟩,.pass (x:=.inLoop c1) rfl (fun _ _=>.inl (by simp)) harr⟩
   |ret=>exact⟨_,a₁,w₁,⟨C'',hxx,β',env',s',hst',hq⟩,.pass (x:=.inLoop c1) rfl (fun _ _=>.inl (by simp)) harr⟩
   |panic ch=>exact⟨_,a₁,w₁,⟨C'',hxx,β',env',s',hst',hq⟩,.pass (x:=.inLoop c1) rfl (fun _ _=>.inl (by simp)) harr⟩
   |outgrown=>exact⟨_,a₁,w₁,⟨C'',hxx,β',env',s',hst',hq⟩,.pass (x:=.inLoop c1) rfl (fun _ _=>.inl (by simp)) harr⟩
 obtain⟨e,a',w',hq,harr⟩:=key _ i0 C β0 a w (.refl C) rfl h0 hst0;exact⟨e,a',w',hq,.of_steps (.one (fenced_calm hb hr rfl) stepR_loop) harr⟩
end
theorem CD{P:Program}{ops:Array Oper}{o:Oper}{m:h_}(h:ta P ops o=some m.erase):
 m.op.erase=(lR P o).getD .dead/\m.dst=o.dst/\m.guard=o.guard.map fun(j,b)=>((ops[j]?).bind (·.dst),b):=by
 unfold ta h_.erase at h;simp only[aQ,h_.mk.injEq]at h;exact⟨h.2.1.symm,h.1.symm,h.2.2.symm⟩
theorem FP{o:Oper}{y:Nat->Option Bool}(h:o.guard=none):Region.wanted o y=true:=by simp[Region.wanted,h]
theorem D5{C:Ctx}{β:gI}{env:List AV}{s:gA}{a:Act}{w:World}(hst:St C β env s a w){ops:Array Oper}{j d:Nat}{b:Bool}
 (hd:(ops[j]?).bind (·.dst)=some d) (hb:env.getD d .hM=.d (.lit (.bool b))):yielded ops a.tmps j=some b:=by
 have h1:=hst.ev (.tmp d);simp only[ev]at h1;rw[hb]at h1;have h1:=qK h1;simp only[Act.eval]at h1;unfold yielded;rw[hd];simp only[aa];have hlt:d<a.tmps.size:=by
  rcases cu d a.tmps.size with h|h
  ·exact h
  ·have:a.tmps.getD d undef=undef:=by simp[cm,Array.getElem?_eq_none h]
   rw[this]at h1;cases h1
 have h2:a.tmps[d]?=some (.bool b):=by
  rw[cK hlt];rw[cm,cK hlt]at h1;simpa using h1
 rw[h2]
theorem D6{C:Ctx}{β:gI}{env:List AV}{s:gA}{a:Act}{w:World}(hst:St C β env s a w){ops:Array Oper}{j d:Nat}
 (hd:(ops[j]?).bind (·.dst)=some d) (hb:env.getD d .hM=.l_ []):yielded ops a.tmps j=none:=by
 have h1:=hst.ev (.tmp d);simp only[ev]at h1;rw[hb]at h1;simp only[AV.ok,AV.gO,Act.eval]at h1;obtain⟨vs,h1,_⟩:=h1;unfold yielded;rw[hd];simp only[aa];cases hx:a.tmps[d]? with
 |none=>rfl
 |some v=>
  have:a.tmps.getD d undef=v:=by rw[cm,hx];rfl
  rw[this]at h1;subst h1;rfl
theorem AF{P:Program}{C:Ctx}{ops:Array Oper}{o:Oper}{m:h_}(hm:ta P ops o=some m.erase){env:List AV}{s:gA}{K:List AV->gA->Prop}
 (hk:match m.guard with
  |none=>oW P C.k m.op env s fun x env s=>K (gU m.dst env x) s
  |some (g,want)=>match g with
   |none=>K (gU m.dst env (.l_ [])) s
   |some d=>match env.getD d .hM with
    |.d (.lit (.bool b))=>Br b want (oW P C.k m.op env s fun x env s=>K (gU m.dst env x) s) (K (gU m.dst env (.l_ [])) s)
    |.l_ []=>K (gU m.dst env (.l_ [])) s
    |_=>False)
 {β:gI} {a:Act} {w:World} (hst:St C β env s a w) {Q:Exit->Act->World->Prop} {next:Act->World->Prop}
 (hn:∀β' env' s' a' w',St C β' env' s' a' w'->K env' s'->next a' w'):
 if Region.wanted o (yielded ops a.tmps)then o.wpIn C.sV 0 P a w next Q else(∀f,o.about P w a.eval=some f->C.sV.fn f)/\next (a.put o.dst undef) w:=by
 obtain⟨h1,h2,h3⟩:=CD hm;have run:oW P C.k m.op env s (fun x env s=>K (gU m.dst env x) s)->o.wpIn C.sV 0 P a w next Q:=fun h=>by
  rw[h2]at h;have h1':lR P o=some m.op.erase:=by
   cases hq:lR P o with
   |some x=>rw[hq]at h1;rw[h1];rfl
   |none=>
    rw[hq]at h1;simp only[Option.getD_none]at h1;have:m.op=.dead:=by cases hmo:m.op<;>rw[hmo]at h1<;>simp[ri.erase]at h1⊢
    rw[this]at h;exact h.elim
  have hnd:∀c,o.op≠ .defer c:=fun c hc=>by unfold lR at h1';rw[hc]at h1';cases h1'
  have:=Ka h1' h hnd Q β a w hst;exact Oper.wpIn_mono (fun a' w' ⟨β',env',s',h4,h5⟩=>hn β' env' s' a' w' h4 h5) this
 have skip:K (gU m.dst env (.l_ [])) s->(∀f,o.about P w a.eval=some f->C.sV.fn f)/\next (a.put o.dst undef) w:=fun h=>by
  rw[h2]at h;refine⟨fun _ _=>trivial,?_⟩;exact hn _ _ _ _ _ (hst.put (x:=.l_ []) (v:=undef) (by simp[AV.ok,AV.gO,undef]) o.dst) h
 cases hg:o.guard with
 |none=>
  rw[hg]at h3;simp only[eN]at h3;rw[h3]at hk;rw[ah (FP hg)];exact run hk
 |some p=>
  obtain⟨j,want⟩:=p;rw[hg]at h3;simp only[aV]at h3;rw[h3]at hk;have hw:Region.wanted o (yielded ops a.tmps)=(yielded ops a.tmps j==some want):=by simp[Region.wanted,hg]
  rw[hw];cases hd:(ops[j]?).bind (·.dst)with
  |none=>
   rw[hd]at hk;have:yielded ops a.tmps j=none:=by simp[yielded,hd]
   rw[this];exact skip hk
  |some d=>
   rw[hd]at hk;simp only at hk;split at hk
   ·rename_i b hb;rw[D5 hst hd hb];unfold Br at hk;by_cases hbw:b=want
    ·rw[ah hbw]at hk;subst hbw;rw[ah (by simp)];exact run hk
    ·rw[ay hbw]at hk;rw[ay (by simpa using hbw)];exact skip hk
   ·rename_i hb;rw[D6 hst hd hb];exact skip hk
   ·exact hk.elim
theorem Ci{P:Program}{C:Ctx}{ops:Array Oper}{Q:Post}:∀(n i:Nat)(ms:List h_)(env:List AV)(s:gA),i+n=ops.size->
 (ops.toList.drop i).mapM (ta P ops)=some (ms.map h_.erase)->AR P C.k ms env s (fun env s=>Q .normal env s)->
 ∀(β:gI)(a:Act)(w:World),St C β env s a w->wpOpsIn C.sV 0 P ops (fun e a' w'=>∃C',Ext C C'/\∃β' env' s',St C' β' env' s' a' w'/\Q e env' s') (List.range' i n) a w
 |0,i,ms,env,s=>fun hi hm hk β a w hst=>by
  have:ops.toList.drop i=[]:=by apply List.drop_eq_nil_of_le;simp;omega
  rw[this]at hm;simp at hm;subst hm;exact⟨C,.refl C,β,env,s,hst,hk⟩
 |n+1,i,ms,env,s=>fun hi hm hk β a w hst=>by
  have hlt:i<ops.toList.length:=by simp;omega
  rw[aH hlt]at hm;simp only[cU,di,aB]at hm;obtain⟨m0,h1,ms0,h2,h3⟩:=hm;cases ms with
  |nil=>cases h3
  |cons m ms'=>
  simp only[aZ,Option.pure_def,aQ,ef]at h3;obtain⟨rfl,rfl⟩:=h3;rw[List.range'_succ];simp only[wpOpsIn];have ho:ops[i]?=some ops.toList[i]:=by simp at hlt;simp[hlt]
  rw[ho];simp only;refine AF (K:=fun env s=>AR P C.k ms' env s fun env s=>Q .normal env s) h1 ?_ hst fun β' env' s' a' w' h4 h5=>Ci n (i+1) ms' env' s' gq h2 h5 β' a' w' h4
  simpa only[AR]using hk
theorem Uh{P:Program}{k:Nat}{Q:Post}{env:List AV}{s:gA}{ms:List h_}(h:AR P k ms env s fun env s=>Q .normal env s):oZ P k (.gv ms) Q env s:=
 fun C hC _ c hc β a w hst=>by
 obtain⟨id,ops,rfl,hm⟩:=LU hc;subst hC;refine wpIn_region ?_;have:=Ci (Q:=Q) (ops:=ops) ops.size 0 ms env s gq (by simpa using hm) h β a w hst;rwa [<-List.range_eq_range']at this
inductive vG where
 |tmp (t:Nat)
 |cell (a n:Nat) (ag:Bool)
def xT(P:Program):ResultVar->Option vG
 |.tmp t=>some (.tmp t)
 |.cell a t=>(jE P t).bind fun n=>(Em P t).map fun ag=>.cell a (if ag then n else 1) ag
def zz(env:List AV)(s:gA):List vG->(List AV->Prop)->Prop
 |[],K=>K []
 |.tmp t::r,K=>zz env s r fun xs=>K (env.getD t .hM::xs)
 |.cell a n ag::r,K=>pU n ag (env.getD a .hM) s fun x=>zz env s r fun xs=>K (x::xs)
def AI:List AV->AV
 |[x]=>x
 |xs=>.l_ xs
def EM(rs:List vG)(R:AV->gA->Prop):Post
 |.normal,env,s=>zz env s rs fun xs=>R (AI xs) s
 |.ret,env,s=>zz env s rs fun xs=>R (AI xs) s
 |_,_,_=>False
def Ml(tmps:Array Value):ResultVar->Sem Value
 |.tmp t=>pure (tmps.getD t undef)
 |.cell b t=>do loadVar t (<-asAddr (tmps.getD b undef))
theorem G8(fn:Func)(tmps:Array Value):results fn tmps=(do let vs <-fn.results.mapM (Ml tmps);pure (if h:vs.size=1 then vs[0]else .tuple vs)):=by
 unfold results;have:(fun x=>match x with|ResultVar.tmp t=>(pure (tmps.getD t undef):Sem Value)|ResultVar.cell a t=>do loadVar t (<-asAddr (tmps.getD a undef)))=Ml tmps:=by
  funext x;cases x<;>rfl
 rw[<-this];rfl
theorem DT{P:Program}{C:Ctx}{β:gI}{env:List AV}{s:gA}{a:Act}{w:World}(hst:St C β env s a w):∀(rv:List ResultVar)(rs:List vG)(K:List AV->Prop),
 rv.mapM (xT P)=some rs->zz env s rs K->
 ∃vs xs,(rv.mapM (Ml a.tmps)).run P w=.ok vs w/\
  AV.gO β (C.gD β s) w xs vs/\K xs
 |[],rs,K=>fun h1 h2=>by
  simp at h1;subst h1;exact⟨[],[],by simp,by simp[AV.gO],h2⟩
 |.tmp t::rv,rs,K=>fun h1 h2=>by
  simp only[cU,di,aB,xT]at h1;obtain⟨_,h3,rs',h4,h5⟩:=h1;cases h3;cases h5;simp only[zz]at h2;obtain⟨vs,xs,h6,h7,h8⟩:=DT hst rv rs' _ h4 h2;refine⟨a.tmps.getD t undef::vs,_,?_,?_,h8⟩
  ·rw[cU];simp only[Ml,aU,bg,aG,h6]
  ·simp only[AV.gO];exact⟨_,_,rfl,hst.ev (.tmp t),h7⟩
 |.cell b t::rv,rs,K=>fun h1 h2=>by
  simp only[cU,di,aB,aF,xT]at h1;obtain⟨_,⟨n,hn,ag,hg,h3⟩,rs',h4,h5⟩:=h1;subst h3;cases h5;simp only[zz]at h2;obtain⟨v,x,h6,h7,h8⟩:=C2 (P:=P) hn hg hst (hst.ev (.tmp b)) h2;obtain⟨vs,xs,h9,h10,h11⟩:=DT hst rv rs' _ h4 h8;refine⟨v::vs,x::xs,?_,?_,h11⟩
  ·rw[cU];have hload:(asAddr (a.tmps.getD b undef) >>=fun ad=>loadVar t ad:Sem Value).run P w=.ok v w:=by
    simp only[Instr.loadAt,Act.eval]at h6;simp only[aU]at h6⊢;cases hv:a.tmps.getD b undef with
    |pointer ad=>
     cases ad with
     |some ad=>rw[hv]at h6;simpa[Instr.sureAddr,asAddr]using h6
     |none=>rw[hv]at h6;simp[Instr.sureAddr]at h6
    |_=>rw[hv]at h6;simp[Instr.sureAddr]at h6
   simp only[aU]at hload;simp only[Ml,aU,hload,aG,h9,bg]
  ·simp only[AV.gO];exact⟨_,_,rfl,h7,h10⟩
theorem zj{P:Program}{fn:Func}{tmps:Array Value}{R:Ending->World->Prop}(Z:World->Prop){B:Nat}
 (hZ:∀w w' D,Z w->w.grownBy w' (some D)->B<=D->(∃o:Obj,w.heap[D]?=some o/\Q9 o)->Z w')
 (hfin:∀w,Z w->∃v,(results fn tmps).run P w=.ok v w/\R (.returned v) w):
 ∀(Ds:List Nat)(w:World),Ds.Nodup->(∀D∈Ds,B<=D/\w.heap[D]?=some (.deferred (some [])))->Z w->LeavesInM Fence.wide 0 P fn tmps R (Ds.map LO) .returning w
 |[],w,_,_,hz=>by simp only[dx,LeavesInM,LeavesIn];exact hfin w hz
 |D::Ds,w,hn,hd,hz=>by
  simp only[aZ,LeavesInM];have h1:=hd D fA;rw[cI]at hn;refine⟨by simp,.inl ⟨D,_,rfl,run_takeDeferred h1.2,zj Z hZ hfin Ds _ hn.2 (fun D' hD'=>?_) ?_⟩⟩
  ·have h2:=hd D' (dg _ hD');exact⟨h2.1,(World.putObj_heap_other fun e=>hn.1 (by rw[<-e];exact hD')).trans h2.2⟩
  ·exact hZ _ _ D hz (grownBy_putObj' w D _) h1.1 ⟨_,h1.2,rfl,rfl⟩
theorem IK{P:Program}{f:Nat}{fn:Func}{c:Code}{mc:gB}{rs:List vG}{args:List AV}{s:gA}{k n:Nat}{R:AV->gA->Prop}
 (hf:P.funcs[f]?=some fn) (hb:fn.body=some c) (hm:nL P c=some mc.erase) (hn:fn.ntmps=n) (hr:fn.results.toList.mapM (xT P)=some rs)
 (h:oZ P k mc (EM rs R) (args++List.replicate (n-args.length) .hM) s):gG P f args s k R:=by
 intro C vs hCs hCk hinv hargs;have hlen:=AV.gY hargs;let C0:Ctx:={C with ro:=none,dom:=C.w.heap.size,nm:=false};refine callsIn_wide.1 (callsIn_of_wp_marks (F:=Fence.wide) (n:=0) hf hb trivial ?_);have hst:St C0 C.β (args++List.replicate (n-args.length) .hM) s {tmps:=vs++Array.replicate (fn.ntmps-vs.size) undef,defers:=[]} C.w:=by
  refine⟨.nil,hCs▸hinv.ro none C.w.heap.size,?_,fun i x hx=>?_⟩
  ·simp at hlen;simp[hn,hlen]
  ·rw[hCs]at hargs;rw[List.getElem?_append]at hx;split at hx
   ·rename_i hi;have hi2:i<vs.size:=by simp at hlen;omega
    have h1:(vs++Array.replicate (fn.ntmps-vs.size) undef).getD i undef=vs[i]:=by simp[cm,Array.getElem?_append,hi2]
    rw[h1];exact(AV.jd.1 hargs).2 i x _ hx (by simp[hi2])
   ·have:x=.hM:=by
     rw[dO]at hx;split at hx
     ·cases hx;rfl
     ·cases hx
    subst this;simp[AV.ok]
 refine fk (h C0 hCk (.inr ⟨rfl,rfl,au _⟩) c hm C.β _ _ hst) fun e a' w' he=>?_
 obtain⟨C',hx,β',env',s',hst',hq⟩:=he;have fin:zz env' s' rs (fun xs=>R (AI xs) s')->LeavesInM Fence.wide 0 P fn a'.tmps (fun e w'=>∃v x β' s',e=.returned v/\Inv C β' s' w'/\AV.ok β' (C.gD β' s') w' x v/\R x s') a'.defers .returning w':=fun hq=>by
  obtain⟨_,Ds,hDs,hnd,hmk⟩:=hst'.defers;rw[hDs];refine zj (B:=C.w.heap.size) (fun w=>Inv C0 β' s' w/\∀i x,env'[i]?=some x->AV.ok β' (C0.gD β' s') w x (a'.tmps.getD i undef)) (fun w1 w2 D hz hg hB ho=>?_) (fun w1 hz=>?_) Ds w' hnd (fun D hD=>?_) ⟨hx.inv _ _ _ hst'.inv,fun i x hi=>?_⟩
  ·have hr:∀r,some D=some r->∃o:Obj,w1.heap[r]?=some o/\Q9 o:=fun r e=>by cases e;exact ho
   exact⟨hz.1.GZ hg fun r e=>⟨by cases e;exact hB,hr r e⟩,fun i x hi=>AV.jH (fun b o v hc hn=>⟨cell_kept hc hg (JH hr),hn⟩) (fun _=>.refl _) _ _ (hz.2 i x hi)⟩
  ·have hst1:St C0 β' env' s' {a' with defers:=[]} w1:=⟨.nil,hz.1,hst'.len,hz.2⟩;obtain⟨us,xs,h1,h2,h3⟩:=DT hst1 fn.results.toList rs _ hr hq;refine⟨if h:us.toArray.size=1 then us.toArray[0]else .tuple us.toArray,?_,_,AI xs,β',s',rfl,hz.1.Xa,?_,h3⟩
   ·rw[G8,Array.mapM_eq_mapM_toList];simp only[aU,Sem.run_map];rw[h1];simp only[aG,bg]
   ·have hl:=AV.gY h2;have hfb:C0.gD β' s'=C.gD β' s':=rfl;rw[hfb]at h2
    match xs,us,h2 with
    |[x],[u],h2=>
     simp only[AV.gO]at h2;obtain⟨_,_,h4,h5,h6⟩:=h2;cases h4;simpa[AI]using h5
    |[],[],h2=>simp only[AI,AV.ok];exact⟨#[],by simp,by simp[AV.gO]⟩
    |x::y::xs,u::v::us,h2=>
     simp only[AI,AV.ok];exact⟨(u::v::us).toArray,by simp,by simpa using h2⟩
  ·obtain⟨h1,h2,h3,h4⟩:=hmk D hD;exact⟨by rw[hx.dom]at h1;exact h1,(hst'.inv.sk D h2 h4).trans h3⟩
  ·have:=hst'.env i x hi;rwa [hx.gD]at this
 cases e with
 |normal=>exact fin hq
 |ret=>exact fin hq
 |exit id=>exact hq.elim
 |goto l=>exact hq.elim
 |panic ch=>exact hq.elim
 |outgrown=>exact hq.elim
structure kG(P:Program)(f:Nat)(mc:gB)(n:Nat)(rs:List vG):Prop where
 fn:∃fn,P.funcs[f]?=some fn/\fn.body.bind (nL P)=some mc.erase/\fn.ntmps=n/\fn.results.toList.mapM (xT P)=some rs
theorem kG.calls{P:Program}{f:Nat}{mc:gB}{n:Nat}{rs:List vG}(h:kG P f mc n rs){args:List AV}{s:gA}{k:Nat}{R:AV->gA->Prop}
 (hm:oZ P k mc (EM rs R) (args++List.replicate (n-args.length) .hM) s):gG P f args s k R:=by
 obtain⟨fn,h1,h2,h3,h4⟩:=h.fn;rw[aB]at h2;obtain⟨c,h5,h6⟩:=h2;exact IK h1 h5 h6 h3 h4 hm
def AV.le(x y:AV):Prop:=∀β O w v,AV.ok β O w x v->AV.ok β O w y v
theorem AV.le_refl(x:AV):AV.le x x:=fun _ _ _ _ h=>h
theorem AV.Ot(x:AV):AV.le x .hM:=fun _ _ _ _ _=>by simp[AV.ok]
theorem AV.RP{e id:Nat}{xs:List D}:AV.le (.own e id xs) (.d (.sl e none xs)):=fun _ _ _ _ h=>by simp only[AV.ok]at h⊢;exact h.1
def gV:List AV->List AV->Prop
 |[],[]=>True
 |x::xs,y::ys=>AV.le x y/\gV xs ys
 |_,_=>False
theorem gV.get:∀{xs ys:List AV},gV xs ys->xs.length=ys.length/\∀(i:Nat)(y:AV),ys[i]?=some y->∃x,xs[i]?=some x/\AV.le x y
 |[],[],_=>by simp
 |[],_::_,h=>h.elim
 |_::_,[],h=>h.elim
 |x::xs,y::ys,h=>by
  obtain⟨h1,h2⟩:=h;obtain⟨h3,h4⟩:=gV.get h2;refine⟨by simp[h3],fun i z hz=>?_⟩;cases i with
  |zero=>simp at hz;subst hz;exact⟨x,rfl,h1⟩
  |succ i=>simpa using h4 i z (by simpa using hz)
section
variable{k:Nat}{env env' env'':List AV}{s s' s'':gA}
theorem gM.trans(h:gM k env s env' s')(h2:gM k env' s' env'' s''):gM k env s env'' s'':=fun C β a w hC hst=>let⟨β',h3⟩:=h C β a w hC hst;h2 C β' a w hC h3
theorem gM.kill(id:Nat)(hid:k<=id):gM k env s (AV.ia (gJ id) env) (ig id s):=fun _ _ _ _ hC hst=>⟨_,hst.kill id (hC▸hid)⟩
theorem gM.SQ(hs:∀id,sat s id=sat s' id):gM k env s env s':=fun C β a w hC hst=>by
 have h1:∀b o,own β s' b o<->own β s b o:=by intro b o;unfold own;simp only[hs]
 have h2:∀i b,gw β s' i b<->gw β s i b:=by intro i b;unfold gw;simp only[hs]
 have m:lM β s w β s' w:=⟨au _,rfl,fun _ _ _ h _=>h,fun _ _ _=>rfl,fun b o h=>.inl ((h1 b o).1 h),fun q b h=>.inl ⟨q,(h2 q b).1 h⟩,fun _=>.refl _⟩;exact⟨β,hst.move m (fun q=>by rw[<-hs];exact(hst.inv.obs q).uS m rfl (fun _ _=>rfl) rfl) (fun p q b hp hq=>hst.inv.inj p q b ((h2 p b).1 hp) ((h2 q b).1 hq))⟩
end
theorem wrap_i64{n:Int}(h1: -9223372036854775808<=n)(h2:n<9223372036854775808):IntKind.i64.wrap n=n:=by
 unfold IntKind.wrap IntKind.bits IntKind.signed;simp only[cr];split<;>rename_i h<;>simp at h<;>omega
theorem NF{k:IntKind}{n:Int}:KI (.int k n)=.d (.lit (.int k n)):=rfl
theorem KK{b:Bool}:KI (.bool b)=.d (.lit (.bool b)):=rfl
theorem F7{b:ByteArray}:KI (.string b)=.d (.lit (.string b)):=rfl
theorem NG:KI (.slice none 0 0)=.d (.sl 0 (some true) []):=rfl
theorem KJ:KI (.agg #[])=.d (.agg []):=rfl
mutual
def AV.WU:AV->Option D
 |.d x=>some x
 |.own e _ xs=>some (.sl e none xs)
 |.agg cs=>(AV.Sy cs).map .agg
 |.hM=>none
 |.ptr _ _=>none
 |.mm _ _ _ _=>none
 |.pv _=>none
 |.pa _=>none
 |.l_ _=>none
 |.fn _ _ _=>none
 |.jM _ _ _=>none
 |.kH _ _ _=>none
 |.Ac _ _=>none
 |.dp _=>none
 |.mp _=>none
def AV.Sy:List AV->Option (List D)
 |[]=>some []
 |x::xs=>(AV.WU x).bind fun y=>(AV.Sy xs).map (y::·)
end
def AV.U7:AV->Option (List D)
 |.l_ cs=>AV.Hl cs
 |_=>none
where
 AV.Hl:List AV->Option (List D)
 |[]=>some []
 |x::xs=>(AV.WU x).bind fun y=>(AV.Hl xs).map (y::·)
theorem gG.mono{P:Program}{f:Nat}{args:List AV}{s:gA}{k:Nat}{R R':AV->gA->Prop}(h:gG P f args s k R)
 (hR:∀x s,R x s->∃y,AV.le x y/\R' y s):gG P f args s k R':=fun C vs h1 h2 h3 h4=>
 (h C vs h1 h2 h3 h4).mono fun _ _ ⟨v,x,β',s',he,hi,hx,hr⟩=>let⟨y,hle,hr'⟩:=hR x s' hr;⟨v,y,β',s',he,hi,hle _ _ _ _ hx,hr'⟩
def iw(P:Program)(f:Nat)(args:List D)(r:D):Prop:=gG P f (args.map .d) [] 0 fun x _=>x=.d r
def rW(P:Program)(f:Nat)(args:List D)(rs:List D):Prop:=gG P f (args.map .d) [] 0 fun x _=>x=.l_ (rs.map .d)
theorem gV.gO{β:gI}{O:Own}{w:World}:∀{xs ys:List AV}{vs:List Value},gV xs ys->AV.gO β O w xs vs->AV.gO β O w ys vs
 |[],[],_,_,h=>h
 |_::_,_::_,_,hl,h=>by
  simp only[AV.gO]at h⊢;obtain⟨v,r,h1,h2,h3⟩:=h;exact⟨v,r,h1,hl.1 _ _ _ _ h2,gV.gO hl.2 h3⟩
 |[],_::_,_,hl,_=>hl.elim
 |_::_,[],_,hl,_=>hl.elim
theorem gG.args{P:Program}{f:Nat}{args dz:List AV}{s:gA}{k:Nat}{R:AV->gA->Prop}(h:gG P f dz s k R)(hl:gV args dz):gG P f args s k R:=
 fun C vs h1 h2 h3 h4=>h C vs h1 h2 h3 (hl.gO h4)
theorem EC{P:Program}{k0 f:Nat}{args env:List AV}{s:gA}{K:AV->List AV->gA->Prop}{dz:List D}{r:D}(ha:gV (args.map fun x=>x.jU (nK [])) (dz.map .d))
 (hc:iw P f dz r) (hk:K (.d r) env s):HP P k0 f args env s K:=
 ⟨[],[],fun x _=>x=.d r,rfl,by simp,by simp,by simp,gG.args hc ha,by rintro x s' rfl;exact hk⟩
theorem CM{P:Program}{k0 f:Nat}{args env:List AV}{s:gA}{K:AV->List AV->gA->Prop}{dz:List D}{rs:List D}(ha:gV (args.map fun x=>x.jU (nK [])) (dz.map .d))
 (hc:rW P f dz rs) (hk:K (.l_ (rs.map .d)) env s):HP P k0 f args env s K:=by
 refine⟨[],[],fun x _=>x=.l_ (rs.map .d),rfl,by simp,by simp,by simp,gG.args hc ha,?_⟩;rintro x s' rfl;have h2:∀qs:List D,AV.ia (mC ([]++[])) (qs.map .d)=qs.map .d:=fun qs=>by
  induction qs with
  |nil=>rfl
  |cons d ds ih=>simp only[aZ,AV.ia,AV.jU,ih]
 simp only[AV.jU,h2];exact hk
def qz(env:List AV):List Nat->List AV
 |[]=>env
 |w::ws=>qz (env.set w .hM) ws
def tJ(env:List AV):List (Nat×AV)->List AV
 |[]=>env
 |(w,x)::r=>tJ (env.set w x) r
theorem OA{P:Program}{k:Nat}{Q:Post}{env:List AV}{s:gA}{x:gB}{ι:Type}(ws:List Nat)(vs:ι->List (Nat×AV))(S:ι->gA)(inv:ι->Prop)(μ:ι->Nat)(i0:ι)(h0:inv i0)
 (hw:gM k env s (tJ (qz env ws) (vs i0)) (S i0))
 (round:∀i,inv i->oZ P k x (AJ (fun env' s'=>∃i',inv i'/\μ i'<μ i/\gM k env' s' (tJ (qz env ws) (vs i')) (S i')) Q) (tJ (qz env ws) (vs i)) (S i)):
 oZ P k (.loop x) Q env s:=RY (fun i=>tJ (qz env ws) (vs i)) S inv μ i0 h0 hw round
theorem E8(x:AV):AV.le x x<->True:=⟨fun _=>trivial,fun _=>AV.le_refl x⟩
theorem E7(x:AV):AV.le x .hM<->True:=⟨fun _=>trivial,fun _=>AV.Ot x⟩
theorem GL{e id:Nat}{xs:List D}:AV.le (.own e id xs) (.d (.sl e none xs))<->True:=⟨fun _=>trivial,fun _=>AV.RP⟩
def ints(l:fN):D:=.sl 1 none (l.map iD)
theorem MF(l:fN):pN (.d (ints l))=some (1,l.map iD):=rfl
theorem Gq(l:fN):AV.cells (.d (ints l))=some [.d (ints l)]:=rfl
theorem Ei(l:fN):AV.Ba (.d (ints l))=none:=rfl
theorem EG(l:fN):gx (ints l)=[ints l]:=rfl
theorem Sw{e:Nat}{nl:Option Bool}{xs:List D}:pN (.d (.sl e nl xs))=some (e,xs):=rfl
theorem O7{e id:Nat}{xs:List D}:pN (.own e id xs)=some (e,xs):=rfl
theorem L6{e:Nat}{b:Bool}{xs:List D}:xb (.d (.sl e (some b) xs))=some b:=rfl
theorem L5{e:Nat}{xs:List D}:xb (.d (.sl e none xs))=none:=rfl
theorem OI{e id:Nat}{xs:List D}:xb (.own e id xs)=none:=rfl
theorem OG{e id off n:Nat}:xb (.mm e id off n)=some false:=rfl
theorem I8{cs:List D}:AV.cells (.d (.agg cs))=some (cs.map .d):=rfl
theorem Gn{cs:List AV}:AV.cells (.agg cs)=some cs:=rfl
theorem Ja{u:Value}:AV.cells (.d (.lit u))=some [.d (.lit u)]:=rfl
theorem I9:AV.cells (.d .any)=some [.d .any]:=rfl
theorem K9{e:Nat}{nl:Option Bool}{xs:List D}:AV.cells (.d (.sl e nl xs))=some [.d (.sl e nl xs)]:=rfl
theorem Jd{e id:Nat}{xs:List D}:AV.cells (.own e id xs)=some [.own e id xs]:=rfl
theorem Je{id off:Nat}:AV.cells (.ptr id off)=some [.ptr id off]:=rfl
theorem Jb{e id off n:Nat}:AV.cells (.mm e id off n)=some [.mm e id off n]:=rfl
theorem K8{cs:List D}:AV.cells (.pv cs)=some [.pv cs]:=rfl
theorem K7{cs:List AV}:AV.cells (.pa cs)=some [.pa cs]:=rfl
theorem K5{f:Nat}{a b:List AV}:AV.cells (.fn f a b)=some [.fn f a b]:=rfl
theorem FZ{cs:List D}:AV.Ba (.d (.agg cs))=some (cs.map .d):=rfl
theorem Eh{cs:List AV}:AV.Ba (.agg cs)=some cs:=rfl
theorem Gs{cs:List D}:gx (.agg cs)=cs:=rfl
theorem Gt{u:Value}:gx (.lit u)=[.lit u]:=rfl
theorem Jh{e:Nat}{nl:Option Bool}{xs:List D}:gx (.sl e nl xs)=[.sl e nl xs]:=rfl
theorem Kw{k:IntKind}{n:Int}:iN (.d (.lit (.int k n)))=some n:=rfl
attribute [go_sem] ev NF KK F7 NG KJ gU List.getD_cons_zero List.getD_cons_succ List.set_cons_zero List.set_cons_succ List.cons_append List.nil_append List.length_cons List.length_nil List.replicate List.map_cons List.map_nil sat sset ig gJ AV.ia AV.jU Ob.kill Ob.jq od AV.fin AV.lu Dk AJ Bl EM zz AI gV AV.WU AV.Sy AV.U7 AV.U7.AV.Hl qz tJ E8 E7 GL Sw O7 L6 L5 OI OG I8 Gn Ja I9 K9 Jd Je Jb K8 K7 K5 FZ Eh Gs Gt Jh Kw MF Gq Ei EG
inductive Out where
 |ok (x:AV) (env:List AV) (s:gA)
 |need (p:Prop) (o:Out)
 |br (b:Bool) (o1 o2:Out)
 |call (f:Nat) (args env:List AV) (s:gA)
 |Q_ (p:Prop) (o1 o2:Out)
 |bad
def runK(P:Program)(k0:Nat)(K:AV->List AV->gA->Prop):Out->Prop
 |.ok x env s=>K x env s
 |.need p o=>p/\runK P k0 K o
 |.br b o1 o2=>if b=true then runK P k0 K o1 else runK P k0 K o2
 |.call f args env s=>Ax P k0 f args env s K
 |.Q_ p o1 o2=>(p->runK P k0 K o1)/\runK P k0 K o2
 |.bad=>False
def uT(id t:Nat)(cs env:List AV)(s:gA):Ob->Out
 |.dead=>.ok (.ptr id 0) env (sset s id (.obj t cs))
 |.obj _ _=>.ok (.ptr id 0) (AV.ia (gJ id) env) (sset (ig id s) id (.obj t (AV.ia (gJ id) cs)))
 |.tok _ _ _=>.ok (.ptr id 0) (AV.ia (gJ id) env) (sset (ig id s) id (.obj t (AV.ia (gJ id) cs)))
 |.ij _ _ _ _=>.ok (.ptr id 0) (AV.ia (gJ id) env) (sset (ig id s) id (.obj t (AV.ia (gJ id) cs)))
 |.oh _ _ _ _=>.ok (.ptr id 0) (AV.ia (gJ id) env) (sset (ig id s) id (.obj t (AV.ia (gJ id) cs)))
 |.tc _ _ _=>.ok (.ptr id 0) (AV.ia (gJ id) env) (sset (ig id s) id (.obj t (AV.ia (gJ id) cs)))
 |.mp _ _ _=>.ok (.ptr id 0) (AV.ia (gJ id) env) (sset (ig id s) id (.obj t (AV.ia (gJ id) cs)))
def vW(id t e:Nat)(xs:List D)(env:List AV)(s:gA):Ob->Out
 |.dead=>.ok (.own e id xs) env (sset s id (.tok t e xs.length))
 |.obj _ _=>.ok (.own e id xs) (AV.ia (gJ id) env) (sset (ig id s) id (.tok t e xs.length))
 |.tok _ _ _=>.ok (.own e id xs) (AV.ia (gJ id) env) (sset (ig id s) id (.tok t e xs.length))
 |.ij _ _ _ _=>.ok (.own e id xs) (AV.ia (gJ id) env) (sset (ig id s) id (.tok t e xs.length))
 |.oh _ _ _ _=>.ok (.own e id xs) (AV.ia (gJ id) env) (sset (ig id s) id (.tok t e xs.length))
 |.tc _ _ _=>.ok (.own e id xs) (AV.ia (gJ id) env) (sset (ig id s) id (.tok t e xs.length))
 |.mp _ _ _=>.ok (.own e id xs) (AV.ia (gJ id) env) (sset (ig id s) id (.tok t e xs.length))
def zm(id t e:Nat)(xs:List D)(env:List AV)(s:gA):Ob->Out
 |.dead=>.ok (.jM e id xs.length) env (sset s id (.ij t e xs.length (xs.flatMap gx)))
 |.obj _ _=>.ok (.jM e id xs.length) (AV.ia (gJ id) env) (sset (ig id s) id (.ij t e xs.length (xs.flatMap gx)))
 |.tok _ _ _=>.ok (.jM e id xs.length) (AV.ia (gJ id) env) (sset (ig id s) id (.ij t e xs.length (xs.flatMap gx)))
 |.ij _ _ _ _=>.ok (.jM e id xs.length) (AV.ia (gJ id) env) (sset (ig id s) id (.ij t e xs.length (xs.flatMap gx)))
 |.oh _ _ _ _=>.ok (.jM e id xs.length) (AV.ia (gJ id) env) (sset (ig id s) id (.ij t e xs.length (xs.flatMap gx)))
 |.tc _ _ _=>.ok (.jM e id xs.length) (AV.ia (gJ id) env) (sset (ig id s) id (.ij t e xs.length (xs.flatMap gx)))
 |.mp _ _ _=>.ok (.jM e id xs.length) (AV.ia (gJ id) env) (sset (ig id s) id (.ij t e xs.length (xs.flatMap gx)))
def DK(id t e n:Nat)(cs env:List AV)(s:gA):Ob->Out
 |.dead=>.ok (.mm e id 0 n) env (sset s id (.obj t cs))
 |.obj _ _=>.ok (.mm e id 0 n) (AV.ia (gJ id) env) (sset (ig id s) id (.obj t cs))
 |.tok _ _ _=>.ok (.mm e id 0 n) (AV.ia (gJ id) env) (sset (ig id s) id (.obj t cs))
 |.ij _ _ _ _=>.ok (.mm e id 0 n) (AV.ia (gJ id) env) (sset (ig id s) id (.obj t cs))
 |.oh _ _ _ _=>.ok (.mm e id 0 n) (AV.ia (gJ id) env) (sset (ig id s) id (.obj t cs))
 |.tc _ _ _=>.ok (.mm e id 0 n) (AV.ia (gJ id) env) (sset (ig id s) id (.obj t cs))
 |.mp _ _ _=>.ok (.mm e id 0 n) (AV.ia (gJ id) env) (sset (ig id s) id (.obj t cs))
def It(n off:Nat)(cs:List AV):Bool->AV
 |true=>AV.mk ((cs.drop off).take n)
 |false=>cs.getD off .hM
def Sr(n:Nat)(cs:List D):Bool->D
 |true=>.agg (cs.take n)
 |false=>cs.headD .any
def GN(n:Nat)(ag:Bool)(off:Nat)(env:List AV)(s:gA):Ob->Out
 |.obj _ cs=>.need (off+n<=cs.length) (.ok (It n off cs ag) env s)
 |_=>.bad
def Ss(n off:Nat)(cs:List D):Bool->D
 |true=>.agg ((cs.drop off).take n)
 |false=>cs.getD off .any
def GO(n:Nat)(ag:Bool)(k off:Nat)(env:List AV)(s:gA):Ob->Out
 |.ij _ _ m cs=>.need (m=k/\off+n<=cs.length) (.ok (.d (Ss n off cs ag)) env s)
 |.tc _ m cs=>.need (m=k/\off+n<=cs.length/\ag=false/\n=1/\BK (cs.getD off .hM)=false) (.ok (cs.getD off .hM) env s)
 |_=>.bad
def BR(n:Nat)(ag:Bool)(env:List AV)(s:gA):AV->Out
 |.ptr id off=>GN n ag off env s (sat s id)
 |.kH id k off=>GO n ag k off env s (sat s id)
 |.pv cs=>.need (n<=cs.length) (.ok (.d (Sr n cs ag)) env s)
 |.pa cs=>.need (ag=false/\n=1/\1<=cs.length) (.ok (cs.headD .hM) env s)
 |_=>.bad
def D0(n off id:Nat)(env:List AV)(s:gA):Ob->Option (List AV)->Out
 |.obj t cs,some xs=>.need (xs.length=n/\off+n<=cs.length) (.ok .hM env (sset s id (.obj t (cs.take off++xs++cs.drop (off+n)))))
 |_,_=>.bad
def A4(n k off id e m:Nat)(cs:List AV)(env:List AV)(s:gA):Option (List AV)->Out
 |some xs=>.need (m=k/\xs.length=n/\0<n/\off+n<=cs.length/\wC xs=true) (.ok .hM env (sset s id (.tc e m (cs.take off++xs++cs.drop (off+n)))))
 |none=>.bad
def A3(n k off id:Nat)(env:List AV)(s:gA)(X:Option (List AV)):Ob->Option D->Out
 |.ij t e m cs,some d=>.need (m=k/\(gx d).length=n/\off+n<=cs.length) (.ok .hM env (sset s id (.ij t e m (cs.take off++gx d++cs.drop (off+n)))))
 |.tc e m cs,_=>A4 n k off id e m cs env s X
 |_,_=>.bad
def Cf(n:Nat)(env:List AV)(s:gA)(x:AV):AV->Out
 |.ptr id off=>D0 n off id env s (sat s id) x.cells
 |.kH id k off=>A3 n k off id env s x.cells (sat s id) x.fin
 |_=>.bad
def Ny(op:BinOp)(env:List AV)(s:gA):AV->AV->Out
 |.d (.lit (.int k a)),.d (.lit (.int k' b))=>.need (Vs op k k')<|match op with
  |.add=>.ok (.d (.lit (.int k (k.wrap (a+b))))) env s
  |.sub=>.ok (.d (.lit (.int k (k.wrap (a-b))))) env s
  |.mul=>.ok (.d (.lit (.int k (k.wrap (a*b))))) env s
  |.quo=>.need (b≠0) (.ok (.d (.lit (.int k (k.wrap (a.tdiv b))))) env s)
  |.rem=>.need (b≠0) (.ok (.d (.lit (.int k (a.tmod b)))) env s)
  |.eql=>.ok (.d (bD (a==b))) env s
  |.neq=>.ok (.d (bD (a != b))) env s
  |.lss=>.ok (.d (bD (decide (a<b)))) env s
  |.leq=>.ok (.d (bD (decide (a<=b)))) env s
  |.gtr=>.ok (.d (bD (decide (b<a)))) env s
  |.geq=>.ok (.d (bD (decide (b<=a)))) env s
  |.and=>.ok (.d (.lit (.int k (xX k a b)))) env s
  |.or=>.ok (.d (.lit (.int k (Vt k a b)))) env s
  |.xor=>.ok (.d (.lit (.int k (Ke k a b)))) env s
  |.andNot=>.ok (.d (.lit (.int k (HC k a b)))) env s
  |.shl=>.need (0<=b) (.ok (.d (.lit (.int k (Fq k a b)))) env s)
  |.shr=>.need (0<=b) (.ok (.d (.lit (.int k (zD k a b)))) env s)
 |.d (.lit (.string a)),.d (.lit (.string b))=>match op with
  |.add=>.need (a.size+b.size<2^63) (.ok (.d (.lit (.string (a++b)))) env s)
  |.eql=>.ok (.d (bD (a.toList==b.toList))) env s
  |.neq=>.ok (.d (bD (!(a.toList==b.toList)))) env s
  |_=>.bad
 |_,_=>.bad
def KE(neg:Bool)(a b:Bool):Bool:=match neg with|true=>a != b|false=>a==b
def HE(neg:Bool)(env:List AV)(s:gA):AV->AV->Out
 |.d (.lit (.bool a)),.d (.lit (.bool b))=>.ok (.d (bD (KE neg a b))) env s
 |_,_=>.bad
def JG(neg b:Bool):Bool:=match neg with|true=>!b|false=>b
def Gy(neg:Bool)(env:List AV)(s:gA):Option (Nat×List D)->Out
 |some (_,xs)=>.Q_ (xs=[]) (.ok (.d (bD (JG neg true))) env s) (.ok (.d (bD (JG neg false))) env s)
 |none=>.bad
def Du(neg:Bool)(env:List AV)(s:gA)(x:AV):Option Bool->Out
 |some b=>.ok (.d (bD (JG neg b))) env s
 |none=>Gy neg env s (pN x)
def Vu(env:List AV)(s:gA):UnOp->AV->Out
 |.not,.d (.lit (.bool b))=>.ok (.d (bD (!b))) env s
 |.neg,.d (.lit (.int k n))=>.ok (.d (.lit (.int k (k.wrap (0-n))))) env s
 |_,_=>.bad
def HS(k:IntKind)(env:List AV)(s:gA):AV->Out
 |.d (.lit (.int _ n))=>.ok (.d (.lit (.int k (k.wrap n)))) env s
 |_=>.bad
def Ij(env:List AV)(s:gA)(a b:AV):AV->Out
 |.d (.lit (.bool t))=>.br t (.ok a env s) (.ok b env s)
 |_=>.bad
def QH(env:List AV)(s:gA):AV->Out
 |.ptr id off=>.ok (.ptr id off) env s
 |.pv cs=>.ok (.pv cs) env s
 |.pa cs=>.ok (.pa cs) env s
 |.fn f a b=>.ok (.fn f a b) env s
 |.kH id m off=>.ok (.kH id m off) env s
 |_=>.bad
def Te(off:Nat)(env:List AV)(s:gA):AV->Out
 |.ptr id o=>.ok (.ptr id (o+off)) env s
 |.pv cs=>.ok (.pv (cs.drop off)) env s
 |.pa cs=>.ok (.pa (cs.drop off)) env s
 |.kH id k o=>.ok (.kH id k (o+off)) env s
 |_=>.bad
def H9(e:Nat)(n:Int)(env:List AV)(s:gA):Option (Nat×List D)->Out
 |some (e',xs)=>.need (e'=e/\0<=n/\n<xs.length) (.ok (.pv (gx (xs.getD n.toNat .any))) env s)
 |none=>.bad
def BM(e:Nat)(n:Int)(env:List AV)(s:gA):AV->Out
 |.mm e' id off len=>.need (e'=e/\0<=n/\n<len) (.ok (.ptr id (off+n.toNat*e)) env s)
 |.jM e' id m=>.need (e'=e/\0<=n/\n<m) (.ok (.kH id m (n.toNat*e)) env s)
 |x=>H9 e n env s (pN x)
def Oo(e:Nat)(env:List AV)(s:gA)(x:AV):Option Int->Out
 |some n=>BM e n env s x
 |none=>.bad
def PJ(e n:Nat)(env:List AV)(s:gA):Option Int->AV->Out
 |some j,.ptr id off=>.need (0<=j/\j<n) (.ok (.ptr id (off+j.toNat*e)) env s)
 |some j,.pv cs=>.need (0<=j/\j<n) (.ok (.pv (cs.drop (j.toNat*e))) env s)
 |_,_=>.bad
def LC(env:List AV)(s:gA):Option (Nat×List D)->Out
 |some (_,xs)=>.ok (.d (iD xs.length)) env s
 |none=>.bad
def GM(env:List AV)(s:gA):AV->Out
 |.mm _ _ _ n=>.ok (.d (iD n)) env s
 |.jM _ _ n=>.ok (.d (iD n)) env s
 |x=>LC env s (pN x)
def Iz(x:AV)(e:Nat)(env:List AV)(s:gA)(lo:Option Int)(hi:Option Operand):Option (Nat×List D)->Out
 |some (e',xs)=>match lo,Dk env xs.length hi with
  |some l,some h=>.need ((xs=[]\/e'=e)/\0<=l/\l<=h/\h<=xs.length) (.ok (.d (.sl e' (xb x) ((xs.take h.toNat).drop l.toNat))) env s)
  |_,_=>.bad
 |none=>.bad
def Sx(e:Nat)(env:List AV)(s:gA):Option Operand->Option Int->Option Int->Option (Nat×List D)->Out
 |none,some h,some m,some (e',xs)=>.need ((xs=[]\/e'=e)/\h=m/\0<=h/\h<=xs.length) (.ok (.Ac e' (xs.take h.toNat)) env s)
 |_,_,_,_=>.bad
def Vr(env:List AV):Option Operand->Option Int
 |some h=>iN (ev env h)
 |none=>none
def JR(x:AV)(e:Nat)(env:List AV)(s:gA)(lo hi:Option Operand):Option Operand->Out
 |none=>Iz x e env s (Dk env 0 lo) hi (pN x)
 |some m=>Sx e env s lo (Vr env hi) (iN (ev env m)) (pN x)
def LZ(t:Nat)(env:List AV)(s:gA):AV->Out
 |.d (.agg [])=>.ok (.d (.lit (.iface t (.agg #[])))) env s
 |_=>.bad
def G9(e k0 j n:Nat)(h:Int)(env:List AV)(s:gA):Ob->Out
 |.ij t e2 m cs=>.need (e2=e/\n=m/\0<=h/\h<=m/\k0<=j) (.ok (.jM e j (Ln h.toNat m)) (AV.ia (gJ j) env) (sset (ig j s) j (.ij t e (Ln h.toNat m) (Ub h.toNat e cs))))
 |_=>.bad
def MG(e k0:Nat)(env:List AV)(s:gA):AV->Option Int->Out
 |.jM e' j n,some h=>.need (e'=e) (G9 e k0 j n h env s (sat s j))
 |_,_=>.bad
def Iw(e n:Nat)(env:List AV)(s:gA):AV->Option Operand->Option Operand->Option Operand->Out
 |.ptr id off,none,none,none=>.ok (.mm e id off n) env s
 |.ptr id off,none,some h,none=>match iN (ev env h)with
  |some h=>.need (0<=h/\h<=n) (.ok (.mm e id off h.toNat) env s)
  |none=>.bad
 |_,_,_,_=>.bad
def HD(t e bytes:Nat)(j:Nat)(xs ys:List D)(env:List AV)(s:gA)(ob:Ob):Out:=
 .need (ob=.tok t e xs.length/\(xs.length+ys.length)*bytes<=2^47) (.ok (.own e j (xs++ys)) env (sset s j (.tok t e (xs.length+ys.length))))
def KB(t e bytes:Nat)(j n:Nat)(ys:List D)(env:List AV)(s:gA):Ob->Out
 |.ij t' e2 m cs=>.need (t'=t/\e2=e/\m=n/\(n+ys.length)*bytes<=2^47) (.ok (.jM e j (n+ys.length)) env (sset s j (.ij t e (n+ys.length) (cs++ys.flatMap gx))))
 |_=>.bad
def Eo(id t e bytes k0:Nat)(e2:Nat)(ys:List D)(env:List AV)(s:gA):AV->Out
 |.own e' j xs=>.need ((ys=[]\/e2=e)/\e'=e) (HD t e bytes j xs ys env s (sat s j))
 |.jM e' j n=>.need ((ys=[]\/e2=e)/\e'=e) (KB t e bytes j n ys env s (sat s j))
 |.d (.sl _ (some true) [])=>.need ((ys=[]\/e2=e)/\ys.length*bytes<=2^47/\k0<=id) (vW id t e ys env s (sat s id))
 |.Ac e' xs=>.need ((ys=[]\/e2=e)/\e'=e/\(xs.length+ys.length)*bytes<=2^47) (.ok (.d (.sl e none (xs++ys))) env s)
 |_=>.bad
def IM(id t e bytes k0:Nat)(x:AV)(env:List AV)(s:gA):Option (Nat×List D)->Out
 |some (e2,ys)=>Eo id t e bytes k0 e2 ys env s x
 |none=>.bad
def zP(id t e bytes k0:Nat)(e2:Nat)(ys:List D)(env:List AV)(s:gA):AV->Out
 |.d (.sl _ (some true) [])=>.need ((ys=[]\/e2=e)/\ys.length*bytes<=2^47/\k0<=id) (zm id t e ys env s (sat s id))
 |x=>Eo id t e bytes k0 e2 ys env s x
def Bf(id t e bytes k0:Nat)(x:AV)(env:List AV)(s:gA):Option (Nat×List D)->Out
 |some (e2,ys)=>zP id t e bytes k0 e2 ys env s x
 |none=>.bad
def Rz(i:Nat)(env:List AV)(s:gA):AV->Out
 |.l_ cs=>.need (i<cs.length) (.ok (cs.getD i .hM) env s)
 |_=>.bad
def A2(mx:Bool)(env:List AV)(s:gA):AV->AV->Out
 |.d (.lit (.int k a)),.d (.lit (.int k' b))=>.need (k=k') (.ok (.d (.lit (.int k (match mx with|true=>if b>a then b else a|false=>if b<a then b else a)))) env s)
 |_,_=>.bad
def IT(id t k0:Nat)(env:List AV)(s:gA):Option (List AV)->Out
 |some cs=>.need (k0<=id) (uT id t cs env s (sat s id))
 |none=>.bad
def KH(env:List AV)(s:gA):Option (List AV)->Out
 |some cs=>.ok (AV.mk cs) env s
 |none=>.bad
def NB(id t e k0:Nat)(env:List AV)(s:gA):Option (List D)->Out
 |some ds=>.need ((∀d∈ds,(gx d).length=e)/\k0<=id) (vW id t e ds env s (sat s id))
 |none=>.bad
def OD(id t e n:Nat)(cs env:List AV)(s:gA):Ob->Out
 |.dead=>.ok (.mm e id 0 n) env (sset s id (.obj t cs))
 |_=>.bad
def DM(id t e:Nat)(ds:List D)(cs env:List AV)(s:gA):Ob->Out
 |.dead=>.ok (.own e id ds) env (sset s id (.oh t e ds.length cs))
 |.obj _ _=>.ok (.own e id ds) (AV.ia (gJ id) env) (sset (ig id s) id (.oh t e ds.length (AV.ia (gJ id) cs)))
 |.tok _ _ _=>.ok (.own e id ds) (AV.ia (gJ id) env) (sset (ig id s) id (.oh t e ds.length (AV.ia (gJ id) cs)))
 |.ij _ _ _ _=>.ok (.own e id ds) (AV.ia (gJ id) env) (sset (ig id s) id (.oh t e ds.length (AV.ia (gJ id) cs)))
 |.oh _ _ _ _=>.ok (.own e id ds) (AV.ia (gJ id) env) (sset (ig id s) id (.oh t e ds.length (AV.ia (gJ id) cs)))
 |.tc _ _ _=>.ok (.own e id ds) (AV.ia (gJ id) env) (sset (ig id s) id (.oh t e ds.length (AV.ia (gJ id) cs)))
 |.mp _ _ _=>.ok (.own e id ds) (AV.ia (gJ id) env) (sset (ig id s) id (.oh t e ds.length (AV.ia (gJ id) cs)))
def HI(id t e k0:Nat)(env:List AV)(s:gA):Option (List D)->Option (List AV)->Out
 |some ds,some cs=>.need ((∀d∈ds,(gx d).length=e)/\wC cs=true/\k0<=id) (DM id t e ds cs env s (sat s id))
 |_,_=>.bad
def HG(id t e k0:Nat)(env:List AV)(s:gA):Option (List D)->Out
 |some ds=>.need ((∀d∈ds,(gx d).length=e)/\k0<=id) (zm id t e ds env s (sat s id))
 |none=>.bad
def Ig(id t e bytes k0:Nat)(z:List D)(env:List AV)(s:gA):Bool->Option Int->Option Int->Out
 |true,some l,some c=>.need (0<=l/\l<=c/\bytes*c<=2^48/\c<2^62/\k0<=id) (vW id t e [] env s (sat s id))
 |false,some l,some c=>.need (0<=l/\l<=c/\bytes*c<=2^48/\c<2^62/\k0<=id) (DK id t e l.toNat ((List.replicate l.toNat (z.map .d)).flatten) env s (sat s id))
 |_,_,_=>.bad
def GX(id e bytes k0:Nat)(z:List D)(env:List AV)(s:gA):Bool->Option Int->Option Int->Out
 |false,some l,some c=>.need (0<e/\0<=l/\l<=c/\bytes*c<=2^48/\c<2^62/\k0<=id/\(sat s id).jq=true) (.ok (.jM e id l.toNat) env (sset s id (.tc e l.toNat ((List.replicate l.toNat (z.map .d)).flatten))))
 |_,_,_=>.bad
def L3(e bytes:Nat)(env:List AV)(s:gA):List D->Bool->Option Int->Option Int->Out
 |[zd],false,some l,some c=>.need (e=1/\0<=l/\l<=c/\bytes*c<=2^48/\c<2^62) (.ok (.d (.sl 1 none (List.replicate l.toNat zd))) env s)
 |_,_,_,_=>.bad
def Gm(P:Program)(args env:List AV)(s:gA):AV->Out
 |.fn f first cap=>.need (enters P f=true) (.call f (first++args++cap) env s)
 |_=>.bad
def OE(P:Program)(id k:Nat)(env:List AV)(s:gA):Bool->Out
 |true=>.ok (.mp id) env (sset s id (.mp P k []))
 |false=>.ok (.mp id) (AV.ia (gJ id) env) (sset (ig id s) id (.mp P k []))
noncomputable def jO(P:Program)(k0:Nat)(env:List AV)(s:gA):ri->Out
 |.mv x=>.ok (ev env x) env s
 |.pick c a b=>Ij env s (ev env a) (ev env b) (ev env c)
 |.alloc id t z=>.need (k0<=id) (uT id t (z.map .d) env s (sat s id))
 |.uV id _ t z=>.need (k0<=id) (uT id t (z.map .d) env s (sat s id))
 |.box id t x=>IT id t k0 env s (ev env x).cells
 |.Dl id _ t x=>IT id t k0 env s (ev env x).cells
 |.build z ps=>KH env s (od env (z.map .d) ps)
 |.mW id t e xs=>NB id t e k0 env s (AV.lu (xs.map (ev env)))
 |.wN id t e xs=>HG id t e k0 env s (AV.lu (xs.map (ev env)))
 |.Cq id t e xs=>HI id t e k0 env s (AV.lu (xs.map (ev env))) (AV.flat e (xs.map (ev env)))
 |.load n ag p=>BR n ag env s (ev env p)
 |.store n p x=>Cf n env s (ev env x) (ev env p)
 |.nD x=>QH env s (ev env x)
 |.bin op x y=>Ny op env s (ev env x) (ev env y)
 |.Bh neg x y=>HE neg env s (ev env x) (ev env y)
 |.wo neg x=>Du neg env s (ev env x) (xb (ev env x))
 |.un op x=>Vu env s op (ev env x)
 |.conv k x=>HS k env s (ev env x)
 |.zk f first cap=>.ok (.fn f (first.map (ev env)) (cap.map (ev env))) env s
 |.ye _ _ e bytes z tok len cap=>L3 e bytes env s z tok (iN (ev env len)) (iN (ev env cap))
 |.zl id _ e bytes z tok len cap=>GX id e bytes k0 z env s tok (iN (ev env len)) (iN (ev env cap))
 |.xZ id t e bytes z tok len cap=>Ig id t e bytes k0 z env s tok (iN (ev env len)) (iN (ev env cap))
 |.slc x e lo hi mx=>JR (ev env x) e env s lo hi mx
 |.Fv p e n lo hi mx=>Iw e n env s (ev env p) lo hi mx
 |.Nn off p=>Te off env s (ev env p)
 |.qj e x i=>Oo e env s (ev env x) (iN (ev env i))
 |.E4 e n p i=>PJ e n env s (iN (ev env i)) (ev env p)
 |.len x=>GM env s (ev env x)
 |.app id t e bytes x y=>IM id t e bytes k0 (ev env x) env s (pN (ev env y))
 |.AP id t e bytes x y=>Bf id t e bytes k0 (ev env x) env s (pN (ev env y))
 |.iy f args=>.call f (args.map (ev env)) env s
 |.tN g args=>Gm P (args.map (ev env)) env s (ev env g)
 |.ext x i=>Rz i env s (ev env x)
 |.min x y=>A2 false env s (ev env x) (ev env y)
 |.OR _=>.bad
 |.Fx x e y=>MG e k0 env s (ev env x) (iN (ev env y))
 |.DJ t x=>LZ t env s (ev env x)
 |.dead=>.bad
theorem G7(ρ:Nat->Option Nat):∀z:List D,AV.ia ρ (z.map .d)=z.map .d
 |[]=>rfl
 |x::xs=>by simp only[aZ,AV.ia,AV.jU,G7 ρ xs]
theorem vA(ρ:Nat->Option Nat):∀z:List AV,AV.ia ρ z=z.map (AV.jU ρ)
 |[]=>rfl
 |x::xs=>by simp only[aZ,AV.ia,vA ρ xs]
theorem Er{P:Program}{k0 id t e bytes:Nat}{x y:AV}{env:List AV}{s:gA}{K:AV->List AV->gA->Prop}(h:runK P k0 K (IM id t e bytes k0 x env s (pN y))):
 IL id t e bytes k0 x y env s K:=by
 unfold IL;cases hs:pN y with
 |none=>rw[hs]at h;exact h.elim
 |some p=>
  obtain⟨e2,ys⟩:=p;rw[hs]at h;simp only[IM,Eo]at h⊢;split at h
  ·simp only[runK,HD]at h;exact⟨h.1.1,h.1.2,h.2.1.1,h.2.1.2,h.2.2⟩
  ·rename_i e' j n;simp only[runK]at h;refine⟨h.1.1,h.1.2,?_⟩;have h:=h.2;cases hq:sat s j<;>simp only[hq,KB,runK]at h⊢
   exact⟨h.1.1,h.1.2.1,h.1.2.2.1,h.1.2.2.2,h.2⟩
  ·simp only[runK]at h;refine⟨h.1.1,h.1.2.1,h.1.2.2,?_⟩;have h:=h.2;cases hq:sat s id<;>simp only[hq,vW,runK,Ob.jq,aO,av,aI]at h⊢<;>exact h
  ·simp only[runK]at h;exact⟨h.1.1,h.1.2.1,h.1.2.2,h.2⟩
  ·exact h.elim
theorem IQ{P:Program}{k0 id t e bytes:Nat}{x y:AV}{env:List AV}{s:gA}{K:AV->List AV->gA->Prop}(h:runK P k0 K (Bf id t e bytes k0 x env s (pN y))):
 Et id t e bytes k0 x y env s K:=by
 unfold Et;split
 ·rename_i e2 ys e4 hs;rw[hs]at h;simp only[Bf,zP,runK]at h;refine⟨h.1.1,h.1.2.1,?_⟩;unfold tV;refine⟨h.1.2.2,?_⟩;have h:=h.2;cases hq:sat s id<;>simp only[hq,zm,runK,Ob.jq,aO,av,aI]at h⊢<;>exact h
 ·rename_i hn;refine Er (P:=P) ?_;cases hs:pN y with
  |none=>rw[hs]at h;exact h
  |some p=>
   obtain⟨e2,ys⟩:=p;rw[hs]at h;simp only[Bf]at h;unfold zP at h;split at h
   ·rename_i e4;exact absurd rfl (hn e2 ys e4 hs)
   ·exact h
theorem FO{P:Program}{k0:Nat}{m:ri}{env:List AV}{s:gA}{K:AV->List AV->gA->Prop}(h:runK P k0 K (jO P k0 env s m)):oW P k0 m env s K:=by
 cases m with
 |mv x=>exact h
 |pick c a b=>
  simp only[jO,Ij,oW]at h⊢;split at h
  ·rename_i t ht;try rw[ht]
   simpa[Br,runK]using h
  ·exact h.elim
 |alloc id t z=>
  simp only[jO,runK,oW,tV]at h⊢;refine⟨h.1,?_⟩;cases hs:sat s id<;>simp only[hs,uT,runK,Ob.jq,aO,av,aI,G7]at h⊢<;>exact h.2
 |uV id d t z=>
  simp only[jO,runK,oW,tV]at h⊢;refine⟨h.1,?_⟩;cases hs:sat s id<;>simp only[hs,uT,runK,Ob.jq,aO,av,aI,G7]at h⊢<;>exact h.2
 |Dl id d t x=>
  simp only[jO,oW]at h⊢;cases hc:(ev env x).cells with
  |none=>rw[hc]at h;exact h.elim
  |some cs=>
   rw[hc]at h;simp only[IT,runK,tV]at h⊢;refine⟨h.1,?_⟩;cases hs:sat s id<;>simp only[hs,uT,runK,Ob.jq,aO,av,aI,vA]at h⊢
   ·simpa using h.2
   all_goals exact h.2
 |box id t x=>
  simp only[jO,oW]at h⊢;cases hc:(ev env x).cells with
  |none=>rw[hc]at h;exact h.elim
  |some cs=>
   rw[hc]at h;simp only[IT,runK,tV]at h⊢;refine⟨h.1,?_⟩;cases hs:sat s id<;>simp only[hs,uT,runK,Ob.jq,aO,av,aI,vA]at h⊢
   ·simpa using h.2
   all_goals exact h.2
 |build z ps=>
  simp only[jO,oW]at h⊢;cases hc:od env (z.map .d) ps with
  |none=>rw[hc]at h;exact h.elim
  |some cs=>rw[hc]at h;exact h
 |mW id t e xs=>
  simp only[jO,oW]at h⊢;cases hc:AV.lu (xs.map (ev env))with
  |none=>rw[hc]at h;exact h.elim
  |some ds=>
   rw[hc]at h;simp only[NB,runK,tV]at h⊢;refine⟨h.1.1,h.1.2,?_⟩;cases hs:sat s id<;>simp only[hs,vW,runK,Ob.jq,aO,av,aI]at h⊢<;>exact h.2
 |wN id t e xs=>
  simp only[jO,oW]at h⊢;cases hc:AV.lu (xs.map (ev env))with
  |none=>rw[hc]at h;exact h.elim
  |some ds=>
   rw[hc]at h;simp only[HG,runK,tV]at h⊢;refine⟨h.1.1,h.1.2,?_⟩;cases hs:sat s id<;>simp only[hs,zm,runK,Ob.jq,aO,av,aI]at h⊢<;>exact h.2
 |load n ag p=>
  simp only[jO,oW,pU]at h⊢;cases hp:ev env p with
  |ptr id off=>
   rw[hp]at h;simp only[BR]at h⊢;cases hs:sat s id<;>rw[hs]at h<;>simp only[GN,runK]at h⊢
   cases ag<;>exact h
  |pv cs=>rw[hp]at h;simp only[BR,runK]at h⊢;cases ag<;>exact h
  |pa cs=>rw[hp]at h;simp only[BR,runK]at h⊢;exact⟨h.1.1,h.1.2.1,h.1.2.2,h.2⟩
  |kH id kk off=>
   rw[hp]at h;simp only[BR]at h⊢;cases hs:sat s id<;>rw[hs]at h<;>simp only[GO,runK]at h⊢
   ·cases ag<;>exact⟨h.1.1,h.1.2,h.2⟩
   ·exact⟨h.1.1,h.1.2.1,h.1.2.2.1,h.1.2.2.2.1,h.1.2.2.2.2,h.2⟩
  |_=>rw[hp]at h;exact h.elim
 |store n p x=>
  simp only[jO,oW,DY]at h⊢;cases hp:ev env p with
  |ptr id off=>
   rw[hp]at h;simp only[Cf]at h⊢;cases hs:sat s id<;>rw[hs]at h<;>cases hc:(ev env x).cells<;>rw[hc]at h<;>simp only[D0,runK]at h⊢
   exact⟨h.1.1,h.1.2,h.2⟩
  |kH id kk off=>
   rw[hp]at h;simp only[Cf]at h⊢;cases hs:sat s id<;>rw[hs]at h<;>simp only at h⊢
   case ij=>cases hc:(ev env x).fin<;>rw[hc]at h<;>simp only[A3,runK]at h⊢<;>exact⟨h.1.1,h.1.2.1,h.1.2.2,h.2⟩
   case tc e1 m1 cs1=>
    have h:runK P k0 K (A4 n kk off id e1 m1 cs1 env s (ev env x).cells):=by cases hc:(ev env x).fin<;>rw[hc]at h<;>exact h
    cases hc:(ev env x).cells<;>rw[hc]at h<;>simp only[A4,runK]at h⊢
    exact⟨h.1.1,h.1.2.1,h.1.2.2.1,h.1.2.2.2.1,h.1.2.2.2.2,h.2⟩
   all_goals(cases hc:(ev env x).fin<;>rw[hc]at h<;>simp only[A3,runK]at h)
  |_=>rw[hp]at h;exact h.elim
 |nD x=>
  simp only[jO,oW]at h⊢;cases hp:ev env x<;>rw[hp]at h<;>first|exact h|exact h.elim
 |bin op x y=>
  simp only[jO,oW,Nx,Ny]at h⊢;split at h
  ·rename_i k a k' b h1 h2;try rw[h1,h2]
   simp only[runK]at h;refine⟨h.1,?_⟩;have h:=h.2;cases op<;>exact h
  ·rename_i a b h1 h2;try rw[h1,h2]
   cases op<;>first|exact h|exact h.elim
  ·exact h.elim
 |Bh neg x y=>
  simp only[jO,oW,HE]at h⊢;split at h
  ·rename_i a b h1 h2;try rw[h1,h2]
   cases neg<;>exact h
  ·exact h.elim
 |wo neg x=>
  simp only[jO,oW]at h⊢;cases hc:xb (ev env x)with
  |none=>
   rw[hc]at h;simp only[Du]at h;cases hs:pN (ev env x)with
   |none=>rw[hs]at h;exact h.elim
   |some p=>rw[hs]at h;cases neg<;>exact h
  |some b=>rw[hc]at h;cases neg<;>exact h
 |un op x=>
  simp only[jO,oW,Vu]at h⊢;split at h
  ·rename_i b h1;(try rw[h1]);exact h
  ·rename_i k n h1;(try rw[h1]);exact h
  ·exact h.elim
 |conv k x=>
  simp only[jO,oW,HS]at h⊢;split at h
  ·rename_i k' n h1;(try rw[h1]);exact h
  ·exact h.elim
 |zk f first cap=>exact h
 |zl id t e bytes z tok len cap=>
  simp only[jO,oW]at h⊢;generalize iN (ev env len)=X at h⊢;generalize iN (ev env cap)=Y at h⊢;cases tok<;>cases X<;>cases Y<;>simp only[GX,runK]at h⊢<;>first
   |exact⟨trivial,h.1.1,h.1.2.1,h.1.2.2.1,h.1.2.2.2.1,h.1.2.2.2.2.1,h.1.2.2.2.2.2.1,h.1.2.2.2.2.2.2,h.2⟩
   |exact h
 |ye id t e bytes z tok len cap=>
  simp only[jO,oW]at h⊢;cases h1:iN (ev env len)with
  |none=>
   rw[h1]at h;rcases z with _|⟨zd,_|⟨_,_⟩⟩<;>cases tok<;>exact h.elim
  |some lv=>
   cases h2:iN (ev env cap)with
   |none=>
    rw[h1,h2]at h;rcases z with _|⟨zd,_|⟨_,_⟩⟩<;>cases tok<;>exact h.elim
   |some cv=>
    rw[h1,h2]at h;rcases z with _|⟨zd,_|⟨_,_⟩⟩<;>cases tok<;>first
     |exact h.elim
     |exact⟨h.1.1,rfl,h.1.2.1,h.1.2.2.1,h.1.2.2.2.1,h.1.2.2.2.2,h.2⟩
 |xZ id t e bytes z tok len cap=>
  simp only[jO,oW]at h⊢;cases h1:iN (ev env len)<;>cases h2:iN (ev env cap)<;>cases tok<;>rw[h1,h2]at h<;>simp only[Ig,runK]at h⊢
  ·obtain⟨⟨a1,a2,a3,a4,a5⟩,h⟩:=h;refine⟨a1,a2,a3,a4,a5,?_⟩;cases hs:sat s id<;>simp only[hs,DK,runK,Ob.jq,aO,av,aI]at h⊢<;>exact h
  ·obtain⟨⟨a1,a2,a3,a4,a5⟩,h⟩:=h;refine⟨a1,a2,a3,a4,a5,?_⟩;cases hs:sat s id<;>simp only[hs,vW,runK,Ob.jq,aO,av,aI]at h⊢<;>exact h
 |slc x e lo hi mx=>
  simp only[jO,oW]at h⊢;cases mx with
  |some m=>
   simp only[JR]at h;cases lo with
   |some _=>cases hi<;>exact h.elim
   |none=>
    cases hi with
    |none=>exact h.elim
    |some hh=>
     simp only[Vr]at h;cases h1:iN (ev env hh)with
     |none=>rw[h1]at h;exact h.elim
     |some hv=>
      cases h2:iN (ev env m)with
      |none=>rw[h1,h2]at h;exact h.elim
      |some mv=>
       cases hs:pN (ev env x)with
       |none=>rw[h1,h2,hs]at h;exact h.elim
       |some p=>
        obtain⟨e',xs⟩:=p;rw[h1,h2,hs]at h;simp only[Sx,runK]at h;obtain⟨⟨k1,rfl,k2,k3⟩,k4⟩:=h;exact⟨rfl,hh,hv,rfl,h1,h2,k1,k2,k3,k4⟩
  |none=>
   simp only[JR]at h;cases hs:pN (ev env x)with
   |none=>rw[hs]at h;exact h.elim
   |some p=>
    obtain⟨e',xs⟩:=p;rw[hs]at h;simp only[Iz]at h⊢;split at h
    ·rename_i l hh h1 h2;simp only[runK]at h;refine⟨h.1.1,?_⟩;unfold O9;rw[hs,h1,h2];exact⟨h.1.2.1,h.1.2.2.1,h.1.2.2.2,h.2⟩
    ·exact h.elim
 |Fv p e n lo hi mx=>
  simp only[jO,oW,Iw]at h⊢;split at h
  ·rename_i id off h1;(try rw[h1]);exact h
  ·rename_i id off hh h1;try rw[h1]
   split at h
   ·rename_i h' h2;(try simp only[h2]);exact⟨h.1.1,h.1.2,h.2⟩
   ·exact h.elim
  ·exact h.elim
 |Nn off p=>
  simp only[jO,oW]at h⊢;cases hp:ev env p<;>rw[hp]at h<;>first|exact h|exact h.elim
 |qj e x i=>
  simp only[jO,oW,Om]at h⊢;cases hi:iN (ev env i)with
  |none=>rw[hi]at h;exact h.elim
  |some n=>
   rw[hi]at h;simp only[Oo]at h⊢;cases hx:ev env x<;>rw[hx]at h<;>simp only[BM]at h⊢<;>first
    |exact⟨h.1.1,h.1.2.1,h.1.2.2,h.2⟩
    |(
     split
     ·rename_i e' xs hs;rw[hs]at h;exact⟨h.1.1,h.1.2.1,h.1.2.2,h.2⟩
     ·rename_i hs;rw[hs]at h;exact h.elim)
 |E4 e n p i=>
  simp only[jO,oW]at h⊢;cases hi:iN (ev env i)<;>cases hp:ev env p<;>rw[hi,hp]at h<;>first|exact⟨h.1.1,h.1.2,h.2⟩|exact h.elim
 |len x=>
  simp only[jO,oW]at h⊢;cases hx:ev env x<;>rw[hx]at h<;>simp only[GM]at h⊢<;>first
   |exact h
   |(
    split
    ·rename_i e' xs hs;rw[hs]at h;exact h
    ·rename_i hs;rw[hs]at h;exact h.elim)
 |app id t e bytes x y=>exact Er h
 |Cq id t e xs=>
  simp only[jO,oW,KF]at h⊢;generalize AV.lu (xs.map (ev env))=X at h⊢;generalize AV.flat e (xs.map (ev env))=Y at h⊢;unfold HI at h;split at h
  ·simp only[runK]at h;refine⟨h.1.1,h.1.2.1,h.1.2.2,?_⟩;have h:=h.2;cases hs:sat s id<;>simp only[hs,DM,runK,Ob.jq,aO,av,aI,vA]at h⊢<;>first|exact h|simpa using h
  ·exact h.elim
 |AP id t e bytes x y=>exact IQ h
 |iy f args=>exact h
 |tN g args=>
  simp only[jO,oW,Gm]at h⊢;split at h
  ·rename_i f first cap h1;(try rw[h1]);exact h
  ·exact h.elim
 |ext x i=>
  simp only[jO,oW,Rz]at h⊢;split at h
  ·rename_i cs h1;(try rw[h1]);exact h
  ·exact h.elim
 |min x y=>
  simp only[jO,oW,A2]at h⊢;split at h
  ·rename_i k a k' b h1 h2;(try rw[h1,h2]);exact h
  ·exact h.elim
 |OR x=>exact h
 |DJ t x=>
  simp only[jO,oW]at h⊢;generalize ev env x=X at h⊢;unfold LZ at h;split at h
  ·exact⟨rfl,h⟩
  ·exact h.elim
 |Fx x e y=>
  simp only[jO,oW]at h⊢;generalize ev env x=X at h⊢;generalize iN (ev env y)=Y at h⊢;cases X<;>cases Y<;>simp only[MG]at h⊢<;>first
   |exact h.elim
   |(rename_i e1 j n hv;simp only[runK]at h;obtain⟨he,h⟩:=h;unfold OW;cases hs:sat s j<;>rw[hs]at h<;>simp only[G9,runK]at h⊢<;>first|exact h.elim|exact⟨he,h.1.1,h.1.2.1,h.1.2.2.1,h.1.2.2.2.1,h.1.2.2.2.2,h.2⟩)
 |dead=>exact h
def kR(P:Program)(k0 f:Nat)(args env:List AV)(s:gA)(d:Option Nat)(R:List AV->gA->Prop):Prop:=
 Ax P k0 f args env s fun x env s=>R (gU d env x) s
def lp(P:Program)(k0:Nat)(R:List AV->gA->Prop)(d:Option Nat):Out->Prop
 |.ok x env s=>R (gU d env x) s
 |.need p o=>p/\lp P k0 R d o
 |.br b o1 o2=>if b=true then lp P k0 R d o1 else lp P k0 R d o2
 |.call f args env s=>kR P k0 f args env s d R
 |.Q_ p o1 o2=>(p->lp P k0 R d o1)/\lp P k0 R d o2
 |.bad=>False
def yG(P:Program)(k0:Nat)(R:List AV->gA->Prop)(d:Option Nat)(b:Bool)(o1 o2:Out):Prop:=
 if b=true then lp P k0 R d o1 else lp P k0 R d o2
theorem Pn{P:Program}{k0:Nat}{R:List AV->gA->Prop}{d:Option Nat}{b:Bool}{o1 o2:Out}:lp P k0 R d (.br b o1 o2)=yG P k0 R d b o1 o2:=(rfl)
theorem S1{P:Program}{k0:Nat}{R:List AV->gA->Prop}{d:Option Nat}{o1 o2:Out}:yG P k0 R d true o1 o2=lp P k0 R d o1:=by simp[yG]
theorem S0{P:Program}{k0:Nat}{R:List AV->gA->Prop}{d:Option Nat}{o1 o2:Out}:yG P k0 R d false o1 o2=lp P k0 R d o2:=by simp[yG]
def ud(P:Program)(k0:Nat)(K:List AV->gA->Prop):List h_->List AV->gA->Prop
 |[],env,s=>K env s
 |m::ms,env,s=>match m.guard with
  |none=>lp P k0 (ud P k0 K ms) m.dst (jO P k0 env s m.op)
  |some (g,want)=>match g with
   |none=>ud P k0 K ms (gU m.dst env (.l_ [])) s
   |some d=>match env.getD d .hM with
    |.d (.lit (.bool b))=>if b=want then lp P k0 (ud P k0 K ms) m.dst (jO P k0 env s m.op)else ud P k0 K ms (gU m.dst env (.l_ [])) s
    |.l_ []=>ud P k0 K ms (gU m.dst env (.l_ [])) s
    |_=>False
def wF(P:Program)(k0:Nat)(K:List AV->gA->Prop)(b want:Bool)(m:ri)(d:Option Nat)(ms:List h_)(env:List AV)(s:gA):Prop:=
 if b=want then lp P k0 (ud P k0 K ms) d (jO P k0 env s m)else ud P k0 K ms (gU d env (.l_ [])) s
section
variable{P:Program}{k0:Nat}{K:List AV->gA->Prop}{b want:Bool}{m:ri}{d:Option Nat}{ms:List h_}{env:List AV}{s:gA}
theorem QZ:wF P k0 K true true m d ms env s=lp P k0 (ud P k0 K ms) d (jO P k0 env s m):=by simp[wF]
theorem QW:wF P k0 K false false m d ms env s=lp P k0 (ud P k0 K ms) d (jO P k0 env s m):=by simp[wF]
theorem QY:wF P k0 K true false m d ms env s=ud P k0 K ms (gU d env (.l_ [])) s:=by simp[wF]
theorem QX:wF P k0 K false true m d ms env s=ud P k0 K ms (gU d env (.l_ [])) s:=by simp[wF]
def SC(P:Program)(k0:Nat)(K:List AV->gA->Prop)(want:Bool)(m:ri)(d:Option Nat)(ms:List h_)(env:List AV)(s:gA):AV->Prop
 |.d (.lit (.bool b))=>wF P k0 K b want m d ms env s
 |.l_ []=>ud P k0 K ms (gU d env (.l_ [])) s
 |_=>False
theorem Pm:ud P k0 K [] env s=K env s:=(rfl)
theorem J_:ud P k0 K (⟨d,m,none⟩::ms) env s=lp P k0 (ud P k0 K ms) d (jO P k0 env s m):=(rfl)
theorem J9{g:Nat}:ud P k0 K (⟨d,m,some (some g,want)⟩::ms) env s=SC P k0 K want m d ms env s (env.getD g .hM):=by
 simp only[ud];split
 ·rename_i b h;rw[h];rfl
 ·rename_i h;rw[h];rfl
 ·rename_i h h';unfold SC;split
  ·rename_i b h2;exact absurd h2 (h b)
  ·rename_i h2;exact absurd h2 h'
  ·rfl
theorem Po{R:List AV->gA->Prop}{x:AV}:lp P k0 R d (.ok x env s)=R (gU d env x) s:=(rfl)
theorem Kc{R:List AV->gA->Prop}{p:Prop}{o:Out}:lp P k0 R d (.need p o)=(p/\lp P k0 R d o):=(rfl)
def rj(P:Program)(k0:Nat)(R:List AV->gA->Prop)(d:Option Nat)(p:Prop)(o1 o2:Out):Prop:=(p->lp P k0 R d o1)/\lp P k0 R d o2
theorem rj.of{P:Program}{k0:Nat}{R:List AV->gA->Prop}{d:Option Nat}{p:Prop}{o1 o2:Out}(h1:p->lp P k0 R d o1)(h2:lp P k0 R d o2):rj P k0 R d p o1 o2:=⟨h1,h2⟩
theorem M4{R:List AV->gA->Prop}{p:Prop}{o1 o2:Out}:lp P k0 R d (.Q_ p o1 o2)=rj P k0 R d p o1 o2:=(rfl)
theorem Kb{R:List AV->gA->Prop}{f:Nat}{args:List AV}:lp P k0 R d (.call f args env s)=kR P k0 f args env s d R:=(rfl)
end
theorem ue{P:Program}{k0:Nat}{R:List AV->gA->Prop}{d:Option Nat}{K:AV->List AV->gA->Prop}(hK:∀x env s,R (gU d env x) s->K x env s):
 ∀{o:Out},lp P k0 R d o->runK P k0 K o
 |.ok x env s=>fun h=>hK x env s h
 |.need p o=>fun h=>⟨h.1,ue hK h.2⟩
 |.br b o1 o2=>fun h=>by
  cases b with
  |true=>simp only[lp,aO]at h;simp only[runK,aO];exact ue hK h
  |false=>simp only[lp,av,aI]at h;simp only[runK,av,aI];exact ue hK h
 |.call _ _ _ _=>fun h=>Gj (K:=fun x env s=>R (gU d env x) s) h fun x env s=>hK x env s
 |.Q_ p o1 o2=>fun h=>⟨fun hp=>ue hK (h.1 hp),ue hK h.2⟩
 |.bad=>fun h=>h
theorem xB{P:Program}{k0:Nat}{K:List AV->gA->Prop}:∀{ms:List h_}{env:List AV}{s:gA},ud P k0 K ms env s->AR P k0 ms env s K
 |[],env,s=>fun h=>h
 |m::ms,env,s=>fun h=>by
  have step:lp P k0 (ud P k0 K ms) m.dst (jO P k0 env s m.op)->oW P k0 m.op env s fun x env s=>AR P k0 ms (gU m.dst env x) s K:=
   fun h=>FO (ue (fun _ _ _ h=>xB h) h)
  simp only[ud,AR]at h⊢;split
  ·rename_i hg;rw[hg]at h;exact step h
  ·rename_i g want hg;rw[hg]at h;cases g with
   |none=>exact xB h
   |some d=>
    simp only at h⊢;split
    ·rename_i b hb;rw[hb]at h;unfold Br;simp only at h;split
     ·rename_i hbw;rw[ah hbw]at h;exact step h
     ·rename_i hbw;rw[ay hbw]at h;exact xB h
    ·rename_i hb;rw[hb]at h;exact xB h
    ·rename_i hb hb';split at h
     ·rename_i b h2;exact absurd h2 (hb b)
     ·rename_i h2;exact absurd h2 hb'
     ·exact h
theorem Wz{P:Program}{k:Nat}{Q:Post}{env:List AV}{s:gA}{ms:List h_}(h:ud P k (Q .normal) ms env s):oZ P k (.gv ms) Q env s:=Uh (xB h)
theorem LF{e id off n:Nat}{env:List AV}{s:gA}:GM env s (.mm e id off n)=.ok (.d (iD n)) env s:=(rfl)
theorem RU{x:D}{env:List AV}{s:gA}:GM env s (.d x)=LC env s (pN (.d x)):=(rfl)
theorem LG{e id:Nat}{xs:List D}{env:List AV}{s:gA}:GM env s (.own e id xs)=.ok (.d (iD xs.length)) env s:=(rfl)
theorem Ju{e e' id off len:Nat}{n:Int}{env:List AV}{s:gA}:BM e n env s (.mm e' id off len)=.need (e'=e/\0<=n/\n<len) (.ok (.ptr id (off+n.toNat*e)) env s):=(rfl)
theorem Oq{e:Nat}{n:Int}{x:D}{env:List AV}{s:gA}:BM e n env s (.d x)=H9 e n env s (pN (.d x)):=(rfl)
theorem LD{e id n:Nat}{env:List AV}{s:gA}:GM env s (.jM e id n)=.ok (.d (iD n)) env s:=(rfl)
theorem Jt{e e' id m:Nat}{n:Int}{env:List AV}{s:gA}:BM e n env s (.jM e' id m)=.need (e'=e/\0<=n/\n<m) (.ok (.kH id m (n.toNat*e)) env s):=(rfl)
theorem Jv{e e' id:Nat}{n:Int}{xs:List D}{env:List AV}{s:gA}:BM e n env s (.own e' id xs)=H9 e n env s (some (e',xs)):=(rfl)
theorem EL{neg b:Bool}{env:List AV}{s:gA}{x:AV}:Du neg env s x (some b)=.ok (.d (bD (JG neg b))) env s:=(rfl)
theorem EK{neg:Bool}{env:List AV}{s:gA}{x:AV}:Du neg env s x none=Gy neg env s (pN x):=(rfl)
attribute [go_sem] OE RN Uf Ob.jq GX A4 BK DM HI OD AV.flat zP Bf zm HG LD Jt Ss GO A3 KB EL EK Vs M4 Gy Pm J_ J9 SC Po Kc Kb Pn S1 S0 QZ QW QY QX uT vW DK It Sr GN BR D0 Cf Ny KE HE JG Vu HS Ij QH Te H9 Ju Oq Jv Oo PJ LC LF RU LG Iz Sx Vr L3 JR MG G9 LZ Iw HD Eo IM Rz A2 IT KH NB Ig Gm jO List.drop_zero List.drop_succ_cons List.drop_nil List.take_zero List.take_succ_cons List.take_nil List.headD_cons List.append_nil true_and and_true Nat.zero_add Nat.add_zero if_true if_false Nat.le_refl
inductive pW where
 |ok (x:AV) (δ:List (Nat×Ob))
 |need (p:Prop) (o:pW)
 |br (b:Bool) (o1 o2:pW)
 |call (f:Nat) (args:List AV)
 |bad
def Bm(ρ:Operand->AV)(dflt:Int):Option Operand->Option Int
 |none=>some dflt
 |some x=>iN (ρ x)
def qU(ρ:Operand->AV):List AV->List (Nat×Nat×Operand)->Option (List AV)
 |cs,[]=>some cs
 |cs,(off,n,x)::r=>match(ρ x).cells with
  |some xs=>if xs.length=n/\off+n<=cs.length then qU ρ (cs.take off++xs++cs.drop (off+n)) r else none
  |none=>none
def LJ(n:Nat)(ag:Bool)(off:Nat):Ob->pW
 |.obj _ cs=>.need (off+n<=cs.length) (.ok (It n off cs ag) [])
 |_=>.bad
def LK(n:Nat)(ag:Bool)(k off:Nat):Ob->pW
 |.ij _ _ m cs=>.need (m=k/\off+n<=cs.length) (.ok (.d (Ss n off cs ag)) [])
 |_=>.bad
def H_(σ:Nat->Ob)(n:Nat)(ag:Bool):AV->pW
 |.ptr id off=>LJ n ag off (σ id)
 |.kH id k off=>LK n ag k off (σ id)
 |.pv cs=>.need (n<=cs.length) (.ok (.d (Sr n cs ag)) [])
 |.pa cs=>.need (ag=false/\n=1/\1<=cs.length) (.ok (cs.headD .hM) [])
 |_=>.bad
def IA(n off id:Nat):Ob->Option (List AV)->pW
 |.obj t cs,some xs=>.need (xs.length=n/\off+n<=cs.length) (.ok .hM [(id,(.obj t (cs.take off++xs++cs.drop (off+n))))])
 |_,_=>.bad
def IB(n k off id:Nat):Ob->Option D->pW
 |.ij t e m cs,some d=>.need (m=k/\(gx d).length=n/\off+n<=cs.length) (.ok .hM [(id,.ij t e m (cs.take off++gx d++cs.drop (off+n)))])
 |_,_=>.bad
def DZ(σ:Nat->Ob)(n:Nat)(x:AV):AV->pW
 |.ptr id off=>IA n off id (σ id) x.cells
 |.kH id k off=>IB n k off id (σ id) x.fin
 |_=>.bad
def Rb(op:BinOp):AV->AV->pW
 |.d (.lit (.int k a)),.d (.lit (.int k' b))=>.need (Vs op k k')<|match op with
  |.add=>.ok (.d (.lit (.int k (k.wrap (a+b))))) []
  |.sub=>.ok (.d (.lit (.int k (k.wrap (a-b))))) []
  |.mul=>.ok (.d (.lit (.int k (k.wrap (a*b))))) []
  |.quo=>.need (b≠0) (.ok (.d (.lit (.int k (k.wrap (a.tdiv b))))) [])
  |.rem=>.need (b≠0) (.ok (.d (.lit (.int k (a.tmod b)))) [])
  |.eql=>.ok (.d (bD (a==b))) []
  |.neq=>.ok (.d (bD (a != b))) []
  |.lss=>.ok (.d (bD (decide (a<b)))) []
  |.leq=>.ok (.d (bD (decide (a<=b)))) []
  |.gtr=>.ok (.d (bD (decide (b<a)))) []
  |.geq=>.ok (.d (bD (decide (b<=a)))) []
  |.and=>.ok (.d (.lit (.int k (xX k a b)))) []
  |.or=>.ok (.d (.lit (.int k (Vt k a b)))) []
  |.xor=>.ok (.d (.lit (.int k (Ke k a b)))) []
  |.andNot=>.ok (.d (.lit (.int k (HC k a b)))) []
  |.shl=>.need (0<=b) (.ok (.d (.lit (.int k (Fq k a b)))) [])
  |.shr=>.need (0<=b) (.ok (.d (.lit (.int k (zD k a b)))) [])
 |.d (.lit (.string a)),.d (.lit (.string b))=>match op with
  |.add=>.need (a.size+b.size<2^63) (.ok (.d (.lit (.string (a++b)))) [])
  |.eql=>.ok (.d (bD (a.toList==b.toList))) []
  |.neq=>.ok (.d (bD (!(a.toList==b.toList)))) []
  |_=>.bad
 |_,_=>.bad
def KD(neg:Bool):AV->AV->pW
 |.d (.lit (.bool a)),.d (.lit (.bool b))=>.ok (.d (bD (KE neg a b))) []
 |_,_=>.bad
def Le(neg:Bool):Option Bool->pW
 |some b=>.ok (.d (bD (JG neg b))) []
 |none=>.bad
def WV:UnOp->AV->pW
 |.not,.d (.lit (.bool b))=>.ok (.d (bD (!b))) []
 |.neg,.d (.lit (.int k n))=>.ok (.d (.lit (.int k (k.wrap (0-n))))) []
 |_,_=>.bad
def Lb(k:IntKind):AV->pW
 |.d (.lit (.int _ n))=>.ok (.d (.lit (.int k (k.wrap n)))) []
 |_=>.bad
def Mf(a b:AV):AV->pW
 |.d (.lit (.bool t))=>.br t (.ok a []) (.ok b [])
 |_=>.bad
def QG:AV->pW
 |.ptr id off=>.ok (.ptr id off) []
 |.pv cs=>.ok (.pv cs) []
 |.pa cs=>.ok (.pa cs) []
 |.fn f a b=>.ok (.fn f a b) []
 |.kH id m off=>.ok (.kH id m off) []
 |_=>.bad
def Td(off:Nat):AV->pW
 |.ptr id o=>.ok (.ptr id (o+off)) []
 |.pv cs=>.ok (.pv (cs.drop off)) []
 |.pa cs=>.ok (.pa (cs.drop off)) []
 |.kH id k o=>.ok (.kH id k (o+off)) []
 |_=>.bad
def Lw(e:Nat)(n:Int):Option (Nat×List D)->pW
 |some (e',xs)=>.need (e'=e/\0<=n/\n<xs.length) (.ok (.pv (gx (xs.getD n.toNat .any))) [])
 |none=>.bad
def E5(e:Nat)(n:Int):AV->pW
 |.mm e' id off len=>.need (e'=e/\0<=n/\n<len) (.ok (.ptr id (off+n.toNat*e)) [])
 |.jM e' id m=>.need (e'=e/\0<=n/\n<m) (.ok (.kH id m (n.toNat*e)) [])
 |x=>Lw e n (pN x)
def RL(e:Nat)(x:AV):Option Int->pW
 |some n=>E5 e n x
 |none=>.bad
def PI(e n:Nat):Option Int->AV->pW
 |some j,.ptr id off=>.need (0<=j/\j<n) (.ok (.ptr id (off+j.toNat*e)) [])
 |some j,.pv cs=>.need (0<=j/\j<n) (.ok (.pv (cs.drop (j.toNat*e))) [])
 |_,_=>.bad
def LA:Option (Nat×List D)->pW
 |some (_,xs)=>.ok (.d (iD xs.length)) []
 |none=>.bad
def RQ:AV->pW
 |.mm _ _ _ n=>.ok (.d (iD n)) []
 |.jM _ _ n=>.ok (.d (iD n)) []
 |x=>LA (pN x)
def Iy(ρ:Operand->AV)(x:AV)(e:Nat)(lo:Option Int)(hi:Option Operand):Option (Nat×List D)->pW
 |some (e',xs)=>match lo,Bm ρ xs.length hi with
  |some l,some h=>.need ((xs=[]\/e'=e)/\0<=l/\l<=h/\h<=xs.length) (.ok (.d (.sl e' (xb x) ((xs.take h.toNat).drop l.toNat))) [])
  |_,_=>.bad
 |none=>.bad
def QS(e:Nat):Option Operand->Option Int->Option Int->Option (Nat×List D)->pW
 |none,some h,some m,some (e',xs)=>.need ((xs=[]\/e'=e)/\h=m/\0<=h/\h<=xs.length) (.ok (.Ac e' (xs.take h.toNat)) [])
 |_,_,_,_=>.bad
def Vq(ρ:Operand->AV):Option Operand->Option Int
 |some h=>iN (ρ h)
 |none=>none
def JQ(ρ:Operand->AV)(x:AV)(e:Nat)(lo hi:Option Operand):Option Operand->pW
 |none=>Iy ρ x e (Bm ρ 0 lo) hi (pN x)
 |some m=>QS e lo (Vq ρ hi) (iN (ρ m)) (pN x)
def Iv(ρ:Operand->AV)(e n:Nat):AV->Option Operand->Option Operand->Option Operand->pW
 |.ptr id off,none,none,none=>.ok (.mm e id off n) []
 |.ptr id off,none,some h,none=>match iN (ρ h)with
  |some h=>.need (0<=h/\h<=n) (.ok (.mm e id off h.toNat) [])
  |none=>.bad
 |_,_,_,_=>.bad
def KA(t e bytes:Nat)(j:Nat)(xs ys:List D)(ob:Ob):pW:=
 .need (ob=.tok t e xs.length/\(xs.length+ys.length)*bytes<=2^47) (.ok (.own e j (xs++ys)) [(j,(.tok t e (xs.length+ys.length)))])
def Pv(t e bytes:Nat)(j n:Nat)(ys:List D):Ob->pW
 |.ij t' e2 m cs=>.need (t'=t/\e2=e/\m=n/\(n+ys.length)*bytes<=2^47) (.ok (.jM e j (n+ys.length)) [(j,.ij t e (n+ys.length) (cs++ys.flatMap gx))])
 |_=>.bad
def Bb(σ:Nat->Ob)(id t e bytes k0:Nat)(e2:Nat)(ys:List D):AV->pW
 |.own e' j xs=>.need ((ys=[]\/e2=e)/\e'=e) (KA t e bytes j xs ys (σ j))
 |.jM e' j n=>.need ((ys=[]\/e2=e)/\e'=e) (Pv t e bytes j n ys (σ j))
 |.d (.sl _ (some true) [])=>.need ((ys=[]\/e2=e)/\ys.length*bytes<=2^47/\k0<=id/\(σ id).jq=true) (.ok (.own e id ys) [(id,.tok t e ys.length)])
 |.Ac e' xs=>.need ((ys=[]\/e2=e)/\e'=e/\(xs.length+ys.length)*bytes<=2^47) (.ok (.d (.sl e none (xs++ys))) [])
 |_=>.bad
def F2(σ:Nat->Ob)(id t e bytes k0:Nat)(x:AV):Option (Nat×List D)->pW
 |some (e2,ys)=>Bb σ id t e bytes k0 e2 ys x
 |none=>.bad
def Dh(σ:Nat->Ob)(id t e bytes k0:Nat)(e2:Nat)(ys:List D):AV->pW
 |.d (.sl _ (some true) [])=>.need ((ys=[]\/e2=e)/\ys.length*bytes<=2^47/\k0<=id/\(σ id).jq=true) (.ok (.jM e id ys.length) [(id,.ij t e ys.length (ys.flatMap gx))])
 |x=>Bb σ id t e bytes k0 e2 ys x
def Eu(σ:Nat->Ob)(id t e bytes k0:Nat)(x:AV):Option (Nat×List D)->pW
 |some (e2,ys)=>Dh σ id t e bytes k0 e2 ys x
 |none=>.bad
def Tc(i:Nat):AV->pW
 |.l_ cs=>.need (i<cs.length) (.ok (cs.getD i .hM) [])
 |_=>.bad
def DH(mx:Bool):AV->AV->pW
 |.d (.lit (.int k a)),.d (.lit (.int k' b))=>.need (k=k') (.ok (.d (.lit (.int k (match mx with|true=>if b>a then b else a|false=>if b<a then b else a)))) [])
 |_,_=>.bad
def Nz(σ:Nat->Ob)(id t k0:Nat):Option (List AV)->pW
 |some cs=>.need (k0<=id/\(σ id).jq=true) (.ok (.ptr id 0) [(id,.obj t cs)])
 |none=>.bad
def KG:Option (List AV)->pW
 |some cs=>.ok (AV.mk cs) []
 |none=>.bad
def NA(σ:Nat->Ob)(id t e k0:Nat):Option (List D)->pW
 |some ds=>.need ((∀d∈ds,(gx d).length=e)/\k0<=id/\(σ id).jq=true) (.ok (.own e id ds) [(id,.tok t e ds.length)])
 |none=>.bad
def HH(σ:Nat->Ob)(id t e k0:Nat):Option (List D)->Option (List AV)->pW
 |some ds,some cs=>.need ((∀d∈ds,(gx d).length=e)/\wC cs=true/\k0<=id/\(σ id).jq=true) (.ok (.own e id ds) [(id,.oh t e ds.length cs)])
 |_,_=>.bad
def HF(σ:Nat->Ob)(id t e k0:Nat):Option (List D)->pW
 |some ds=>.need ((∀d∈ds,(gx d).length=e)/\k0<=id/\(σ id).jq=true) (.ok (.jM e id ds.length) [(id,.ij t e ds.length (ds.flatMap gx))])
 |none=>.bad
def If(σ:Nat->Ob)(id t e bytes k0:Nat)(z:List D):Bool->Option Int->Option Int->pW
 |true,some l,some c=>.need (0<=l/\l<=c/\bytes*c<=2^48/\c<2^62/\k0<=id/\(σ id).jq=true) (.ok (.own e id []) [(id,.tok t e 0)])
 |false,some l,some c=>.need (0<=l/\l<=c/\bytes*c<=2^48/\c<2^62/\k0<=id/\(σ id).jq=true) (.ok (.mm e id 0 l.toNat) [(id,.obj t ((List.replicate l.toNat (z.map .d)).flatten))])
 |_,_,_=>.bad
def L0(e bytes:Nat):List D->Bool->Option Int->Option Int->pW
 |[zd],false,some l,some c=>.need (e=1/\0<=l/\l<=c/\bytes*c<=2^48/\c<2^62) (.ok (.d (.sl 1 none (List.replicate l.toNat zd))) [])
 |_,_,_,_=>.bad
def K2(P:Program)(args:List AV):AV->pW
 |.fn f first cap=>.need (enters P f=true) (.call f (first++args++cap))
 |_=>.bad
def kF(P:Program)(k0:Nat)(ρ:Operand->AV)(σ:Nat->Ob):ri->pW
 |.mv x=>.ok (ρ x) []
 |.pick c a b=>Mf (ρ a) (ρ b) (ρ c)
 |.alloc id t z=>.need (k0<=id/\(σ id).jq=true) (.ok (.ptr id 0) [(id,.obj t (z.map .d))])
 |.box id t x=>Nz σ id t k0 (ρ x).cells
 |.Dl _ _ _ _=>.bad
 |.uV _ _ _ _=>.bad
 |.build z ps=>KG (qU ρ (z.map .d) ps)
 |.mW id t e xs=>NA σ id t e k0 (AV.lu (xs.map ρ))
 |.wN id t e xs=>HF σ id t e k0 (AV.lu (xs.map ρ))
 |.Cq id t e xs=>HH σ id t e k0 (AV.lu (xs.map ρ)) (AV.flat e (xs.map ρ))
 |.load n ag p=>H_ σ n ag (ρ p)
 |.store n p x=>DZ σ n (ρ x) (ρ p)
 |.nD x=>QG (ρ x)
 |.bin op x y=>Rb op (ρ x) (ρ y)
 |.Bh neg x y=>KD neg (ρ x) (ρ y)
 |.wo neg x=>Le neg (xb (ρ x))
 |.un op x=>WV op (ρ x)
 |.conv k x=>Lb k (ρ x)
 |.zk f first cap=>.ok (.fn f (first.map ρ) (cap.map ρ)) []
 |.ye _ _ e bytes z tok len cap=>L0 e bytes z tok (iN (ρ len)) (iN (ρ cap))
 |.zl _ _ _ _ _ _ _ _=>.bad
 |.xZ id t e bytes z tok len cap=>If σ id t e bytes k0 z tok (iN (ρ len)) (iN (ρ cap))
 |.slc x e lo hi mx=>JQ ρ (ρ x) e lo hi mx
 |.Fv p e n lo hi mx=>Iv ρ e n (ρ p) lo hi mx
 |.Nn off p=>Td off (ρ p)
 |.qj e x i=>RL e (ρ x) (iN (ρ i))
 |.E4 e n p i=>PI e n (iN (ρ i)) (ρ p)
 |.len x=>RQ (ρ x)
 |.app id t e bytes x y=>F2 σ id t e bytes k0 (ρ x) (pN (ρ y))
 |.AP id t e bytes x y=>Eu σ id t e bytes k0 (ρ x) (pN (ρ y))
 |.iy f args=>.call f (args.map ρ)
 |.tN g args=>K2 P (args.map ρ) (ρ g)
 |.ext x i=>Tc i (ρ x)
 |.min x y=>DH false (ρ x) (ρ y)
 |.OR _|.Fx _ _ _|.DJ _ _=>.bad
 |.dead=>.bad
def pL(s:gA):List (Nat×Ob)->gA
 |[]=>s
 |(i,ob)::r=>pL (sset s i ob) r
def pW.out(env:List AV)(s:gA):pW->Out
 |.ok x δ=>.ok x env (pL s δ)
 |.need p o=>.need p (o.out env s)
 |.br b o1 o2=>.br b (o1.out env s) (o2.out env s)
 |.call f args=>.call f args env s
 |.bad=>.bad
theorem Ey{env:List AV}{d:Int}{x:Option Operand}:Bm (ev env) d x=Dk env d x:=by cases x<;>rfl
theorem zy{env:List AV}:∀{ps:List (Nat×Nat×Operand)}{cs:List AV},qU (ev env) cs ps=od env cs ps
 |[],cs=>rfl
 |(off,n,x)::r,cs=>by
  simp only[qU,od];cases(ev env x).cells with
  |none=>rfl
  |some xs=>simp only;split<;>simp[zy]
theorem Ep{P:Program}{k0 id t e bytes:Nat}{x:AV}{Y:Option (Nat×List D)}{env:List AV}{s:gA}{K:AV->List AV->gA->Prop}(h:runK P k0 K ((F2 (sat s) id t e bytes k0 x Y).out env s)):
 runK P k0 K (IM id t e bytes k0 x env s Y):=by
 have dead:∀{id:Nat},(sat s id).jq=true->sat s id=.dead:=fun{id} h=>by cases hs:sat s id<;>simp_all[Ob.jq]
 cases Y with
 |none=>exact h
 |some p=>
  obtain⟨e2,ys⟩:=p;simp only[F2,IM,Bb,Eo]at h⊢;split at h
  ·simp only[KA,HD,pW.out,runK,pL]at h⊢;exact h
  ·rename_i e' j n;simp only[pW.out,runK]at h⊢;refine⟨h.1,?_⟩;have h:=h.2;generalize sat s j=X at h⊢;cases X<;>exact h
  ·simp only[pW.out,runK,pL]at h⊢;rw[dead h.1.2.2.2];exact⟨⟨h.1.1,h.1.2.1,h.1.2.2.1⟩,h.2⟩
  ·exact h
  ·exact h.elim
theorem IP{P:Program}{k0 id t e bytes:Nat}{x:AV}{Y:Option (Nat×List D)}{env:List AV}{s:gA}{K:AV->List AV->gA->Prop}(h:runK P k0 K ((Eu (sat s) id t e bytes k0 x Y).out env s)):
 runK P k0 K (Bf id t e bytes k0 x env s Y):=by
 have dead:∀{id:Nat},(sat s id).jq=true->sat s id=.dead:=fun{id} h=>by cases hs:sat s id<;>simp_all[Ob.jq]
 cases Y with
 |none=>exact h
 |some p=>
  obtain⟨e2,ys⟩:=p;simp only[Eu,Bf]at h⊢;unfold Dh at h;split at h
  ·simp only[zP,pW.out,runK,pL]at h⊢;rw[dead h.1.2.2.2];exact⟨⟨h.1.1,h.1.2.1,h.1.2.2.1⟩,h.2⟩
  ·rename_i hn;unfold zP;split
   ·rename_i e4;exact absurd rfl (hn e4)
   ·exact Ep (Y:=some (e2,ys)) h
theorem J6{P:Program}{k0:Nat}{m:ri}{env:List AV}{s:gA}{K:AV->List AV->gA->Prop}
 (h:runK P k0 K ((kF P k0 (ev env) (sat s) m).out env s)):runK P k0 K (jO P k0 env s m):=by
 have dead:∀{id:Nat},(sat s id).jq=true->sat s id=.dead:=fun{id} h=>by cases hs:sat s id<;>simp_all[Ob.jq]
 cases m with
 |mv x=>exact h
 |pick c a b=>
  simp only[kF,jO,Mf,Ij]at h⊢;generalize ev env c=Xc at h⊢;cases Xc with
  |d x=>cases x with
   |lit u=>cases u<;>exact h
   |_=>exact h
  |_=>exact h
 |alloc id t z=>
  simp only[kF,jO,pW.out,runK,pL]at h⊢;rw[dead h.1.2];exact⟨h.1.1,h.2⟩
 |Dl id d t x=>simp only[kF]at h;exact h.elim
 |uV id d t z=>simp only[kF]at h;exact h.elim
 |box id t x=>
  simp only[kF,jO]at h⊢;generalize(ev env x).cells=X at h⊢;cases X with
  |none=>exact h
  |some cs=>
   simp only[Nz,IT,pW.out,runK,pL]at h⊢;rw[dead h.1.2];exact⟨h.1.1,h.2⟩
 |build z ps=>
  simp only[kF,jO,zy]at h⊢;generalize od env (z.map .d) ps=X at h⊢;cases X<;>exact h
 |mW id t e xs=>
  simp only[kF,jO]at h⊢;generalize AV.lu (xs.map (ev env))=X at h⊢;cases X with
  |none=>exact h
  |some ds=>
   simp only[NA,NB,pW.out,runK,pL]at h⊢;rw[dead h.1.2.2];exact⟨⟨h.1.1,h.1.2.1⟩,h.2⟩
 |Cq id t e xs=>
  simp only[kF,jO]at h⊢;generalize AV.lu (xs.map (ev env))=X at h⊢;generalize AV.flat e (xs.map (ev env))=Y at h⊢;cases X with
  |none=>cases Y<;>exact h.elim
  |some ds=>cases Y with
   |none=>exact h.elim
   |some cs=>
    simp only[HH,HI,pW.out,runK,pL]at h⊢;rw[dead h.1.2.2.2];exact⟨⟨h.1.1,h.1.2.1,h.1.2.2.1⟩,h.2⟩
 |wN id t e xs=>
  simp only[kF,jO]at h⊢;generalize AV.lu (xs.map (ev env))=X at h⊢;cases X with
  |none=>exact h
  |some ds=>
   simp only[HF,HG,pW.out,runK,pL]at h⊢;rw[dead h.1.2.2];exact⟨⟨h.1.1,h.1.2.1⟩,h.2⟩
 |load n ag p=>
  simp only[kF,jO,H_,BR]at h⊢;generalize ev env p=Xp at h⊢;cases Xp with
  |ptr id off=>simp only at h⊢;generalize sat s id=X at h⊢;cases X<;>exact h
  |kH id kk off=>simp only at h⊢;generalize sat s id=X at h⊢;cases X<;>first|exact h|exact h.elim
  |_=>exact h
 |store n p x=>
  simp only[kF,jO,DZ,Cf]at h⊢;generalize ev env p=Xp at h⊢;cases Xp with
  |ptr id off=>simp only at h⊢;generalize sat s id=X at h⊢;generalize(ev env x).cells=Y at h⊢;cases X<;>cases Y<;>exact h
  |kH id kk off=>simp only at h⊢;generalize sat s id=X at h⊢;generalize(ev env x).fin=Y at h⊢;cases X<;>cases Y<;>first|exact h|exact h.elim
  |_=>exact h
 |nD x=>simp only[kF,jO]at h⊢;generalize ev env x=X at h⊢;cases X<;>exact h
 |bin op x y=>
  simp only[kF,jO,Rb,Ny]at h⊢;generalize ev env x=Xx at h⊢;generalize ev env y=Xy at h⊢;cases Xx with
  |d x1=>cases x1 with
   |lit u=>cases u with
    |int k a=>cases Xy with
     |d y1=>cases y1 with
      |lit v=>cases v with
       |int k' b=>cases op<;>exact h
       |_=>exact h
      |_=>exact h
     |_=>exact h
    |string a=>cases Xy with
     |d y1=>cases y1 with
      |lit v=>cases v with
       |string b=>cases op<;>exact h
       |_=>exact h
      |_=>exact h
     |_=>exact h
    |_=>exact h
   |_=>exact h
  |_=>exact h
 |Bh neg x y=>
  simp only[kF,jO,KD,HE]at h⊢;generalize ev env x=Xx at h⊢;generalize ev env y=Xy at h⊢;cases Xx with
  |d x1=>cases x1 with
   |lit u=>cases u with
    |bool a=>cases Xy with
     |d y1=>cases y1 with
      |lit v=>cases v<;>exact h
      |_=>exact h
     |_=>exact h
    |_=>exact h
   |_=>exact h
  |_=>exact h
 |wo neg x=>simp only[kF,jO]at h⊢;generalize xb (ev env x)=X at h⊢;cases X<;>first|exact h|exact h.elim
 |un op x=>
  simp only[kF,jO,WV,Vu]at h⊢;generalize ev env x=X at h⊢;cases op<;>cases X with
  |d x1=>cases x1 with
   |lit u=>cases u<;>exact h
   |_=>exact h
  |_=>exact h
 |conv k x=>
  simp only[kF,jO,Lb,HS]at h⊢;generalize ev env x=Xx at h⊢;cases Xx with
  |d x1=>cases x1 with
   |lit u=>cases u<;>exact h
   |_=>exact h
  |_=>exact h
 |zk f first cap=>exact h
 |zl id t e bytes z tok len cap=>simp only[kF]at h;exact h.elim
 |ye id t e bytes z tok len cap=>
  simp only[kF,jO]at h⊢;generalize iN (ev env len)=X at h⊢;generalize iN (ev env cap)=Y at h⊢;cases z with
  |nil=>cases tok<;>cases X<;>cases Y<;>exact h
  |cons zd z=>cases z<;>cases tok<;>cases X<;>cases Y<;>exact h
 |xZ id t e bytes z tok len cap=>
  simp only[kF,jO]at h⊢;generalize iN (ev env len)=X at h⊢;generalize iN (ev env cap)=Y at h⊢;cases tok<;>cases X<;>cases Y<;>simp only[If,Ig,pW.out,runK,pL]at h⊢
  ·rw[dead h.1.2.2.2.2.2];exact⟨⟨h.1.1,h.1.2.1,h.1.2.2.1,h.1.2.2.2.1,h.1.2.2.2.2.1⟩,h.2⟩
  ·rw[dead h.1.2.2.2.2.2];exact⟨⟨h.1.1,h.1.2.1,h.1.2.2.1,h.1.2.2.2.1,h.1.2.2.2.2.1⟩,h.2⟩
 |slc x e lo hi mx=>
  simp only[kF,jO]at h⊢;cases mx with
  |some m=>
   simp only[JQ,JR]at h⊢;generalize pN (ev env x)=X at h⊢;generalize iN (ev env m)=M at h⊢;cases hi with
   |none=>cases lo<;>cases M<;>cases X<;>exact h
   |some hh=>
    simp only[Vq,Vr]at h⊢;generalize iN (ev env hh)=H at h⊢;cases lo<;>cases H<;>cases M<;>cases X<;>exact h
  |none=>
   simp only[JQ,JR,Ey]at h⊢;generalize pN (ev env x)=X at h⊢;cases X with
   |none=>exact h
   |some p=>
    simp only[Iy,Iz,Ey]at h⊢;generalize Dk env 0 lo=X at h⊢;generalize Dk env p.2.length hi=Y at h⊢;cases X<;>cases Y<;>exact h
 |Fv p e n lo hi mx=>
  simp only[kF,jO,Iv,Iw]at h⊢;generalize ev env p=X at h⊢;cases X<;>cases lo<;>cases hi<;>cases mx<;>first
   |exact h
   |(rename_i q;simp only at h⊢;generalize iN (ev env q)=Z at h⊢;cases Z<;>exact h)
 |Nn off p=>simp only[kF,jO]at h⊢;generalize ev env p=X at h⊢;cases X<;>exact h
 |qj e x i=>
  simp only[kF,jO]at h⊢;generalize iN (ev env i)=I at h⊢;cases I with
  |none=>exact h
  |some n=>
   simp only[RL,Oo]at h⊢;generalize ev env x=X at h⊢;cases X<;>simp only[E5,BM]at h⊢<;>first
    |exact h
    |(revert h;generalize pN _=q;intro h;cases q<;>exact h)
 |E4 e n p i=>simp only[kF,jO]at h⊢;generalize iN (ev env i)=X at h⊢;generalize ev env p=Y at h⊢;cases X<;>cases Y<;>exact h
 |len x=>
  simp only[kF,jO]at h⊢;generalize ev env x=X at h⊢;cases X<;>simp only[RQ,GM]at h⊢<;>first
   |exact h
   |(revert h;generalize pN _=q;intro h;cases q<;>exact h)
 |app id t e bytes x y=>exact Ep h
 |AP id t e bytes x y=>exact IP h
 |iy f args=>exact h
 |tN g args=>
  simp only[kF,jO]at h⊢;generalize ev env g=X at h⊢;cases X<;>exact h
 |ext x i=>simp only[kF,jO]at h⊢;generalize ev env x=X at h⊢;cases X<;>exact h
 |min x y=>
  simp only[kF,jO,DH,A2]at h⊢;generalize ev env x=Xx at h⊢;generalize ev env y=Xy at h⊢;cases Xx with
  |d x1=>cases x1 with
   |lit u=>cases u with
    |int k a=>cases Xy with
     |d y1=>cases y1 with
      |lit v=>cases v<;>exact h
      |_=>exact h
     |_=>exact h
    |_=>exact h
   |_=>exact h
  |_=>exact h
 |dead=>exact h
 |_=>exact h.elim
def sA:Operand->List Nat
 |.tmp t=>[t]
 |_=>[]
def zo(xs:List Operand):List Nat:=xs.flatMap sA
def C4:Option Operand->List Nat
 |some x=>sA x
 |none=>[]
def nI:ri->List Nat
 |.mv x|.nD x|.un _ x|.conv _ x|.Nn _ x|.len x|.ext x _|.box _ _ x|.Dl _ _ _ x|.load _ _ x|.wo _ x=>sA x
 |.pick c a b=>sA c++sA a++sA b
 |.store _ p x=>sA p++sA x
 |.bin _ x y|.Bh _ x y|.min x y|.qj _ x y|.E4 _ _ x y|.app _ _ _ _ x y|.AP _ _ _ _ x y=>sA x++sA y
 |.xZ _ _ _ _ _ _ l c=>sA l++sA c
 |.ye _ _ _ _ _ _ l c=>sA l++sA c
 |.zl _ _ _ _ _ _ l c=>sA l++sA c
 |.slc x _ lo hi m=>sA x++C4 lo++C4 hi++C4 m
 |.Fv x _ _ lo hi _=>sA x++C4 lo++C4 hi
 |.build _ ps=>zo (ps.map (·.2.2))
 |.mW _ _ _ xs|.wN _ _ _ xs|.Cq _ _ _ xs=>zo xs
 |.zk _ f c=>zo f++zo c
 |.iy _ xs=>zo xs
 |.tN g xs=>sA g++zo xs
 |.OR x=>sA x
 |.DJ _ x=>sA x
 |.Fx x _ h=>sA x++sA h
 |.alloc .. |.uV .. |.dead=>[]
def rX(ρ:Operand->AV):ri->List Nat
 |.Cq id _ _ _=>[id]
 |.load _ _ p=>match ρ p with|.ptr id _=>[id]|.kH id _ _=>[id]|_=>[]
 |.store _ p _=>match ρ p with|.ptr id _=>[id]|.kH id _ _=>[id]|_=>[]
 |.AP id _ _ _ x _=>match ρ x with|.own _ j _=>[j]|.jM _ j _=>[j]|_=>[id]
 |.alloc id _ _|.box id _ _|.mW id _ _ _|.wN id _ _ _|.xZ id _ _ _ _ _ _ _=>[id]
 |.app id _ _ _ x _=>match ρ x with|.own _ j _=>[j]|.jM _ j _=>[j]|_=>[id]
 |_=>[]
theorem Bc{k0 id t e bytes:Nat}{X:AV}{p:Option (Nat×List D)}{σ σ':Nat->Ob}
 (hf:∀i∈(match X with|.own _ j _=>[j]|.jM _ j _=>[j]|_=>[id]),σ' i=σ i):F2 σ' id t e bytes k0 X p=F2 σ id t e bytes k0 X p:=by
 unfold F2;cases p with
 |none=>rfl
 |some p=>
  simp only;unfold Bb;cases X with
  |own e' j xs=>have hj:=hf j (by simp);simp only[hj]
  |jM e' j n=>have hj:=hf j (by simp);simp only[hj]
  |d x1=>
   have hj:=hf id (by simp);cases x1 with
   |sl e1 nl xs=>cases nl with
    |none=>rfl
    |some b=>cases b<;>cases xs<;>first|rfl|simp only[hj]
   |_=>rfl
  |_=>rfl
theorem Hu{P:Program}{k0:Nat}{m:ri}{ρ ρ':Operand->AV}{σ σ':Nat->Ob}(hc:∀o:Operand,sA o=[]->ρ' o=ρ o)(hr:∀t∈nI m,ρ' (.tmp t)=ρ (.tmp t))
 (hf:∀id∈rX ρ m,σ' id=σ id):kF P k0 ρ' σ' m=kF P k0 ρ σ m:=by
 have one':∀o:Operand,(∀t∈sA o,ρ' (.tmp t)=ρ (.tmp t))->ρ' o=ρ o:=fun o h=>by
  cases o with
  |tmp t=>exact h t (by simp[sA])
  |_=>exact hc _ rfl
 have many:∀xs:List Operand,(∀t∈zo xs,ρ' (.tmp t)=ρ (.tmp t))->xs.map ρ'=xs.map ρ:=fun xs h=>
  bW fun o ho=>one' o fun t ht=>h t (dI.2 ⟨o,ho,ht⟩)
 have opt:∀(x:Option Operand)(d:Int),(∀t∈C4 x,ρ' (.tmp t)=ρ (.tmp t))->Bm ρ' d x=Bm ρ d x:=fun x d h=>by
  cases x with
  |none=>rfl
  |some o=>simp only[Bm];rw[one' o h]
 cases m with
 |mv x|nD x|un _ x|conv _ x|Nn _ x|len x|ext x _|wo _ x=>simp only[nI]at hr;simp only[kF];rw[one' x hr]
 |Dl id d t x=>rfl
 |uV id d t z=>rfl
 |box id t x=>simp only[nI]at hr;simp only[rX]at hf;simp only[kF,Nz];rw[one' x hr,hf id (by simp)]
 |pick c a b=>
  simp only[nI,aM]at hr;simp only[kF];rw[one' c fun t h=>hr t (.inl (.inl h)),one' a fun t h=>hr t (.inl (.inr h)),one' b fun t h=>hr t (.inr h)]
 |alloc id t z=>simp only[rX]at hf;simp only[kF];rw[hf id (by simp)]
 |build z ps=>
  simp only[nI]at hr;simp only[kF];have:∀(ps:List (Nat×Nat×Operand))(cs:List AV),(∀t∈zo (ps.map (·.2.2)),ρ' (.tmp t)=ρ (.tmp t))->qU ρ' cs ps=qU ρ cs ps:=by
   intro ps;induction ps with
   |nil=>intro cs _;rfl
   |cons p ps ih=>
    obtain⟨off,n,x⟩:=p;intro cs h;simp only[aZ,zo,bH,aM]at h;simp only[qU];rw[one' x fun t ht=>h t (.inl ht)];cases(ρ x).cells with
    |none=>rfl
    |some xs=>simp only;split<;>first|exact ih _ (fun t ht=>h t (.inr ht))|rfl
  rw[this ps _ hr]
 |mW id t e xs=>simp only[nI]at hr;simp only[rX]at hf;simp only[kF,NA];rw[many xs hr,hf id (by simp)]
 |Cq id t e xs=>simp only[nI]at hr;simp only[rX]at hf;simp only[kF,HH];rw[many xs hr,hf id (by simp)]
 |wN id t e xs=>simp only[nI]at hr;simp only[rX]at hf;simp only[kF,HF];rw[many xs hr,hf id (by simp)]
 |load n ag p=>
  simp only[nI]at hr;simp only[rX]at hf;simp only[kF];rw[one' p hr];unfold H_;cases hp:ρ p with
  |ptr id off=>rw[hp]at hf;simp only;rw[hf id (by simp)]
  |kH id kk off=>rw[hp]at hf;simp only;rw[hf id (by simp)]
  |_=>rfl
 |store n p x=>
  simp only[nI,aM]at hr;simp only[rX]at hf;simp only[kF];rw[one' p fun t h=>hr t (.inl h),one' x fun t h=>hr t (.inr h)];unfold DZ;cases hp:ρ p with
  |ptr id off=>rw[hp]at hf;simp only;rw[hf id (by simp)]
  |kH id kk off=>rw[hp]at hf;simp only;rw[hf id (by simp)]
  |_=>rfl
 |bin _ x y|Bh _ x y|min x y|qj _ x y|E4 _ _ x y=>
  simp only[nI,aM]at hr;simp only[kF];rw[one' x fun t h=>hr t (.inl h),one' y fun t h=>hr t (.inr h)]
 |zk f first cap=>
  simp only[nI,aM]at hr;simp only[kF];rw[many first fun t h=>hr t (.inl h),many cap fun t h=>hr t (.inr h)]
 |zl id t e bytes z tok l c=>rfl
 |ye id t e bytes z tok l c=>
  simp only[nI,aM]at hr;simp only[kF];rw[one' l fun t h=>hr t (.inl h),one' c fun t h=>hr t (.inr h)]
 |xZ id t e bytes z tok l c=>
  simp only[nI,aM]at hr;simp only[rX]at hf;simp only[kF,If];rw[one' l fun t h=>hr t (.inl h),one' c fun t h=>hr t (.inr h),hf id (by simp)]
 |slc x e lo hi mx=>
  simp only[nI,aM]at hr;simp only[kF];rw[one' x fun t h=>hr t (.inl (.inl (.inl h)))];cases mx with
  |some m=>
   simp only[JQ];rw[one' m fun t h=>hr t (.inr h)];cases hi with
   |none=>rfl
   |some hh=>simp only[Vq];rw[one' hh fun t h=>hr t (.inl (.inr h))]
  |none=>
   simp only[JQ];rw[opt lo 0 fun t h=>hr t (.inl (.inl (.inr h)))];cases pN (ρ x)with
   |none=>rfl
   |some p=>simp only[Iy];rw[opt hi _ fun t h=>hr t (.inl (.inr h))]
 |Fv x e n lo hi mx=>
  simp only[nI,aM]at hr;simp only[kF,Iv];rw[one' x fun t h=>hr t (.inl (.inl h))];cases ρ x<;>cases lo<;>cases hi<;>cases mx<;>first
   |rfl
   |(rename_i q;simp only;rw[one' q fun t h=>hr t (.inr h)])
 |app id t e bytes x y=>
  simp only[nI,aM]at hr;simp only[kF];rw[one' x fun t h=>hr t (.inl h),one' y fun t h=>hr t (.inr h)];exact Bc hf
 |AP id t e bytes x y=>
  simp only[nI,aM]at hr;simp only[kF];rw[one' x fun t h=>hr t (.inl h),one' y fun t h=>hr t (.inr h)];unfold Eu;cases pN (ρ y)with
  |none=>rfl
  |some p=>
   simp only;have h0:Bb σ' id t e bytes k0 p.1 p.2 (ρ x)=Bb σ id t e bytes k0 p.1 p.2 (ρ x):=Bc (p:=some p) hf;simp only[rX]at hf;cases hx:ρ x with
   |d x1=>
    rw[hx]at hf h0;have hj:=hf id (by simp);cases x1 with
    |sl e1 nl xs=>cases nl with
     |none=>exact h0
     |some b=>cases b<;>cases xs<;>first|exact h0|simp only[Dh,hj]
    |_=>exact h0
   |_=>rw[hx]at h0;exact h0
 |iy f xs=>simp only[nI]at hr;simp only[kF];rw[many xs hr]
 |tN g xs=>
  simp only[nI,aM]at hr;simp only[kF];rw[one' g fun t h=>hr t (.inl h),many xs fun t h=>hr t (.inr h)]
 |dead=>rfl
 |OR _|Fx _ _ _|DJ _ _=>rfl
def vu:List (Nat×Ob)->Nat->Option Ob
 |[],_=>none
 |(i,ob)::r,id=>match vu r id with
  |some x=>some x
  |none=>if id=i then some ob else none
theorem B4:∀(δ:List (Nat×Ob))(s:gA)(id:Nat),sat (pL s δ) id=(vu δ id).getD (sat s id)
 |[],_,_=>rfl
 |(i,ob)::r,s,id=>by
  rw[pL,B4 r,iJ,vu];cases vu r id with
  |some x=>rfl
  |none=>by_cases h:id=i<;>simp[h]
theorem CP:∀{δ:List (Nat×Ob)}{id:Nat},(vu δ id).isSome=true->id∈δ.map (·.1)
 |[],_,h=>by simp[vu]at h
 |(i,ob)::r,id,h=>by
  simp only[vu]at h;cases hr:vu r id with
  |some x=>exact dg _ (CP (by rw[hr];rfl))
  |none=>
   rw[hr]at h;by_cases hi:id=i
   ·simp[hi]
   ·simp[hi]at h
def Sq(σ:Nat->Ob)(pr mp:List fR):gA:=mp.map fun(c,j)=>(c,(σ j).jU (nK pr))
def Fe(t:gA)(all mp:List fR):List (Nat×Ob):=mp.map fun(c,j)=>(j,(sat t c).jU (mC all))
theorem B5{t:gA}{all:List fR}:∀{mp:List fR}{s:gA},qW s t mp all=pL s (Fe t all mp)
 |[],_=>rfl
 |(c,j)::r,s=>by simp only[qW,Fe,aZ,pL];exact B5
def PA(P:Program)(k0:Nat)(σ:Nat->Ob)(f:Nat)(args:List AV)(K:AV->List (Nat×Ob)->List Nat->Prop):Prop:=
 (∃dz:List D,gV (args.map fun x=>x.jU (nK [])) (dz.map .d)/\((∃r,iw P f dz r/\K (.d r) [] [])\/∃rs:List D,rW P f dz rs/\K (.l_ (rs.map .d)) [] []))\/
 ∃(pr nw:List fR)(y:AV)(t:gA),pr.map (·.1)=List.range pr.length/\((pr++nw).map (·.1)).Nodup/\((pr++nw).map (·.2)).Nodup/\(∀p∈nw,σ p.2=.dead/\k0<=p.2)/\
  gG P f (args.map fun x=>x.jU (nK pr)) (Sq σ pr pr) pr.length (fun x s'=>x=y/\s'=t)/\K (y.jU (mC (pr++nw))) (Fe t (pr++nw) (pr++nw)) ((pr++nw).map (·.2))
def yp(P:Program)(k0:Nat)(σ:Nat->Ob)(R:AV->List (Nat×Ob)->List Nat->Prop):pW->Prop
 |.ok x δ=>R x δ []
 |.need p o=>p/\yp P k0 σ R o
 |.br b o1 o2=>if b=true then yp P k0 σ R o1 else yp P k0 σ R o2
 |.call f args=>PA P k0 σ f args R
 |.bad=>False
theorem yW{P:Program}{k0:Nat}{σ:Nat->Ob}{R:AV->List (Nat×Ob)->List Nat->Prop}:∀{o:pW},yp P k0 σ R o->
 ∃x δ ex,yp P k0 σ (fun x' δ' e'=>x'=x/\δ'=δ/\e'=ex) o/\R x δ ex
 |.ok x δ,h=>⟨x,δ,[],⟨rfl,rfl,rfl⟩,h⟩
 |.need p o,h=>by obtain⟨hp,h⟩:=h;obtain⟨x,δ,ex,h1,h2⟩:=yW h;exact⟨x,δ,ex,⟨hp,h1⟩,h2⟩
 |.br b o1 o2,h=>by
  simp only[yp]at h⊢;split at h
  ·rename_i hb;obtain⟨x,δ,ex,h1,h2⟩:=yW h;exact⟨x,δ,ex,by rw[ah hb];exact h1,h2⟩
  ·rename_i hb;obtain⟨x,δ,ex,h1,h2⟩:=yW h;exact⟨x,δ,ex,by rw[ay hb];exact h1,h2⟩
 |.call f args,h=>by
  rcases h with⟨ds,h1,h|h⟩|⟨pr,nw,y,t,h1,h2,h3,h4,h5,h6⟩
  ·obtain⟨r,h2,h3⟩:=h;exact⟨_,_,_,.inl ⟨ds,h1,.inl ⟨r,h2,rfl,rfl,rfl⟩⟩,h3⟩
  ·obtain⟨r,h2,h3⟩:=h;exact⟨_,_,_,.inl ⟨ds,h1,.inr ⟨r,h2,rfl,rfl,rfl⟩⟩,h3⟩
  ·exact⟨_,_,_,.inr ⟨pr,nw,y,t,h1,h2,h3,h4,h5,rfl,rfl,rfl⟩,h6⟩
 |.bad,h=>h.elim
theorem vS{P:Program}{k0:Nat}{σ σ':Nat->Ob}{x:AV}{δ:List (Nat×Ob)}{ex:List Nat}(hs:∀id∈ex,σ' id=σ id):∀{o:pW},
 yp P k0 σ (fun x' δ' e'=>x'=x/\δ'=δ/\e'=ex) o->yp P k0 σ' (fun x' δ' e'=>x'=x/\δ'=δ/\e'=ex) o
 |.ok x δ,h=>h
 |.need p o,h=>⟨h.1,vS hs h.2⟩
 |.br b o1 o2,h=>by
  simp only[yp]at h⊢;split at h
  ·rename_i hb;rw[ah hb];exact vS hs h
  ·rename_i hb;rw[ay hb];exact vS hs h
 |.call f args,h=>by
  rcases h with h|⟨pr,nw,y,t,h1,h2,h3,h4,h5,h6,h7,h8⟩
  ·exact .inl h
  ·subst h8;refine .inr ⟨pr,nw,y,t,h1,h2,h3,fun p hp=>?_,?_,h6,h7,rfl⟩
   ·rw[hs p.2 (aY.2 ⟨p,cV _ hp,rfl⟩)];exact h4 p hp
   ·have:Sq σ' pr pr=Sq σ pr pr:=bW fun p hp=>by
     show(p.1,(σ' p.2).jU (nK pr))=(p.1,(σ p.2).jU (nK pr));rw[hs p.2 (aY.2 ⟨p,bF _ hp,rfl⟩)]
    rw[this];exact h5
 |.bad,h=>h.elim
theorem xL{P:Program}{k0:Nat}{R:AV->List (Nat×Ob)->List Nat->Prop}{K:AV->List AV->gA->Prop}{env:List AV}{s:gA}
 (hK:∀x δ ex,R x δ ex->K x env (pL s δ)):∀{o:pW},yp P k0 (sat s) R o->runK P k0 K (o.out env s)
 |.ok x δ,h=>hK x δ _ h
 |.need p o,h=>⟨h.1,xL hK h.2⟩
 |.br b o1 o2,h=>by
  simp only[yp]at h;simp only[pW.out,runK];split at h
  ·rename_i hb;rw[ah hb];exact xL hK h
  ·rename_i hb;rw[ay hb];exact xL hK h
 |.call f args,h=>by
  rcases h with⟨ds,h1,h|h⟩|⟨pr,nw,y,t,h1,h2,h3,h4,h5,h6⟩
  ·obtain⟨r,h2,h3⟩:=h;exact xH (EC h1 h2 (hK _ _ _ h3))
  ·obtain⟨r,h2,h3⟩:=h;exact xH (CM h1 h2 (hK _ _ _ h3))
  ·refine xH ⟨pr,nw,_,h1,h2,h3,h4,h5,?_⟩;rintro x s' ⟨rfl,rfl⟩;rw[B5];exact hK _ _ _ h6
 |.bad,h=>h.elim
def gd(m:h_)(env:List AV):Option Bool:=match m.guard with
 |none=>some true
 |some (none,_)=>none
 |some (some d,want)=>match env.getD d .hM with
  |.d (.lit (.bool b))=>some (b==want)
  |.l_ []=>some false
  |_=>none
def tP(P:Program)(k0:Nat)(F:List (List Nat×List Nat)->List AV->gA->Prop):List h_->List (List Nat×List Nat)->List AV->gA->Prop
 |[],acc,env,s=>F acc env s
 |m::ms,acc,env,s=>match gd m env with
  |none=>False
  |some true=>yp P k0 (sat s) (fun x δ ex=>tP P k0 F ms ((ex++rX (ev env) m.op,δ.map (·.1))::acc) (gU m.dst env x) (pL s δ)) (kF P k0 (ev env) (sat s) m.op)
  |some false=>tP P k0 F ms (([],[])::acc) (gU m.dst env (.l_ [])) s
def Kv(P:Program)(k0:Nat)(m:h_)(env:List AV)(s:gA)(x:AV)(δ:List (Nat×Ob))(ft:List Nat×List Nat):Prop:=
 (gd m env=some true/\∃ex,yp P k0 (sat s) (fun x' δ' e'=>x'=x/\δ'=δ/\e'=ex) (kF P k0 (ev env) (sat s) m.op)/\ft=(ex++rX (ev env) m.op,δ.map (·.1)))\/
 (gd m env=some false/\x=.l_ []/\δ=[]/\ft=([],[]))
def Q7(P:Program)(k0:Nat)(F:List (List Nat×List Nat)->List AV->gA->Prop)(ms:List h_)(acc:List (List Nat×List Nat))(env:List AV)(s:gA):Prop:=
 ∃(x:Nat->AV)(δ:Nat->List (Nat×Ob))(ft:Nat->List Nat×List Nat)(E:Nat->List AV)(S:Nat->gA),E 0=env/\S 0=s/\
  (∀i m,ms[i]?=some m->Kv P k0 m (E i) (S i) (x i) (δ i) (ft i)/\E (i+1)=gU m.dst (E i) (x i)/\S (i+1)=pL (S i) (δ i))/\
  F (((List.range ms.length).map ft).reverse++acc) (E ms.length) (S ms.length)
theorem Q7.cons{P:Program}{k0:Nat}{F:List (List Nat×List Nat)->List AV->gA->Prop}{m:h_}{ms:List h_}{acc:List (List Nat×List Nat)}{env:List AV}{s:gA}
 {x0:AV} {δ0:List (Nat×Ob)} {f0:List Nat×List Nat} (hs:Kv P k0 m env s x0 δ0 f0) (h:Q7 P k0 F ms (f0::acc) (gU m.dst env x0) (pL s δ0)):Q7 P k0 F (m::ms) acc env s:=by
 obtain⟨x,δ,ft,E,S,hE,hS,h1,h2⟩:=h;refine⟨fun i=>Nat.casesOn i x0 x,fun i=>Nat.casesOn i δ0 δ,fun i=>Nat.casesOn i f0 ft,fun i=>Nat.casesOn i env E,fun i=>Nat.casesOn i s S,rfl,rfl,fun i m' hi=>?_,?_⟩
 ·cases i with
  |zero=>
   simp only[List.getElem?_cons_zero,aQ]at hi;subst hi;exact⟨hs,hE,hS⟩
  |succ i=>exact h1 i m' (by simpa using hi)
 ·have:((List.range (m::ms).length).map fun i=>(Nat.casesOn i f0 ft:List Nat×List Nat)).reverse++acc=((List.range ms.length).map ft).reverse++(f0::acc):=by
   rw[ai,List.range_succ_eq_map,aZ,c_,List.reverse_cons,aL];rfl
  rw[this];exact h2
theorem Av{P:Program}{k0:Nat}{F:List (List Nat×List Nat)->List AV->gA->Prop}:∀{ms:List h_}{acc:List (List Nat×List Nat)}{env:List AV}{s:gA},
 tP P k0 F ms acc env s->Q7 P k0 F ms acc env s
 |[],acc,env,s,h=>⟨fun _=>.hM,fun _=>[],fun _=>([],[]),fun _=>env,fun _=>s,rfl,rfl,fun i m hi=>by simp at hi,h⟩
 |m::ms,acc,env,s,h=>by
  simp only[tP]at h;split at h
  ·exact h.elim
  ·rename_i hg;obtain⟨x0,δ0,ex,h1,h2⟩:=yW h;exact Q7.cons (.inl ⟨hg,ex,h1,rfl⟩) (Av h2)
  ·rename_i hg;exact Q7.cons (x0:=.l_ []) (δ0:=[]) (.inr ⟨hg,rfl,rfl,rfl⟩) (Av h)
def gl{β:Type}(f:Nat->Option β)(L:Nat->Bool)(b:β):Nat->β
 |0=>b
 |n+1=>if L n=true then(f n).getD (gl f L b n)else gl f L b n
theorem sX{β:Type}{f:Nat->Option β}{L L':Nat->Bool}{b:β}:∀{n:Nat},(∀j,j<n->(f j).isSome=true->L j=L' j)->gl f L b n=gl f L' b n
 |0,_=>rfl
 |n+1,h=>by
  have ih:=sX (b:=b) (n:=n) fun j hj=>h j gq
  simp only[gl];rw[ih];cases hf:f n with
  |none=>simp
  |some v=>rw[h n gq (by rw[hf];rfl)]
theorem GC{β:Type}{f:Nat->Option β}{L:Nat->Bool}{b v:β}{i:Nat}(hf:f i=some v)(hL:L i=true):
 ∀{n:Nat},i<n->(∀j,i<j->j<n->(f j).isSome=true->L j=false)->gl f L b n=v
 |0,hi,_=>by omega
 |n+1,hi,h=>by
  simp only[gl];by_cases hin:i=n
  ·subst hin;rw[ah hL,hf];rfl
  ·have ih:=GC (b:=b) hf hL (n:=n) gq fun j h1 h2=>h j h1 gq
   cases hn:f n with
   |none=>simp[ih]
   |some u=>rw[h n gq gq (by rw[hn];rfl)];simpa using ih
theorem Ad{β:Type}{f:Nat->Option β}{b:β}{i:Nat}:∀{n:Nat},i<=n->gl f (fun j=>decide (j<i)) b n=gl f (fun _=>true) b i
 |0,h=>by
  have:i=0:=by omega
  subst this;rfl
 |n+1,h=>by
  by_cases hi:i=n+1
  ·subst hi;exact sX fun j hj _=>by simp[hj]
  ·simp only[gl];rw[ay (by simp;omega)];exact Ad gq
def U5(m:h_):List Nat:=nI m.op++(match m.guard with|some (some g,_)=>[g]|_=>[])
def Ae(xs ys:List Nat):Bool:=xs.any fun x=>ys.contains x
def Az(m m':h_)(f f':List Nat×List Nat):Bool:=
 Ae m'.dst.toList (U5 m)||Ae m.dst.toList (U5 m')||Ae m.dst.toList m'.dst.toList||Ae f.2 f'.1||Ae f'.2 f.1||Ae f.2 f'.2
def Rp(after:List fW):List fW:=after.foldl (fun T a=>T++[(a++a.flatMap fun e=>T.getD e []).eraseDups]) []
def yU(after B:List fW):Bool:=
 ((List.range after.length).all fun i=>(after.getD i []).all fun e=>decide (e<i))&&
 (List.range B.length).all fun i=>(B.getD i []).all fun j=>(after.getD i []).contains j||(after.getD i []).any fun e=>decide (e<i)&&(B.getD e []).contains j
def QL(ms:List h_)(B:List fW)(fts:List (List Nat×List Nat)):Bool:=
 (List.range ms.length).all fun i=>(List.range i).all fun j=>match ms[i]?,ms[j]? with
  |some m,some m'=>!Az m m' (fts.getD i ([],[])) (fts.getD j ([],[]))||(B.getD i []).contains j
  |_,_=>false
def yo(ms:List h_)(after:List fW)(fts:List (List Nat×List Nat)):Bool:=yU after (Rp after)&&QL ms (Rp after) fts
theorem Ay{after B:List fW}(h:yU after B=true){L:Nat->Bool}(hL:∀i,L i=true->∀e∈after.getD i [],L e=true):
 ∀(i:Nat),(∀e∈after.getD i [],L e=true)->∀j∈B.getD i [],L j=true:=by
 simp only[yU,bL,cM,eY,eO,fH,az,List.contains_iff_mem]at h;intro i;induction i using Nat.strongRecOn with
 |ind i ih=>
  intro ha j hj;have hi:i<B.length:=by
   rcases cu i B.length with h'|h'
   ·exact h'
   ·rw[ak,bz h']at hj;simp at hj
  rcases h.2 i hi j hj with h1|⟨e,he,hlt,hje⟩
  ·exact ha j h1
  ·exact ih e hlt (hL e (ha e he)) j hje
def Ko(L:Nat->Bool):Nat->Nat
 |0=>0
 |n+1=>Ko L n+(match L n with|true=>0|false=>1)
theorem IF{L L':Nat->Bool}{i:Nat}(h1:L i=false)(h2:L' i=true)(h:∀j,j≠i->L' j=L j):∀{n:Nat},(n<=i->Ko L' n=Ko L n)/\(i<n->Ko L' n+1=Ko L n)
 |0=>⟨fun _=>rfl,fun h=>by omega⟩
 |n+1=>by
  obtain⟨ih1,ih2⟩:=IF (n:=n) h1 h2 h;refine⟨fun hn=>?_,fun hn=>?_⟩
  ·simp only[Ko];rw[ih1 gq,h n gq]
  ·simp only[Ko];by_cases hin:n=i
   ·subst hin;rw[ih1 gq,h1,h2];simp
   ·rw[h n hin];have:=ih2 gq;omega
theorem FN{L:Nat->Bool}:∀{n:Nat},Ko L n=0->∀j,j<n->L j=true
 |0,_,j,hj=>by omega
 |n+1,h,j,hj=>by
  simp only[Ko]at h;by_cases hn:j=n
  ·subst hn;cases hL:L j with
   |true=>rfl
   |false=>rw[hL]at h;simp at h
  ·exact FN (n:=n) gq j gq
def fs(d:Nat->Option Nat)(x:Nat->AV)(t:Nat)(j:Nat):Option AV:=if d j=some t then some (x j)else none
theorem CU{d:Option Nat}{env:List AV}{x:AV}{t:Nat}(ht:t<env.length):(gU d env x).getD t .hM=if d=some t then x else env.getD t .hM:=by
 cases d with
 |none=>simp[gU]
 |some d=>
  simp only[gU,ak,cH,aQ];by_cases h:d=t
  ·subst h;simp[ht]
  ·simp[h]
theorem AH{d:Option Nat}{env:List AV}{x:AV}:(gU d env x).length=env.length:=by cases d<;>simp[gU]
structure qd(P:Program)(k0:Nat)(ms:List h_)(after:List fW)(x:Nat->AV)(δ:Nat->List (Nat×Ob))(ft:Nat->List Nat×List Nat)
 (E:Nat->List AV) (S:Nat->gA):Prop where
 step:∀i m,ms[i]?=some m->Kv P k0 m (E i) (S i) (x i) (δ i) (ft i)/\E (i+1)=gU m.dst (E i) (x i)/\S (i+1)=pL (S i) (δ i)
 ok:yo ms after ((List.range ms.length).map ft)=true
def CQ(ms:List h_)(j:Nat):Option Nat:=(ms[j]?).bind (·.dst)
section
variable{P:Program}{k0:Nat}{ms:List h_}{after:List fW}{x:Nat->AV}{δ:Nat->List (Nat×Ob)}{ft:Nat->List Nat×List Nat}
 {E:Nat->List AV} {S:Nat->gA}
theorem qd.len(h:qd P k0 ms after x δ ft E S):∀{i:Nat},i<=ms.length->(E i).length=(E 0).length
 |0,_=>rfl
 |i+1,hi=>by
  have hm:ms[i]?=some ms[i]:=aA gq;rw[(h.step i _ hm).2.1,AH,h.len gq]
theorem qd.slot(h:qd P k0 ms after x δ ft E S){t:Nat}(ht:t<(E 0).length):∀{i:Nat},i<=ms.length->
 (E i).getD t .hM=gl (fs (CQ ms) x t) (fun _=>true) ((E 0).getD t .hM) i
 |0,_=>rfl
 |i+1,hi=>by
  have hm:ms[i]?=some ms[i]:=aA gq;rw[(h.step i _ hm).2.1,CU (by rw[h.len gq];exact ht),h.slot ht gq];simp only[gl,aO,fs,CQ,hm,aa];split<;>rfl
theorem qd.obj(h:qd P k0 ms after x δ ft E S)(id:Nat):∀{i:Nat},i<=ms.length->
 sat (S i) id=gl (fun j=>vu (δ j) id) (fun _=>true) (sat (S 0) id) i
 |0,_=>rfl
 |i+1,hi=>by
  have hm:ms[i]?=some ms[i]:=aA gq;rw[(h.step i _ hm).2.2,B4,h.obj id gq];simp only[gl,aO]
structure Co(E:Nat->List AV)(S:Nat->gA)(ms:List h_)(x:Nat->AV)(δ:Nat->List (Nat×Ob))(L:Nat->Bool)(env:List AV)(s:gA):Prop where
 len:env.length=(E 0).length
 slot:∀t,t<(E 0).length->env.getD t .hM=gl (fs (CQ ms) x t) L ((E 0).getD t .hM) ms.length
 obj:∀id,sat s id=gl (fun j=>vu (δ j) id) L (sat (S 0) id) ms.length
theorem qd.ord(h:qd P k0 ms after x δ ft E S){i j:Nat}{m m':h_}(hi:ms[i]?=some m)(hj:ms[j]?=some m')(hji:j<i)
 (hc:Az m m' (ft i) (ft j)=true):j∈(Rp after).getD i []:=by
 have hl:i<ms.length:=(aP.1 hi).1;have:=h.ok;simp only[yo,bL,QL,cM,eY]at this;have:=this.2 i hl j hji;rw[hi,hj]at this;have e1:((List.range ms.length).map ft).getD i ([],[])=ft i:=by simp[ak,hl]
 have e2:((List.range ms.length).map ft).getD j ([],[])=ft j:=by simp[ak,show j<ms.length by omega]
 rw[e1,e2]at this;simpa[hc]using this
theorem qd.before(h:qd P k0 ms after x δ ft E S){L:Nat->Bool}(hL:∀i,L i=true->∀e∈after.getD i [],L e=true){i:Nat}{m:h_}(hi:ms[i]?=some m)
 (hu:L i=false) (hr:∀e∈after.getD i [],L e=true) {j:Nat} {m':h_} (hj:ms[j]?=some m') (hne:j≠i) (hc:Az m m' (ft i) (ft j)=true/\Az m' m (ft j) (ft i)=true):
 L j=decide (j<i):=by
 have hcl:=h.ok;simp only[yo,bL]at hcl;rcases cu j i with hlt|hge
 ·rw[Ay hcl.1 hL i hr j (h.ord hi hj hlt hc.1)];simp[hlt]
 ·have hlt:i<j:=by omega
  have hb:=h.ord hj hi hlt hc.2;cases hLj:L j with
  |false=>simp;omega
  |true=>
   have:=Ay hcl.1 hL j (hL j hLj) i hb;rw[hu]at this;cases this
theorem xP{xs ys:List Nat}{a:Nat}(h1:a∈xs)(h2:a∈ys):Ae xs ys=true:=fH.2 ⟨a,h1,by simpa using h2⟩
theorem Gx{j t:Nat}(h:(fs (CQ ms) x t j).isSome=true):∃m',ms[j]?=some m'/\m'.dst=some t:=by
 unfold fs at h;split at h
 ·rename_i hd;unfold CQ at hd;cases hm:ms[j]? with
  |none=>rw[hm]at hd;cases hd
  |some m'=>rw[hm]at hd;exact⟨m',rfl,hd⟩
 ·cases h
theorem qd.write(h:qd P k0 ms after x δ ft E S){j id:Nat}{m':h_}(hj:ms[j]?=some m')(hw:(vu (δ j) id).isSome=true):id∈(ft j).2:=by
 have:=(h.step j m' hj).1;rcases this with⟨_,_,_,h3⟩|⟨_,_,h3,_⟩
 ·rw[h3];exact CP hw
 ·rw[h3]at hw;cases hw
theorem qd.reads(h:qd P k0 ms after x δ ft E S){L:Nat->Bool}(hL:∀i,L i=true->∀e∈after.getD i [],L e=true){i:Nat}{m:h_}(hi:ms[i]?=some m)
 (hu:L i=false) (hr:∀e∈after.getD i [],L e=true) {env:List AV} {s:gA} (hb:Co E S ms x δ L env s) {t:Nat} (ht:t∈U5 m):env.getD t .hM=(E i).getD t .hM:=by
 have hil:i<ms.length:=(aP.1 hi).1;by_cases hlt:t<(E 0).length
 ·rw[hb.slot t hlt,h.slot hlt (i:=i) gq,<-Ad (Nat.le_of_lt hil)];refine sX fun j hj hs=>?_
  by_cases hne:j=i
  ·subst hne;rw[hu];simp
  ·obtain⟨m',hm',hd⟩:=Gx hs;refine h.before hL hi hu hr hm' hne ?_;have:Ae m'.dst.toList (U5 m)=true:=xP (a:=t) (by rw[hd];simp) ht;simp[Az,this]
 ·have e1:env.getD t .hM=.hM:=by rw[ak,bz (by rw[hb.len];omega)];rfl
  have e2:(E i).getD t .hM=.hM:=by rw[ak,bz (by rw[h.len gq];omega)];rfl
  rw[e1,e2]
theorem qd.looks(h:qd P k0 ms after x δ ft E S){L:Nat->Bool}(hL:∀i,L i=true->∀e∈after.getD i [],L e=true){i:Nat}{m:h_}(hi:ms[i]?=some m)
 (hu:L i=false) (hr:∀e∈after.getD i [],L e=true) {env:List AV} {s:gA} (hb:Co E S ms x δ L env s) {id:Nat} (hid:id∈(ft i).1):sat s id=sat (S i) id:=by
 have hil:i<ms.length:=(aP.1 hi).1;rw[hb.obj id,h.obj id (i:=i) gq,<-Ad (Nat.le_of_lt hil)];refine sX fun j hj hs=>?_
 by_cases hne:j=i
 ·subst hne;rw[hu];simp
 ·have hm':ms[j]?=some ms[j]:=aA hj;refine h.before hL hi hu hr hm' hne ?_;have:Ae (ft j).2 (ft i).1=true:=xP (a:=id) (h.write hm' hs) hid;simp[Az,this]
theorem qd.next(h:qd P k0 ms after x δ ft E S){L L':Nat->Bool}(hL:∀i,L i=true->∀e∈after.getD i [],L e=true){i:Nat}{m:h_}(hi:ms[i]?=some m)
 (hu:L i=false) (hr:∀e∈after.getD i [],L e=true) (hi':L' i=true) (hn:∀j,j≠i->L' j=L j) {env:List AV} {s:gA} (hb:Co E S ms x δ L env s):
 Co E S ms x δ L' (gU m.dst env (x i)) (pL s (δ i)):=by
 have hil:i<ms.length:=(aP.1 hi).1;refine⟨by rw[AH,hb.len],fun t ht=>?_,fun id=>?_⟩
 ·rw[CU (by rw[hb.len];exact ht)];split
  ·rename_i hd;refine(GC (i:=i) (by simp[fs,CQ,hi,hd]) hi' hil fun j hij hj hs=>?_).symm;obtain⟨m',hm',hd'⟩:=Gx hs;have:Ae m.dst.toList m'.dst.toList=true:=xP (a:=t) (by rw[hd];simp) (by rw[hd'];simp);have this':Ae m'.dst.toList m.dst.toList=true:=xP (a:=t) (by rw[hd'];simp) (by rw[hd];simp);rw[hn j gq,h.before hL hi hu hr hm' gq (by simp[Az,this,this'])];simp;omega
  ·rename_i hd;rw[hb.slot t ht];refine sX fun j hj hs=>?_
   by_cases hne:j=i
   ·subst hne;obtain⟨m',hm',hd'⟩:=Gx hs;rw[hi]at hm';cases hm';exact absurd hd' hd
   ·rw[hn j hne]
 ·rw[B4];cases hd:vu (δ i) id with
  |some ob=>
   refine(GC (i:=i) hd hi' hil fun j hij hj hs=>?_).symm;have hm':ms[j]?=some ms[j]:=aA hj;have a1:=h.write hm' hs;have a2:=h.write hi (by rw[hd];rfl:(vu (δ i) id).isSome=true);have:Ae (ft i).2 (ft j).2=true:=xP a2 a1;have this':Ae (ft j).2 (ft i).2=true:=xP a1 a2;rw[hn j gq,h.before hL hi hu hr hm' gq (by simp[Az,this,this'])];simp;omega
  |none=>
   simp only[Option.getD_none];rw[hb.obj id];refine sX fun j hj hs=>?_
   by_cases hne:j=i
   ·subst hne;rw[hd]at hs;cases hs
   ·rw[hn j hne]
theorem qd.run(h:qd P k0 ms after x δ ft E S){L:Nat->Bool}(hL:∀i,L i=true->∀e∈after.getD i [],L e=true){i:Nat}{m:h_}(hi:ms[i]?=some m)
 (hu:L i=false) (hr:∀e∈after.getD i [],L e=true) {env:List AV} {s:gA} (hb:Co E S ms x δ L env s):
 match m.guard with
  |none=>oW P k0 m.op env s fun x' env' s'=>gU m.dst env' x'=gU m.dst env (x i)/\s'=pL s (δ i)
  |some (g,want)=>match g with
   |none=>gU m.dst env (.l_ [])=gU m.dst env (x i)/\s=pL s (δ i)
   |some d=>match env.getD d .hM with
    |.d (.lit (.bool b))=>Br b want (oW P k0 m.op env s fun x' env' s'=>gU m.dst env' x'=gU m.dst env (x i)/\s'=pL s (δ i)) (gU m.dst env (.l_ [])=gU m.dst env (x i)/\s=pL s (δ i))
    |.l_ []=>gU m.dst env (.l_ [])=gU m.dst env (x i)/\s=pL s (δ i)
    |_=>False:=by
 have hs:=(h.step i m hi).1;have run:(∃ex,yp P k0 (sat (S i)) (fun x' δ' e'=>x'=x i/\δ'=δ i/\e'=ex) (kF P k0 (ev (E i)) (sat (S i)) m.op)/\ft i=(ex++rX (ev (E i)) m.op,(δ i).map (·.1)))->
  oW P k0 m.op env s fun x' env' s'=>gU m.dst env' x'=gU m.dst env (x i)/\s'=pL s (δ i):=fun⟨ex,hd,hf⟩=>by
  have hc:kF P k0 (ev env) (sat s) m.op=kF P k0 (ev (E i)) (sat (S i)) m.op:=by
   refine Hu (fun o ho=>?_) (fun t ht=>?_) (fun id hid=>?_)
   ·cases o with
    |tmp t=>simp[sA]at ho
    |_=>rfl
   ·simpa only[ev]using h.reads hL hi hu hr hb (t:=t) (bF _ ht)
   ·exact h.looks hL hi hu hr hb (by rw[hf];exact cV _ hid)
  rw[<-hc]at hd;replace hd:=vS (σ':=sat s) (fun id hid=>h.looks hL hi hu hr hb (by rw[hf];exact bF _ hid)) hd;exact FO (J6 (xL (K:=fun x' env' s'=>gU m.dst env' x'=gU m.dst env (x i)/\s'=pL s (δ i)) (fun x' δ' e' hx=>by
   obtain⟨rfl,rfl,_⟩:=hx;exact⟨rfl,rfl⟩) hd))
 cases hg:m.guard with
 |none=>
  rcases hs with⟨_,h2⟩|⟨h1,_⟩
  ·exact run h2
  ·simp[gd,hg]at h1
 |some p=>
  obtain⟨g,want⟩:=p;cases g with
  |none=>rcases hs with⟨h1,_⟩|⟨h1,_⟩<;>simp[gd,hg]at h1
  |some d=>
   have he:env.getD d .hM=(E i).getD d .hM:=h.reads hL hi hu hr hb (by simp[U5,hg]);simp only;rw[he];have hgd:gd m (E i)=(match(E i).getD d .hM with|.d (.lit (.bool b))=>some (b==want)|.l_ []=>some false|_=>none):=by simp only[gd,hg]
   rcases hs with⟨h1,h2⟩|⟨h1,h2,h3,_⟩
   ·rw[hgd]at h1;split at h1
    ·rename_i b hb';simp only[aQ,dF]at h1;simp only[Br,ah h1];exact run h2
    ·cases h1
    ·cases h1
   ·rw[hgd]at h1;split at h1
    ·rename_i b hb';simp only[aQ,ei,ne_eq]at h1;simp only[Br,ay h1];rw[h2,h3];exact⟨rfl,rfl⟩
    ·rw[h2,h3];exact⟨rfl,rfl⟩
    ·cases h1
end
theorem JC{P:Program}{c:Code}{ms:List h_}{after:List fW}(h:nL P c=some (.draw ms after)):
 ∃id ops,c=.region id ops true/\ops.toList.mapM (ta P ops)=some ms/\after=ops.toList.map fun o=>(o.after.toList.filter (Region.binds .any)).map (·.on):=by
 cases c<;>simp[nL,aB,aF]at h⊢
 case region id' ops' d'=>
  obtain⟨ms',h1,h⟩:=h;split at h
  ·rename_i hd;simp only[gB.draw.injEq]at h;obtain⟨rfl,rfl⟩:=h;exact⟨id',ops',⟨rfl,rfl,hd⟩,h1,rfl⟩
  ·cases h
theorem BU{α β:Type}{f:α->Option β}:∀{xs:List α}{ys:List β},xs.mapM f=some ys->ys.length=xs.length/\∀(i:Nat)(x:α),xs[i]?=some x->∃y,ys[i]?=some y/\f x=some y
 |[],ys,h=>by simp at h;subst h;simp
 |x::xs,ys,h=>by
  simp only[cU,di,aB]at h;obtain⟨y,h1,ys',h2,h3⟩:=h;cases h3;obtain⟨e1,e2⟩:=BU h2;refine⟨by simp[e1],fun i u hu=>?_⟩;cases i with
  |zero=>simp at hu;subst hu;exact⟨y,rfl,h1⟩
  |succ i=>simpa using e2 i u (by simpa using hu)
theorem Co.env{E:Nat->List AV}{S:Nat->gA}{ms:List h_}{x:Nat->AV}{δ:Nat->List (Nat×Ob)}{L L':Nat->Bool}{env:List AV}{s:gA}
 (h:Co E S ms x δ L env s) (hL:∀j,j<ms.length->L j=L' j):Co E S ms x δ L' env s:=
 ⟨h.len,fun t ht=>by rw[h.slot t ht];exact sX fun j hj _=>hL j hj,fun id=>by rw[h.obj id];exact sX fun j hj _=>hL j hj⟩
theorem EI{P:Program}{C:Ctx}{ops:Array Oper}{Q:Post}{ms:List h_}{after:List fW}{x:Nat->AV}{δ:Nat->List (Nat×Ob)}{ft:Nat->List Nat×List Nat}
 {E:Nat->List AV} {S:Nat->gA} (hm:ops.toList.mapM (ta P ops)=some (ms.map h_.erase)) (ha:after=ops.toList.map fun o=>(o.after.toList.filter (Region.binds .any)).map (·.on))
 (h:qd P C.k ms after x δ ft E S) (hQ:Q .normal (E ms.length) (S ms.length)):
 ∀(fuel:Nat)(listed:Array Bool)(env:List AV)(s:gA)(β:gI)(a:Act)(w:World),listed.size=ops.size->Ko (fun j=>listed.getD j false) ops.size<=fuel->
  (∀i,listed.getD i false=true->∀e∈after.getD i [],listed.getD e false=true)->Co E S ms x δ (fun j=>listed.getD j false) env s->St C β env s a w->
  wpAnyIn C.sV 0 P .any ops (fun e a' w'=>∃C',Ext C C'/\∃β' env' s',St C' β' env' s' a' w'/\Q e env' s') fuel listed a w:=by
 obtain⟨hlen,hget⟩:=BU hm;rw[aK]at hlen;have hsz:ms.length=ops.size:=by rw[hlen];simp
 have haf:∀i o,ops[i]?=some o->after.getD i []=(o.after.toList.filter (Region.binds .any)).map (·.on):=fun i o ho=>by rw[ha,ak,bk,Array.getElem?_toList,ho];rfl
 have hback:∀i,∀e∈after.getD i [],e<i:=fun i e he=>by
  have hc:=h.ok;simp only[yo,yU,bL,cM,eY,az]at hc;have hi:i<after.length:=by
   rcases cu i after.length with h'|h'
   ·exact h'
   ·rw[ak,bz h']at he;simp at he
  exact hc.1.1 i hi e he
 have isReady:∀{listed:Array Bool},listed.size=ops.size->∀{i:Nat},i<ops.size->listed.getD i false=false->(∀e∈after.getD i [],listed.getD e false=true)->
  i∈Region.ready .any ops listed:=fun{listed} hs {i} hi hu hr=>by
  rw[mem_ready];have ho:ops[i]?=some ops[i]:=cK hi;refine⟨?_,_,ho,fun e he hb=>hr _ ?_⟩
  ·have:i<listed.size:=by omega
   simpa[this]using hu
  ·rw[haf i _ ho];exact aY.2 ⟨e,dy.2 ⟨by simpa using he,hb⟩,rfl⟩
 have all:∀{listed:Array Bool},listed.size=ops.size->Region.ready .any ops listed=[]->∀i,i<ops.size->listed.getD i false=true:=fun{listed} hs hn i=>by
  induction i using Nat.strongRecOn with
  |ind i ih=>
   intro hi;cases hu:listed.getD i false with
   |true=>rfl
   |false=>
    have:=isReady hs hi hu fun e he=>ih e (hback i e he) (by have:=hback i e he;omega)
    rw[hn]at this;cases this
 have done:∀{listed:Array Bool}{env:List AV}{s:gA}{β:gI}{a:Act}{w:World},(∀i,i<ops.size->listed.getD i false=true)->
  Co E S ms x δ (fun j=>listed.getD j false) env s->St C β env s a w->∃C',Ext C C'/\∃β' env' s',St C' β' env' s' a w/\Q .normal env' s':=fun{listed env s β a w} hall hb hst=>by
  have hb':=hb.env (L':=fun _=>true) fun j hj=>hall j gq
  have e1:env=E ms.length:=by
   refine dB fun t=>?_
   by_cases ht:t<(E 0).length
   ·have h1:=hb'.slot t ht;rw[<-h.slot ht (au _)]at h1;have l1:t<env.length:=by rw[hb'.len];exact ht
    have l2:t<(E ms.length).length:=by rw[h.len (au _)];exact ht
    rw[ak,ak,aA l1,aA l2]at h1;rw[aA l1,aA l2];simpa using h1
   ·rw[bz (by rw[hb'.len];omega),bz (by rw[h.len (au _)];omega)]
  have e2:∀id,sat s id=sat (S ms.length) id:=fun id=>by rw[hb'.obj id,<-h.obj id (au _)]
  rw[<-e1]at hQ;obtain⟨β',h1⟩:=gM.SQ (k:=C.k) (env:=env) e2 C β a w rfl hst;exact⟨C,.refl C,β',env,_,h1,hQ⟩
 intro fuel;induction fuel with
 |zero=>
  intro listed env s β a w hs hf hd hb hst;have hall:=FN (Nat.le_zero.1 hf);refine⟨?_,done hall hb hst⟩;cases hr:Region.ready .any ops listed with
  |nil=>rfl
  |cons i rs=>
   have hi:i∈Region.ready .any ops listed:=by rw[hr];exact fA
   obtain⟨h1,o,ho,_⟩:=mem_ready.1 hi;have hl:i<ops.size:=(bu.1 ho).1;have h2:=hall i hl;have:i<listed.size:=by omega
   simp[this]at h1 h2;rw[h1]at h2;cases h2
 |succ fuel ih=>
  intro listed env s β a w hs hf hd hb hst;refine⟨fun hn=>done (all hs hn) hb hst,fun i hi=>?_⟩;obtain⟨h1,o,ho,hall⟩:=mem_ready.1 hi;have hl:i<ops.size:=(bu.1 ho).1;have hll:i<listed.size:=by omega
  have hu:listed.getD i false=false:=by simp[hll]at h1⊢;exact h1
  have hr:∀e∈after.getD i [],listed.getD e false=true:=fun e he=>by
   rw[haf i o ho]at he;obtain⟨d,hd1,rfl⟩:=aY.1 he;obtain⟨hd2,hd3⟩:=dy.1 hd1;exact hall d (by simpa using hd2) hd3
  obtain⟨m0,hmi0,hmo⟩:=hget i o (by simpa using ho);rw[bk]at hmi0;obtain⟨m,hmi,rfl⟩:=aF.1 hmi0;unfold wpOpIn;rw[ho];simp only;refine AF (K:=fun env' s'=>env'=gU m.dst env (x i)/\s'=pL s (δ i)) hmo (h.run hd hmi hu hr hb) hst fun β' env' s' a' w' h4 h5=>?_
  obtain⟨rfl,rfl⟩:=h5;have hset:∀j,j≠i->(listed.setIfInBounds i true).getD j false=listed.getD j false:=fun j hj=>getD_set_ne false (Ne.symm hj)
  have hone:(listed.setIfInBounds i true).getD i false=true:=by simp[hll]
  refine ih _ _ _ β' a' w' (by simpa using hs) ?_ (fun j hj e he=>?_) (h.next hd hmi hu hr hone hset hb) h4
  ·have:=(IF (L:=fun j=>listed.getD j false) (L':=fun j=>(listed.setIfInBounds i true).getD j false) hu hone hset (n:=ops.size)).2 hl;omega
  ·by_cases hji:j=i
   ·subst hji;exact getD_set_true (hr e he)
   ·rw[hset j hji]at hj;exact getD_set_true (hd j hj e he)
theorem RW{P:Program}{k:Nat}{Q:Post}{env:List AV}{s:gA}{ms:List h_}{after:List fW}(hP:P.follows .mixedOrders=true)
 (h:tP P k (fun acc env s=>yo ms after acc.reverse=true/\Q .normal env s) ms [] env s):oZ P k (.draw ms after) Q env s:=fun C hC _ c hc β a w hst=>by
 obtain⟨id,ops,rfl,hm,ha⟩:=JC hc;subst hC;obtain⟨x,δ,ft,E,S,hE,hS,h1,h2,h3⟩:=Av h;rw[bf,List.reverse_reverse]at h2;obtain⟨hlen,_⟩:=BU hm;rw[aK]at hlen;have hrep:∀j,(Array.replicate ops.size false).getD j false=false:=fun j=>by
  rw[cm,Array.getElem?_replicate];split<;>rfl
 have g0:∀{β:Type}{f:Nat->Option β}{b:β}(n:Nat),gl f (fun j=>(Array.replicate ops.size false).getD j false) b n=b:=fun{β f b} n=>by
  induction n with
  |zero=>rfl
  |succ n ih=>simp only[gl];rw[ay (by rw[hrep];simp)];exact ih
 have hu:∀n,Ko (fun j=>(Array.replicate ops.size false).getD j false) n<=n:=fun n=>by
  induction n with
  |zero=>exact au _
  |succ n ih=>simp only[Ko];rw[hrep];simp only;omega
 refine wpIn_region_any hP (EI hm ha ⟨h1,h2⟩ h3 ops.size _ env s β a _ (by simp) (hu _) (fun i hi=>?_) ⟨by rw[hE],fun t ht=>?_,fun id'=>?_⟩ hst.drew)
 ·rw[hrep]at hi;cases hi
 ·rw[g0,hE]
 ·rw[g0,hS]
def ym(ms:List h_)(after:List fW)(Q:Post)(acc:List (List Nat×List Nat))(env:List AV)(s:gA):Prop:=
 yo ms after acc.reverse=true/\Q .normal env s
def kI(P:Program)(k0:Nat)(F:List (List Nat×List Nat)->List AV->gA->Prop)(ms:List h_)(acc:List (List Nat×List Nat))(foot:List Nat)(d:Option Nat)(env:List AV)(s:gA)
 (o:pW):Prop:=yp P k0 (sat s) (fun x δ ex=>tP P k0 F ms ((ex++foot,δ.map (·.1))::acc) (gU d env x) (pL s δ)) o
def lN(P:Program)(k0:Nat)(F:List (List Nat×List Nat)->List AV->gA->Prop)(ms:List h_)(acc:List (List Nat×List Nat))(foot:List Nat)(d:Option Nat)(env:List AV)(s:gA)
 (f:Nat) (args:List AV):Prop:=PA P k0 (sat s) f args fun x δ ex=>tP P k0 F ms ((ex++foot,δ.map (·.1))::acc) (gU d env x) (pL s δ)
def yF(P:Program)(k0:Nat)(F:List (List Nat×List Nat)->List AV->gA->Prop)(ms:List h_)(acc:List (List Nat×List Nat))(foot:List Nat)(d:Option Nat)(env:List AV)(s:gA)
 (b:Bool) (o1 o2:pW):Prop:=if b=true then kI P k0 F ms acc foot d env s o1 else kI P k0 F ms acc foot d env s o2
def wv(P:Program)(k0:Nat)(F:List (List Nat×List Nat)->List AV->gA->Prop)(b want:Bool)(m:ri)(d:Option Nat)(ms:List h_)(acc:List (List Nat×List Nat))(env:List AV)(s:gA):Prop:=
 if b=want then kI P k0 F ms acc (rX (ev env) m) d env s (kF P k0 (ev env) (sat s) m)else tP P k0 F ms (([],[])::acc) (gU d env (.l_ [])) s
def SB(P:Program)(k0:Nat)(F:List (List Nat×List Nat)->List AV->gA->Prop)(want:Bool)(m:ri)(d:Option Nat)(ms:List h_)(acc:List (List Nat×List Nat))(env:List AV)(s:gA):AV->Prop
 |.d (.lit (.bool b))=>wv P k0 F b want m d ms acc env s
 |.l_ []=>tP P k0 F ms (([],[])::acc) (gU d env (.l_ [])) s
 |_=>False
section
variable{P:Program}{k0:Nat}{F:List (List Nat×List Nat)->List AV->gA->Prop}{b want:Bool}{m:ri}{d:Option Nat}{ms:List h_}{env:List AV}{s:gA}
 {acc:List (List Nat×List Nat)} {foot:List Nat}
theorem Pk:tP P k0 F [] acc env s=F acc env s:=(rfl)
theorem J8:tP P k0 F (⟨d,m,none⟩::ms) acc env s=kI P k0 F ms acc (rX (ev env) m) d env s (kF P k0 (ev env) (sat s) m):=(rfl)
theorem J7{g:Nat}:tP P k0 F (⟨d,m,some (some g,want)⟩::ms) acc env s=SB P k0 F want m d ms acc env s (env.getD g .hM):=by
 simp only[tP,gd];generalize env.getD g .hM=x;cases x with
 |d y=>cases y with
  |lit u=>cases u with
   |bool b=>
    simp only[SB,wv];cases b<;>cases want<;>rfl
   |_=>rfl
  |_=>rfl
 |l_ cs=>cases cs<;>rfl
 |_=>rfl
theorem M3{x:AV}{δ:List (Nat×Ob)}:kI P k0 F ms acc foot d env s (.ok x δ)=tP P k0 F ms ((foot,δ.map (·.1))::acc) (gU d env x) (pL s δ):=(rfl)
theorem Hw{p:Prop}{o:pW}:kI P k0 F ms acc foot d env s (.need p o)=(p/\kI P k0 F ms acc foot d env s o):=(rfl)
theorem Hv{f:Nat}{args:List AV}:kI P k0 F ms acc foot d env s (.call f args)=lN P k0 F ms acc foot d env s f args:=(rfl)
theorem M1{o1 o2:pW}:kI P k0 F ms acc foot d env s (.br b o1 o2)=yF P k0 F ms acc foot d env s b o1 o2:=(rfl)
theorem SZ{o1 o2:pW}:yF P k0 F ms acc foot d env s true o1 o2=kI P k0 F ms acc foot d env s o1:=by simp[yF]
theorem SY{o1 o2:pW}:yF P k0 F ms acc foot d env s false o1 o2=kI P k0 F ms acc foot d env s o2:=by simp[yF]
theorem Q5:wv P k0 F true true m d ms acc env s=kI P k0 F ms acc (rX (ev env) m) d env s (kF P k0 (ev env) (sat s) m):=by simp[wv]
theorem Q0:wv P k0 F false false m d ms acc env s=kI P k0 F ms acc (rX (ev env) m) d env s (kF P k0 (ev env) (sat s) m):=by simp[wv]
theorem Q4:wv P k0 F true false m d ms acc env s=tP P k0 F ms (([],[])::acc) (gU d env (.l_ [])) s:=by simp[wv]
theorem Q3:wv P k0 F false true m d ms acc env s=tP P k0 F ms (([],[])::acc) (gU d env (.l_ [])) s:=by simp[wv]
end
theorem Ug{P:Program}{k:Nat}{Q:Post}{env:List AV}{s:gA}{ms:List h_}{after:List fW}(hP:P.follows .mixedOrders=true)
 (h:tP P k (ym ms after Q) ms [] env s):oZ P k (.draw ms after) Q env s:=RW hP h
theorem iY{ms:List h_}{after:List fW}{Q:Post}{acc:List (List Nat×List Nat)}{env:List AV}{s:gA}(h:yo ms after acc.reverse=true)(hq:Q .normal env s):
 ym ms after Q acc env s:=⟨h,hq⟩
theorem RR{x:D}:RQ (.d x)=LA (pN (.d x)):=(rfl)
theorem Js{e e' id off len:Nat}{n:Int}:E5 e n (.mm e' id off len)=.need (e'=e/\0<=n/\n<len) (.ok (.ptr id (off+n.toNat*e)) []):=(rfl)
theorem On{e:Nat}{n:Int}{x:D}:E5 e n (.d x)=Lw e n (pN (.d x)):=(rfl)
theorem Jr{e e' id m:Nat}{n:Int}:E5 e n (.jM e' id m)=.need (e'=e/\0<=n/\n<m) (.ok (.kH id m (n.toNat*e)) []):=(rfl)
attribute [go_sem] HH Dh Eu HF Jr LK IB Pv Pk J8 J7 SB M3 Hw Hv M1 SZ SY Q5 Q0 Q4 Q3 Bm qU LJ H_ IA DZ Rb KD Le WV Lb Mf QG Td Lw Js On RL PI LA RR Iy JQ Iv KA Bb F2 Tc DH Nz KG NA L0 QS Vq If K2 kF rX pL
def uy:Value:=.slice none 0 0
theorem St.Ho{C:Ctx}{β:gI}{env:List AV}{s:gA}{a:Act}{w:World}(h:St C β env s a w){id t e:Nat}(hd:sat s id=.dead):
 St C (gC β id (.tok uy 0)) env (sset s id (.tok t e 0)) a w/\lM β s w (gC β id (.tok uy 0)) (sset s id (.tok t e 0)) w:=by
 have hno:β id=.no:=by have:=h.inv.obs id;rw[hd]at this;exact this
 have noOwn:∀b o,¬own (gC β id (.tok uy 0)) [(id,.tok t e 0)] b o:=fun b o ⟨i,hi⟩=>by
  by_cases h1:i=id
  ·subst h1;simp[sat,gC,uy]at hi
  ·simp[sat,h1]at hi
 have noBlk:∀b,¬gw (gC β id (.tok uy 0)) [(id,.tok t e 0)] id b:=fun b hi=>by simp[gw,sat,gC,uy]at hi
 have m:lM β s w (gC β id (.tok uy 0)) (sset s id (.tok t e 0)) w:=by
  refine⟨au _,rfl,fun b o v hc _=>hc,fun b hb _=>rfl,fun b o ho=>?_,fun i b hb=>?_,fun i=>?_⟩
  ·rcases tX ho with ho|ho
   ·exact .inl ho
   ·exact absurd ho (noOwn b o)
  ·rcases ja hb with⟨_,hb⟩|⟨_,hb⟩
   ·exact .inl ⟨i,hb⟩
   ·exact absurd hb (noBlk b)
  ·by_cases hi:i=id
   ·subst hi;simp only[gC,aO];rw[hno];trivial
   ·simp only[gC,hi,aI];exact .refl _
 refine⟨h.move m (fun i=>?_) (fun i j b hi hj=>?_),m⟩
 ·rw[iJ];by_cases hi:i=id
  ·subst hi;simp only[aO,tR];exact⟨uy,by simp[gC],.inl ⟨rfl,rfl⟩⟩
  ·simp only[hi,aI];exact(h.inv.obs i).uS m (by simp[gC,hi]) (fun b hb=>rfl) rfl
 ·rcases ja hi with⟨hi1,hi2⟩|⟨rfl,hi2⟩<;>rcases ja hj with⟨hj1,hj2⟩|⟨rfl,hj2⟩
  ·exact h.inv.inj i j b hi2 hj2
  ·exact absurd hj2 (noBlk b)
  ·exact absurd hi2 (noBlk b)
  ·rfl
theorem GY{O:Own}{w:World}{e0:Nat}{v:Value}(h:D.ok O w (.sl e0 (some true) []) v):v=uy:=by
 simp only[D.ok,IG]at h;obtain⟨a,cap,h1,_,⟨rfl,rfl⟩,_⟩:=h;simpa[uy]using h1
theorem DR{β:gI}{O:Own}{w:World}{e id:Nat}(hb:β id=.tok uy 0):AV.ok β O w (.own e id []) uy:=by
 simp only[AV.ok,D.ok,IG];exact⟨⟨none,0,by simp[uy],by simp[HA],trivial,by simp⟩,uy,0,by rw[hb];exact⟨rfl,rfl⟩,au _,fun _=>rfl⟩
theorem gM.CJ{k:Nat}{env:List AV}{s:gA}(i id t e:Nat){e0:Nat}(hd:sat s id=.dead)(hi:env[i]?=some (.d (.sl e0 (some true) []))):
 gM k env s (env.set i (.own e id [])) (sset s id (.tok t e 0)):=fun _ _ _ _ _ hst=>by
 obtain⟨h1,m⟩:=hst.Ho (t:=t) (e:=e) hd;refine⟨_,h1.defers,h1.inv,by rw[h1.len,dM],fun j x hj=>?_⟩;rw[cH]at hj;split at hj
 ·rename_i hij;subst hij;split at hj
  ·cases hj;have:=hst.env i _ hi;simp only[AV.ok]at this;rw[GY this];exact DR (by simp[gC])
  ·cases hj
 ·exact h1.env j x hj
theorem St.Mm{C:Ctx}{β:gI}{env:List AV}{s:gA}{a:Act}{w:World}(h:St C β env s a w){o t:Nat}{cs cs':List AV}(ho:sat s o=.obj t cs)
 (hc:∀vs,AV.gO β (C.gD β s) w cs vs->AV.gO β (C.gD β s) w cs' vs):St C β env (sset s o (.obj t cs')) a w:=by
 have hown:∀b x,own β (sset s o (.obj t cs')) b x<->own β s b x:=fun b x=>by
  constructor<;>rintro⟨i,hi⟩<;>refine⟨i,?_⟩<;>rw[iJ]at*<;>by_cases hio:i=o
  ·subst hio;simp only[aO]at hi;rw[ho];exact hi
  ·simpa[hio]using hi
  ·subst hio;rw[ho]at hi;simpa using hi
  ·simpa[hio]using hi
 have hblk:∀i b,gw β (sset s o (.obj t cs')) i b<->gw β s i b:=fun i b=>by
  unfold gw;rw[iJ];by_cases hio:i=o
  ·subst hio;simp[ho]
  ·simp[hio]
 have m:lM β s w β (sset s o (.obj t cs')) w:=
  ⟨au _,rfl,fun b o v hc _=>hc,fun b hb _=>rfl,fun b x hx=>.inl ((hown b x).1 hx),fun i b hb=>.inl ⟨i,(hblk i b).1 hb⟩,fun i=>.refl _⟩
 refine h.move m (fun i=>?_) (fun i j b hi hj=>h.inv.inj i j b ((hblk i b).1 hi) ((hblk j b).1 hj));rw[iJ];by_cases hio:i=o
 ·subst hio;simp only[aO];have:=h.inv.obs i;rw[ho]at this;obtain⟨b,vs,h1,h2,h3,h4⟩:=this;exact⟨b,vs,h1,h2,h3,h4.imp fun _ h=>m.gO (hc _ h)⟩
 ·simp only[hio,aI];exact(h.inv.obs i).uS m rfl (fun b hb=>rfl) rfl
theorem DP{β:gI}{O:Own}{w:World}{y:AV}:∀{cs:List AV}{vs:List Value}{j:Nat}{x:AV},cs[j]?=some x->(∀v,AV.ok β O w x v->AV.ok β O w y v)->AV.gO β O w cs vs->AV.gO β O w (cs.set j y) vs
 |[],vs,j,x,hj,_,_=>by simp at hj
 |c::cs,vs,0,x,hj,hy,h=>by
  simp only[AV.gO,List.set_cons_zero]at h⊢;simp at hj;subst hj;obtain⟨v,r,h1,h2,h3⟩:=h;exact⟨v,r,h1,hy v h2,h3⟩
 |c::cs,vs,j+1,x,hj,hy,h=>by
  simp only[AV.gO,List.set_cons_succ]at h⊢;obtain⟨v,r,h1,h2,h3⟩:=h;exact⟨v,r,h1,h2,DP (by simpa using hj) hy h3⟩
theorem gM.Ch{k:Nat}{env:List AV}{s:gA}(o j id t e:Nat){e0 t':Nat}{cs:List AV}(hd:sat s id=.dead)(ho:sat s o=.obj t' cs)(hj:cs[j]?=some (.d (.sl e0 (some true) []))):
 gM k env s env (sset (sset s id (.tok t e 0)) o (.obj t' (cs.set j (.own e id [])))):=fun _ _ _ _ _ hst=>by
 obtain⟨h1,m⟩:=hst.Ho (t:=t) (e:=e) hd;have hoi:o≠id:=by rintro rfl;rw[hd]at ho;cases ho
 refine⟨_,h1.Mm (cs:=cs) (by rw[iJ,ay hoi,ho]) fun _ hv=>DP hj (fun _ hv=>?_) hv⟩;simp only[AV.ok]at hv;rw[GY hv];exact DR (by simp[gC])
def D.le(x y:D):Prop:=∀O w vs,D.Dn O w x vs->D.Dn O w y vs
def o_:List D->List D->Prop
 |[],[]=>True
 |x::xs,y::ys=>D.le x y/\o_ xs ys
 |_,_=>False
theorem D.le_refl(x:D):D.le x x:=fun _ _ _ h=>h
theorem o_.refl:∀xs:List D,o_ xs xs
 |[]=>trivial
 |x::xs=>⟨D.le_refl x,o_.refl xs⟩
theorem o_.length:∀{xs ys:List D},o_ xs ys->xs.length=ys.length
 |[],[],_=>rfl
 |_::_,_::_,h=>by simp[o_.length h.2]
 |[],_::_,h=>h.elim
 |_::_,[],h=>h.elim
theorem o_.append:∀{xs ys us vs:List D},o_ xs ys->o_ us vs->o_ (xs++us) (ys++vs)
 |[],[],_,_,_,h=>h
 |_::_,_::_,_,_,h,k=>⟨h.1,o_.append h.2 k⟩
 |[],_::_,_,_,h,_=>h.elim
 |_::_,[],_,_,h,_=>h.elim
theorem o_.row{O:Own}{w:World}{b e:Nat}:∀{xs ys:List D}{o:Nat},o_ xs ys->D.row O w b o e xs->D.row O w b o e ys
 |[],[],_,_,h=>h
 |_::_,_::_,_,h,hr=>by
  rw[D.lY]at hr⊢;obtain⟨⟨vs,h1,h2,h3⟩,h4⟩:=hr;exact⟨⟨vs,h1,h2,h.1 O w vs h3⟩,o_.row h.2 h4⟩
 |[],_::_,_,h,_=>h.elim
 |_::_,[],_,h,_=>h.elim
theorem QO{O:Own}{w:World}{e:Nat}{nl:Option Bool}{xs ys:List D}{v:Value}(h:o_ xs ys)(hv:D.ok O w (.sl e nl xs) v):D.ok O w (.sl e nl ys) v:=by
 simp only[D.ok]at hv⊢;obtain⟨a,cap,h1,h2,h3,h4⟩:=hv;refine⟨a,cap,by rw[<-h.length];exact h1,by rw[<-h.length];exact h2,h3,?_⟩;rcases h4 with h4|⟨b,o,h5,h6⟩
 ·subst h4;cases ys with
  |nil=>exact .inl rfl
  |cons y ys=>exact h.elim
 ·exact .inr ⟨b,o,h5,h.row h6⟩
theorem AV.BP{e:Nat}{nl:Option Bool}{xs ys:List D}(h:o_ xs ys):AV.le (.d (.sl e nl xs)) (.d (.sl e nl ys)):=fun _ _ _ _ hv=>by
 simp only[AV.ok]at hv⊢;exact QO h hv
theorem AV.sy{e id:Nat}{xs ys:List D}(h:o_ xs ys):AV.le (.own e id xs) (.own e id ys):=fun _ _ _ _ hv=>by
 simp only[AV.ok]at hv⊢;obtain⟨h1,u,n,h2,h3,h4⟩:=hv;exact⟨QO h h1,u,n,h2,by rw[<-h.length];exact h3,by rw[<-h.length];exact h4⟩
def okB(b:Bool):AV:=.d (.lit (.bool b))
section
variable{P:Program}{o:Oper}
end
end kJ
