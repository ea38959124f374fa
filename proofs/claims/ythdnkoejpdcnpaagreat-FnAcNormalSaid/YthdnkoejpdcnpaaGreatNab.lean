/- A part of the proof about FnAcNormal and about FnAcSteps (LaAct, LaPan). -/
import Derived.Test.YthdnkoejpdcnpaaGreatNaa
set_option linter.all false
namespace kI
open Go
abbrev Post:=Exit->List AV->gL->Prop
structure Ext(C C':Ctx):Prop where
 size:C.w.heap.size<=C'.w.heap.size
 k:C'.k=C.k
 ro:C'.ro=C.ro
 nm:C'.nm=C.nm
 dom:C'.dom=C.dom
 O:C'.O=C.O
 inv:∀β s w,Inv C' β s w->Inv C β s w
theorem Ext.refl(C:Ctx):Ext C C:=⟨ay _,rfl,rfl,rfl,rfl,rfl,fun _ _ _ h=>h⟩
theorem Ext.trans{C C' C'':Ctx}(h:Ext C C')(h':Ext C' C''):Ext C C'':=
 ⟨bN h.size h'.size,h'.k.trans h.k,h'.ro.trans h.ro,h'.nm.trans h.nm,h'.dom.trans h.dom,h'.O.trans h.O,fun β s w hi=>h.inv β s w (h'.inv β s w hi)⟩
theorem Ext.uX{C C':Ctx}(h:Ext C C'):C'.uX=C.uX:=by unfold Ctx.uX;rw[h.ro]
theorem Ext.gP{C C':Ctx}(h:Ext C C')(β:gU)(s:gL):C'.gP β s=C.gP β s:=by unfold Ctx.gP;rw[h.O]
def Ctx.plain(C:Ctx):Prop:=C.ro=none/\C.nm=false/\C.dom<=C.w.heap.size
theorem Ext.plain{C C':Ctx}(h:Ext C C')(hp:C.plain):C'.plain:=⟨h.ro.trans hp.1,h.nm.trans hp.2.1,by rw[h.dom];exact bN hp.2.2 h.size⟩
def CWp(P:Program)(C:Ctx)(c:Code)(Q:Post)(env:List AV)(s:gL):Prop:=
 ∀β a w,St C β env s a w->c.wpIn C.uX 0 P (fun e a' w'=>∃C',Ext C C'/\∃β' env' s',St C' β' env' s' a' w'/\Q e env' s') a w
def gH.flat:gH->Bool
 |.seq a b=>a.flat&&b.flat
 |.cond _ a b=>a.flat&&b.flat
 |.block _ a=>a.flat
 |.loop a=>a.flat
 |.ghost a=>a.flat
 |.scope a=>a.flat
 |.U1 .. =>false
 |_=>true
def pG(P:Program)(k:Nat)(mc:gH)(Q:Post)(env:List AV)(s:gL):Prop:=
 ∀C:Ctx,C.k=k->(mc.flat=true\/C.plain)->∀c,oJ P c=some mc.erase->CWp P C c Q env s
def Cy(K:List AV->gL->Prop)(Q:Post):Post
 |.normal,env,s=>K env s
 |e,env,s=>Q e env s
def Da(id:Nat)(Q:Post):Post
 |.exit id',env,s=>if id'=id then Q .normal env s else Q (.exit id') env s
 |e,env,s=>Q e env s
def TE(Q:Post):Post
 |.goto _,_,_=>False
 |e,env,s=>Q e env s
def CF(P:Program)(k0:Nat):List iH->List AV->gL->(List AV->gL->Prop)->Prop
 |[],env,s,K=>K env s
 |m::ms,env,s,K=>match m.guard with
  |none=>qo P k0 m.op env s fun x env s=>CF P k0 ms (iq m.dst env x) s K
  |some (g,want)=>match g with
   |none=>CF P k0 ms (iq m.dst env (.nk [])) s K
   |some d=>match env.getD d .iB with
    |.d (.lit (.bool b))=>Br b want (qo P k0 m.op env s fun x env s=>CF P k0 ms (iq m.dst env x) s K) (CF P k0 ms (iq m.dst env (.nk [])) s K)
    |.nk []=>CF P k0 ms (iq m.dst env (.nk [])) s K
    |_=>False
theorem LG{P:Program}{c:Code}(h:oJ P c=some .skip):c=.skip:=by
 cases c<;>simp[oJ,aC,aF]at h⊢
 case region=>obtain⟨ms,_,h⟩:=h;split at h<;>cases h
theorem Od{P:Program}{c:Code}(h:oJ P c=some .ret):c=.ret:=by
 cases c<;>simp[oJ,aC,aF]at h⊢
 case region=>obtain⟨ms,_,h⟩:=h;split at h<;>cases h
theorem LD{P:Program}{c:Code}{id:Nat}(h:oJ P c=some (.exit id)):c=.exit id:=by
 cases c<;>simp[oJ,aC,aF]at h⊢
 case region=>obtain⟨ms,_,h⟩:=h;split at h<;>cases h
 case exit=>exact h
theorem Oe{P:Program}{c:Code}{x y:gH}(h:oJ P c=some (.seq x y)):∃a b,c=.seq a b/\oJ P a=some x/\oJ P b=some y:=by
 cases c<;>simp[oJ,aC,aF]at h⊢
 case region=>obtain⟨ms,_,h⟩:=h;split at h<;>cases h
 case seq=>exact⟨_,_,⟨rfl,rfl⟩,h⟩
theorem LA{P:Program}{c:Code}{o:Operand}{x y:gH}(h:oJ P c=some (.cond o x y)):∃a b,c=.cond o a b/\oJ P a=some x/\oJ P b=some y:=by
 cases c<;>simp[oJ,aC,aF]at h⊢
 case region=>obtain⟨ms,_,h⟩:=h;split at h<;>cases h
 case cond=>obtain⟨x',h1,y',h2,rfl,rfl,rfl⟩:=h;exact⟨_,_,⟨rfl,rfl,rfl⟩,h1,h2⟩
theorem I_{P:Program}{c:Code}{id:Nat}{x:gH}(h:oJ P c=some (.block id x)):∃a,c=.block id a/\oJ P a=some x:=by
 cases c<;>simp[oJ,aC,aF]at h⊢
 case region=>obtain⟨ms,_,h⟩:=h;split at h<;>cases h
 case block=>exact⟨_,⟨h.2,rfl⟩,h.1⟩
theorem LF{P:Program}{c:Code}{x:gH}(h:oJ P c=some (.loop x)):∃a,c=.loop a/\oJ P a=some x:=by
 cases c<;>simp[oJ,aC,aF]at h⊢
 case region=>obtain⟨ms,_,h⟩:=h;split at h<;>cases h
 case loop=>exact h
theorem Oc{P:Program}{c:Code}{ms:List iH}(h:oJ P c=some (.gD ms)):∃id ops,c=.region id ops false/\ops.toList.mapM (ve P ops)=some ms:=by
 cases c<;>simp[oJ,aC,aF]at h⊢
 case region=>
  obtain⟨ms',h1,h2⟩:=h;split at h2
  ·cases h2
  ·rename_i hd;cases h2;exact⟨_,_,⟨rfl,rfl,by simpa using hd⟩,h1⟩
section
variable{P:Program}{k:Nat}{Q:Post}{env:List AV}{s:gL}
theorem GQ{x y:Bool}{p:Prop}(h:(x&&y)=true\/p):(x=true\/p)/\(y=true\/p):=by
 rcases h with h|h
 ·rw[bF]at h;exact⟨.inl h.1,.inl h.2⟩
 ·exact⟨.inr h,.inr h⟩
theorem UP(h:Q .normal env s):pG P k .skip Q env s:=fun C _ _ c hc β a w hst=>by rw[LG hc];exact wpIn_skip ⟨C,.refl C,β,env,s,hst,h⟩
theorem Xs(h:Q .ret env s):pG P k .ret Q env s:=fun C _ _ c hc β a w hst=>by rw[Od hc];exact wpIn_ret ⟨C,.refl C,β,env,s,hst,h⟩
theorem UN{id:Nat}(h:Q (.exit id) env s):pG P k (.exit id) Q env s:=fun C _ _ c hc β a w hst=>by rw[LD hc];exact wpIn_exit ⟨C,.refl C,β,env,s,hst,h⟩
theorem Xt{x y:gH}(h:pG P k x (Cy (fun env s=>pG P k y Q env s) Q) env s):pG P k (.seq x y) Q env s:=fun C hC hf c hc β a w hst=>by
 obtain⟨c1,c2,rfl,h1,h2⟩:=Oe hc;obtain⟨f1,f2⟩:=GQ hf;refine wpIn_seq (fq (h C hC f1 c1 h1 β a w hst) fun e a' w' he=>?_);obtain⟨C',hx,β',env',s',hst',hq⟩:=he;cases e with
 |normal=>
  have:=hq C' (hx.k.trans hC) (f2.imp id hx.plain) c2 h2 β' a' w' hst';rw[hx.uX]at this;exact fq this fun e a' w' ⟨C'',hx',r⟩=>⟨C'',hx.trans hx',r⟩
 |exit id=>exact⟨C',hx,β',env',s',hst',hq⟩
 |goto l=>exact⟨C',hx,β',env',s',hst',hq⟩
 |ret=>exact⟨C',hx,β',env',s',hst',hq⟩
 |panic ch=>exact⟨C',hx,β',env',s',hst',hq⟩
 |outgrown=>exact⟨C',hx,β',env',s',hst',hq⟩
theorem Q3{id:Nat}{x:gH}(h:pG P k x (Da id Q) env s):pG P k (.block id x) Q env s:=fun C hC hf c hc β a w hst=>by
 obtain⟨c1,rfl,h1⟩:=I_ hc;refine wpIn_block (fq (h C hC hf c1 h1 β a w hst) fun e a' w' he=>?_);obtain⟨C',hx,β',env',s',hst',hq⟩:=he;cases e with
 |exit id'=>
  simp only[Da]at hq;simp only[Exit.inBlock];split<;>rename_i hid<;>simp only[hid,aH,aG]at hq<;>exact⟨C',hx,β',env',s',hst',hq⟩
 |normal=>exact⟨C',hx,β',env',s',hst',hq⟩
 |goto l=>exact⟨C',hx,β',env',s',hst',hq⟩
 |ret=>exact⟨C',hx,β',env',s',hst',hq⟩
 |panic ch=>exact⟨C',hx,β',env',s',hst',hq⟩
 |outgrown=>exact⟨C',hx,β',env',s',hst',hq⟩
theorem Jb{P:Program}{c:Code}{x:gH}(h:oJ P c=some (.scope x)):∃a,c=.scope a/\oJ P a=some x:=by
 cases c<;>simp[oJ,aC,aF]at h⊢
 case region=>obtain⟨ms,_,h⟩:=h;split at h<;>cases h
 case scope=>exact h
theorem Ja{P:Program}{c:Code}(h:oJ P c=some .label):∃l,c=.label l:=by
 cases c<;>simp[oJ,aC,aF]at h⊢
 case region=>obtain⟨ms,_,h⟩:=h;split at h<;>cases h
section
variable{b:Frame}{a:Act}{ks:List Item}{cs:List Frame}{w:World}
theorem tu{c:Code}:step P (lone (b.atR a (.code (.scope c)::ks)) cs w)=.next (lone (b.atR a (.code c:: .inScope c::ks)) cs w):=
 step_lone_go (by simp[stepG,stepG.exec,Frame.atR])
theorem Ez{c:Code}:step P (lone (b.atR a (.inScope c::ks)) cs w)=.next (lone (b.atR a ks) cs w):=
 step_lone_go (by simp[stepG,stepG.exec,Frame.atR])
theorem JG{F:Fence}{n:Nat}{Q:Exit->Act->World->Prop}{c:Code}(h:c.wpIn F n P (fun e a w=>(∀l,e≠ .goto l)/\Q e a w) a w):(Code.scope c).wpIn F n P Q a w:=by
 intro b k cs hro hb hr;have h0:(lone (b.atR a (.code (.scope c)::k)) cs w).fenced P F:=fenced_calm hb hr rfl;obtain⟨e,a₁,w₁,hq,harr⟩:=h b (.inScope c::k) cs hro hb hr;cases e with
 |normal=>exact⟨.normal,a₁,w₁,hq.2,.head h0 tu (StepsIn.trans harr (.one (fenced_calm hb hr rfl) Ez))⟩
 |exit id'=>
  have hx:exitTo id' (.inScope c::k)=exitTo id' k:=by simp[exitTo]
  exact⟨.exit id',a₁,w₁,hq.2,fun k' hk=>.head h0 tu (harr.1 k' (by rw[hx];exact hk)),
   fun hr' hk=>let⟨k₁,h1,h2⟩:=harr.2 hr' (by rw[hx];exact hk);⟨k₁,h1,.head h0 tu h2⟩⟩
 |goto l=>exact absurd rfl (hq.1 l)
 |ret=>exact⟨_,a₁,w₁,hq.2,.of_steps (.one h0 tu) harr⟩
 |panic ch=>exact⟨_,a₁,w₁,hq.2,.of_steps (.one h0 tu) harr⟩
 |outgrown=>exact⟨_,a₁,w₁,hq.2,.of_steps (.one h0 tu) harr⟩
end
theorem Q5(h:Q .normal env s):pG P k .label Q env s:=fun C _ _ c hc β a w hst=>by
 obtain⟨l,rfl⟩:=Ja hc;exact wpIn_label ⟨C,.refl C,β,env,s,hst,h⟩
theorem Q7{x:gH}(h:pG P k x (TE Q) env s):pG P k (.scope x) Q env s:=fun C hC hf c hc β a w hst=>by
 obtain⟨c1,rfl,h1⟩:=Jb hc;refine JG (fq (h C hC hf c1 h1 β a w hst) fun e a' w' he=>?_);obtain⟨C',hx,β',env',s',hst',hq⟩:=he;cases e with
 |goto l=>exact hq.elim
 |_=>exact⟨(fun l e=>nomatch e),C',hx,β',env',s',hst',hq⟩
theorem UL{o:Operand}{x y:gH}{b:Bool}(hb:ev env o=.d (.lit (.bool b)))(h:Br b true (pG P k x Q env s) (pG P k y Q env s)):
 pG P k (.cond o x y) Q env s:=fun C hC hf c hc β a w hst=>by
 obtain⟨c1,c2,rfl,h1,h2⟩:=LA hc;obtain⟨f1,f2⟩:=GQ hf;have hv:=hst.ev o;rw[hb]at hv;refine wpIn_cond (qH hv) ?_;unfold Br at h;cases b with
 |true=>exact h C hC f1 c1 h1 β a w hst
 |false=>exact h C hC f2 c2 h2 β a w hst
def gT(k:Nat)(env:List AV)(s:gL)(env':List AV)(s':gL):Prop:=
 ∀(C:Ctx)(β:gU)(a:Act)(w:World),C.k=k->St C β env s a w->∃β',St C β' env' s' a w
theorem Q4{x:gH}{env':List AV}{s':gL}(hw:gT k env s env' s')(h:pG P k x Q env' s'):pG P k (.ghost x) Q env s:=fun C hC hf c hc β a w hst=>by
 obtain⟨β',hst'⟩:=hw C β a w hC hst;exact h C hC hf c hc β' a w hst'
theorem UO{x:gH}{ι:Type}(E:ι->List AV)(S:ι->gL)(inv:ι->Prop)(μ:ι->Nat)(i0:ι)(h0:inv i0)(hw:gT k env s (E i0) (S i0))
 (round:∀i,inv i->pG P k x (Cy (fun env' s'=>∃i',inv i'/\μ i'<μ i/\gT k env' s' (E i') (S i')) Q) (E i) (S i)):pG P k (.loop x) Q env s:=
 fun C hC hf c hc β a w hst=>by
 obtain⟨c1,rfl,h1⟩:=LF hc;obtain⟨β0,hst0⟩:=hw C β a w hC hst;intro b kk cs hro hb hr;have key:∀n i C' β a w,Ext C C'->μ i=n->inv i->St C' β (E i) (S i) a w->
  ∃e a' w',(∃C'',Ext C C''/\∃β' env' s',St C'' β' env' s' a' w'/\Q e env' s')/\ArrivesIn (Machine.fenced P C.uX) P (lone (b.atR a (.code c1:: .inLoop c1::kk)) cs w) b kk cs e a' w':=by
  intro n;induction n using Nat.strongRecOn with
  |_ n ih=>
   intro i C' β a w hx hn hi hst;have hrd:=round i hi C' (hx.k.trans hC) (hf.imp id hx.plain) c1 h1 β a w hst;rw[hx.uX]at hrd;obtain⟨e,a₁,w₁,hq,harr⟩:=hrd b (.inLoop c1::kk) cs hro hb hr;obtain⟨C'',hx',β',env',s',hst',hq⟩:=hq;have hxx:=hx.trans hx';cases e with
   |normal=>
    obtain⟨i',hi',hlt,hwk⟩:=hq;obtain⟨β2,hst2⟩:=hwk C'' β' a₁ w₁ (hxx.k.trans hC) hst';obtain⟨e₂,a₂,w₂,hq₂,harr₂⟩:=ih (μ i') (hn▸hlt) i' C'' β2 a₁ w₁ hxx rfl hi' hst2;exact⟨e₂,a₂,w₂,hq₂,.of_steps (StepsIn.trans harr (.one (fenced_calm hb hr rfl) stepR_inLoop)) harr₂⟩
   |exit id=>exact⟨_,a₁,w₁,⟨C'',hxx,β',env',s',hst',hq⟩,.pass (x:=.inLoop c1) rfl (fun _ _=>.inl (by simp)) harr⟩
   |goto l=>exact⟨_,a₁,w₁,⟨C'',hxx,β',env',s',hst',hq⟩,.pass (x:=.inLoop c1) rfl (fun _ _=>.inl (by simp)) harr⟩
   |ret=>exact⟨_,a₁,w₁,⟨C'',hxx,β',env',s',hst',hq⟩,.pass (x:=.inLoop c1) rfl (fun _ _=>.inl (by simp)) harr⟩
   |panic ch=>exact⟨_,a₁,w₁,⟨C'',hxx,β',env',s',hst',hq⟩,.pass (x:=.inLoop c1) rfl (fun _ _=>.inl (by simp)) harr⟩
   |outgrown=>exact⟨_,a₁,w₁,⟨C'',hxx,β',env',s',hst',hq⟩,.pass (x:=.inLoop c1) rfl (fun _ _=>.inl (by simp)) harr⟩
 obtain⟨e,a',w',hq,harr⟩:=key _ i0 C β0 a w (.refl C) rfl h0 hst0;exact⟨e,a',w',hq,.of_steps (.one (fenced_calm hb hr rfl) stepR_loop) harr⟩
end
theorem Ew{P:Program}{ops:Array Oper}{o:Oper}{m:iH}(h:ve P ops o=some m.erase):
 m.op.erase=(m_ P o).getD .dead/\m.dst=o.dst/\m.guard=o.guard.map fun(j,b)=>((ops[j]?).bind (·.dst),b):=by
 unfold ve iH.erase at h;simp only[aR,iH.mk.injEq]at h;exact⟨h.2.1.symm,h.1.symm,h.2.2.symm⟩
theorem HV{o:Oper}{y:Nat->Option Bool}(h:o.guard=none):Region.wanted o y=true:=by simp[Region.wanted,h]
theorem F2{C:Ctx}{β:gU}{env:List AV}{s:gL}{a:Act}{w:World}(hst:St C β env s a w){ops:Array Oper}{j d:Nat}{b:Bool}
 (hd:(ops[j]?).bind (·.dst)=some d) (hb:env.getD d .iB=.d (.lit (.bool b))):yielded ops a.tmps j=some b:=by
 have h1:=hst.ev (.tmp d);simp only[ev]at h1;rw[hb]at h1;have h1:=qH h1;simp only[Act.eval]at h1;unfold yielded;rw[hd];simp only[aa];have hlt:d<a.tmps.size:=by
  rcases cB d a.tmps.size with h|h
  ·exact h
  ·have:a.tmps.getD d undef=undef:=by simp[cp,Array.getElem?_eq_none h]
   rw[this]at h1;cases h1
 have h2:a.tmps[d]?=some (.bool b):=by
  rw[cS hlt];rw[cp,cS hlt]at h1;simpa using h1
 rw[h2]
theorem F3{C:Ctx}{β:gU}{env:List AV}{s:gL}{a:Act}{w:World}(hst:St C β env s a w){ops:Array Oper}{j d:Nat}
 (hd:(ops[j]?).bind (·.dst)=some d) (hb:env.getD d .iB=.nk []):yielded ops a.tmps j=none:=by
 have h1:=hst.ev (.tmp d);simp only[ev]at h1;rw[hb]at h1;simp only[AV.ok,AV.hM,Act.eval]at h1;obtain⟨vs,h1,_⟩:=h1;unfold yielded;rw[hd];simp only[aa];cases hx:a.tmps[d]? with
 |none=>rfl
 |some v=>
  have:a.tmps.getD d undef=v:=by rw[cp,hx];rfl
  rw[this]at h1;subst h1;rfl
theorem Cp{P:Program}{C:Ctx}{ops:Array Oper}{o:Oper}{m:iH}(hm:ve P ops o=some m.erase){env:List AV}{s:gL}{K:List AV->gL->Prop}
 (hk:match m.guard with
  |none=>qo P C.k m.op env s fun x env s=>K (iq m.dst env x) s
  |some (g,want)=>match g with
   |none=>K (iq m.dst env (.nk [])) s
   |some d=>match env.getD d .iB with
    |.d (.lit (.bool b))=>Br b want (qo P C.k m.op env s fun x env s=>K (iq m.dst env x) s) (K (iq m.dst env (.nk [])) s)
    |.nk []=>K (iq m.dst env (.nk [])) s
    |_=>False)
 {β:gU} {a:Act} {w:World} (hst:St C β env s a w) {Q:Exit->Act->World->Prop} {next:Act->World->Prop}
 (hn:∀β' env' s' a' w',St C β' env' s' a' w'->K env' s'->next a' w'):
 if Region.wanted o (yielded ops a.tmps)then o.wpIn C.uX 0 P a w next Q else(∀f,o.about P w a.eval=some f->C.uX.fn f)/\next (a.put o.dst undef) w:=by
 obtain⟨h1,h2,h3⟩:=Ew hm;have run:qo P C.k m.op env s (fun x env s=>K (iq m.dst env x) s)->o.wpIn C.uX 0 P a w next Q:=fun h=>by
  rw[h2]at h;have h1':m_ P o=some m.op.erase:=by
   cases hq:m_ P o with
   |some x=>rw[hq]at h1;rw[h1];rfl
   |none=>
    rw[hq]at h1;simp only[Option.getD_none]at h1;have:m.op=.dead:=by cases hmo:m.op<;>rw[hmo]at h1<;>simp[tB.erase]at h1⊢
    rw[this]at h;exact h.elim
  have hnd:∀c,o.op≠ .defer c:=fun c hc=>by unfold m_ at h1';rw[hc]at h1';cases h1'
  have:=Mc h1' h hnd Q β a w hst;exact Oper.wpIn_mono (fun a' w' ⟨β',env',s',h4,h5⟩=>hn β' env' s' a' w' h4 h5) this
 have skip:K (iq m.dst env (.nk [])) s->(∀f,o.about P w a.eval=some f->C.uX.fn f)/\next (a.put o.dst undef) w:=fun h=>by
  rw[h2]at h;refine⟨fun _ _=>trivial,?_⟩;exact hn _ _ _ _ _ (hst.put (x:=.nk []) (v:=undef) (by simp[AV.ok,AV.hM,undef]) o.dst) h
 cases hg:o.guard with
 |none=>
  rw[hg]at h3;simp only[eP]at h3;rw[h3]at hk;rw[ah (HV hg)];exact run hk
 |some p=>
  obtain⟨j,want⟩:=p;rw[hg]at h3;simp only[aT]at h3;rw[h3]at hk;have hw:Region.wanted o (yielded ops a.tmps)=(yielded ops a.tmps j==some want):=by simp[Region.wanted,hg]
  rw[hw];cases hd:(ops[j]?).bind (·.dst)with
  |none=>
   rw[hd]at hk;have:yielded ops a.tmps j=none:=by simp[yielded,hd]
   rw[this];exact skip hk
  |some d=>
   rw[hd]at hk;simp only at hk;split at hk
   ·rename_i b hb;rw[F2 hst hd hb];unfold Br at hk;by_cases hbw:b=want
    ·rw[ah hbw]at hk;subst hbw;rw[ah (by simp)];exact run hk
    ·rw[az hbw]at hk;rw[az (by simpa using hbw)];exact skip hk
   ·rename_i hb;rw[F3 hst hd hb];exact skip hk
   ·exact hk.elim
theorem Eb{P:Program}{C:Ctx}{ops:Array Oper}{Q:Post}:∀(n i:Nat)(ms:List iH)(env:List AV)(s:gL),i+n=ops.size->
 (ops.toList.drop i).mapM (ve P ops)=some (ms.map iH.erase)->CF P C.k ms env s (fun env s=>Q .normal env s)->
 ∀(β:gU)(a:Act)(w:World),St C β env s a w->wpOpsIn C.uX 0 P ops (fun e a' w'=>∃C',Ext C C'/\∃β' env' s',St C' β' env' s' a' w'/\Q e env' s') (List.range' i n) a w
 |0,i,ms,env,s=>fun hi hm hk β a w hst=>by
  have:ops.toList.drop i=[]:=by apply List.drop_eq_nil_of_le;simp;omega
  rw[this]at hm;simp at hm;subst hm;exact⟨C,.refl C,β,env,s,hst,hk⟩
 |n+1,i,ms,env,s=>fun hi hm hk β a w hst=>by
  have hlt:i<ops.toList.length:=by simp;omega
  rw[aK hlt]at hm;simp only[cZ,dx,aC]at hm;obtain⟨m0,h1,ms0,h2,h3⟩:=hm;cases ms with
  |nil=>cases h3
  |cons m ms'=>
  simp only[aX,Option.pure_def,aR,dQ]at h3;obtain⟨rfl,rfl⟩:=h3;rw[List.range'_succ];simp only[wpOpsIn];have ho:ops[i]?=some ops.toList[i]:=by simp at hlt;simp[hlt]
  rw[ho];simp only;refine Cp (K:=fun env s=>CF P C.k ms' env s fun env s=>Q .normal env s) h1 ?_ hst fun β' env' s' a' w' h4 h5=>Eb n (i+1) ms' env' s' gB h2 h5 β' a' w' h4
  simpa only[CF]using hk
theorem Xr{P:Program}{k:Nat}{Q:Post}{env:List AV}{s:gL}{ms:List iH}(h:CF P k ms env s fun env s=>Q .normal env s):pG P k (.gD ms) Q env s:=
 fun C hC _ c hc β a w hst=>by
 obtain⟨id,ops,rfl,hm⟩:=Oc hc;subst hC;refine wpIn_region ?_;have:=Eb (Q:=Q) (ops:=ops) ops.size 0 ms env s gB (by simpa using hm) h β a w hst;rwa [<-List.range_eq_range']at this
inductive xo where
 |tmp (t:Nat)
 |cell (a n:Nat) (ag:Bool)
def zP(P:Program):ResultVar->Option xo
 |.tmp t=>some (.tmp t)
 |.cell a t=>(kH P t).bind fun n=>(Gm P t).map fun ag=>.cell a (if ag then n else 1) ag
def Bk(env:List AV)(s:gL):List xo->(List AV->Prop)->Prop
 |[],K=>K []
 |.tmp t::r,K=>Bk env s r fun xs=>K (env.getD t .iB::xs)
 |.cell a n ag::r,K=>rm n ag (env.getD a .iB) s fun x=>Bk env s r fun xs=>K (x::xs)
def Cs:List AV->AV
 |[x]=>x
 |xs=>.nk xs
def Fs(rs:List xo)(R:AV->gL->Prop):Post
 |.normal,env,s=>Bk env s rs fun xs=>R (Cs xs) s
 |.ret,env,s=>Bk env s rs fun xs=>R (Cs xs) s
 |_,_,_=>False
def OH(tmps:Array Value):ResultVar->Sem Value
 |.tmp t=>pure (tmps.getD t undef)
 |.cell b t=>do loadVar t (<-asAddr (tmps.getD b undef))
theorem Jo(fn:Func)(tmps:Array Value):results fn tmps=(do let vs <-fn.results.mapM (OH tmps);pure (if h:vs.size=1 then vs[0]else .tuple vs)):=by
 unfold results;have:(fun x=>match x with|ResultVar.tmp t=>(pure (tmps.getD t undef):Sem Value)|ResultVar.cell a t=>do loadVar t (<-asAddr (tmps.getD a undef)))=OH tmps:=by
  funext x;cases x<;>rfl
 rw[<-this];rfl
theorem FQ{P:Program}{C:Ctx}{β:gU}{env:List AV}{s:gL}{a:Act}{w:World}(hst:St C β env s a w):∀(rv:List ResultVar)(rs:List xo)(K:List AV->Prop),
 rv.mapM (zP P)=some rs->Bk env s rs K->
 ∃vs xs,(rv.mapM (OH a.tmps)).run P w=.ok vs w/\
  AV.hM β (C.gP β s) w xs vs/\K xs
 |[],rs,K=>fun h1 h2=>by
  simp at h1;subst h1;exact⟨[],[],by simp,by simp[AV.hM],h2⟩
 |.tmp t::rv,rs,K=>fun h1 h2=>by
  simp only[cZ,dx,aC,zP]at h1;obtain⟨_,h3,rs',h4,h5⟩:=h1;cases h3;cases h5;simp only[Bk]at h2;obtain⟨vs,xs,h6,h7,h8⟩:=FQ hst rv rs' _ h4 h2;refine⟨a.tmps.getD t undef::vs,_,?_,?_,h8⟩
  ·rw[cZ];simp only[OH,aV,bl,aJ,h6]
  ·simp only[AV.hM];exact⟨_,_,rfl,hst.ev (.tmp t),h7⟩
 |.cell b t::rv,rs,K=>fun h1 h2=>by
  simp only[cZ,dx,aC,aF,zP]at h1;obtain⟨_,⟨n,hn,ag,hg,h3⟩,rs',h4,h5⟩:=h1;subst h3;cases h5;simp only[Bk]at h2;obtain⟨v,x,h6,h7,h8⟩:=EW (P:=P) hn hg hst (hst.ev (.tmp b)) h2;obtain⟨vs,xs,h9,h10,h11⟩:=FQ hst rv rs' _ h4 h8;refine⟨v::vs,x::xs,?_,?_,h11⟩
  ·rw[cZ];have hload:(asAddr (a.tmps.getD b undef) >>=fun ad=>loadVar t ad:Sem Value).run P w=.ok v w:=by
    simp only[Instr.loadAt,Act.eval]at h6;simp only[aV]at h6⊢;cases hv:a.tmps.getD b undef with
    |pointer ad=>
     cases ad with
     |some ad=>rw[hv]at h6;simpa[Instr.sureAddr,asAddr]using h6
     |none=>rw[hv]at h6;simp[Instr.sureAddr]at h6
    |_=>rw[hv]at h6;simp[Instr.sureAddr]at h6
   simp only[aV]at hload;simp only[OH,aV,hload,aJ,h9,bl]
  ·simp only[AV.hM];exact⟨_,_,rfl,h7,h10⟩
theorem A_{P:Program}{fn:Func}{tmps:Array Value}{R:Ending->World->Prop}(Z:World->Prop){B:Nat}
 (hZ:∀w w' D,Z w->w.grownBy w' (some D)->B<=D->(∃o:Obj,w.heap[D]?=some o/\T4 o)->Z w')
 (hfin:∀w,Z w->∃v,(results fn tmps).run P w=.ok v w/\R (.returned v) w):
 ∀(Ds:List Nat)(w:World),Ds.Nodup->(∀D∈Ds,B<=D/\w.heap[D]?=some (.deferred (some [])))->Z w->LeavesInM Fence.wide 0 P fn tmps R (Ds.map N7) .returning w
 |[],w,_,_,hz=>by simp only[dg,LeavesInM,LeavesIn];exact hfin w hz
 |D::Ds,w,hn,hd,hz=>by
  simp only[aX,LeavesInM];have h1:=hd D fC;rw[cQ]at hn;refine⟨by simp,.inl ⟨D,_,rfl,run_takeDeferred h1.2,A_ Z hZ hfin Ds _ hn.2 (fun D' hD'=>?_) ?_⟩⟩
  ·have h2:=hd D' (dr _ hD');exact⟨h2.1,(World.putObj_heap_other fun e=>hn.1 (by rw[<-e];exact hD')).trans h2.2⟩
  ·exact hZ _ _ D hz (grownBy_putObj' w D _) h1.1 ⟨_,h1.2,rfl,rfl⟩
theorem KO{P:Program}{f:Nat}{fn:Func}{c:Code}{mc:gH}{rs:List xo}{args:List AV}{s:gL}{k n:Nat}{R:AV->gL->Prop}
 (hf:P.funcs[f]?=some fn) (hb:fn.body=some c) (hm:oJ P c=some mc.erase) (hn:fn.ntmps=n) (hr:fn.results.toList.mapM (zP P)=some rs)
 (h:pG P k mc (Fs rs R) (args++List.replicate (n-args.length) .iB) s):gN P f args s k R:=by
 intro C vs hCs hCk hinv hargs;have hlen:=AV.iy hargs;let C0:Ctx:={C with ro:=none,dom:=C.w.heap.size,nm:=false};refine callsIn_wide.1 (callsIn_of_wp_marks (F:=Fence.wide) (n:=0) hf hb trivial ?_);have hst:St C0 C.β (args++List.replicate (n-args.length) .iB) s {tmps:=vs++Array.replicate (fn.ntmps-vs.size) undef,defers:=[]} C.w:=by
  refine⟨.nil,hCs▸hinv.ro none C.w.heap.size,?_,fun i x hx=>?_⟩
  ·simp at hlen;simp[hn,hlen]
  ·rw[hCs]at hargs;rw[List.getElem?_append]at hx;split at hx
   ·rename_i hi;have hi2:i<vs.size:=by simp at hlen;omega
    have h1:(vs++Array.replicate (fn.ntmps-vs.size) undef).getD i undef=vs[i]:=by simp[cp,Array.getElem?_append,hi2]
    rw[h1];exact(AV.jQ.1 hargs).2 i x _ hx (by simp[hi2])
   ·have:x=.iB:=by
     rw[dU]at hx;split at hx
     ·cases hx;rfl
     ·cases hx
    subst this;simp[AV.ok]
 refine fq (h C0 hCk (.inr ⟨rfl,rfl,ay _⟩) c hm C.β _ _ hst) fun e a' w' he=>?_
 obtain⟨C',hx,β',env',s',hst',hq⟩:=he;have fin:Bk env' s' rs (fun xs=>R (Cs xs) s')->LeavesInM Fence.wide 0 P fn a'.tmps (fun e w'=>∃v x β' s',e=.returned v/\Inv C β' s' w'/\AV.ok β' (C.gP β' s') w' x v/\R x s') a'.defers .returning w':=fun hq=>by
  obtain⟨_,Ds,hDs,hnd,hmk⟩:=hst'.defers;rw[hDs];refine A_ (B:=C.w.heap.size) (fun w=>Inv C0 β' s' w/\∀i x,env'[i]?=some x->AV.ok β' (C0.gP β' s') w x (a'.tmps.getD i undef)) (fun w1 w2 D hz hg hB ho=>?_) (fun w1 hz=>?_) Ds w' hnd (fun D hD=>?_) ⟨hx.inv _ _ _ hst'.inv,fun i x hi=>?_⟩
  ·have hr:∀r,some D=some r->∃o:Obj,w1.heap[r]?=some o/\T4 o:=fun r e=>by cases e;exact ho
   exact⟨hz.1.Je hg fun r e=>⟨by cases e;exact hB,hr r e⟩,fun i x hi=>AV.kL (fun b o v hc hn=>⟨cell_kept hc hg (LK hr),hn⟩) (fun _=>.refl _) _ _ (hz.2 i x hi)⟩
  ·have hst1:St C0 β' env' s' {a' with defers:=[]} w1:=⟨.nil,hz.1,hst'.len,hz.2⟩;obtain⟨us,xs,h1,h2,h3⟩:=FQ hst1 fn.results.toList rs _ hr hq;refine⟨if h:us.toArray.size=1 then us.toArray[0]else .tuple us.toArray,?_,_,Cs xs,β',s',rfl,hz.1.ro',?_,h3⟩
   ·rw[Jo,Array.mapM_eq_mapM_toList];simp only[aV,Sem.run_map];rw[h1];simp only[aJ,bl]
   ·have hl:=AV.iy h2;have hfb:C0.gP β' s'=C.gP β' s':=rfl;rw[hfb]at h2
    match xs,us,h2 with
    |[x],[u],h2=>
     simp only[AV.hM]at h2;obtain⟨_,_,h4,h5,h6⟩:=h2;cases h4;simpa[Cs]using h5
    |[],[],h2=>simp only[Cs,AV.ok];exact⟨#[],by simp,by simp[AV.hM]⟩
    |x::y::xs,u::v::us,h2=>
     simp only[Cs,AV.ok];exact⟨(u::v::us).toArray,by simp,by simpa using h2⟩
  ·obtain⟨h1,h2,h3,h4⟩:=hmk D hD;exact⟨by rw[hx.dom]at h1;exact h1,(hst'.inv.uy D h2 h4).trans h3⟩
  ·have:=hst'.env i x hi;rwa [hx.gP]at this
 cases e with
 |normal=>exact fin hq
 |ret=>exact fin hq
 |exit id=>exact hq.elim
 |goto l=>exact hq.elim
 |panic ch=>exact hq.elim
 |outgrown=>exact hq.elim
structure jT(P:Program)(f:Nat)(mc:gH)(n:Nat)(rs:List xo):Prop where
 fn:∃fn,P.funcs[f]?=some fn/\fn.body.bind (oJ P)=some mc.erase/\fn.ntmps=n/\fn.results.toList.mapM (zP P)=some rs
theorem jT.calls{P:Program}{f:Nat}{mc:gH}{n:Nat}{rs:List xo}(h:jT P f mc n rs){args:List AV}{s:gL}{k:Nat}{R:AV->gL->Prop}
 (hm:pG P k mc (Fs rs R) (args++List.replicate (n-args.length) .iB) s):gN P f args s k R:=by
 obtain⟨fn,h1,h2,h3,h4⟩:=h.fn;rw[aC]at h2;obtain⟨c,h5,h6⟩:=h2;exact KO h1 h5 h6 h3 h4 hm
def AV.le(x y:AV):Prop:=∀β O w v,AV.ok β O w x v->AV.ok β O w y v
theorem AV.le_refl(x:AV):AV.le x x:=fun _ _ _ _ h=>h
theorem AV.QX(x:AV):AV.le x .iB:=fun _ _ _ _ _=>by simp[AV.ok]
theorem AV.UH{e id:Nat}{xs:List D}:AV.le (.own e id xs) (.d (.sl e none xs)):=fun _ _ _ _ h=>by simp only[AV.ok]at h⊢;exact h.1
def ia:List AV->List AV->Prop
 |[],[]=>True
 |x::xs,y::ys=>AV.le x y/\ia xs ys
 |_,_=>False
theorem ia.get:∀{xs ys:List AV},ia xs ys->xs.length=ys.length/\∀(i:Nat)(y:AV),ys[i]?=some y->∃x,xs[i]?=some x/\AV.le x y
 |[],[],_=>by simp
 |[],_::_,h=>h.elim
 |_::_,[],h=>h.elim
 |x::xs,y::ys,h=>by
  obtain⟨h1,h2⟩:=h;obtain⟨h3,h4⟩:=ia.get h2;refine⟨by simp[h3],fun i z hz=>?_⟩;cases i with
  |zero=>simp at hz;subst hz;exact⟨x,rfl,h1⟩
  |succ i=>simpa using h4 i z (by simpa using hz)
section
variable{k:Nat}{env env' env'':List AV}{s s' s'':gL}
theorem gT.refl:gT k env s env s:=fun _ β _ _ _ h=>⟨β,h⟩
theorem gT.trans(h:gT k env s env' s')(h2:gT k env' s' env'' s''):gT k env s env'' s'':=fun C β a w hC hst=>let⟨β',h3⟩:=h C β a w hC hst;h2 C β' a w hC h3
theorem gT.kill(id:Nat)(hid:k<=id):gT k env s (AV.iI (gV id) env) (iL id s):=fun _ _ _ _ hC hst=>⟨_,hst.kill id (hC▸hid)⟩
theorem gT.VB(hs:∀id,sat s id=sat s' id):gT k env s env s':=fun C β a w hC hst=>by
 have h1:∀b o,own β s' b o<->own β s b o:=by intro b o;unfold own;simp only[hs]
 have h2:∀i b,gF β s' i b<->gF β s i b:=by intro i b;unfold gF;simp only[hs]
 have m:mT β s w β s' w:=⟨ay _,rfl,fun _ _ _ h _=>h,fun _ _ _=>rfl,fun b o h=>.inl ((h1 b o).1 h),fun q b h=>.inl ⟨q,(h2 q b).1 h⟩,fun _=>.refl _⟩;exact⟨β,hst.move m (fun q=>by rw[<-hs];exact(hst.inv.obs q).wR m rfl (fun _ _=>rfl) rfl) (fun p q b hp hq=>hst.inv.inj p q b ((h2 p b).1 hp) ((h2 q b).1 hq))⟩
end
theorem wrap_i64{n:Int}(h1: -9223372036854775808<=n)(h2:n<9223372036854775808):IntKind.i64.wrap n=n:=by
 unfold IntKind.wrap IntKind.bits IntKind.signed;simp only[bV];split<;>rename_i h<;>simp at h<;>omega
theorem Qc{k:IntKind}{n:Int}:MP (.int k n)=.d (.lit (.int k n)):=rfl
theorem MR{b:Bool}:MP (.bool b)=.d (.lit (.bool b)):=rfl
theorem Ii{b:ByteArray}:MP (.string b)=.d (.lit (.string b)):=rfl
theorem Qd:MP (.slice none 0 0)=.d (.sl 0 (some true) []):=rfl
theorem MQ:MP (.agg #[])=.d (.agg []):=rfl
mutual
def AV.toD:AV->Option D
 |.d x=>some x
 |.own e _ xs=>some (.sl e none xs)
 |.agg cs=>(AV.Vj cs).map .agg
 |.iB=>none
 |.ptr _ _=>none
 |.nC _ _ _ _=>none
 |.pv _=>none
 |.pa _=>none
 |.nk _=>none
 |.fn _ _ _=>none
 |.kG _ _ _=>none
 |.lT _ _ _=>none
 |.BS _ _=>none
 |.dp _=>none
 |.mp _=>none
def AV.Vj:List AV->Option (List D)
 |[]=>some []
 |x::xs=>(AV.toD x).bind fun y=>(AV.Vj xs).map (y::·)
end
def AV.Yo:AV->Option (List D)
 |.nk cs=>AV.Jv cs
 |_=>none
where
 AV.Jv:List AV->Option (List D)
 |[]=>some []
 |x::xs=>(AV.toD x).bind fun y=>(AV.Jv xs).map (y::·)
theorem gN.mono{P:Program}{f:Nat}{args:List AV}{s:gL}{k:Nat}{R R':AV->gL->Prop}(h:gN P f args s k R)
 (hR:∀x s,R x s->∃y,AV.le x y/\R' y s):gN P f args s k R':=fun C vs h1 h2 h3 h4=>
 (h C vs h1 h2 h3 h4).mono fun _ _ ⟨v,x,β',s',he,hi,hx,hr⟩=>let⟨y,hle,hr'⟩:=hR x s' hr;⟨v,y,β',s',he,hi,hle _ _ _ _ hx,hr'⟩
def iC(P:Program)(f:Nat)(args:List D)(r:D):Prop:=gN P f (args.map .d) [] 0 fun x _=>x=.d r
def pn(P:Program)(f:Nat)(args:List D)(rs:List D):Prop:=gN P f (args.map .d) [] 0 fun x _=>x=.nk (rs.map .d)
theorem ia.hM{β:gU}{O:Own}{w:World}:∀{xs ys:List AV}{vs:List Value},ia xs ys->AV.hM β O w xs vs->AV.hM β O w ys vs
 |[],[],_,_,h=>h
 |_::_,_::_,_,hl,h=>by
  simp only[AV.hM]at h⊢;obtain⟨v,r,h1,h2,h3⟩:=h;exact⟨v,r,h1,hl.1 _ _ _ _ h2,ia.hM hl.2 h3⟩
 |[],_::_,_,hl,_=>hl.elim
 |_::_,[],_,hl,_=>hl.elim
theorem gN.args{P:Program}{f:Nat}{args dz:List AV}{s:gL}{k:Nat}{R:AV->gL->Prop}(h:gN P f dz s k R)(hl:ia args dz):gN P f args s k R:=
 fun C vs h1 h2 h3 h4=>h C vs h1 h2 h3 (hl.hM h4)
theorem GF{P:Program}{k0 f:Nat}{args env:List AV}{s:gL}{K:AV->List AV->gL->Prop}{dz:List D}{r:D}(ha:ia (args.map fun x=>x.kY (oI [])) (dz.map .d))
 (hc:iC P f dz r) (hk:K (.d r) env s):JZ P k0 f args env s K:=
 ⟨[],[],fun x _=>x=.d r,rfl,by simp,by simp,by simp,gN.args hc ha,by rintro x s' rfl;exact hk⟩
theorem EE{P:Program}{k0 f:Nat}{args env:List AV}{s:gL}{K:AV->List AV->gL->Prop}{dz:List D}{rs:List D}(ha:ia (args.map fun x=>x.kY (oI [])) (dz.map .d))
 (hc:pn P f dz rs) (hk:K (.nk (rs.map .d)) env s):JZ P k0 f args env s K:=by
 refine⟨[],[],fun x _=>x=.nk (rs.map .d),rfl,by simp,by simp,by simp,gN.args hc ha,?_⟩;rintro x s' rfl;have h2:∀qs:List D,AV.iI (nJ ([]++[])) (qs.map .d)=qs.map .d:=fun qs=>by
  induction qs with
  |nil=>rfl
  |cons d ds ih=>simp only[aX,AV.iI,AV.kY,ih]
 simp only[AV.kY,h2];exact hk
def sx(env:List AV):List Nat->List AV
 |[]=>env
 |w::ws=>sx (env.set w .iB) ws
def vw(env:List AV):List (Nat×AV)->List AV
 |[]=>env
 |(w,x)::r=>vw (env.set w x) r
theorem Q6{P:Program}{k:Nat}{Q:Post}{env:List AV}{s:gL}{x:gH}{ι:Type}(ws:List Nat)(vs:ι->List (Nat×AV))(S:ι->gL)(inv:ι->Prop)(μ:ι->Nat)(i0:ι)(h0:inv i0)
 (hw:gT k env s (vw (sx env ws) (vs i0)) (S i0))
 (round:∀i,inv i->pG P k x (Cy (fun env' s'=>∃i',inv i'/\μ i'<μ i/\gT k env' s' (vw (sx env ws) (vs i')) (S i')) Q) (vw (sx env ws) (vs i)) (S i)):
 pG P k (.loop x) Q env s:=UO (fun i=>vw (sx env ws) (vs i)) S inv μ i0 h0 hw round
theorem Hg(x:AV):AV.le x x<->True:=⟨fun _=>trivial,fun _=>AV.le_refl x⟩
theorem Hf(x:AV):AV.le x .iB<->True:=⟨fun _=>trivial,fun _=>AV.QX x⟩
theorem I5{e id:Nat}{xs:List D}:AV.le (.own e id xs) (.d (.sl e none xs))<->True:=⟨fun _=>trivial,fun _=>AV.UH⟩
def ints(l:fP):D:=.sl 1 none (l.map iD)
theorem O0(l:fP):qO (.d (ints l))=some (1,l.map iD):=rfl
theorem IF(l:fP):AV.cells (.d (ints l))=some [.d (ints l)]:=rfl
theorem Gi(l:fP):AV.CZ (.d (ints l))=none:=rfl
theorem GK(l:fP):gJ (ints l)=[ints l]:=rfl
theorem Vh{e:Nat}{nl:Option Bool}{xs:List D}:qO (.d (.sl e nl xs))=some (e,xs):=rfl
theorem Ry{e id:Nat}{xs:List D}:qO (.own e id xs)=some (e,xs):=rfl
theorem Oq{e:Nat}{b:Bool}{xs:List D}:zb (.d (.sl e (some b) xs))=some b:=rfl
theorem Oo{e:Nat}{xs:List D}:zb (.d (.sl e none xs))=none:=rfl
theorem Rc{e id:Nat}{xs:List D}:zb (.own e id xs)=none:=rfl
theorem Ra{e id off n:Nat}:zb (.nC e id off n)=some false:=rfl
theorem K6{cs:List D}:AV.cells (.d (.agg cs))=some (cs.map .d):=rfl
theorem ID{cs:List AV}:AV.cells (.agg cs)=some cs:=rfl
theorem K9{u:Value}:AV.cells (.d (.lit u))=some [.d (.lit u)]:=rfl
theorem K7:AV.cells (.d .any)=some [.d .any]:=rfl
theorem Np{e:Nat}{nl:Option Bool}{xs:List D}:AV.cells (.d (.sl e nl xs))=some [.d (.sl e nl xs)]:=rfl
theorem Lb{e id:Nat}{xs:List D}:AV.cells (.own e id xs)=some [.own e id xs]:=rfl
theorem Lc{id off:Nat}:AV.cells (.ptr id off)=some [.ptr id off]:=rfl
theorem K_{e id off n:Nat}:AV.cells (.nC e id off n)=some [.nC e id off n]:=rfl
theorem Nn{cs:List D}:AV.cells (.pv cs)=some [.pv cs]:=rfl
theorem Nl{cs:List AV}:AV.cells (.pa cs)=some [.pa cs]:=rfl
theorem Nj{f:Nat}{a b:List AV}:AV.cells (.fn f a b)=some [.fn f a b]:=rfl
theorem Ia{cs:List D}:AV.CZ (.d (.agg cs))=some (cs.map .d):=rfl
theorem Gh{cs:List AV}:AV.CZ (.agg cs)=some cs:=rfl
theorem II{cs:List D}:gJ (.agg cs)=cs:=rfl
theorem IJ{u:Value}:gJ (.lit u)=[.lit u]:=rfl
theorem Lf{e:Nat}{nl:Option Bool}{xs:List D}:gJ (.sl e nl xs)=[.sl e nl xs]:=rfl
theorem MD{k:IntKind}{n:Int}:js (.d (.lit (.int k n)))=some n:=rfl
attribute [go_sem] ev Qc MR Ii Qd MQ iq List.getD_cons_zero List.getD_cons_succ List.set_cons_zero List.set_cons_succ List.cons_append List.nil_append List.length_cons List.length_nil List.replicate List.map_cons List.map_nil sat sset iL gV AV.iI AV.kY Ob.kill Ob.kg pz AV.fin AV.mI Fg Cy Da Fs Bk Cs ia AV.toD AV.Vj AV.Yo AV.Yo.AV.Jv sx vw Hg Hf I5 Vh Ry Oq Oo Rc Ra K6 ID K9 K7 Np Lb Lc K_ Nn Nl Nj Ia Gh II IJ Lf MD O0 IF Gi GK
inductive Out where
 |ok (x:AV) (env:List AV) (s:gL)
 |need (p:Prop) (o:Out)
 |br (b:Bool) (o1 o2:Out)
 |call (f:Nat) (args env:List AV) (s:gL)
 |T5 (p:Prop) (o1 o2:Out)
 |bad
def runK(P:Program)(k0:Nat)(K:AV->List AV->gL->Prop):Out->Prop
 |.ok x env s=>K x env s
 |.need p o=>p/\runK P k0 K o
 |.br b o1 o2=>if b=true then runK P k0 K o1 else runK P k0 K o2
 |.call f args env s=>Ce P k0 f args env s K
 |.T5 p o1 o2=>(p->runK P k0 K o1)/\runK P k0 K o2
 |.bad=>False
def wS(id t:Nat)(cs env:List AV)(s:gL):Ob->Out
 |.dead=>.ok (.ptr id 0) env (sset s id (.obj t cs))
 |.obj _ _=>.ok (.ptr id 0) (AV.iI (gV id) env) (sset (iL id s) id (.obj t (AV.iI (gV id) cs)))
 |.tok _ _ _=>.ok (.ptr id 0) (AV.iI (gV id) env) (sset (iL id s) id (.obj t (AV.iI (gV id) cs)))
 |.iM _ _ _ _=>.ok (.ptr id 0) (AV.iI (gV id) env) (sset (iL id s) id (.obj t (AV.iI (gV id) cs)))
 |.pI _ _ _ _=>.ok (.ptr id 0) (AV.iI (gV id) env) (sset (iL id s) id (.obj t (AV.iI (gV id) cs)))
 |.vf _ _ _=>.ok (.ptr id 0) (AV.iI (gV id) env) (sset (iL id s) id (.obj t (AV.iI (gV id) cs)))
 |.mp _ _ _=>.ok (.ptr id 0) (AV.iI (gV id) env) (sset (iL id s) id (.obj t (AV.iI (gV id) cs)))
def yg(id t e:Nat)(xs:List D)(env:List AV)(s:gL):Ob->Out
 |.dead=>.ok (.own e id xs) env (sset s id (.tok t e xs.length))
 |.obj _ _=>.ok (.own e id xs) (AV.iI (gV id) env) (sset (iL id s) id (.tok t e xs.length))
 |.tok _ _ _=>.ok (.own e id xs) (AV.iI (gV id) env) (sset (iL id s) id (.tok t e xs.length))
 |.iM _ _ _ _=>.ok (.own e id xs) (AV.iI (gV id) env) (sset (iL id s) id (.tok t e xs.length))
 |.pI _ _ _ _=>.ok (.own e id xs) (AV.iI (gV id) env) (sset (iL id s) id (.tok t e xs.length))
 |.vf _ _ _=>.ok (.own e id xs) (AV.iI (gV id) env) (sset (iL id s) id (.tok t e xs.length))
 |.mp _ _ _=>.ok (.own e id xs) (AV.iI (gV id) env) (sset (iL id s) id (.tok t e xs.length))
def Be(id t e:Nat)(xs:List D)(env:List AV)(s:gL):Ob->Out
 |.dead=>.ok (.kG e id xs.length) env (sset s id (.iM t e xs.length (xs.flatMap gJ)))
 |.obj _ _=>.ok (.kG e id xs.length) (AV.iI (gV id) env) (sset (iL id s) id (.iM t e xs.length (xs.flatMap gJ)))
 |.tok _ _ _=>.ok (.kG e id xs.length) (AV.iI (gV id) env) (sset (iL id s) id (.iM t e xs.length (xs.flatMap gJ)))
 |.iM _ _ _ _=>.ok (.kG e id xs.length) (AV.iI (gV id) env) (sset (iL id s) id (.iM t e xs.length (xs.flatMap gJ)))
 |.pI _ _ _ _=>.ok (.kG e id xs.length) (AV.iI (gV id) env) (sset (iL id s) id (.iM t e xs.length (xs.flatMap gJ)))
 |.vf _ _ _=>.ok (.kG e id xs.length) (AV.iI (gV id) env) (sset (iL id s) id (.iM t e xs.length (xs.flatMap gJ)))
 |.mp _ _ _=>.ok (.kG e id xs.length) (AV.iI (gV id) env) (sset (iL id s) id (.iM t e xs.length (xs.flatMap gJ)))
def FH(id t e n:Nat)(cs env:List AV)(s:gL):Ob->Out
 |.dead=>.ok (.nC e id 0 n) env (sset s id (.obj t cs))
 |.obj _ _=>.ok (.nC e id 0 n) (AV.iI (gV id) env) (sset (iL id s) id (.obj t cs))
 |.tok _ _ _=>.ok (.nC e id 0 n) (AV.iI (gV id) env) (sset (iL id s) id (.obj t cs))
 |.iM _ _ _ _=>.ok (.nC e id 0 n) (AV.iI (gV id) env) (sset (iL id s) id (.obj t cs))
 |.pI _ _ _ _=>.ok (.nC e id 0 n) (AV.iI (gV id) env) (sset (iL id s) id (.obj t cs))
 |.vf _ _ _=>.ok (.nC e id 0 n) (AV.iI (gV id) env) (sset (iL id s) id (.obj t cs))
 |.mp _ _ _=>.ok (.nC e id 0 n) (AV.iI (gV id) env) (sset (iL id s) id (.obj t cs))
def Kx(n off:Nat)(cs:List AV):Bool->AV
 |true=>AV.mk ((cs.drop off).take n)
 |false=>cs.getD off .iB
def Vd(n:Nat)(cs:List D):Bool->D
 |true=>.agg (cs.take n)
 |false=>cs.headD .any
def I7(n:Nat)(ag:Bool)(off:Nat)(env:List AV)(s:gL):Ob->Out
 |.obj _ cs=>.need (off+n<=cs.length) (.ok (Kx n off cs ag) env s)
 |_=>.bad
def Ve(n off:Nat)(cs:List D):Bool->D
 |true=>.agg ((cs.drop off).take n)
 |false=>cs.getD off .any
def I8(n:Nat)(ag:Bool)(k off:Nat)(env:List AV)(s:gL):Ob->Out
 |.iM _ _ m cs=>.need (m=k/\off+n<=cs.length) (.ok (.d (Ve n off cs ag)) env s)
 |.vf _ m cs=>.need (m=k/\off+n<=cs.length/\ag=false/\n=1/\DC (cs.getD off .iB)=false) (.ok (cs.getD off .iB) env s)
 |_=>.bad
def DJ(n:Nat)(ag:Bool)(env:List AV)(s:gL):AV->Out
 |.ptr id off=>I7 n ag off env s (sat s id)
 |.lT id k off=>I8 n ag k off env s (sat s id)
 |.pv cs=>.need (n<=cs.length) (.ok (.d (Vd n cs ag)) env s)
 |.pa cs=>.need (ag=false/\n=1/\1<=cs.length) (.ok (cs.headD .iB) env s)
 |_=>.bad
def FY(n off id:Nat)(env:List AV)(s:gL):Ob->Option (List AV)->Out
 |.obj t cs,some xs=>.need (xs.length=n/\off+n<=cs.length) (.ok .iB env (sset s id (.obj t (cs.take off++xs++cs.drop (off+n)))))
 |_,_=>.bad
def CT(n k off id e m:Nat)(cs:List AV)(env:List AV)(s:gL):Option (List AV)->Out
 |some xs=>.need (m=k/\xs.length=n/\0<n/\off+n<=cs.length/\yC xs=true) (.ok .iB env (sset s id (.vf e m (cs.take off++xs++cs.drop (off+n)))))
 |none=>.bad
def CS(n k off id:Nat)(env:List AV)(s:gL)(X:Option (List AV)):Ob->Option D->Out
 |.iM t e m cs,some d=>.need (m=k/\(gJ d).length=n/\off+n<=cs.length) (.ok .iB env (sset s id (.iM t e m (cs.take off++gJ d++cs.drop (off+n)))))
 |.vf e m cs,_=>CT n k off id e m cs env s X
 |_,_=>.bad
def D9(n:Nat)(env:List AV)(s:gL)(x:AV):AV->Out
 |.ptr id off=>FY n off id env s (sat s id) x.cells
 |.lT id k off=>CS n k off id env s x.cells (sat s id) x.fin
 |_=>.bad
def P8(op:BinOp)(env:List AV)(s:gL):AV->AV->Out
 |.d (.lit (.int k a)),.d (.lit (.int k' b))=>.need (YL op k k')<|match op with
  |.add=>.ok (.d (.lit (.int k (k.wrap (a+b))))) env s
  |.sub=>.ok (.d (.lit (.int k (k.wrap (a-b))))) env s
  |.mul=>.ok (.d (.lit (.int k (k.wrap (a*b))))) env s
  |.quo=>.need (b≠0) (.ok (.d (.lit (.int k (k.wrap (a.tdiv b))))) env s)
  |.rem=>.need (b≠0) (.ok (.d (.lit (.int k (a.tmod b)))) env s)
  |.eql=>.ok (.d (bD (a==b))) env s
  |.neq=>.ok (.d (bD (a != b))) env s
  |.lss=>.ok (.d (bD (decide (a<b)))) env s
  |.leq=>.ok (.d (bD (decide (a<=b)))) env s
  |.gtr=>.ok (.d (bD (decide (b<a)))) env s
  |.geq=>.ok (.d (bD (decide (b<=a)))) env s
  |.and=>.ok (.d (.lit (.int k (zW k a b)))) env s
  |.or=>.ok (.d (.lit (.int k (YM k a b)))) env s
  |.xor=>.ok (.d (.lit (.int k (Mf k a b)))) env s
  |.andNot=>.ok (.d (.lit (.int k (JJ k a b)))) env s
  |.shl=>.need (0<=b) (.ok (.d (.lit (.int k (HB k a b)))) env s)
  |.shr=>.need (0<=b) (.ok (.d (.lit (.int k (Bn k a b)))) env s)
 |.d (.lit (.string a)),.d (.lit (.string b))=>match op with
  |.add=>.need (a.size+b.size<2^63) (.ok (.d (.lit (.string (a++b)))) env s)
  |.eql=>.ok (.d (bD (a.toList==b.toList))) env s
  |.neq=>.ok (.d (bD (!(a.toList==b.toList)))) env s
  |_=>.bad
 |_,_=>.bad
def ML(neg:Bool)(a b:Bool):Bool:=match neg with|true=>a != b|false=>a==b
def JL(neg:Bool)(env:List AV)(s:gL):AV->AV->Out
 |.d (.lit (.bool a)),.d (.lit (.bool b))=>.ok (.d (bD (ML neg a b))) env s
 |_,_=>.bad
def LH(neg b:Bool):Bool:=match neg with|true=>!b|false=>b
def IQ(neg:Bool)(env:List AV)(s:gL):Option (Nat×List D)->Out
 |some (_,xs)=>.T5 (xs=[]) (.ok (.d (bD (LH neg true))) env s) (.ok (.d (bD (LH neg false))) env s)
 |none=>.bad
def Fp(neg:Bool)(env:List AV)(s:gL)(x:AV):Option Bool->Out
 |some b=>.ok (.d (bD (LH neg b))) env s
 |none=>IQ neg env s (qO x)
def YN(env:List AV)(s:gL):UnOp->AV->Out
 |.not,.d (.lit (.bool b))=>.ok (.d (bD (!b))) env s
 |.neg,.d (.lit (.int k n))=>.ok (.d (.lit (.int k (k.wrap (0-n))))) env s
 |_,_=>.bad
def J3(k:IntKind)(env:List AV)(s:gL):AV->Out
 |.d (.lit (.int _ n))=>.ok (.d (.lit (.int k (k.wrap n)))) env s
 |_=>.bad
def Ko(env:List AV)(s:gL)(a b:AV):AV->Out
 |.d (.lit (.bool t))=>.br t (.ok a env s) (.ok b env s)
 |_=>.bad
def TD(env:List AV)(s:gL):AV->Out
 |.ptr id off=>.ok (.ptr id off) env s
 |.pv cs=>.ok (.pv cs) env s
 |.pa cs=>.ok (.pa cs) env s
 |.fn f a b=>.ok (.fn f a b) env s
 |.lT id m off=>.ok (.lT id m off) env s
 |_=>.bad
def V0(off:Nat)(env:List AV)(s:gL):AV->Out
 |.ptr id o=>.ok (.ptr id (o+off)) env s
 |.pv cs=>.ok (.pv (cs.drop off)) env s
 |.pa cs=>.ok (.pa (cs.drop off)) env s
 |.lT id k o=>.ok (.lT id k (o+off)) env s
 |_=>.bad
def Kf(e:Nat)(n:Int)(env:List AV)(s:gL):Option (Nat×List D)->Out
 |some (e',xs)=>.need (e'=e/\0<=n/\n<xs.length) (.ok (.pv (gJ (xs.getD n.toNat .any))) env s)
 |none=>.bad
def DE(e:Nat)(n:Int)(env:List AV)(s:gL):AV->Out
 |.nC e' id off len=>.need (e'=e/\0<=n/\n<len) (.ok (.ptr id (off+n.toNat*e)) env s)
 |.kG e' id m=>.need (e'=e/\0<=n/\n<m) (.ok (.lT id m (n.toNat*e)) env s)
 |x=>Kf e n env s (qO x)
def QV(e:Nat)(env:List AV)(s:gL)(x:AV):Option Int->Out
 |some n=>DE e n env s x
 |none=>.bad
def Sg(e n:Nat)(env:List AV)(s:gL):Option Int->AV->Out
 |some j,.ptr id off=>.need (0<=j/\j<n) (.ok (.ptr id (off+j.toNat*e)) env s)
 |some j,.pv cs=>.need (0<=j/\j<n) (.ok (.pv (cs.drop (j.toNat*e))) env s)
 |_,_=>.bad
def NW(env:List AV)(s:gL):Option (Nat×List D)->Out
 |some (_,xs)=>.ok (.d (iD xs.length)) env s
 |none=>.bad
def I6(env:List AV)(s:gL):AV->Out
 |.nC _ _ _ n=>.ok (.d (iD n)) env s
 |.kG _ _ n=>.ok (.d (iD n)) env s
 |x=>NW env s (qO x)
def KC(x:AV)(e:Nat)(env:List AV)(s:gL)(lo:Option Int)(hi:Option Operand):Option (Nat×List D)->Out
 |some (e',xs)=>match lo,Fg env xs.length hi with
  |some l,some h=>.need ((xs=[]\/e'=e)/\0<=l/\l<=h/\h<=xs.length) (.ok (.d (.sl e' (zb x) ((xs.take h.toNat).drop l.toNat))) env s)
  |_,_=>.bad
 |none=>.bad
def Vi(e:Nat)(env:List AV)(s:gL):Option Operand->Option Int->Option Int->Option (Nat×List D)->Out
 |none,some h,some m,some (e',xs)=>.need ((xs=[]\/e'=e)/\h=m/\0<=h/\h<=xs.length) (.ok (.BS e' (xs.take h.toNat)) env s)
 |_,_,_,_=>.bad
def YK(env:List AV):Option Operand->Option Int
 |some h=>js (ev env h)
 |none=>none
def LW(x:AV)(e:Nat)(env:List AV)(s:gL)(lo hi:Option Operand):Option Operand->Out
 |none=>KC x e env s (Fg env 0 lo) hi (qO x)
 |some m=>Vi e env s lo (YK env hi) (js (ev env m)) (qO x)
def Oi(t:Nat)(env:List AV)(s:gL):AV->Out
 |.d (.agg [])=>.ok (.d (.lit (.iface t (.agg #[])))) env s
 |_=>.bad
def Jp(e k0 j n:Nat)(h:Int)(env:List AV)(s:gL):Ob->Out
 |.iM t e2 m cs=>.need (e2=e/\n=m/\0<=h/\h<=m/\k0<=j) (.ok (.kG e j (NG h.toNat m)) (AV.iI (gV j) env) (sset (iL j s) j (.iM t e (NG h.toNat m) (Xl h.toNat e cs))))
 |_=>.bad
def O3(e k0:Nat)(env:List AV)(s:gL):AV->Option Int->Out
 |.kG e' j n,some h=>.need (e'=e) (Jp e k0 j n h env s (sat s j))
 |_,_=>.bad
def KA(e n:Nat)(env:List AV)(s:gL):AV->Option Operand->Option Operand->Option Operand->Out
 |.ptr id off,none,none,none=>.ok (.nC e id off n) env s
 |.ptr id off,none,some h,none=>match js (ev env h)with
  |some h=>.need (0<=h/\h<=n) (.ok (.nC e id off h.toNat) env s)
  |none=>.bad
 |_,_,_,_=>.bad
def JK(t e bytes:Nat)(j:Nat)(xs ys:List D)(env:List AV)(s:gL)(ob:Ob):Out:=
 .need (ob=.tok t e xs.length/\(xs.length+ys.length)*bytes<=2^47) (.ok (.own e j (xs++ys)) env (sset s j (.tok t e (xs.length+ys.length))))
def MI(t e bytes:Nat)(j n:Nat)(ys:List D)(env:List AV)(s:gL):Ob->Out
 |.iM t' e2 m cs=>.need (t'=t/\e2=e/\m=n/\(n+ys.length)*bytes<=2^47) (.ok (.kG e j (n+ys.length)) env (sset s j (.iM t e (n+ys.length) (cs++ys.flatMap gJ))))
 |_=>.bad
def Gp(id t e bytes k0:Nat)(e2:Nat)(ys:List D)(env:List AV)(s:gL):AV->Out
 |.own e' j xs=>.need ((ys=[]\/e2=e)/\e'=e) (JK t e bytes j xs ys env s (sat s j))
 |.kG e' j n=>.need ((ys=[]\/e2=e)/\e'=e) (MI t e bytes j n ys env s (sat s j))
 |.d (.sl _ (some true) [])=>.need ((ys=[]\/e2=e)/\ys.length*bytes<=2^47/\k0<=id) (yg id t e ys env s (sat s id))
 |.BS e' xs=>.need ((ys=[]\/e2=e)/\e'=e/\(xs.length+ys.length)*bytes<=2^47) (.ok (.d (.sl e none (xs++ys))) env s)
 |_=>.bad
def KQ(id t e bytes k0:Nat)(x:AV)(env:List AV)(s:gL):Option (Nat×List D)->Out
 |some (e2,ys)=>Gp id t e bytes k0 e2 ys env s x
 |none=>.bad
def BD(id t e bytes k0:Nat)(e2:Nat)(ys:List D)(env:List AV)(s:gL):AV->Out
 |.d (.sl _ (some true) [])=>.need ((ys=[]\/e2=e)/\ys.length*bytes<=2^47/\k0<=id) (Be id t e ys env s (sat s id))
 |x=>Gp id t e bytes k0 e2 ys env s x
def C4(id t e bytes k0:Nat)(x:AV)(env:List AV)(s:gL):Option (Nat×List D)->Out
 |some (e2,ys)=>BD id t e bytes k0 e2 ys env s x
 |none=>.bad
def Uu(i:Nat)(env:List AV)(s:gL):AV->Out
 |.nk cs=>.need (i<cs.length) (.ok (cs.getD i .iB) env s)
 |_=>.bad
def yf(mx:Bool)(env:List AV)(s:gL):AV->AV->Out
 |.d (.lit (.int k a)),.d (.lit (.int k' b))=>.need (k=k') (.ok (.d (.lit (.int k (match mx with|true=>if b>a then b else a|false=>if b<a then b else a)))) env s)
 |_,_=>.bad
def KU(id t k0:Nat)(env:List AV)(s:gL):Option (List AV)->Out
 |some cs=>.need (k0<=id) (wS id t cs env s (sat s id))
 |none=>.bad
def MO(env:List AV)(s:gL):Option (List AV)->Out
 |some cs=>.ok (AV.mk cs) env s
 |none=>.bad
def Qa(id t e k0:Nat)(env:List AV)(s:gL):Option (List D)->Out
 |some ds=>.need ((∀d∈ds,(gJ d).length=e)/\k0<=id) (yg id t e ds env s (sat s id))
 |none=>.bad
def Q9(id t e n:Nat)(cs env:List AV)(s:gL):Ob->Out
 |.dead=>.ok (.nC e id 0 n) env (sset s id (.obj t cs))
 |_=>.bad
def FI(id t e:Nat)(ds:List D)(cs env:List AV)(s:gL):Ob->Out
 |.dead=>.ok (.own e id ds) env (sset s id (.pI t e ds.length cs))
 |.obj _ _=>.ok (.own e id ds) (AV.iI (gV id) env) (sset (iL id s) id (.pI t e ds.length (AV.iI (gV id) cs)))
 |.tok _ _ _=>.ok (.own e id ds) (AV.iI (gV id) env) (sset (iL id s) id (.pI t e ds.length (AV.iI (gV id) cs)))
 |.iM _ _ _ _=>.ok (.own e id ds) (AV.iI (gV id) env) (sset (iL id s) id (.pI t e ds.length (AV.iI (gV id) cs)))
 |.pI _ _ _ _=>.ok (.own e id ds) (AV.iI (gV id) env) (sset (iL id s) id (.pI t e ds.length (AV.iI (gV id) cs)))
 |.vf _ _ _=>.ok (.own e id ds) (AV.iI (gV id) env) (sset (iL id s) id (.pI t e ds.length (AV.iI (gV id) cs)))
 |.mp _ _ _=>.ok (.own e id ds) (AV.iI (gV id) env) (sset (iL id s) id (.pI t e ds.length (AV.iI (gV id) cs)))
def JP(id t e k0:Nat)(env:List AV)(s:gL):Option (List D)->Option (List AV)->Out
 |some ds,some cs=>.need ((∀d∈ds,(gJ d).length=e)/\yC cs=true/\k0<=id) (FI id t e ds cs env s (sat s id))
 |_,_=>.bad
def JN(id t e k0:Nat)(env:List AV)(s:gL):Option (List D)->Out
 |some ds=>.need ((∀d∈ds,(gJ d).length=e)/\k0<=id) (Be id t e ds env s (sat s id))
 |none=>.bad
def Kl(id t e bytes k0:Nat)(z:List D)(env:List AV)(s:gL):Bool->Option Int->Option Int->Out
 |true,some l,some c=>.need (0<=l/\l<=c/\bytes*c<=2^48/\c<2^62/\k0<=id) (yg id t e [] env s (sat s id))
 |false,some l,some c=>.need (0<=l/\l<=c/\bytes*c<=2^48/\c<2^62/\k0<=id) (FH id t e l.toNat ((List.replicate l.toNat (z.map .d)).flatten) env s (sat s id))
 |_,_,_=>.bad
def Jc(id e bytes k0:Nat)(z:List D)(env:List AV)(s:gL):Bool->Option Int->Option Int->Out
 |false,some l,some c=>.need (0<e/\0<=l/\l<=c/\bytes*c<=2^48/\c<2^62/\k0<=id/\(sat s id).kg=true) (.ok (.kG e id l.toNat) env (sset s id (.vf e l.toNat ((List.replicate l.toNat (z.map .d)).flatten))))
 |_,_,_=>.bad
def Ol(e bytes:Nat)(env:List AV)(s:gL):List D->Bool->Option Int->Option Int->Out
 |[zd],false,some l,some c=>.need (e=1/\0<=l/\l<=c/\bytes*c<=2^48/\c<2^62) (.ok (.d (.sl 1 none (List.replicate l.toNat zd))) env s)
 |_,_,_,_=>.bad
def IC(P:Program)(args env:List AV)(s:gL):AV->Out
 |.fn f first cap=>.need (enters P f=true) (.call f (first++args++cap) env s)
 |_=>.bad
def Q_(P:Program)(id k:Nat)(env:List AV)(s:gL):Bool->Out
 |true=>.ok (.mp id) env (sset s id (.mp P k []))
 |false=>.ok (.mp id) (AV.iI (gV id) env) (sset (iL id s) id (.mp P k []))
noncomputable def kM(P:Program)(k0:Nat)(env:List AV)(s:gL):tB->Out
 |.mv x=>.ok (ev env x) env s
 |.pick c a b=>Ko env s (ev env a) (ev env b) (ev env c)
 |.alloc id t z=>.need (k0<=id) (wS id t (z.map .d) env s (sat s id))
 |.wU id _ t z=>.need (k0<=id) (wS id t (z.map .d) env s (sat s id))
 |.box id t x=>KU id t k0 env s (ev env x).cells
 |.Fh id _ t x=>KU id t k0 env s (ev env x).cells
 |.build z ps=>MO env s (pz env (z.map .d) ps)
 |.lQ id t e xs=>Qa id t e k0 env s (AV.mI (xs.map (ev env)))
 |.zX id t e xs=>JN id t e k0 env s (AV.mI (xs.map (ev env)))
 |.Ek id t e xs=>JP id t e k0 env s (AV.mI (xs.map (ev env))) (AV.flat e (xs.map (ev env)))
 |.load n ag p=>DJ n ag env s (ev env p)
 |.store n p x=>D9 n env s (ev env x) (ev env p)
 |.mA x=>TD env s (ev env x)
 |.bin op x y=>P8 op env s (ev env x) (ev env y)
 |.C7 neg x y=>JL neg env s (ev env x) (ev env y)
 |.xC neg x=>Fp neg env s (ev env x) (zb (ev env x))
 |.un op x=>YN env s op (ev env x)
 |.conv k x=>J3 k env s (ev env x)
 |.z_ f first cap=>.ok (.fn f (first.map (ev env)) (cap.map (ev env))) env s
 |.Ae _ _ e bytes z tok len cap=>Ol e bytes env s z tok (js (ev env len)) (js (ev env cap))
 |.Bc id _ e bytes z tok len cap=>Jc id e bytes k0 z env s tok (js (ev env len)) (js (ev env cap))
 |.za id t e bytes z tok len cap=>Kl id t e bytes k0 z env s tok (js (ev env len)) (js (ev env cap))
 |.slc x e lo hi mx=>LW (ev env x) e env s lo hi mx
 |.HF p e n lo hi mx=>KA e n env s (ev env p) lo hi mx
 |.PT off p=>V0 off env s (ev env p)
 |.tD e x i=>QV e env s (ev env x) (js (ev env i))
 |.G_ e n p i=>Sg e n env s (js (ev env i)) (ev env p)
 |.len x=>I6 env s (ev env x)
 |.app id t e bytes x y=>KQ id t e bytes k0 (ev env x) env s (qO (ev env y))
 |.CD id t e bytes x y=>C4 id t e bytes k0 (ev env x) env s (qO (ev env y))
 |.iw f args=>.call f (args.map (ev env)) env s
 |.ug g args=>IC P (args.map (ev env)) env s (ev env g)
 |.ext x i=>Uu i env s (ev env x)
 |.max x y=>yf true env s (ev env x) (ev env y)
 |.min x y=>yf false env s (ev env x) (ev env y)
 |.PU _=>.bad
 |.HG x e y=>O3 e k0 env s (ev env x) (js (ev env y))
 |.Ex t x=>Oi t env s (ev env x)
 |.dead=>.bad
theorem Jn(ρ:Nat->Option Nat):∀z:List D,AV.iI ρ (z.map .d)=z.map .d
 |[]=>rfl
 |x::xs=>by simp only[aX,AV.iI,AV.kY,Jn ρ xs]
theorem xH(ρ:Nat->Option Nat):∀z:List AV,AV.iI ρ z=z.map (AV.kY ρ)
 |[]=>rfl
 |x::xs=>by simp only[aX,AV.iI,xH ρ xs]
theorem Gr{P:Program}{k0 id t e bytes:Nat}{x y:AV}{env:List AV}{s:gL}{K:AV->List AV->gL->Prop}(h:runK P k0 K (KQ id t e bytes k0 x env s (qO y))):
 KP id t e bytes k0 x y env s K:=by
 unfold KP;cases hs:qO y with
 |none=>rw[hs]at h;exact h.elim
 |some p=>
  obtain⟨e2,ys⟩:=p;rw[hs]at h;simp only[KQ,Gp]at h⊢;split at h
  ·simp only[runK,JK]at h;exact⟨h.1.1,h.1.2,h.2.1.1,h.2.1.2,h.2.2⟩
  ·rename_i e' j n;simp only[runK]at h;refine⟨h.1.1,h.1.2,?_⟩;have h:=h.2;cases hq:sat s j<;>simp only[hq,MI,runK]at h⊢
   exact⟨h.1.1,h.1.2.1,h.1.2.2.1,h.1.2.2.2,h.2⟩
  ·simp only[runK]at h;refine⟨h.1.1,h.1.2.1,h.1.2.2,?_⟩;have h:=h.2;cases hq:sat s id<;>simp only[hq,yg,runK,Ob.kg,aH,au,aG]at h⊢<;>exact h
  ·simp only[runK]at h;exact⟨h.1.1,h.1.2.1,h.1.2.2,h.2⟩
  ·exact h.elim
theorem KS{P:Program}{k0 id t e bytes:Nat}{x y:AV}{env:List AV}{s:gL}{K:AV->List AV->gL->Prop}(h:runK P k0 K (C4 id t e bytes k0 x env s (qO y))):
 Gs id t e bytes k0 x y env s K:=by
 unfold Gs;split
 ·rename_i e2 ys e4 hs;rw[hs]at h;simp only[C4,BD,runK]at h;refine⟨h.1.1,h.1.2.1,?_⟩;unfold vK;refine⟨h.1.2.2,?_⟩;have h:=h.2;cases hq:sat s id<;>simp only[hq,Be,runK,Ob.kg,aH,au,aG]at h⊢<;>exact h
 ·rename_i hn;refine Gr (P:=P) ?_;cases hs:qO y with
  |none=>rw[hs]at h;exact h
  |some p=>
   obtain⟨e2,ys⟩:=p;rw[hs]at h;simp only[C4]at h;unfold BD at h;split at h
   ·rename_i e4;exact absurd rfl (hn e2 ys e4 hs)
   ·exact h
theorem HU{P:Program}{k0:Nat}{m:tB}{env:List AV}{s:gL}{K:AV->List AV->gL->Prop}(h:runK P k0 K (kM P k0 env s m)):qo P k0 m env s K:=by
 cases m with
 |mv x=>exact h
 |pick c a b=>
  simp only[kM,Ko,qo]at h⊢;split at h
  ·rename_i t ht;try rw[ht]
   simpa[Br,runK]using h
  ·exact h.elim
 |alloc id t z=>
  simp only[kM,runK,qo,vK]at h⊢;refine⟨h.1,?_⟩;cases hs:sat s id<;>simp only[hs,wS,runK,Ob.kg,aH,au,aG,Jn]at h⊢<;>exact h.2
 |wU id d t z=>
  simp only[kM,runK,qo,vK]at h⊢;refine⟨h.1,?_⟩;cases hs:sat s id<;>simp only[hs,wS,runK,Ob.kg,aH,au,aG,Jn]at h⊢<;>exact h.2
 |Fh id d t x=>
  simp only[kM,qo]at h⊢;cases hc:(ev env x).cells with
  |none=>rw[hc]at h;exact h.elim
  |some cs=>
   rw[hc]at h;simp only[KU,runK,vK]at h⊢;refine⟨h.1,?_⟩;cases hs:sat s id<;>simp only[hs,wS,runK,Ob.kg,aH,au,aG,xH]at h⊢
   ·simpa using h.2
   all_goals exact h.2
 |box id t x=>
  simp only[kM,qo]at h⊢;cases hc:(ev env x).cells with
  |none=>rw[hc]at h;exact h.elim
  |some cs=>
   rw[hc]at h;simp only[KU,runK,vK]at h⊢;refine⟨h.1,?_⟩;cases hs:sat s id<;>simp only[hs,wS,runK,Ob.kg,aH,au,aG,xH]at h⊢
   ·simpa using h.2
   all_goals exact h.2
 |build z ps=>
  simp only[kM,qo]at h⊢;cases hc:pz env (z.map .d) ps with
  |none=>rw[hc]at h;exact h.elim
  |some cs=>rw[hc]at h;exact h
 |lQ id t e xs=>
  simp only[kM,qo]at h⊢;cases hc:AV.mI (xs.map (ev env))with
  |none=>rw[hc]at h;exact h.elim
  |some ds=>
   rw[hc]at h;simp only[Qa,runK,vK]at h⊢;refine⟨h.1.1,h.1.2,?_⟩;cases hs:sat s id<;>simp only[hs,yg,runK,Ob.kg,aH,au,aG]at h⊢<;>exact h.2
 |zX id t e xs=>
  simp only[kM,qo]at h⊢;cases hc:AV.mI (xs.map (ev env))with
  |none=>rw[hc]at h;exact h.elim
  |some ds=>
   rw[hc]at h;simp only[JN,runK,vK]at h⊢;refine⟨h.1.1,h.1.2,?_⟩;cases hs:sat s id<;>simp only[hs,Be,runK,Ob.kg,aH,au,aG]at h⊢<;>exact h.2
 |load n ag p=>
  simp only[kM,qo,rm]at h⊢;cases hp:ev env p with
  |ptr id off=>
   rw[hp]at h;simp only[DJ]at h⊢;cases hs:sat s id<;>rw[hs]at h<;>simp only[I7,runK]at h⊢
   cases ag<;>exact h
  |pv cs=>rw[hp]at h;simp only[DJ,runK]at h⊢;cases ag<;>exact h
  |pa cs=>rw[hp]at h;simp only[DJ,runK]at h⊢;exact⟨h.1.1,h.1.2.1,h.1.2.2,h.2⟩
  |lT id kk off=>
   rw[hp]at h;simp only[DJ]at h⊢;cases hs:sat s id<;>rw[hs]at h<;>simp only[I8,runK]at h⊢
   ·cases ag<;>exact⟨h.1.1,h.1.2,h.2⟩
   ·exact⟨h.1.1,h.1.2.1,h.1.2.2.1,h.1.2.2.2.1,h.1.2.2.2.2,h.2⟩
  |_=>rw[hp]at h;exact h.elim
 |store n p x=>
  simp only[kM,qo,FW]at h⊢;cases hp:ev env p with
  |ptr id off=>
   rw[hp]at h;simp only[D9]at h⊢;cases hs:sat s id<;>rw[hs]at h<;>cases hc:(ev env x).cells<;>rw[hc]at h<;>simp only[FY,runK]at h⊢
   exact⟨h.1.1,h.1.2,h.2⟩
  |lT id kk off=>
   rw[hp]at h;simp only[D9]at h⊢;cases hs:sat s id<;>rw[hs]at h<;>simp only at h⊢
   case iM=>cases hc:(ev env x).fin<;>rw[hc]at h<;>simp only[CS,runK]at h⊢<;>exact⟨h.1.1,h.1.2.1,h.1.2.2,h.2⟩
   case vf e1 m1 cs1=>
    have h:runK P k0 K (CT n kk off id e1 m1 cs1 env s (ev env x).cells):=by cases hc:(ev env x).fin<;>rw[hc]at h<;>exact h
    cases hc:(ev env x).cells<;>rw[hc]at h<;>simp only[CT,runK]at h⊢
    exact⟨h.1.1,h.1.2.1,h.1.2.2.1,h.1.2.2.2.1,h.1.2.2.2.2,h.2⟩
   all_goals(cases hc:(ev env x).fin<;>rw[hc]at h<;>simp only[CS,runK]at h)
  |_=>rw[hp]at h;exact h.elim
 |mA x=>
  simp only[kM,qo]at h⊢;cases hp:ev env x<;>rw[hp]at h<;>first|exact h|exact h.elim
 |bin op x y=>
  simp only[kM,qo,P7,P8]at h⊢;split at h
  ·rename_i k a k' b h1 h2;try rw[h1,h2]
   simp only[runK]at h;refine⟨h.1,?_⟩;have h:=h.2;cases op<;>exact h
  ·rename_i a b h1 h2;try rw[h1,h2]
   cases op<;>first|exact h|exact h.elim
  ·exact h.elim
 |C7 neg x y=>
  simp only[kM,qo,JL]at h⊢;split at h
  ·rename_i a b h1 h2;try rw[h1,h2]
   cases neg<;>exact h
  ·exact h.elim
 |xC neg x=>
  simp only[kM,qo]at h⊢;cases hc:zb (ev env x)with
  |none=>
   rw[hc]at h;simp only[Fp]at h;cases hs:qO (ev env x)with
   |none=>rw[hs]at h;exact h.elim
   |some p=>rw[hs]at h;cases neg<;>exact h
  |some b=>rw[hc]at h;cases neg<;>exact h
 |un op x=>
  simp only[kM,qo,YN]at h⊢;split at h
  ·rename_i b h1;(try rw[h1]);exact h
  ·rename_i k n h1;(try rw[h1]);exact h
  ·exact h.elim
 |conv k x=>
  simp only[kM,qo,J3]at h⊢;split at h
  ·rename_i k' n h1;(try rw[h1]);exact h
  ·exact h.elim
 |z_ f first cap=>exact h
 |Bc id t e bytes z tok len cap=>
  simp only[kM,qo]at h⊢;generalize js (ev env len)=X at h⊢;generalize js (ev env cap)=Y at h⊢;cases tok<;>cases X<;>cases Y<;>simp only[Jc,runK]at h⊢<;>first
   |exact⟨trivial,h.1.1,h.1.2.1,h.1.2.2.1,h.1.2.2.2.1,h.1.2.2.2.2.1,h.1.2.2.2.2.2.1,h.1.2.2.2.2.2.2,h.2⟩
   |exact h
 |Ae id t e bytes z tok len cap=>
  simp only[kM,qo]at h⊢;cases h1:js (ev env len)with
  |none=>
   rw[h1]at h;rcases z with _|⟨zd,_|⟨_,_⟩⟩<;>cases tok<;>exact h.elim
  |some lv=>
   cases h2:js (ev env cap)with
   |none=>
    rw[h1,h2]at h;rcases z with _|⟨zd,_|⟨_,_⟩⟩<;>cases tok<;>exact h.elim
   |some cv=>
    rw[h1,h2]at h;rcases z with _|⟨zd,_|⟨_,_⟩⟩<;>cases tok<;>first
     |exact h.elim
     |exact⟨h.1.1,rfl,h.1.2.1,h.1.2.2.1,h.1.2.2.2.1,h.1.2.2.2.2,h.2⟩
 |za id t e bytes z tok len cap=>
  simp only[kM,qo]at h⊢;cases h1:js (ev env len)<;>cases h2:js (ev env cap)<;>cases tok<;>rw[h1,h2]at h<;>simp only[Kl,runK]at h⊢
  ·obtain⟨⟨a1,a2,a3,a4,a5⟩,h⟩:=h;refine⟨a1,a2,a3,a4,a5,?_⟩;cases hs:sat s id<;>simp only[hs,FH,runK,Ob.kg,aH,au,aG]at h⊢<;>exact h
  ·obtain⟨⟨a1,a2,a3,a4,a5⟩,h⟩:=h;refine⟨a1,a2,a3,a4,a5,?_⟩;cases hs:sat s id<;>simp only[hs,yg,runK,Ob.kg,aH,au,aG]at h⊢<;>exact h
 |slc x e lo hi mx=>
  simp only[kM,qo]at h⊢;cases mx with
  |some m=>
   simp only[LW]at h;cases lo with
   |some _=>cases hi<;>exact h.elim
   |none=>
    cases hi with
    |none=>exact h.elim
    |some hh=>
     simp only[YK]at h;cases h1:js (ev env hh)with
     |none=>rw[h1]at h;exact h.elim
     |some hv=>
      cases h2:js (ev env m)with
      |none=>rw[h1,h2]at h;exact h.elim
      |some mv=>
       cases hs:qO (ev env x)with
       |none=>rw[h1,h2,hs]at h;exact h.elim
       |some p=>
        obtain⟨e',xs⟩:=p;rw[h1,h2,hs]at h;simp only[Vi,runK]at h;obtain⟨⟨k1,rfl,k2,k3⟩,k4⟩:=h;exact⟨rfl,hh,hv,rfl,h1,h2,k1,k2,k3,k4⟩
  |none=>
   simp only[LW]at h;cases hs:qO (ev env x)with
   |none=>rw[hs]at h;exact h.elim
   |some p=>
    obtain⟨e',xs⟩:=p;rw[hs]at h;simp only[KC]at h⊢;split at h
    ·rename_i l hh h1 h2;simp only[runK]at h;refine⟨h.1.1,?_⟩;unfold RB;rw[hs,h1,h2];exact⟨h.1.2.1,h.1.2.2.1,h.1.2.2.2,h.2⟩
    ·exact h.elim
 |HF p e n lo hi mx=>
  simp only[kM,qo,KA]at h⊢;split at h
  ·rename_i id off h1;(try rw[h1]);exact h
  ·rename_i id off hh h1;try rw[h1]
   split at h
   ·rename_i h' h2;(try simp only[h2]);exact⟨h.1.1,h.1.2,h.2⟩
   ·exact h.elim
  ·exact h.elim
 |PT off p=>
  simp only[kM,qo]at h⊢;cases hp:ev env p<;>rw[hp]at h<;>first|exact h|exact h.elim
 |tD e x i=>
  simp only[kM,qo,QT]at h⊢;cases hi:js (ev env i)with
  |none=>rw[hi]at h;exact h.elim
  |some n=>
   rw[hi]at h;simp only[QV]at h⊢;cases hx:ev env x<;>rw[hx]at h<;>simp only[DE]at h⊢<;>first
    |exact⟨h.1.1,h.1.2.1,h.1.2.2,h.2⟩
    |(
     split
     ·rename_i e' xs hs;rw[hs]at h;exact⟨h.1.1,h.1.2.1,h.1.2.2,h.2⟩
     ·rename_i hs;rw[hs]at h;exact h.elim)
 |G_ e n p i=>
  simp only[kM,qo]at h⊢;cases hi:js (ev env i)<;>cases hp:ev env p<;>rw[hi,hp]at h<;>first|exact⟨h.1.1,h.1.2,h.2⟩|exact h.elim
 |len x=>
  simp only[kM,qo]at h⊢;cases hx:ev env x<;>rw[hx]at h<;>simp only[I6]at h⊢<;>first
   |exact h
   |(
    split
    ·rename_i e' xs hs;rw[hs]at h;exact h
    ·rename_i hs;rw[hs]at h;exact h.elim)
 |app id t e bytes x y=>exact Gr h
 |Ek id t e xs=>
  simp only[kM,qo,MM]at h⊢;generalize AV.mI (xs.map (ev env))=X at h⊢;generalize AV.flat e (xs.map (ev env))=Y at h⊢;unfold JP at h;split at h
  ·simp only[runK]at h;refine⟨h.1.1,h.1.2.1,h.1.2.2,?_⟩;have h:=h.2;cases hs:sat s id<;>simp only[hs,FI,runK,Ob.kg,aH,au,aG,xH]at h⊢<;>first|exact h|simpa using h
  ·exact h.elim
 |CD id t e bytes x y=>exact KS h
 |iw f args=>exact h
 |ug g args=>
  simp only[kM,qo,IC]at h⊢;split at h
  ·rename_i f first cap h1;(try rw[h1]);exact h
  ·exact h.elim
 |ext x i=>
  simp only[kM,qo,Uu]at h⊢;split at h
  ·rename_i cs h1;(try rw[h1]);exact h
  ·exact h.elim
 |max x y=>
  simp only[kM,qo,yf]at h⊢;split at h
  ·rename_i k a k' b h1 h2;(try rw[h1,h2]);exact h
  ·exact h.elim
 |min x y=>
  simp only[kM,qo,yf]at h⊢;split at h
  ·rename_i k a k' b h1 h2;(try rw[h1,h2]);exact h
  ·exact h.elim
 |PU x=>exact h
 |Ex t x=>
  simp only[kM,qo]at h⊢;generalize ev env x=X at h⊢;unfold Oi at h;split at h
  ·exact⟨rfl,h⟩
  ·exact h.elim
 |HG x e y=>
  simp only[kM,qo]at h⊢;generalize ev env x=X at h⊢;generalize js (ev env y)=Y at h⊢;cases X<;>cases Y<;>simp only[O3]at h⊢<;>first
   |exact h.elim
   |(rename_i e1 j n hv;simp only[runK]at h;obtain⟨he,h⟩:=h;unfold Ro;cases hs:sat s j<;>rw[hs]at h<;>simp only[Jp,runK]at h⊢<;>first|exact h.elim|exact⟨he,h.1.1,h.1.2.1,h.1.2.2.1,h.1.2.2.2.1,h.1.2.2.2.2,h.2⟩)
 |dead=>exact h
def kr(P:Program)(k0 f:Nat)(args env:List AV)(s:gL)(d:Option Nat)(R:List AV->gL->Prop):Prop:=
 Ce P k0 f args env s fun x env s=>R (iq d env x) s
def lu(P:Program)(k0:Nat)(R:List AV->gL->Prop)(d:Option Nat):Out->Prop
 |.ok x env s=>R (iq d env x) s
 |.need p o=>p/\lu P k0 R d o
 |.br b o1 o2=>if b=true then lu P k0 R d o1 else lu P k0 R d o2
 |.call f args env s=>kr P k0 f args env s d R
 |.T5 p o1 o2=>(p->lu P k0 R d o1)/\lu P k0 R d o2
 |.bad=>False
def xQ(P:Program)(k0:Nat)(R:List AV->gL->Prop)(d:Option Nat)(b:Bool)(o1 o2:Out):Prop:=
 if b=true then lu P k0 R d o1 else lu P k0 R d o2
theorem RQ{P:Program}{k0:Nat}{R:List AV->gL->Prop}{d:Option Nat}{b:Bool}{o1 o2:Out}:lu P k0 R d (.br b o1 o2)=xQ P k0 R d b o1 o2:=(rfl)
theorem VK{P:Program}{k0:Nat}{R:List AV->gL->Prop}{d:Option Nat}{o1 o2:Out}:xQ P k0 R d true o1 o2=lu P k0 R d o1:=by simp[xQ]
theorem VJ{P:Program}{k0:Nat}{R:List AV->gL->Prop}{d:Option Nat}{o1 o2:Out}:xQ P k0 R d false o1 o2=lu P k0 R d o2:=by simp[xQ]
def uf(P:Program)(k0:Nat)(K:List AV->gL->Prop):List iH->List AV->gL->Prop
 |[],env,s=>K env s
 |m::ms,env,s=>match m.guard with
  |none=>lu P k0 (uf P k0 K ms) m.dst (kM P k0 env s m.op)
  |some (g,want)=>match g with
   |none=>uf P k0 K ms (iq m.dst env (.nk [])) s
   |some d=>match env.getD d .iB with
    |.d (.lit (.bool b))=>if b=want then lu P k0 (uf P k0 K ms) m.dst (kM P k0 env s m.op)else uf P k0 K ms (iq m.dst env (.nk [])) s
    |.nk []=>uf P k0 K ms (iq m.dst env (.nk [])) s
    |_=>False
def wz(P:Program)(k0:Nat)(K:List AV->gL->Prop)(b want:Bool)(m:tB)(d:Option Nat)(ms:List iH)(env:List AV)(s:gL):Prop:=
 if b=want then lu P k0 (uf P k0 K ms) d (kM P k0 env s m)else uf P k0 K ms (iq d env (.nk [])) s
section
variable{P:Program}{k0:Nat}{K:List AV->gL->Prop}{b want:Bool}{m:tB}{d:Option Nat}{ms:List iH}{env:List AV}{s:gL}
theorem TU:wz P k0 K true true m d ms env s=lu P k0 (uf P k0 K ms) d (kM P k0 env s m):=by simp[wz]
theorem TR:wz P k0 K false false m d ms env s=lu P k0 (uf P k0 K ms) d (kM P k0 env s m):=by simp[wz]
theorem TT:wz P k0 K true false m d ms env s=uf P k0 K ms (iq d env (.nk [])) s:=by simp[wz]
theorem TS:wz P k0 K false true m d ms env s=uf P k0 K ms (iq d env (.nk [])) s:=by simp[wz]
def Vo(P:Program)(k0:Nat)(K:List AV->gL->Prop)(want:Bool)(m:tB)(d:Option Nat)(ms:List iH)(env:List AV)(s:gL):AV->Prop
 |.d (.lit (.bool b))=>wz P k0 K b want m d ms env s
 |.nk []=>uf P k0 K ms (iq d env (.nk [])) s
 |_=>False
theorem RP:uf P k0 K [] env s=K env s:=(rfl)
theorem Mb:uf P k0 K (⟨d,m,none⟩::ms) env s=lu P k0 (uf P k0 K ms) d (kM P k0 env s m):=(rfl)
theorem Ma{g:Nat}:uf P k0 K (⟨d,m,some (some g,want)⟩::ms) env s=Vo P k0 K want m d ms env s (env.getD g .iB):=by
 simp only[uf];split
 ·rename_i b h;rw[h];rfl
 ·rename_i h;rw[h];rfl
 ·rename_i h h';unfold Vo;split
  ·rename_i b h2;exact absurd h2 (h b)
  ·rename_i h2;exact absurd h2 h'
  ·rfl
theorem RR{R:List AV->gL->Prop}{x:AV}:lu P k0 R d (.ok x env s)=R (iq d env x) s:=(rfl)
theorem Me{R:List AV->gL->Prop}{p:Prop}{o:Out}:lu P k0 R d (.need p o)=(p/\lu P k0 R d o):=(rfl)
def pY(P:Program)(k0:Nat)(R:List AV->gL->Prop)(d:Option Nat)(p:Prop)(o1 o2:Out):Prop:=(p->lu P k0 R d o1)/\lu P k0 R d o2
theorem pY.of{P:Program}{k0:Nat}{R:List AV->gL->Prop}{d:Option Nat}{p:Prop}{o1 o2:Out}(h1:p->lu P k0 R d o1)(h2:lu P k0 R d o2):pY P k0 R d p o1 o2:=⟨h1,h2⟩
theorem Pt{R:List AV->gL->Prop}{p:Prop}{o1 o2:Out}:lu P k0 R d (.T5 p o1 o2)=pY P k0 R d p o1 o2:=(rfl)
theorem Md{R:List AV->gL->Prop}{f:Nat}{args:List AV}:lu P k0 R d (.call f args env s)=kr P k0 f args env s d R:=(rfl)
end
theorem vT{P:Program}{k0:Nat}{R:List AV->gL->Prop}{d:Option Nat}{K:AV->List AV->gL->Prop}(hK:∀x env s,R (iq d env x) s->K x env s):
 ∀{o:Out},lu P k0 R d o->runK P k0 K o
 |.ok x env s=>fun h=>hK x env s h
 |.need p o=>fun h=>⟨h.1,vT hK h.2⟩
 |.br b o1 o2=>fun h=>by
  cases b with
  |true=>simp only[lu,aH]at h;simp only[runK,aH];exact vT hK h
  |false=>simp only[lu,au,aG]at h;simp only[runK,au,aG];exact vT hK h
 |.call _ _ _ _=>fun h=>Iz (K:=fun x env s=>R (iq d env x) s) h fun x env s=>hK x env s
 |.T5 p o1 o2=>fun h=>⟨fun hp=>vT hK (h.1 hp),vT hK h.2⟩
 |.bad=>fun h=>h
theorem zw{P:Program}{k0:Nat}{K:List AV->gL->Prop}:∀{ms:List iH}{env:List AV}{s:gL},uf P k0 K ms env s->CF P k0 ms env s K
 |[],env,s=>fun h=>h
 |m::ms,env,s=>fun h=>by
  have step:lu P k0 (uf P k0 K ms) m.dst (kM P k0 env s m.op)->qo P k0 m.op env s fun x env s=>CF P k0 ms (iq m.dst env x) s K:=
   fun h=>HU (vT (fun _ _ _ h=>zw h) h)
  simp only[uf,CF]at h⊢;split
  ·rename_i hg;rw[hg]at h;exact step h
  ·rename_i g want hg;rw[hg]at h;cases g with
   |none=>exact zw h
   |some d=>
    simp only at h⊢;split
    ·rename_i b hb;rw[hb]at h;unfold Br;simp only at h;split
     ·rename_i hbw;rw[ah hbw]at h;exact step h
     ·rename_i hbw;rw[az hbw]at h;exact zw h
    ·rename_i hb;rw[hb]at h;exact zw h
    ·rename_i hb hb';split at h
     ·rename_i b h2;exact absurd h2 (hb b)
     ·rename_i h2;exact absurd h2 hb'
     ·exact h
theorem ZW{P:Program}{k:Nat}{Q:Post}{env:List AV}{s:gL}{ms:List iH}(h:uf P k (Q .normal) ms env s):pG P k (.gD ms) Q env s:=Xr (zw h)
theorem NZ{e id off n:Nat}{env:List AV}{s:gL}:I6 env s (.nC e id off n)=.ok (.d (iD n)) env s:=(rfl)
theorem UK{x:D}{env:List AV}{s:gL}:I6 env s (.d x)=NW env s (qO (.d x)):=(rfl)
theorem N0{e id:Nat}{xs:List D}{env:List AV}{s:gL}:I6 env s (.own e id xs)=.ok (.d (iD xs.length)) env s:=(rfl)
theorem Lr{e e' id off len:Nat}{n:Int}{env:List AV}{s:gL}:DE e n env s (.nC e' id off len)=.need (e'=e/\0<=n/\n<len) (.ok (.ptr id (off+n.toNat*e)) env s):=(rfl)
theorem QW{e:Nat}{n:Int}{x:D}{env:List AV}{s:gL}:DE e n env s (.d x)=Kf e n env s (qO (.d x)):=(rfl)
theorem NY{e id n:Nat}{env:List AV}{s:gL}:I6 env s (.kG e id n)=.ok (.d (iD n)) env s:=(rfl)
theorem Lq{e e' id m:Nat}{n:Int}{env:List AV}{s:gL}:DE e n env s (.kG e' id m)=.need (e'=e/\0<=n/\n<m) (.ok (.lT id m (n.toNat*e)) env s):=(rfl)
theorem Ls{e e' id:Nat}{n:Int}{xs:List D}{env:List AV}{s:gL}:DE e n env s (.own e' id xs)=Kf e n env s (some (e',xs)):=(rfl)
theorem GP{neg b:Bool}{env:List AV}{s:gL}{x:AV}:Fp neg env s x (some b)=.ok (.d (bD (LH neg b))) env s:=(rfl)
theorem GO{neg:Bool}{env:List AV}{s:gL}{x:AV}:Fp neg env s x none=IQ neg env s (qO x):=(rfl)
attribute [go_sem] Q_ UG Xo Ob.kg Jc CT DC FI JP Q9 AV.flat BD C4 Be JN NY Lq Ve I8 CS MI GP GO YL Pt IQ RP Mb Ma Vo RR Me Md RQ VK VJ TU TR TT TS wS yg FH Kx Vd I7 DJ FY D9 P8 ML JL LH YN J3 Ko TD V0 Kf Lr QW Ls QV Sg NW NZ UK N0 KC Vi YK Ol LW O3 Jp Oi KA JK Gp KQ Uu yf KU MO Qa Kl IC kM List.drop_zero List.drop_succ_cons List.drop_nil List.take_zero List.take_succ_cons List.take_nil List.headD_cons List.append_nil true_and and_true Nat.zero_add Nat.add_zero if_true if_false Nat.le_refl
inductive rz where
 |ok (x:AV) (δ:List (Nat×Ob))
 |need (p:Prop) (o:rz)
 |br (b:Bool) (o1 o2:rz)
 |call (f:Nat) (args:List AV)
 |bad
def Db(ρ:Operand->AV)(dflt:Int):Option Operand->Option Int
 |none=>some dflt
 |some x=>js (ρ x)
def tf(ρ:Operand->AV):List AV->List (Nat×Nat×Operand)->Option (List AV)
 |cs,[]=>some cs
 |cs,(off,n,x)::r=>match(ρ x).cells with
  |some xs=>if xs.length=n/\off+n<=cs.length then tf ρ (cs.take off++xs++cs.drop (off+n)) r else none
  |none=>none
def N3(n:Nat)(ag:Bool)(off:Nat):Ob->rz
 |.obj _ cs=>.need (off+n<=cs.length) (.ok (Kx n off cs ag) [])
 |_=>.bad
def N4(n:Nat)(ag:Bool)(k off:Nat):Ob->rz
 |.iM _ _ m cs=>.need (m=k/\off+n<=cs.length) (.ok (.d (Ve n off cs ag)) [])
 |_=>.bad
def Kg(σ:Nat->Ob)(n:Nat)(ag:Bool):AV->rz
 |.ptr id off=>N3 n ag off (σ id)
 |.lT id k off=>N4 n ag k off (σ id)
 |.pv cs=>.need (n<=cs.length) (.ok (.d (Vd n cs ag)) [])
 |.pa cs=>.need (ag=false/\n=1/\1<=cs.length) (.ok (cs.headD .iB) [])
 |_=>.bad
def KD(n off id:Nat):Ob->Option (List AV)->rz
 |.obj t cs,some xs=>.need (xs.length=n/\off+n<=cs.length) (.ok .iB [(id,(.obj t (cs.take off++xs++cs.drop (off+n))))])
 |_,_=>.bad
def KE(n k off id:Nat):Ob->Option D->rz
 |.iM t e m cs,some d=>.need (m=k/\(gJ d).length=n/\off+n<=cs.length) (.ok .iB [(id,.iM t e m (cs.take off++gJ d++cs.drop (off+n)))])
 |_,_=>.bad
def FX(σ:Nat->Ob)(n:Nat)(x:AV):AV->rz
 |.ptr id off=>KD n off id (σ id) x.cells
 |.lT id k off=>KE n k off id (σ id) x.fin
 |_=>.bad
def T8(op:BinOp):AV->AV->rz
 |.d (.lit (.int k a)),.d (.lit (.int k' b))=>.need (YL op k k')<|match op with
  |.add=>.ok (.d (.lit (.int k (k.wrap (a+b))))) []
  |.sub=>.ok (.d (.lit (.int k (k.wrap (a-b))))) []
  |.mul=>.ok (.d (.lit (.int k (k.wrap (a*b))))) []
  |.quo=>.need (b≠0) (.ok (.d (.lit (.int k (k.wrap (a.tdiv b))))) [])
  |.rem=>.need (b≠0) (.ok (.d (.lit (.int k (a.tmod b)))) [])
  |.eql=>.ok (.d (bD (a==b))) []
  |.neq=>.ok (.d (bD (a != b))) []
  |.lss=>.ok (.d (bD (decide (a<b)))) []
  |.leq=>.ok (.d (bD (decide (a<=b)))) []
  |.gtr=>.ok (.d (bD (decide (b<a)))) []
  |.geq=>.ok (.d (bD (decide (b<=a)))) []
  |.and=>.ok (.d (.lit (.int k (zW k a b)))) []
  |.or=>.ok (.d (.lit (.int k (YM k a b)))) []
  |.xor=>.ok (.d (.lit (.int k (Mf k a b)))) []
  |.andNot=>.ok (.d (.lit (.int k (JJ k a b)))) []
  |.shl=>.need (0<=b) (.ok (.d (.lit (.int k (HB k a b)))) [])
  |.shr=>.need (0<=b) (.ok (.d (.lit (.int k (Bn k a b)))) [])
 |.d (.lit (.string a)),.d (.lit (.string b))=>match op with
  |.add=>.need (a.size+b.size<2^63) (.ok (.d (.lit (.string (a++b)))) [])
  |.eql=>.ok (.d (bD (a.toList==b.toList))) []
  |.neq=>.ok (.d (bD (!(a.toList==b.toList)))) []
  |_=>.bad
 |_,_=>.bad
def MK(neg:Bool):AV->AV->rz
 |.d (.lit (.bool a)),.d (.lit (.bool b))=>.ok (.d (bD (ML neg a b))) []
 |_,_=>.bad
def Nv(neg:Bool):Option Bool->rz
 |some b=>.ok (.d (bD (LH neg b))) []
 |none=>.bad
def unL:UnOp->AV->rz
 |.not,.d (.lit (.bool b))=>.ok (.d (bD (!b))) []
 |.neg,.d (.lit (.int k n))=>.ok (.d (.lit (.int k (k.wrap (0-n))))) []
 |_,_=>.bad
def Ns(k:IntKind):AV->rz
 |.d (.lit (.int _ n))=>.ok (.d (.lit (.int k (k.wrap n)))) []
 |_=>.bad
def OC(a b:AV):AV->rz
 |.d (.lit (.bool t))=>.br t (.ok a []) (.ok b [])
 |_=>.bad
def TC:AV->rz
 |.ptr id off=>.ok (.ptr id off) []
 |.pv cs=>.ok (.pv cs) []
 |.pa cs=>.ok (.pa cs) []
 |.fn f a b=>.ok (.fn f a b) []
 |.lT id m off=>.ok (.lT id m off) []
 |_=>.bad
def VZ(off:Nat):AV->rz
 |.ptr id o=>.ok (.ptr id (o+off)) []
 |.pv cs=>.ok (.pv (cs.drop off)) []
 |.pa cs=>.ok (.pa (cs.drop off)) []
 |.lT id k o=>.ok (.lT id k (o+off)) []
 |_=>.bad
def NQ(e:Nat)(n:Int):Option (Nat×List D)->rz
 |some (e',xs)=>.need (e'=e/\0<=n/\n<xs.length) (.ok (.pv (gJ (xs.getD n.toNat .any))) [])
 |none=>.bad
def Ke(e:Nat)(n:Int):AV->rz
 |.nC e' id off len=>.need (e'=e/\0<=n/\n<len) (.ok (.ptr id (off+n.toNat*e)) [])
 |.kG e' id m=>.need (e'=e/\0<=n/\n<m) (.ok (.lT id m (n.toNat*e)) [])
 |x=>NQ e n (qO x)
def UF(e:Nat)(x:AV):Option Int->rz
 |some n=>Ke e n x
 |none=>.bad
def Se(e n:Nat):Option Int->AV->rz
 |some j,.ptr id off=>.need (0<=j/\j<n) (.ok (.ptr id (off+j.toNat*e)) [])
 |some j,.pv cs=>.need (0<=j/\j<n) (.ok (.pv (cs.drop (j.toNat*e))) [])
 |_,_=>.bad
def NU:Option (Nat×List D)->rz
 |some (_,xs)=>.ok (.d (iD xs.length)) []
 |none=>.bad
def UI:AV->rz
 |.nC _ _ _ n=>.ok (.d (iD n)) []
 |.kG _ _ n=>.ok (.d (iD n)) []
 |x=>NU (qO x)
def KB(ρ:Operand->AV)(x:AV)(e:Nat)(lo:Option Int)(hi:Option Operand):Option (Nat×List D)->rz
 |some (e',xs)=>match lo,Db ρ xs.length hi with
  |some l,some h=>.need ((xs=[]\/e'=e)/\0<=l/\l<=h/\h<=xs.length) (.ok (.d (.sl e' (zb x) ((xs.take h.toNat).drop l.toNat))) [])
  |_,_=>.bad
 |none=>.bad
def TO(e:Nat):Option Operand->Option Int->Option Int->Option (Nat×List D)->rz
 |none,some h,some m,some (e',xs)=>.need ((xs=[]\/e'=e)/\h=m/\0<=h/\h<=xs.length) (.ok (.BS e' (xs.take h.toNat)) [])
 |_,_,_,_=>.bad
def YJ(ρ:Operand->AV):Option Operand->Option Int
 |some h=>js (ρ h)
 |none=>none
def LV(ρ:Operand->AV)(x:AV)(e:Nat)(lo hi:Option Operand):Option Operand->rz
 |none=>KB ρ x e (Db ρ 0 lo) hi (qO x)
 |some m=>TO e lo (YJ ρ hi) (js (ρ m)) (qO x)
def Kz(ρ:Operand->AV)(e n:Nat):AV->Option Operand->Option Operand->Option Operand->rz
 |.ptr id off,none,none,none=>.ok (.nC e id off n) []
 |.ptr id off,none,some h,none=>match js (ρ h)with
  |some h=>.need (0<=h/\h<=n) (.ok (.nC e id off h.toNat) [])
  |none=>.bad
 |_,_,_,_=>.bad
def MH(t e bytes:Nat)(j:Nat)(xs ys:List D)(ob:Ob):rz:=
 .need (ob=.tok t e xs.length/\(xs.length+ys.length)*bytes<=2^47) (.ok (.own e j (xs++ys)) [(j,(.tok t e (xs.length+ys.length)))])
def RY(t e bytes:Nat)(j n:Nat)(ys:List D):Ob->rz
 |.iM t' e2 m cs=>.need (t'=t/\e2=e/\m=n/\(n+ys.length)*bytes<=2^47) (.ok (.kG e j (n+ys.length)) [(j,.iM t e (n+ys.length) (cs++ys.flatMap gJ))])
 |_=>.bad
def C1(σ:Nat->Ob)(id t e bytes k0:Nat)(e2:Nat)(ys:List D):AV->rz
 |.own e' j xs=>.need ((ys=[]\/e2=e)/\e'=e) (MH t e bytes j xs ys (σ j))
 |.kG e' j n=>.need ((ys=[]\/e2=e)/\e'=e) (RY t e bytes j n ys (σ j))
 |.d (.sl _ (some true) [])=>.need ((ys=[]\/e2=e)/\ys.length*bytes<=2^47/\k0<=id/\(σ id).kg=true) (.ok (.own e id ys) [(id,.tok t e ys.length)])
 |.BS e' xs=>.need ((ys=[]\/e2=e)/\e'=e/\(xs.length+ys.length)*bytes<=2^47) (.ok (.d (.sl e none (xs++ys))) [])
 |_=>.bad
def Ie(σ:Nat->Ob)(id t e bytes k0:Nat)(x:AV):Option (Nat×List D)->rz
 |some (e2,ys)=>C1 σ id t e bytes k0 e2 ys x
 |none=>.bad
def Fc(σ:Nat->Ob)(id t e bytes k0:Nat)(e2:Nat)(ys:List D):AV->rz
 |.d (.sl _ (some true) [])=>.need ((ys=[]\/e2=e)/\ys.length*bytes<=2^47/\k0<=id/\(σ id).kg=true) (.ok (.kG e id ys.length) [(id,.iM t e ys.length (ys.flatMap gJ))])
 |x=>C1 σ id t e bytes k0 e2 ys x
def Gt(σ:Nat->Ob)(id t e bytes k0:Nat)(x:AV):Option (Nat×List D)->rz
 |some (e2,ys)=>Fc σ id t e bytes k0 e2 ys x
 |none=>.bad
def VY(i:Nat):AV->rz
 |.nk cs=>.need (i<cs.length) (.ok (cs.getD i .iB) [])
 |_=>.bad
def Bb(mx:Bool):AV->AV->rz
 |.d (.lit (.int k a)),.d (.lit (.int k' b))=>.need (k=k') (.ok (.d (.lit (.int k (match mx with|true=>if b>a then b else a|false=>if b<a then b else a)))) [])
 |_,_=>.bad
def P9(σ:Nat->Ob)(id t k0:Nat):Option (List AV)->rz
 |some cs=>.need (k0<=id/\(σ id).kg=true) (.ok (.ptr id 0) [(id,.obj t cs)])
 |none=>.bad
def MN:Option (List AV)->rz
 |some cs=>.ok (AV.mk cs) []
 |none=>.bad
def P_(σ:Nat->Ob)(id t e k0:Nat):Option (List D)->rz
 |some ds=>.need ((∀d∈ds,(gJ d).length=e)/\k0<=id/\(σ id).kg=true) (.ok (.own e id ds) [(id,.tok t e ds.length)])
 |none=>.bad
def JO(σ:Nat->Ob)(id t e k0:Nat):Option (List D)->Option (List AV)->rz
 |some ds,some cs=>.need ((∀d∈ds,(gJ d).length=e)/\yC cs=true/\k0<=id/\(σ id).kg=true) (.ok (.own e id ds) [(id,.pI t e ds.length cs)])
 |_,_=>.bad
def JM(σ:Nat->Ob)(id t e k0:Nat):Option (List D)->rz
 |some ds=>.need ((∀d∈ds,(gJ d).length=e)/\k0<=id/\(σ id).kg=true) (.ok (.kG e id ds.length) [(id,.iM t e ds.length (ds.flatMap gJ))])
 |none=>.bad
def Kk(σ:Nat->Ob)(id t e bytes k0:Nat)(z:List D):Bool->Option Int->Option Int->rz
 |true,some l,some c=>.need (0<=l/\l<=c/\bytes*c<=2^48/\c<2^62/\k0<=id/\(σ id).kg=true) (.ok (.own e id []) [(id,.tok t e 0)])
 |false,some l,some c=>.need (0<=l/\l<=c/\bytes*c<=2^48/\c<2^62/\k0<=id/\(σ id).kg=true) (.ok (.nC e id 0 l.toNat) [(id,.obj t ((List.replicate l.toNat (z.map .d)).flatten))])
 |_,_,_=>.bad
def Oj(e bytes:Nat):List D->Bool->Option Int->Option Int->rz
 |[zd],false,some l,some c=>.need (e=1/\0<=l/\l<=c/\bytes*c<=2^48/\c<2^62) (.ok (.d (.sl 1 none (List.replicate l.toNat zd))) [])
 |_,_,_,_=>.bad
def Ng(P:Program)(args:List AV):AV->rz
 |.fn f first cap=>.need (enters P f=true) (.call f (first++args++cap))
 |_=>.bad
def lK(P:Program)(k0:Nat)(ρ:Operand->AV)(σ:Nat->Ob):tB->rz
 |.mv x=>.ok (ρ x) []
 |.pick c a b=>OC (ρ a) (ρ b) (ρ c)
 |.alloc id t z=>.need (k0<=id/\(σ id).kg=true) (.ok (.ptr id 0) [(id,.obj t (z.map .d))])
 |.box id t x=>P9 σ id t k0 (ρ x).cells
 |.Fh _ _ _ _=>.bad
 |.wU _ _ _ _=>.bad
 |.build z ps=>MN (tf ρ (z.map .d) ps)
 |.lQ id t e xs=>P_ σ id t e k0 (AV.mI (xs.map ρ))
 |.zX id t e xs=>JM σ id t e k0 (AV.mI (xs.map ρ))
 |.Ek id t e xs=>JO σ id t e k0 (AV.mI (xs.map ρ)) (AV.flat e (xs.map ρ))
 |.load n ag p=>Kg σ n ag (ρ p)
 |.store n p x=>FX σ n (ρ x) (ρ p)
 |.mA x=>TC (ρ x)
 |.bin op x y=>T8 op (ρ x) (ρ y)
 |.C7 neg x y=>MK neg (ρ x) (ρ y)
 |.xC neg x=>Nv neg (zb (ρ x))
 |.un op x=>unL op (ρ x)
 |.conv k x=>Ns k (ρ x)
 |.z_ f first cap=>.ok (.fn f (first.map ρ) (cap.map ρ)) []
 |.Ae _ _ e bytes z tok len cap=>Oj e bytes z tok (js (ρ len)) (js (ρ cap))
 |.Bc _ _ _ _ _ _ _ _=>.bad
 |.za id t e bytes z tok len cap=>Kk σ id t e bytes k0 z tok (js (ρ len)) (js (ρ cap))
 |.slc x e lo hi mx=>LV ρ (ρ x) e lo hi mx
 |.HF p e n lo hi mx=>Kz ρ e n (ρ p) lo hi mx
 |.PT off p=>VZ off (ρ p)
 |.tD e x i=>UF e (ρ x) (js (ρ i))
 |.G_ e n p i=>Se e n (js (ρ i)) (ρ p)
 |.len x=>UI (ρ x)
 |.app id t e bytes x y=>Ie σ id t e bytes k0 (ρ x) (qO (ρ y))
 |.CD id t e bytes x y=>Gt σ id t e bytes k0 (ρ x) (qO (ρ y))
 |.iw f args=>.call f (args.map ρ)
 |.ug g args=>Ng P (args.map ρ) (ρ g)
 |.ext x i=>VY i (ρ x)
 |.max x y=>Bb true (ρ x) (ρ y)
 |.min x y=>Bb false (ρ x) (ρ y)
 |.PU _|.HG _ _ _|.Ex _ _=>.bad
 |.dead=>.bad
def qL(s:gL):List (Nat×Ob)->gL
 |[]=>s
 |(i,ob)::r=>qL (sset s i ob) r
def rz.out(env:List AV)(s:gL):rz->Out
 |.ok x δ=>.ok x env (qL s δ)
 |.need p o=>.need p (o.out env s)
 |.br b o1 o2=>.br b (o1.out env s) (o2.out env s)
 |.call f args=>.call f args env s
 |.bad=>.bad
theorem Gy{env:List AV}{d:Int}{x:Option Operand}:Db (ev env) d x=Fg env d x:=by cases x<;>rfl
theorem Bj{env:List AV}:∀{ps:List (Nat×Nat×Operand)}{cs:List AV},tf (ev env) cs ps=pz env cs ps
 |[],cs=>rfl
 |(off,n,x)::r,cs=>by
  simp only[tf,pz];cases(ev env x).cells with
  |none=>rfl
  |some xs=>simp only;split<;>simp[Bj]
theorem Gq{P:Program}{k0 id t e bytes:Nat}{x:AV}{Y:Option (Nat×List D)}{env:List AV}{s:gL}{K:AV->List AV->gL->Prop}(h:runK P k0 K ((Ie (sat s) id t e bytes k0 x Y).out env s)):
 runK P k0 K (KQ id t e bytes k0 x env s Y):=by
 have dead:∀{id:Nat},(sat s id).kg=true->sat s id=.dead:=fun{id} h=>by cases hs:sat s id<;>simp_all[Ob.kg]
 cases Y with
 |none=>exact h
 |some p=>
  obtain⟨e2,ys⟩:=p;simp only[Ie,KQ,C1,Gp]at h⊢;split at h
  ·simp only[MH,JK,rz.out,runK,qL]at h⊢;exact h
  ·rename_i e' j n;simp only[rz.out,runK]at h⊢;refine⟨h.1,?_⟩;have h:=h.2;generalize sat s j=X at h⊢;cases X<;>exact h
  ·simp only[rz.out,runK,qL]at h⊢;rw[dead h.1.2.2.2];exact⟨⟨h.1.1,h.1.2.1,h.1.2.2.1⟩,h.2⟩
  ·exact h
  ·exact h.elim
theorem KR{P:Program}{k0 id t e bytes:Nat}{x:AV}{Y:Option (Nat×List D)}{env:List AV}{s:gL}{K:AV->List AV->gL->Prop}(h:runK P k0 K ((Gt (sat s) id t e bytes k0 x Y).out env s)):
 runK P k0 K (C4 id t e bytes k0 x env s Y):=by
 have dead:∀{id:Nat},(sat s id).kg=true->sat s id=.dead:=fun{id} h=>by cases hs:sat s id<;>simp_all[Ob.kg]
 cases Y with
 |none=>exact h
 |some p=>
  obtain⟨e2,ys⟩:=p;simp only[Gt,C4]at h⊢;unfold Fc at h;split at h
  ·simp only[BD,rz.out,runK,qL]at h⊢;rw[dead h.1.2.2.2];exact⟨⟨h.1.1,h.1.2.1,h.1.2.2.1⟩,h.2⟩
  ·rename_i hn;unfold BD;split
   ·rename_i e4;exact absurd rfl (hn e4)
   ·exact Gq (Y:=some (e2,ys)) h
theorem L8{P:Program}{k0:Nat}{m:tB}{env:List AV}{s:gL}{K:AV->List AV->gL->Prop}
 (h:runK P k0 K ((lK P k0 (ev env) (sat s) m).out env s)):runK P k0 K (kM P k0 env s m):=by
 have dead:∀{id:Nat},(sat s id).kg=true->sat s id=.dead:=fun{id} h=>by cases hs:sat s id<;>simp_all[Ob.kg]
 cases m with
 |mv x=>exact h
 |pick c a b=>
  simp only[lK,kM,OC,Ko]at h⊢;generalize ev env c=Xc at h⊢;cases Xc with
  |d x=>cases x with
   |lit u=>cases u<;>exact h
   |_=>exact h
  |_=>exact h
 |alloc id t z=>
  simp only[lK,kM,rz.out,runK,qL]at h⊢;rw[dead h.1.2];exact⟨h.1.1,h.2⟩
 |Fh id d t x=>simp only[lK]at h;exact h.elim
 |wU id d t z=>simp only[lK]at h;exact h.elim
 |box id t x=>
  simp only[lK,kM]at h⊢;generalize(ev env x).cells=X at h⊢;cases X with
  |none=>exact h
  |some cs=>
   simp only[P9,KU,rz.out,runK,qL]at h⊢;rw[dead h.1.2];exact⟨h.1.1,h.2⟩
 |build z ps=>
  simp only[lK,kM,Bj]at h⊢;generalize pz env (z.map .d) ps=X at h⊢;cases X<;>exact h
 |lQ id t e xs=>
  simp only[lK,kM]at h⊢;generalize AV.mI (xs.map (ev env))=X at h⊢;cases X with
  |none=>exact h
  |some ds=>
   simp only[P_,Qa,rz.out,runK,qL]at h⊢;rw[dead h.1.2.2];exact⟨⟨h.1.1,h.1.2.1⟩,h.2⟩
 |Ek id t e xs=>
  simp only[lK,kM]at h⊢;generalize AV.mI (xs.map (ev env))=X at h⊢;generalize AV.flat e (xs.map (ev env))=Y at h⊢;cases X with
  |none=>cases Y<;>exact h.elim
  |some ds=>cases Y with
   |none=>exact h.elim
   |some cs=>
    simp only[JO,JP,rz.out,runK,qL]at h⊢;rw[dead h.1.2.2.2];exact⟨⟨h.1.1,h.1.2.1,h.1.2.2.1⟩,h.2⟩
 |zX id t e xs=>
  simp only[lK,kM]at h⊢;generalize AV.mI (xs.map (ev env))=X at h⊢;cases X with
  |none=>exact h
  |some ds=>
   simp only[JM,JN,rz.out,runK,qL]at h⊢;rw[dead h.1.2.2];exact⟨⟨h.1.1,h.1.2.1⟩,h.2⟩
 |load n ag p=>
  simp only[lK,kM,Kg,DJ]at h⊢;generalize ev env p=Xp at h⊢;cases Xp with
  |ptr id off=>simp only at h⊢;generalize sat s id=X at h⊢;cases X<;>exact h
  |lT id kk off=>simp only at h⊢;generalize sat s id=X at h⊢;cases X<;>first|exact h|exact h.elim
  |_=>exact h
 |store n p x=>
  simp only[lK,kM,FX,D9]at h⊢;generalize ev env p=Xp at h⊢;cases Xp with
  |ptr id off=>simp only at h⊢;generalize sat s id=X at h⊢;generalize(ev env x).cells=Y at h⊢;cases X<;>cases Y<;>exact h
  |lT id kk off=>simp only at h⊢;generalize sat s id=X at h⊢;generalize(ev env x).fin=Y at h⊢;cases X<;>cases Y<;>first|exact h|exact h.elim
  |_=>exact h
 |mA x=>simp only[lK,kM]at h⊢;generalize ev env x=X at h⊢;cases X<;>exact h
 |bin op x y=>
  simp only[lK,kM,T8,P8]at h⊢;generalize ev env x=Xx at h⊢;generalize ev env y=Xy at h⊢;cases Xx with
  |d x1=>cases x1 with
   |lit u=>cases u with
    |int k a=>cases Xy with
     |d y1=>cases y1 with
      |lit v=>cases v with
       |int k' b=>cases op<;>exact h
       |_=>exact h
      |_=>exact h
     |_=>exact h
    |string a=>cases Xy with
     |d y1=>cases y1 with
      |lit v=>cases v with
       |string b=>cases op<;>exact h
       |_=>exact h
      |_=>exact h
     |_=>exact h
    |_=>exact h
   |_=>exact h
  |_=>exact h
 |C7 neg x y=>
  simp only[lK,kM,MK,JL]at h⊢;generalize ev env x=Xx at h⊢;generalize ev env y=Xy at h⊢;cases Xx with
  |d x1=>cases x1 with
   |lit u=>cases u with
    |bool a=>cases Xy with
     |d y1=>cases y1 with
      |lit v=>cases v<;>exact h
      |_=>exact h
     |_=>exact h
    |_=>exact h
   |_=>exact h
  |_=>exact h
 |xC neg x=>simp only[lK,kM]at h⊢;generalize zb (ev env x)=X at h⊢;cases X<;>first|exact h|exact h.elim
 |un op x=>
  simp only[lK,kM,unL,YN]at h⊢;generalize ev env x=X at h⊢;cases op<;>cases X with
  |d x1=>cases x1 with
   |lit u=>cases u<;>exact h
   |_=>exact h
  |_=>exact h
 |conv k x=>
  simp only[lK,kM,Ns,J3]at h⊢;generalize ev env x=Xx at h⊢;cases Xx with
  |d x1=>cases x1 with
   |lit u=>cases u<;>exact h
   |_=>exact h
  |_=>exact h
 |z_ f first cap=>exact h
 |Bc id t e bytes z tok len cap=>simp only[lK]at h;exact h.elim
 |Ae id t e bytes z tok len cap=>
  simp only[lK,kM]at h⊢;generalize js (ev env len)=X at h⊢;generalize js (ev env cap)=Y at h⊢;cases z with
  |nil=>cases tok<;>cases X<;>cases Y<;>exact h
  |cons zd z=>cases z<;>cases tok<;>cases X<;>cases Y<;>exact h
 |za id t e bytes z tok len cap=>
  simp only[lK,kM]at h⊢;generalize js (ev env len)=X at h⊢;generalize js (ev env cap)=Y at h⊢;cases tok<;>cases X<;>cases Y<;>simp only[Kk,Kl,rz.out,runK,qL]at h⊢
  ·rw[dead h.1.2.2.2.2.2];exact⟨⟨h.1.1,h.1.2.1,h.1.2.2.1,h.1.2.2.2.1,h.1.2.2.2.2.1⟩,h.2⟩
  ·rw[dead h.1.2.2.2.2.2];exact⟨⟨h.1.1,h.1.2.1,h.1.2.2.1,h.1.2.2.2.1,h.1.2.2.2.2.1⟩,h.2⟩
 |slc x e lo hi mx=>
  simp only[lK,kM]at h⊢;cases mx with
  |some m=>
   simp only[LV,LW]at h⊢;generalize qO (ev env x)=X at h⊢;generalize js (ev env m)=M at h⊢;cases hi with
   |none=>cases lo<;>cases M<;>cases X<;>exact h
   |some hh=>
    simp only[YJ,YK]at h⊢;generalize js (ev env hh)=H at h⊢;cases lo<;>cases H<;>cases M<;>cases X<;>exact h
  |none=>
   simp only[LV,LW,Gy]at h⊢;generalize qO (ev env x)=X at h⊢;cases X with
   |none=>exact h
   |some p=>
    simp only[KB,KC,Gy]at h⊢;generalize Fg env 0 lo=X at h⊢;generalize Fg env p.2.length hi=Y at h⊢;cases X<;>cases Y<;>exact h
 |HF p e n lo hi mx=>
  simp only[lK,kM,Kz,KA]at h⊢;generalize ev env p=X at h⊢;cases X<;>cases lo<;>cases hi<;>cases mx<;>first
   |exact h
   |(rename_i q;simp only at h⊢;generalize js (ev env q)=Z at h⊢;cases Z<;>exact h)
 |PT off p=>simp only[lK,kM]at h⊢;generalize ev env p=X at h⊢;cases X<;>exact h
 |tD e x i=>
  simp only[lK,kM]at h⊢;generalize js (ev env i)=I at h⊢;cases I with
  |none=>exact h
  |some n=>
   simp only[UF,QV]at h⊢;generalize ev env x=X at h⊢;cases X<;>simp only[Ke,DE]at h⊢<;>first
    |exact h
    |(revert h;generalize qO _=q;intro h;cases q<;>exact h)
 |G_ e n p i=>simp only[lK,kM]at h⊢;generalize js (ev env i)=X at h⊢;generalize ev env p=Y at h⊢;cases X<;>cases Y<;>exact h
 |len x=>
  simp only[lK,kM]at h⊢;generalize ev env x=X at h⊢;cases X<;>simp only[UI,I6]at h⊢<;>first
   |exact h
   |(revert h;generalize qO _=q;intro h;cases q<;>exact h)
 |app id t e bytes x y=>exact Gq h
 |CD id t e bytes x y=>exact KR h
 |iw f args=>exact h
 |ug g args=>
  simp only[lK,kM]at h⊢;generalize ev env g=X at h⊢;cases X<;>exact h
 |ext x i=>simp only[lK,kM]at h⊢;generalize ev env x=X at h⊢;cases X<;>exact h
 |max x y=>
  simp only[lK,kM,Bb,yf]at h⊢;generalize ev env x=Xx at h⊢;generalize ev env y=Xy at h⊢;cases Xx with
  |d x1=>cases x1 with
   |lit u=>cases u with
    |int k a=>cases Xy with
     |d y1=>cases y1 with
      |lit v=>cases v<;>exact h
      |_=>exact h
     |_=>exact h
    |_=>exact h
   |_=>exact h
  |_=>exact h
 |min x y=>
  simp only[lK,kM,Bb,yf]at h⊢;generalize ev env x=Xx at h⊢;generalize ev env y=Xy at h⊢;cases Xx with
  |d x1=>cases x1 with
   |lit u=>cases u with
    |int k a=>cases Xy with
     |d y1=>cases y1 with
      |lit v=>cases v<;>exact h
      |_=>exact h
     |_=>exact h
    |_=>exact h
   |_=>exact h
  |_=>exact h
 |dead=>exact h
 |_=>exact h.elim
def uD:Operand->List Nat
 |.tmp t=>[t]
 |_=>[]
def Bg(xs:List Operand):List Nat:=xs.flatMap uD
def EZ:Option Operand->List Nat
 |some x=>uD x
 |none=>[]
def oG:tB->List Nat
 |.mv x|.mA x|.un _ x|.conv _ x|.PT _ x|.len x|.ext x _|.box _ _ x|.Fh _ _ _ x|.load _ _ x|.xC _ x=>uD x
 |.pick c a b=>uD c++uD a++uD b
 |.store _ p x=>uD p++uD x
 |.bin _ x y|.C7 _ x y|.max x y|.min x y|.tD _ x y|.G_ _ _ x y|.app _ _ _ _ x y|.CD _ _ _ _ x y=>uD x++uD y
 |.za _ _ _ _ _ _ l c=>uD l++uD c
 |.Ae _ _ _ _ _ _ l c=>uD l++uD c
 |.Bc _ _ _ _ _ _ l c=>uD l++uD c
 |.slc x _ lo hi m=>uD x++EZ lo++EZ hi++EZ m
 |.HF x _ _ lo hi _=>uD x++EZ lo++EZ hi
 |.build _ ps=>Bg (ps.map (·.2.2))
 |.lQ _ _ _ xs|.zX _ _ _ xs|.Ek _ _ _ xs=>Bg xs
 |.z_ _ f c=>Bg f++Bg c
 |.iw _ xs=>Bg xs
 |.ug g xs=>uD g++Bg xs
 |.PU x=>uD x
 |.Ex _ x=>uD x
 |.HG x _ h=>uD x++uD h
 |.alloc .. |.wU .. |.dead=>[]
def uh(ρ:Operand->AV):tB->List Nat
 |.Ek id _ _ _=>[id]
 |.load _ _ p=>match ρ p with|.ptr id _=>[id]|.lT id _ _=>[id]|_=>[]
 |.store _ p _=>match ρ p with|.ptr id _=>[id]|.lT id _ _=>[id]|_=>[]
 |.CD id _ _ _ x _=>match ρ x with|.own _ j _=>[j]|.kG _ j _=>[j]|_=>[id]
 |.alloc id _ _|.box id _ _|.lQ id _ _ _|.zX id _ _ _|.za id _ _ _ _ _ _ _=>[id]
 |.app id _ _ _ x _=>match ρ x with|.own _ j _=>[j]|.kG _ j _=>[j]|_=>[id]
 |_=>[]
theorem C2{k0 id t e bytes:Nat}{X:AV}{p:Option (Nat×List D)}{σ σ':Nat->Ob}
 (hf:∀i∈(match X with|.own _ j _=>[j]|.kG _ j _=>[j]|_=>[id]),σ' i=σ i):Ie σ' id t e bytes k0 X p=Ie σ id t e bytes k0 X p:=by
 unfold Ie;cases p with
 |none=>rfl
 |some p=>
  simp only;unfold C1;cases X with
  |own e' j xs=>have hj:=hf j (by simp);simp only[hj]
  |kG e' j n=>have hj:=hf j (by simp);simp only[hj]
  |d x1=>
   have hj:=hf id (by simp);cases x1 with
   |sl e1 nl xs=>cases nl with
    |none=>rfl
    |some b=>cases b<;>cases xs<;>first|rfl|simp only[hj]
   |_=>rfl
  |_=>rfl
theorem JB{P:Program}{k0:Nat}{m:tB}{ρ ρ':Operand->AV}{σ σ':Nat->Ob}(hc:∀o:Operand,uD o=[]->ρ' o=ρ o)(hr:∀t∈oG m,ρ' (.tmp t)=ρ (.tmp t))
 (hf:∀id∈uh ρ m,σ' id=σ id):lK P k0 ρ' σ' m=lK P k0 ρ σ m:=by
 have one':∀o:Operand,(∀t∈uD o,ρ' (.tmp t)=ρ (.tmp t))->ρ' o=ρ o:=fun o h=>by
  cases o with
  |tmp t=>exact h t (by simp[uD])
  |_=>exact hc _ rfl
 have many:∀xs:List Operand,(∀t∈Bg xs,ρ' (.tmp t)=ρ (.tmp t))->xs.map ρ'=xs.map ρ:=fun xs h=>
  b_ fun o ho=>one' o fun t ht=>h t (dM.2 ⟨o,ho,ht⟩)
 have opt:∀(x:Option Operand)(d:Int),(∀t∈EZ x,ρ' (.tmp t)=ρ (.tmp t))->Db ρ' d x=Db ρ d x:=fun x d h=>by
  cases x with
  |none=>rfl
  |some o=>simp only[Db];rw[one' o h]
 cases m with
 |mv x|mA x|un _ x|conv _ x|PT _ x|len x|ext x _|xC _ x=>simp only[oG]at hr;simp only[lK];rw[one' x hr]
 |Fh id d t x=>rfl
 |wU id d t z=>rfl
 |box id t x=>simp only[oG]at hr;simp only[uh]at hf;simp only[lK,P9];rw[one' x hr,hf id (by simp)]
 |pick c a b=>
  simp only[oG,aI]at hr;simp only[lK];rw[one' c fun t h=>hr t (.inl (.inl h)),one' a fun t h=>hr t (.inl (.inr h)),one' b fun t h=>hr t (.inr h)]
 |alloc id t z=>simp only[uh]at hf;simp only[lK];rw[hf id (by simp)]
 |build z ps=>
  simp only[oG]at hr;simp only[lK];have:∀(ps:List (Nat×Nat×Operand))(cs:List AV),(∀t∈Bg (ps.map (·.2.2)),ρ' (.tmp t)=ρ (.tmp t))->tf ρ' cs ps=tf ρ cs ps:=by
   intro ps;induction ps with
   |nil=>intro cs _;rfl
   |cons p ps ih=>
    obtain⟨off,n,x⟩:=p;intro cs h;simp only[aX,Bg,bJ,aI]at h;simp only[tf];rw[one' x fun t ht=>h t (.inl ht)];cases(ρ x).cells with
    |none=>rfl
    |some xs=>simp only;split<;>first|exact ih _ (fun t ht=>h t (.inr ht))|rfl
  rw[this ps _ hr]
 |lQ id t e xs=>simp only[oG]at hr;simp only[uh]at hf;simp only[lK,P_];rw[many xs hr,hf id (by simp)]
 |Ek id t e xs=>simp only[oG]at hr;simp only[uh]at hf;simp only[lK,JO];rw[many xs hr,hf id (by simp)]
 |zX id t e xs=>simp only[oG]at hr;simp only[uh]at hf;simp only[lK,JM];rw[many xs hr,hf id (by simp)]
 |load n ag p=>
  simp only[oG]at hr;simp only[uh]at hf;simp only[lK];rw[one' p hr];unfold Kg;cases hp:ρ p with
  |ptr id off=>rw[hp]at hf;simp only;rw[hf id (by simp)]
  |lT id kk off=>rw[hp]at hf;simp only;rw[hf id (by simp)]
  |_=>rfl
 |store n p x=>
  simp only[oG,aI]at hr;simp only[uh]at hf;simp only[lK];rw[one' p fun t h=>hr t (.inl h),one' x fun t h=>hr t (.inr h)];unfold FX;cases hp:ρ p with
  |ptr id off=>rw[hp]at hf;simp only;rw[hf id (by simp)]
  |lT id kk off=>rw[hp]at hf;simp only;rw[hf id (by simp)]
  |_=>rfl
 |bin _ x y|C7 _ x y|max x y|min x y|tD _ x y|G_ _ _ x y=>
  simp only[oG,aI]at hr;simp only[lK];rw[one' x fun t h=>hr t (.inl h),one' y fun t h=>hr t (.inr h)]
 |z_ f first cap=>
  simp only[oG,aI]at hr;simp only[lK];rw[many first fun t h=>hr t (.inl h),many cap fun t h=>hr t (.inr h)]
 |Bc id t e bytes z tok l c=>rfl
 |Ae id t e bytes z tok l c=>
  simp only[oG,aI]at hr;simp only[lK];rw[one' l fun t h=>hr t (.inl h),one' c fun t h=>hr t (.inr h)]
 |za id t e bytes z tok l c=>
  simp only[oG,aI]at hr;simp only[uh]at hf;simp only[lK,Kk];rw[one' l fun t h=>hr t (.inl h),one' c fun t h=>hr t (.inr h),hf id (by simp)]
 |slc x e lo hi mx=>
  simp only[oG,aI]at hr;simp only[lK];rw[one' x fun t h=>hr t (.inl (.inl (.inl h)))];cases mx with
  |some m=>
   simp only[LV];rw[one' m fun t h=>hr t (.inr h)];cases hi with
   |none=>rfl
   |some hh=>simp only[YJ];rw[one' hh fun t h=>hr t (.inl (.inr h))]
  |none=>
   simp only[LV];rw[opt lo 0 fun t h=>hr t (.inl (.inl (.inr h)))];cases qO (ρ x)with
   |none=>rfl
   |some p=>simp only[KB];rw[opt hi _ fun t h=>hr t (.inl (.inr h))]
 |HF x e n lo hi mx=>
  simp only[oG,aI]at hr;simp only[lK,Kz];rw[one' x fun t h=>hr t (.inl (.inl h))];cases ρ x<;>cases lo<;>cases hi<;>cases mx<;>first
   |rfl
   |(rename_i q;simp only;rw[one' q fun t h=>hr t (.inr h)])
 |app id t e bytes x y=>
  simp only[oG,aI]at hr;simp only[lK];rw[one' x fun t h=>hr t (.inl h),one' y fun t h=>hr t (.inr h)];exact C2 hf
 |CD id t e bytes x y=>
  simp only[oG,aI]at hr;simp only[lK];rw[one' x fun t h=>hr t (.inl h),one' y fun t h=>hr t (.inr h)];unfold Gt;cases qO (ρ y)with
  |none=>rfl
  |some p=>
   simp only;have h0:C1 σ' id t e bytes k0 p.1 p.2 (ρ x)=C1 σ id t e bytes k0 p.1 p.2 (ρ x):=C2 (p:=some p) hf;simp only[uh]at hf;cases hx:ρ x with
   |d x1=>
    rw[hx]at hf h0;have hj:=hf id (by simp);cases x1 with
    |sl e1 nl xs=>cases nl with
     |none=>exact h0
     |some b=>cases b<;>cases xs<;>first|exact h0|simp only[Fc,hj]
    |_=>exact h0
   |_=>rw[hx]at h0;exact h0
 |iw f xs=>simp only[oG]at hr;simp only[lK];rw[many xs hr]
 |ug g xs=>
  simp only[oG,aI]at hr;simp only[lK];rw[one' g fun t h=>hr t (.inl h),many xs fun t h=>hr t (.inr h)]
 |dead=>rfl
 |PU _|HG _ _ _|Ex _ _=>rfl
def xA:List (Nat×Ob)->Nat->Option Ob
 |[],_=>none
 |(i,ob)::r,id=>match xA r id with
  |some x=>some x
  |none=>if id=i then some ob else none
theorem DW:∀(δ:List (Nat×Ob))(s:gL)(id:Nat),sat (qL s δ) id=(xA δ id).getD (sat s id)
 |[],_,_=>rfl
 |(i,ob)::r,s,id=>by
  rw[qL,DW r,jg,xA];cases xA r id with
  |some x=>rfl
  |none=>by_cases h:id=i<;>simp[h]
theorem EH:∀{δ:List (Nat×Ob)}{id:Nat},(xA δ id).isSome=true->id∈δ.map (·.1)
 |[],_,h=>by simp[xA]at h
 |(i,ob)::r,id,h=>by
  simp only[xA]at h;cases hr:xA r id with
  |some x=>exact dr _ (EH (by rw[hr];rfl))
  |none=>
   rw[hr]at h;by_cases hi:id=i
   ·simp[hi]
   ·simp[hi]at h
def Vc(σ:Nat->Ob)(pr mp:List fU):gL:=mp.map fun(c,j)=>(c,(σ j).kY (oI pr))
def Hp(t:gL)(all mp:List fU):List (Nat×Ob):=mp.map fun(c,j)=>(j,(sat t c).kY (nJ all))
theorem DX{t:gL}{all:List fU}:∀{mp:List fU}{s:gL},tj s t mp all=qL s (Hp t all mp)
 |[],_=>rfl
 |(c,j)::r,s=>by simp only[tj,Hp,aX,qL];exact DX
def R7(P:Program)(k0:Nat)(σ:Nat->Ob)(f:Nat)(args:List AV)(K:AV->List (Nat×Ob)->List Nat->Prop):Prop:=
 (∃dz:List D,ia (args.map fun x=>x.kY (oI [])) (dz.map .d)/\((∃r,iC P f dz r/\K (.d r) [] [])\/∃rs:List D,pn P f dz rs/\K (.nk (rs.map .d)) [] []))\/
 ∃(pr nw:List fU)(y:AV)(t:gL),pr.map (·.1)=List.range pr.length/\((pr++nw).map (·.1)).Nodup/\((pr++nw).map (·.2)).Nodup/\(∀p∈nw,σ p.2=.dead/\k0<=p.2)/\
  gN P f (args.map fun x=>x.kY (oI pr)) (Vc σ pr pr) pr.length (fun x s'=>x=y/\s'=t)/\K (y.kY (nJ (pr++nw))) (Hp t (pr++nw) (pr++nw)) ((pr++nw).map (·.2))
def Ak(P:Program)(k0:Nat)(σ:Nat->Ob)(R:AV->List (Nat×Ob)->List Nat->Prop):rz->Prop
 |.ok x δ=>R x δ []
 |.need p o=>p/\Ak P k0 σ R o
 |.br b o1 o2=>if b=true then Ak P k0 σ R o1 else Ak P k0 σ R o2
 |.call f args=>R7 P k0 σ f args R
 |.bad=>False
theorem AU{P:Program}{k0:Nat}{σ:Nat->Ob}{R:AV->List (Nat×Ob)->List Nat->Prop}:∀{o:rz},Ak P k0 σ R o->
 ∃x δ ex,Ak P k0 σ (fun x' δ' e'=>x'=x/\δ'=δ/\e'=ex) o/\R x δ ex
 |.ok x δ,h=>⟨x,δ,[],⟨rfl,rfl,rfl⟩,h⟩
 |.need p o,h=>by obtain⟨hp,h⟩:=h;obtain⟨x,δ,ex,h1,h2⟩:=AU h;exact⟨x,δ,ex,⟨hp,h1⟩,h2⟩
 |.br b o1 o2,h=>by
  simp only[Ak]at h⊢;split at h
  ·rename_i hb;obtain⟨x,δ,ex,h1,h2⟩:=AU h;exact⟨x,δ,ex,by rw[ah hb];exact h1,h2⟩
  ·rename_i hb;obtain⟨x,δ,ex,h1,h2⟩:=AU h;exact⟨x,δ,ex,by rw[az hb];exact h1,h2⟩
 |.call f args,h=>by
  rcases h with⟨ds,h1,h|h⟩|⟨pr,nw,y,t,h1,h2,h3,h4,h5,h6⟩
  ·obtain⟨r,h2,h3⟩:=h;exact⟨_,_,_,.inl ⟨ds,h1,.inl ⟨r,h2,rfl,rfl,rfl⟩⟩,h3⟩
  ·obtain⟨r,h2,h3⟩:=h;exact⟨_,_,_,.inl ⟨ds,h1,.inr ⟨r,h2,rfl,rfl,rfl⟩⟩,h3⟩
  ·exact⟨_,_,_,.inr ⟨pr,nw,y,t,h1,h2,h3,h4,h5,rfl,rfl,rfl⟩,h6⟩
 |.bad,h=>h.elim
theorem yb{P:Program}{k0:Nat}{σ σ':Nat->Ob}{x:AV}{δ:List (Nat×Ob)}{ex:List Nat}(hs:∀id∈ex,σ' id=σ id):∀{o:rz},
 Ak P k0 σ (fun x' δ' e'=>x'=x/\δ'=δ/\e'=ex) o->Ak P k0 σ' (fun x' δ' e'=>x'=x/\δ'=δ/\e'=ex) o
 |.ok x δ,h=>h
 |.need p o,h=>⟨h.1,yb hs h.2⟩
 |.br b o1 o2,h=>by
  simp only[Ak]at h⊢;split at h
  ·rename_i hb;rw[ah hb];exact yb hs h
  ·rename_i hb;rw[az hb];exact yb hs h
 |.call f args,h=>by
  rcases h with h|⟨pr,nw,y,t,h1,h2,h3,h4,h5,h6,h7,h8⟩
  ·exact .inl h
  ·subst h8;refine .inr ⟨pr,nw,y,t,h1,h2,h3,fun p hp=>?_,?_,h6,h7,rfl⟩
   ·rw[hs p.2 (a_.2 ⟨p,cT _ hp,rfl⟩)];exact h4 p hp
   ·have:Vc σ' pr pr=Vc σ pr pr:=b_ fun p hp=>by
     show(p.1,(σ' p.2).kY (oI pr))=(p.1,(σ p.2).kY (oI pr));rw[hs p.2 (a_.2 ⟨p,bz _ hp,rfl⟩)]
    rw[this];exact h5
 |.bad,h=>h.elim
theorem zF{P:Program}{k0:Nat}{R:AV->List (Nat×Ob)->List Nat->Prop}{K:AV->List AV->gL->Prop}{env:List AV}{s:gL}
 (hK:∀x δ ex,R x δ ex->K x env (qL s δ)):∀{o:rz},Ak P k0 (sat s) R o->runK P k0 K (o.out env s)
 |.ok x δ,h=>hK x δ _ h
 |.need p o,h=>⟨h.1,zF hK h.2⟩
 |.br b o1 o2,h=>by
  simp only[Ak]at h;simp only[rz.out,runK];split at h
  ·rename_i hb;rw[ah hb];exact zF hK h
  ·rename_i hb;rw[az hb];exact zF hK h
 |.call f args,h=>by
  rcases h with⟨ds,h1,h|h⟩|⟨pr,nw,y,t,h1,h2,h3,h4,h5,h6⟩
  ·obtain⟨r,h2,h3⟩:=h;exact zA (GF h1 h2 (hK _ _ _ h3))
  ·obtain⟨r,h2,h3⟩:=h;exact zA (EE h1 h2 (hK _ _ _ h3))
  ·refine zA ⟨pr,nw,_,h1,h2,h3,h4,h5,?_⟩;rintro x s' ⟨rfl,rfl⟩;rw[DX];exact hK _ _ _ h6
 |.bad,h=>h.elim
def gd(m:iH)(env:List AV):Option Bool:=match m.guard with
 |none=>some true
 |some (none,_)=>none
 |some (some d,want)=>match env.getD d .iB with
  |.d (.lit (.bool b))=>some (b==want)
  |.nk []=>some false
  |_=>none
def uc(P:Program)(k0:Nat)(F:List (List Nat×List Nat)->List AV->gL->Prop):List iH->List (List Nat×List Nat)->List AV->gL->Prop
 |[],acc,env,s=>F acc env s
 |m::ms,acc,env,s=>match gd m env with
  |none=>False
  |some true=>Ak P k0 (sat s) (fun x δ ex=>uc P k0 F ms ((ex++uh (ev env) m.op,δ.map (·.1))::acc) (iq m.dst env x) (qL s δ)) (lK P k0 (ev env) (sat s) m.op)
  |some false=>uc P k0 F ms (([],[])::acc) (iq m.dst env (.nk [])) s
def MC(P:Program)(k0:Nat)(m:iH)(env:List AV)(s:gL)(x:AV)(δ:List (Nat×Ob))(ft:List Nat×List Nat):Prop:=
 (gd m env=some true/\∃ex,Ak P k0 (sat s) (fun x' δ' e'=>x'=x/\δ'=δ/\e'=ex) (lK P k0 (ev env) (sat s) m.op)/\ft=(ex++uh (ev env) m.op,δ.map (·.1)))\/
 (gd m env=some false/\x=.nk []/\δ=[]/\ft=([],[]))
def T2(P:Program)(k0:Nat)(F:List (List Nat×List Nat)->List AV->gL->Prop)(ms:List iH)(acc:List (List Nat×List Nat))(env:List AV)(s:gL):Prop:=
 ∃(x:Nat->AV)(δ:Nat->List (Nat×Ob))(ft:Nat->List Nat×List Nat)(E:Nat->List AV)(S:Nat->gL),E 0=env/\S 0=s/\
  (∀i m,ms[i]?=some m->MC P k0 m (E i) (S i) (x i) (δ i) (ft i)/\E (i+1)=iq m.dst (E i) (x i)/\S (i+1)=qL (S i) (δ i))/\
  F (((List.range ms.length).map ft).reverse++acc) (E ms.length) (S ms.length)
theorem T2.cons{P:Program}{k0:Nat}{F:List (List Nat×List Nat)->List AV->gL->Prop}{m:iH}{ms:List iH}{acc:List (List Nat×List Nat)}{env:List AV}{s:gL}
 {x0:AV} {δ0:List (Nat×Ob)} {f0:List Nat×List Nat} (hs:MC P k0 m env s x0 δ0 f0) (h:T2 P k0 F ms (f0::acc) (iq m.dst env x0) (qL s δ0)):T2 P k0 F (m::ms) acc env s:=by
 obtain⟨x,δ,ft,E,S,hE,hS,h1,h2⟩:=h;refine⟨fun i=>Nat.casesOn i x0 x,fun i=>Nat.casesOn i δ0 δ,fun i=>Nat.casesOn i f0 ft,fun i=>Nat.casesOn i env E,fun i=>Nat.casesOn i s S,rfl,rfl,fun i m' hi=>?_,?_⟩
 ·cases i with
  |zero=>
   simp only[List.getElem?_cons_zero,aR]at hi;subst hi;exact⟨hs,hE,hS⟩
  |succ i=>exact h1 i m' (by simpa using hi)
 ·have:((List.range (m::ms).length).map fun i=>(Nat.casesOn i f0 ft:List Nat×List Nat)).reverse++acc=((List.range ms.length).map ft).reverse++(f0::acc):=by
   rw[ai,List.range_succ_eq_map,aX,dh,List.reverse_cons,aL];rfl
  rw[this];exact h2
theorem Cc{P:Program}{k0:Nat}{F:List (List Nat×List Nat)->List AV->gL->Prop}:∀{ms:List iH}{acc:List (List Nat×List Nat)}{env:List AV}{s:gL},
 uc P k0 F ms acc env s->T2 P k0 F ms acc env s
 |[],acc,env,s,h=>⟨fun _=>.iB,fun _=>[],fun _=>([],[]),fun _=>env,fun _=>s,rfl,rfl,fun i m hi=>by simp at hi,h⟩
 |m::ms,acc,env,s,h=>by
  simp only[uc]at h;split at h
  ·exact h.elim
  ·rename_i hg;obtain⟨x0,δ0,ex,h1,h2⟩:=AU h;exact T2.cons (.inl ⟨hg,ex,h1,rfl⟩) (Cc h2)
  ·rename_i hg;exact T2.cons (x0:=.nk []) (δ0:=[]) (.inr ⟨hg,rfl,rfl,rfl⟩) (Cc h)
def gl{β:Type}(f:Nat->Option β)(L:Nat->Bool)(b:β):Nat->β
 |0=>b
 |n+1=>if L n=true then(f n).getD (gl f L b n)else gl f L b n
theorem u_{β:Type}{f:Nat->Option β}{L L':Nat->Bool}{b:β}:∀{n:Nat},(∀j,j<n->(f j).isSome=true->L j=L' j)->gl f L b n=gl f L' b n
 |0,_=>rfl
 |n+1,h=>by
  have ih:=u_ (b:=b) (n:=n) fun j hj=>h j gB
  simp only[gl];rw[ih];cases hf:f n with
  |none=>simp
  |some v=>rw[h n gB (by rw[hf];rfl)]
theorem IV{β:Type}{f:Nat->Option β}{L:Nat->Bool}{b v:β}{i:Nat}(hf:f i=some v)(hL:L i=true):
 ∀{n:Nat},i<n->(∀j,i<j->j<n->(f j).isSome=true->L j=false)->gl f L b n=v
 |0,hi,_=>by omega
 |n+1,hi,h=>by
  simp only[gl];by_cases hin:i=n
  ·subst hin;rw[ah hL,hf];rfl
  ·have ih:=IV (b:=b) hf hL (n:=n) gB fun j h1 h2=>h j h1 gB
   cases hn:f n with
   |none=>simp[ih]
   |some u=>rw[h n gB gB (by rw[hn];rfl)];simpa using ih
theorem BT{β:Type}{f:Nat->Option β}{b:β}{i:Nat}:∀{n:Nat},i<=n->gl f (fun j=>decide (j<i)) b n=gl f (fun _=>true) b i
 |0,h=>by
  have:i=0:=by omega
  subst this;rfl
 |n+1,h=>by
  by_cases hi:i=n+1
  ·subst hi;exact u_ fun j hj _=>by simp[hj]
  ·simp only[gl];rw[az (by simp;omega)];exact BT gB
def Ym(m:iH):List Nat:=oG m.op++(match m.guard with|some (some g,_)=>[g]|_=>[])
def BU(xs ys:List Nat):Bool:=xs.any fun x=>ys.contains x
def Cg(m m':iH)(f f':List Nat×List Nat):Bool:=
 BU m'.dst.toList (Ym m)||BU m.dst.toList (Ym m')||BU m.dst.toList m'.dst.toList||BU f.2 f'.1||BU f'.2 f.1||BU f.2 f'.2
def Ul(after:List gv):List gv:=after.foldl (fun T a=>T++[(a++a.flatMap fun e=>T.getD e []).eraseDups]) []
def AQ(after B:List gv):Bool:=
 ((List.range after.length).all fun i=>(after.getD i []).all fun e=>decide (e<i))&&
 (List.range B.length).all fun i=>(B.getD i []).all fun j=>(after.getD i []).contains j||(after.getD i []).any fun e=>decide (e<i)&&(B.getD e []).contains j
def TH(ms:List iH)(B:List gv)(fts:List (List Nat×List Nat)):Bool:=
 (List.range ms.length).all fun i=>(List.range i).all fun j=>match ms[i]?,ms[j]? with
  |some m,some m'=>!Cg m m' (fts.getD i ([],[])) (fts.getD j ([],[]))||(B.getD i []).contains j
  |_,_=>false
def Aj(ms:List iH)(after:List gv)(fts:List (List Nat×List Nat)):Bool:=AQ after (Ul after)&&TH ms (Ul after) fts
theorem Cf{after B:List gv}(h:AQ after B=true){L:Nat->Bool}(hL:∀i,L i=true->∀e∈after.getD i [],L e=true):
 ∀(i:Nat),(∀e∈after.getD i [],L e=true)->∀j∈B.getD i [],L j=true:=by
 simp only[AQ,bF,cH,fc,eR,fJ,ak,List.contains_iff_mem]at h;intro i;induction i using Nat.strongRecOn with
 |ind i ih=>
  intro ha j hj;have hi:i<B.length:=by
   rcases cB i B.length with h'|h'
   ·exact h'
   ·rw[av,bI h']at hj;simp at hj
  rcases h.2 i hi j hj with h1|⟨e,he,hlt,hje⟩
  ·exact ha j h1
  ·exact ih e hlt (hL e (ha e he)) j hje
def Mw(L:Nat->Bool):Nat->Nat
 |0=>0
 |n+1=>Mw L n+(match L n with|true=>0|false=>1)
theorem KJ{L L':Nat->Bool}{i:Nat}(h1:L i=false)(h2:L' i=true)(h:∀j,j≠i->L' j=L j):∀{n:Nat},(n<=i->Mw L' n=Mw L n)/\(i<n->Mw L' n+1=Mw L n)
 |0=>⟨fun _=>rfl,fun h=>by omega⟩
 |n+1=>by
  obtain⟨ih1,ih2⟩:=KJ (n:=n) h1 h2 h;refine⟨fun hn=>?_,fun hn=>?_⟩
  ·simp only[Mw];rw[ih1 gB,h n gB]
  ·simp only[Mw];by_cases hin:n=i
   ·subst hin;rw[ih1 gB,h1,h2];simp
   ·rw[h n hin];have:=ih2 gB;omega
theorem HT{L:Nat->Bool}:∀{n:Nat},Mw L n=0->∀j,j<n->L j=true
 |0,_,j,hj=>by omega
 |n+1,h,j,hj=>by
  simp only[Mw]at h;by_cases hn:j=n
  ·subst hn;cases hL:L j with
   |true=>rfl
   |false=>rw[hL]at h;simp at h
  ·exact HT (n:=n) gB j gB
def fs(d:Nat->Option Nat)(x:Nat->AV)(t:Nat)(j:Nat):Option AV:=if d j=some t then some (x j)else none
theorem EO{d:Option Nat}{env:List AV}{x:AV}{t:Nat}(ht:t<env.length):(iq d env x).getD t .iB=if d=some t then x else env.getD t .iB:=by
 cases d with
 |none=>simp[iq]
 |some d=>
  simp only[iq,av,cO,aR];by_cases h:d=t
  ·subst h;simp[ht]
  ·simp[h]
theorem Cr{d:Option Nat}{env:List AV}{x:AV}:(iq d env x).length=env.length:=by cases d<;>simp[iq]
structure rJ(P:Program)(k0:Nat)(ms:List iH)(after:List gv)(x:Nat->AV)(δ:Nat->List (Nat×Ob))(ft:Nat->List Nat×List Nat)
 (E:Nat->List AV) (S:Nat->gL):Prop where
 step:∀i m,ms[i]?=some m->MC P k0 m (E i) (S i) (x i) (δ i) (ft i)/\E (i+1)=iq m.dst (E i) (x i)/\S (i+1)=qL (S i) (δ i)
 ok:Aj ms after ((List.range ms.length).map ft)=true
def EI(ms:List iH)(j:Nat):Option Nat:=(ms[j]?).bind (·.dst)
section
variable{P:Program}{k0:Nat}{ms:List iH}{after:List gv}{x:Nat->AV}{δ:Nat->List (Nat×Ob)}{ft:Nat->List Nat×List Nat}
 {E:Nat->List AV} {S:Nat->gL}
theorem rJ.len(h:rJ P k0 ms after x δ ft E S):∀{i:Nat},i<=ms.length->(E i).length=(E 0).length
 |0,_=>rfl
 |i+1,hi=>by
  have hm:ms[i]?=some ms[i]:=aB gB;rw[(h.step i _ hm).2.1,Cr,h.len gB]
theorem rJ.slot(h:rJ P k0 ms after x δ ft E S){t:Nat}(ht:t<(E 0).length):∀{i:Nat},i<=ms.length->
 (E i).getD t .iB=gl (fs (EI ms) x t) (fun _=>true) ((E 0).getD t .iB) i
 |0,_=>rfl
 |i+1,hi=>by
  have hm:ms[i]?=some ms[i]:=aB gB;rw[(h.step i _ hm).2.1,EO (by rw[h.len gB];exact ht),h.slot ht gB];simp only[gl,aH,fs,EI,hm,aa];split<;>rfl
theorem rJ.obj(h:rJ P k0 ms after x δ ft E S)(id:Nat):∀{i:Nat},i<=ms.length->
 sat (S i) id=gl (fun j=>xA (δ j) id) (fun _=>true) (sat (S 0) id) i
 |0,_=>rfl
 |i+1,hi=>by
  have hm:ms[i]?=some ms[i]:=aB gB;rw[(h.step i _ hm).2.2,DW,h.obj id gB];simp only[gl,aH]
structure Eh(E:Nat->List AV)(S:Nat->gL)(ms:List iH)(x:Nat->AV)(δ:Nat->List (Nat×Ob))(L:Nat->Bool)(env:List AV)(s:gL):Prop where
 len:env.length=(E 0).length
 slot:∀t,t<(E 0).length->env.getD t .iB=gl (fs (EI ms) x t) L ((E 0).getD t .iB) ms.length
 obj:∀id,sat s id=gl (fun j=>xA (δ j) id) L (sat (S 0) id) ms.length
theorem rJ.ord(h:rJ P k0 ms after x δ ft E S){i j:Nat}{m m':iH}(hi:ms[i]?=some m)(hj:ms[j]?=some m')(hji:j<i)
 (hc:Cg m m' (ft i) (ft j)=true):j∈(Ul after).getD i []:=by
 have hl:i<ms.length:=(aP.1 hi).1;have:=h.ok;simp only[Aj,bF,TH,cH,fc]at this;have:=this.2 i hl j hji;rw[hi,hj]at this;have e1:((List.range ms.length).map ft).getD i ([],[])=ft i:=by simp[av,hl]
 have e2:((List.range ms.length).map ft).getD j ([],[])=ft j:=by simp[av,show j<ms.length by omega]
 rw[e1,e2]at this;simpa[hc]using this
theorem rJ.before(h:rJ P k0 ms after x δ ft E S){L:Nat->Bool}(hL:∀i,L i=true->∀e∈after.getD i [],L e=true){i:Nat}{m:iH}(hi:ms[i]?=some m)
 (hu:L i=false) (hr:∀e∈after.getD i [],L e=true) {j:Nat} {m':iH} (hj:ms[j]?=some m') (hne:j≠i) (hc:Cg m m' (ft i) (ft j)=true/\Cg m' m (ft j) (ft i)=true):
 L j=decide (j<i):=by
 have hcl:=h.ok;simp only[Aj,bF]at hcl;rcases cB j i with hlt|hge
 ·rw[Cf hcl.1 hL i hr j (h.ord hi hj hlt hc.1)];simp[hlt]
 ·have hlt:i<j:=by omega
  have hb:=h.ord hj hi hlt hc.2;cases hLj:L j with
  |false=>simp;omega
  |true=>
   have:=Cf hcl.1 hL j (hL j hLj) i hb;rw[hu]at this;cases this
theorem zJ{xs ys:List Nat}{a:Nat}(h1:a∈xs)(h2:a∈ys):BU xs ys=true:=fJ.2 ⟨a,h1,by simpa using h2⟩
theorem IP{j t:Nat}(h:(fs (EI ms) x t j).isSome=true):∃m',ms[j]?=some m'/\m'.dst=some t:=by
 unfold fs at h;split at h
 ·rename_i hd;unfold EI at hd;cases hm:ms[j]? with
  |none=>rw[hm]at hd;cases hd
  |some m'=>rw[hm]at hd;exact⟨m',rfl,hd⟩
 ·cases h
theorem rJ.write(h:rJ P k0 ms after x δ ft E S){j id:Nat}{m':iH}(hj:ms[j]?=some m')(hw:(xA (δ j) id).isSome=true):id∈(ft j).2:=by
 have:=(h.step j m' hj).1;rcases this with⟨_,_,_,h3⟩|⟨_,_,h3,_⟩
 ·rw[h3];exact EH hw
 ·rw[h3]at hw;cases hw
theorem rJ.reads(h:rJ P k0 ms after x δ ft E S){L:Nat->Bool}(hL:∀i,L i=true->∀e∈after.getD i [],L e=true){i:Nat}{m:iH}(hi:ms[i]?=some m)
 (hu:L i=false) (hr:∀e∈after.getD i [],L e=true) {env:List AV} {s:gL} (hb:Eh E S ms x δ L env s) {t:Nat} (ht:t∈Ym m):env.getD t .iB=(E i).getD t .iB:=by
 have hil:i<ms.length:=(aP.1 hi).1;by_cases hlt:t<(E 0).length
 ·rw[hb.slot t hlt,h.slot hlt (i:=i) gB,<-BT (Nat.le_of_lt hil)];refine u_ fun j hj hs=>?_
  by_cases hne:j=i
  ·subst hne;rw[hu];simp
  ·obtain⟨m',hm',hd⟩:=IP hs;refine h.before hL hi hu hr hm' hne ?_;have:BU m'.dst.toList (Ym m)=true:=zJ (a:=t) (by rw[hd];simp) ht;simp[Cg,this]
 ·have e1:env.getD t .iB=.iB:=by rw[av,bI (by rw[hb.len];omega)];rfl
  have e2:(E i).getD t .iB=.iB:=by rw[av,bI (by rw[h.len gB];omega)];rfl
  rw[e1,e2]
theorem rJ.looks(h:rJ P k0 ms after x δ ft E S){L:Nat->Bool}(hL:∀i,L i=true->∀e∈after.getD i [],L e=true){i:Nat}{m:iH}(hi:ms[i]?=some m)
 (hu:L i=false) (hr:∀e∈after.getD i [],L e=true) {env:List AV} {s:gL} (hb:Eh E S ms x δ L env s) {id:Nat} (hid:id∈(ft i).1):sat s id=sat (S i) id:=by
 have hil:i<ms.length:=(aP.1 hi).1;rw[hb.obj id,h.obj id (i:=i) gB,<-BT (Nat.le_of_lt hil)];refine u_ fun j hj hs=>?_
 by_cases hne:j=i
 ·subst hne;rw[hu];simp
 ·have hm':ms[j]?=some ms[j]:=aB hj;refine h.before hL hi hu hr hm' hne ?_;have:BU (ft j).2 (ft i).1=true:=zJ (a:=id) (h.write hm' hs) hid;simp[Cg,this]
theorem rJ.next(h:rJ P k0 ms after x δ ft E S){L L':Nat->Bool}(hL:∀i,L i=true->∀e∈after.getD i [],L e=true){i:Nat}{m:iH}(hi:ms[i]?=some m)
 (hu:L i=false) (hr:∀e∈after.getD i [],L e=true) (hi':L' i=true) (hn:∀j,j≠i->L' j=L j) {env:List AV} {s:gL} (hb:Eh E S ms x δ L env s):
 Eh E S ms x δ L' (iq m.dst env (x i)) (qL s (δ i)):=by
 have hil:i<ms.length:=(aP.1 hi).1;refine⟨by rw[Cr,hb.len],fun t ht=>?_,fun id=>?_⟩
 ·rw[EO (by rw[hb.len];exact ht)];split
  ·rename_i hd;refine(IV (i:=i) (by simp[fs,EI,hi,hd]) hi' hil fun j hij hj hs=>?_).symm;obtain⟨m',hm',hd'⟩:=IP hs;have:BU m.dst.toList m'.dst.toList=true:=zJ (a:=t) (by rw[hd];simp) (by rw[hd'];simp);have this':BU m'.dst.toList m.dst.toList=true:=zJ (a:=t) (by rw[hd'];simp) (by rw[hd];simp);rw[hn j gB,h.before hL hi hu hr hm' gB (by simp[Cg,this,this'])];simp;omega
  ·rename_i hd;rw[hb.slot t ht];refine u_ fun j hj hs=>?_
   by_cases hne:j=i
   ·subst hne;obtain⟨m',hm',hd'⟩:=IP hs;rw[hi]at hm';cases hm';exact absurd hd' hd
   ·rw[hn j hne]
 ·rw[DW];cases hd:xA (δ i) id with
  |some ob=>
   refine(IV (i:=i) hd hi' hil fun j hij hj hs=>?_).symm;have hm':ms[j]?=some ms[j]:=aB hj;have a1:=h.write hm' hs;have a2:=h.write hi (by rw[hd];rfl:(xA (δ i) id).isSome=true);have:BU (ft i).2 (ft j).2=true:=zJ a2 a1;have this':BU (ft j).2 (ft i).2=true:=zJ a1 a2;rw[hn j gB,h.before hL hi hu hr hm' gB (by simp[Cg,this,this'])];simp;omega
  |none=>
   simp only[Option.getD_none];rw[hb.obj id];refine u_ fun j hj hs=>?_
   by_cases hne:j=i
   ·subst hne;rw[hd]at hs;cases hs
   ·rw[hn j hne]
theorem rJ.run(h:rJ P k0 ms after x δ ft E S){L:Nat->Bool}(hL:∀i,L i=true->∀e∈after.getD i [],L e=true){i:Nat}{m:iH}(hi:ms[i]?=some m)
 (hu:L i=false) (hr:∀e∈after.getD i [],L e=true) {env:List AV} {s:gL} (hb:Eh E S ms x δ L env s):
 match m.guard with
  |none=>qo P k0 m.op env s fun x' env' s'=>iq m.dst env' x'=iq m.dst env (x i)/\s'=qL s (δ i)
  |some (g,want)=>match g with
   |none=>iq m.dst env (.nk [])=iq m.dst env (x i)/\s=qL s (δ i)
   |some d=>match env.getD d .iB with
    |.d (.lit (.bool b))=>Br b want (qo P k0 m.op env s fun x' env' s'=>iq m.dst env' x'=iq m.dst env (x i)/\s'=qL s (δ i)) (iq m.dst env (.nk [])=iq m.dst env (x i)/\s=qL s (δ i))
    |.nk []=>iq m.dst env (.nk [])=iq m.dst env (x i)/\s=qL s (δ i)
    |_=>False:=by
 have hs:=(h.step i m hi).1;have run:(∃ex,Ak P k0 (sat (S i)) (fun x' δ' e'=>x'=x i/\δ'=δ i/\e'=ex) (lK P k0 (ev (E i)) (sat (S i)) m.op)/\ft i=(ex++uh (ev (E i)) m.op,(δ i).map (·.1)))->
  qo P k0 m.op env s fun x' env' s'=>iq m.dst env' x'=iq m.dst env (x i)/\s'=qL s (δ i):=fun⟨ex,hd,hf⟩=>by
  have hc:lK P k0 (ev env) (sat s) m.op=lK P k0 (ev (E i)) (sat (S i)) m.op:=by
   refine JB (fun o ho=>?_) (fun t ht=>?_) (fun id hid=>?_)
   ·cases o with
    |tmp t=>simp[uD]at ho
    |_=>rfl
   ·simpa only[ev]using h.reads hL hi hu hr hb (t:=t) (bz _ ht)
   ·exact h.looks hL hi hu hr hb (by rw[hf];exact cT _ hid)
  rw[<-hc]at hd;replace hd:=yb (σ':=sat s) (fun id hid=>h.looks hL hi hu hr hb (by rw[hf];exact bz _ hid)) hd;exact HU (L8 (zF (K:=fun x' env' s'=>iq m.dst env' x'=iq m.dst env (x i)/\s'=qL s (δ i)) (fun x' δ' e' hx=>by
   obtain⟨rfl,rfl,_⟩:=hx;exact⟨rfl,rfl⟩) hd))
 cases hg:m.guard with
 |none=>
  rcases hs with⟨_,h2⟩|⟨h1,_⟩
  ·exact run h2
  ·simp[gd,hg]at h1
 |some p=>
  obtain⟨g,want⟩:=p;cases g with
  |none=>rcases hs with⟨h1,_⟩|⟨h1,_⟩<;>simp[gd,hg]at h1
  |some d=>
   have he:env.getD d .iB=(E i).getD d .iB:=h.reads hL hi hu hr hb (by simp[Ym,hg]);simp only;rw[he];have hgd:gd m (E i)=(match(E i).getD d .iB with|.d (.lit (.bool b))=>some (b==want)|.nk []=>some false|_=>none):=by simp only[gd,hg]
   rcases hs with⟨h1,h2⟩|⟨h1,h2,h3,_⟩
   ·rw[hgd]at h1;split at h1
    ·rename_i b hb';simp only[aR,cN]at h1;simp only[Br,ah h1];exact run h2
    ·cases h1
    ·cases h1
   ·rw[hgd]at h1;split at h1
    ·rename_i b hb';simp only[aR,dO,ne_eq]at h1;simp only[Br,az h1];rw[h2,h3];exact⟨rfl,rfl⟩
    ·rw[h2,h3];exact⟨rfl,rfl⟩
    ·cases h1
end
theorem LC{P:Program}{c:Code}{ms:List iH}{after:List gv}(h:oJ P c=some (.draw ms after)):
 ∃id ops,c=.region id ops true/\ops.toList.mapM (ve P ops)=some ms/\after=ops.toList.map fun o=>(o.after.toList.filter (Region.binds .any)).map (·.on):=by
 cases c<;>simp[oJ,aC,aF]at h⊢
 case region id' ops' d'=>
  obtain⟨ms',h1,h⟩:=h;split at h
  ·rename_i hd;simp only[gH.draw.injEq]at h;obtain⟨rfl,rfl⟩:=h;exact⟨id',ops',⟨rfl,rfl,hd⟩,h1,rfl⟩
  ·cases h
theorem DO{α β:Type}{f:α->Option β}:∀{xs:List α}{ys:List β},xs.mapM f=some ys->ys.length=xs.length/\∀(i:Nat)(x:α),xs[i]?=some x->∃y,ys[i]?=some y/\f x=some y
 |[],ys,h=>by simp at h;subst h;simp
 |x::xs,ys,h=>by
  simp only[cZ,dx,aC]at h;obtain⟨y,h1,ys',h2,h3⟩:=h;cases h3;obtain⟨e1,e2⟩:=DO h2;refine⟨by simp[e1],fun i u hu=>?_⟩;cases i with
  |zero=>simp at hu;subst hu;exact⟨y,rfl,h1⟩
  |succ i=>simpa using e2 i u (by simpa using hu)
theorem Eh.env{E:Nat->List AV}{S:Nat->gL}{ms:List iH}{x:Nat->AV}{δ:Nat->List (Nat×Ob)}{L L':Nat->Bool}{env:List AV}{s:gL}
 (h:Eh E S ms x δ L env s) (hL:∀j,j<ms.length->L j=L' j):Eh E S ms x δ L' env s:=
 ⟨h.len,fun t ht=>by rw[h.slot t ht];exact u_ fun j hj _=>hL j hj,fun id=>by rw[h.obj id];exact u_ fun j hj _=>hL j hj⟩
theorem GM{P:Program}{C:Ctx}{ops:Array Oper}{Q:Post}{ms:List iH}{after:List gv}{x:Nat->AV}{δ:Nat->List (Nat×Ob)}{ft:Nat->List Nat×List Nat}
 {E:Nat->List AV} {S:Nat->gL} (hm:ops.toList.mapM (ve P ops)=some (ms.map iH.erase)) (ha:after=ops.toList.map fun o=>(o.after.toList.filter (Region.binds .any)).map (·.on))
 (h:rJ P C.k ms after x δ ft E S) (hQ:Q .normal (E ms.length) (S ms.length)):
 ∀(fuel:Nat)(listed:Array Bool)(env:List AV)(s:gL)(β:gU)(a:Act)(w:World),listed.size=ops.size->Mw (fun j=>listed.getD j false) ops.size<=fuel->
  (∀i,listed.getD i false=true->∀e∈after.getD i [],listed.getD e false=true)->Eh E S ms x δ (fun j=>listed.getD j false) env s->St C β env s a w->
  wpAnyIn C.uX 0 P .any ops (fun e a' w'=>∃C',Ext C C'/\∃β' env' s',St C' β' env' s' a' w'/\Q e env' s') fuel listed a w:=by
 obtain⟨hlen,hget⟩:=DO hm;rw[aM]at hlen;have hsz:ms.length=ops.size:=by rw[hlen];simp
 have haf:∀i o,ops[i]?=some o->after.getD i []=(o.after.toList.filter (Region.binds .any)).map (·.on):=fun i o ho=>by rw[ha,av,bq,Array.getElem?_toList,ho];rfl
 have hback:∀i,∀e∈after.getD i [],e<i:=fun i e he=>by
  have hc:=h.ok;simp only[Aj,AQ,bF,cH,fc,ak]at hc;have hi:i<after.length:=by
   rcases cB i after.length with h'|h'
   ·exact h'
   ·rw[av,bI h']at he;simp at he
  exact hc.1.1 i hi e he
 have isReady:∀{listed:Array Bool},listed.size=ops.size->∀{i:Nat},i<ops.size->listed.getD i false=false->(∀e∈after.getD i [],listed.getD e false=true)->
  i∈Region.ready .any ops listed:=fun{listed} hs {i} hi hu hr=>by
  rw[mem_ready];have ho:ops[i]?=some ops[i]:=cS hi;refine⟨?_,_,ho,fun e he hb=>hr _ ?_⟩
  ·have:i<listed.size:=by omega
   simpa[this]using hu
  ·rw[haf i _ ho];exact a_.2 ⟨e,dG.2 ⟨by simpa using he,hb⟩,rfl⟩
 have all:∀{listed:Array Bool},listed.size=ops.size->Region.ready .any ops listed=[]->∀i,i<ops.size->listed.getD i false=true:=fun{listed} hs hn i=>by
  induction i using Nat.strongRecOn with
  |ind i ih=>
   intro hi;cases hu:listed.getD i false with
   |true=>rfl
   |false=>
    have:=isReady hs hi hu fun e he=>ih e (hback i e he) (by have:=hback i e he;omega)
    rw[hn]at this;cases this
 have done:∀{listed:Array Bool}{env:List AV}{s:gL}{β:gU}{a:Act}{w:World},(∀i,i<ops.size->listed.getD i false=true)->
  Eh E S ms x δ (fun j=>listed.getD j false) env s->St C β env s a w->∃C',Ext C C'/\∃β' env' s',St C' β' env' s' a w/\Q .normal env' s':=fun{listed env s β a w} hall hb hst=>by
  have hb':=hb.env (L':=fun _=>true) fun j hj=>hall j gB
  have e1:env=E ms.length:=by
   refine dJ fun t=>?_
   by_cases ht:t<(E 0).length
   ·have h1:=hb'.slot t ht;rw[<-h.slot ht (ay _)]at h1;have l1:t<env.length:=by rw[hb'.len];exact ht
    have l2:t<(E ms.length).length:=by rw[h.len (ay _)];exact ht
    rw[av,av,aB l1,aB l2]at h1;rw[aB l1,aB l2];simpa using h1
   ·rw[bI (by rw[hb'.len];omega),bI (by rw[h.len (ay _)];omega)]
  have e2:∀id,sat s id=sat (S ms.length) id:=fun id=>by rw[hb'.obj id,<-h.obj id (ay _)]
  rw[<-e1]at hQ;obtain⟨β',h1⟩:=gT.VB (k:=C.k) (env:=env) e2 C β a w rfl hst;exact⟨C,.refl C,β',env,_,h1,hQ⟩
 intro fuel;induction fuel with
 |zero=>
  intro listed env s β a w hs hf hd hb hst;have hall:=HT (Nat.le_zero.1 hf);refine⟨?_,done hall hb hst⟩;cases hr:Region.ready .any ops listed with
  |nil=>rfl
  |cons i rs=>
   have hi:i∈Region.ready .any ops listed:=by rw[hr];exact fC
   obtain⟨h1,o,ho,_⟩:=mem_ready.1 hi;have hl:i<ops.size:=(bA.1 ho).1;have h2:=hall i hl;have:i<listed.size:=by omega
   simp[this]at h1 h2;rw[h1]at h2;cases h2
 |succ fuel ih=>
  intro listed env s β a w hs hf hd hb hst;refine⟨fun hn=>done (all hs hn) hb hst,fun i hi=>?_⟩;obtain⟨h1,o,ho,hall⟩:=mem_ready.1 hi;have hl:i<ops.size:=(bA.1 ho).1;have hll:i<listed.size:=by omega
  have hu:listed.getD i false=false:=by simp[hll]at h1⊢;exact h1
  have hr:∀e∈after.getD i [],listed.getD e false=true:=fun e he=>by
   rw[haf i o ho]at he;obtain⟨d,hd1,rfl⟩:=a_.1 he;obtain⟨hd2,hd3⟩:=dG.1 hd1;exact hall d (by simpa using hd2) hd3
  obtain⟨m0,hmi0,hmo⟩:=hget i o (by simpa using ho);rw[bq]at hmi0;obtain⟨m,hmi,rfl⟩:=aF.1 hmi0;unfold wpOpIn;rw[ho];simp only;refine Cp (K:=fun env' s'=>env'=iq m.dst env (x i)/\s'=qL s (δ i)) hmo (h.run hd hmi hu hr hb) hst fun β' env' s' a' w' h4 h5=>?_
  obtain⟨rfl,rfl⟩:=h5;have hset:∀j,j≠i->(listed.setIfInBounds i true).getD j false=listed.getD j false:=fun j hj=>getD_set_ne false (Ne.symm hj)
  have hone:(listed.setIfInBounds i true).getD i false=true:=by simp[hll]
  refine ih _ _ _ β' a' w' (by simpa using hs) ?_ (fun j hj e he=>?_) (h.next hd hmi hu hr hone hset hb) h4
  ·have:=(KJ (L:=fun j=>listed.getD j false) (L':=fun j=>(listed.setIfInBounds i true).getD j false) hu hone hset (n:=ops.size)).2 hl;omega
  ·by_cases hji:j=i
   ·subst hji;exact getD_set_true (hr e he)
   ·rw[hset j hji]at hj;exact getD_set_true (hd j hj e he)
theorem UM{P:Program}{k:Nat}{Q:Post}{env:List AV}{s:gL}{ms:List iH}{after:List gv}(hP:P.follows .mixedOrders=true)
 (h:uc P k (fun acc env s=>Aj ms after acc.reverse=true/\Q .normal env s) ms [] env s):pG P k (.draw ms after) Q env s:=fun C hC _ c hc β a w hst=>by
 obtain⟨id,ops,rfl,hm,ha⟩:=LC hc;subst hC;obtain⟨x,δ,ft,E,S,hE,hS,h1,h2,h3⟩:=Cc h;rw[bg,List.reverse_reverse]at h2;obtain⟨hlen,_⟩:=DO hm;rw[aM]at hlen;have hrep:∀j,(Array.replicate ops.size false).getD j false=false:=fun j=>by
  rw[cp,Array.getElem?_replicate];split<;>rfl
 have g0:∀{β:Type}{f:Nat->Option β}{b:β}(n:Nat),gl f (fun j=>(Array.replicate ops.size false).getD j false) b n=b:=fun{β f b} n=>by
  induction n with
  |zero=>rfl
  |succ n ih=>simp only[gl];rw[az (by rw[hrep];simp)];exact ih
 have hu:∀n,Mw (fun j=>(Array.replicate ops.size false).getD j false) n<=n:=fun n=>by
  induction n with
  |zero=>exact ay _
  |succ n ih=>simp only[Mw];rw[hrep];simp only;omega
 refine wpIn_region_any hP (GM hm ha ⟨h1,h2⟩ h3 ops.size _ env s β a _ (by simp) (hu _) (fun i hi=>?_) ⟨by rw[hE],fun t ht=>?_,fun id'=>?_⟩ hst.drew)
 ·rw[hrep]at hi;cases hi
 ·rw[g0,hE]
 ·rw[g0,hS]
def xO(ms:List iH)(after:List gv)(Q:Post)(acc:List (List Nat×List Nat))(env:List AV)(s:gL):Prop:=
 Aj ms after acc.reverse=true/\Q .normal env s
def kf(P:Program)(k0:Nat)(F:List (List Nat×List Nat)->List AV->gL->Prop)(ms:List iH)(acc:List (List Nat×List Nat))(foot:List Nat)(d:Option Nat)(env:List AV)(s:gL)
 (o:rz):Prop:=Ak P k0 (sat s) (fun x δ ex=>uc P k0 F ms ((ex++foot,δ.map (·.1))::acc) (iq d env x) (qL s δ)) o
def lq(P:Program)(k0:Nat)(F:List (List Nat×List Nat)->List AV->gL->Prop)(ms:List iH)(acc:List (List Nat×List Nat))(foot:List Nat)(d:Option Nat)(env:List AV)(s:gL)
 (f:Nat) (args:List AV):Prop:=R7 P k0 (sat s) f args fun x δ ex=>uc P k0 F ms ((ex++foot,δ.map (·.1))::acc) (iq d env x) (qL s δ)
def xP(P:Program)(k0:Nat)(F:List (List Nat×List Nat)->List AV->gL->Prop)(ms:List iH)(acc:List (List Nat×List Nat))(foot:List Nat)(d:Option Nat)(env:List AV)(s:gL)
 (b:Bool) (o1 o2:rz):Prop:=if b=true then kf P k0 F ms acc foot d env s o1 else kf P k0 F ms acc foot d env s o2
def wu(P:Program)(k0:Nat)(F:List (List Nat×List Nat)->List AV->gL->Prop)(b want:Bool)(m:tB)(d:Option Nat)(ms:List iH)(acc:List (List Nat×List Nat))(env:List AV)(s:gL):Prop:=
 if b=want then kf P k0 F ms acc (uh (ev env) m) d env s (lK P k0 (ev env) (sat s) m)else uc P k0 F ms (([],[])::acc) (iq d env (.nk [])) s
def Vn(P:Program)(k0:Nat)(F:List (List Nat×List Nat)->List AV->gL->Prop)(want:Bool)(m:tB)(d:Option Nat)(ms:List iH)(acc:List (List Nat×List Nat))(env:List AV)(s:gL):AV->Prop
 |.d (.lit (.bool b))=>wu P k0 F b want m d ms acc env s
 |.nk []=>uc P k0 F ms (([],[])::acc) (iq d env (.nk [])) s
 |_=>False
section
variable{P:Program}{k0:Nat}{F:List (List Nat×List Nat)->List AV->gL->Prop}{b want:Bool}{m:tB}{d:Option Nat}{ms:List iH}{env:List AV}{s:gL}
 {acc:List (List Nat×List Nat)} {foot:List Nat}
theorem RO:uc P k0 F [] acc env s=F acc env s:=(rfl)
theorem L_:uc P k0 F (⟨d,m,none⟩::ms) acc env s=kf P k0 F ms acc (uh (ev env) m) d env s (lK P k0 (ev env) (sat s) m):=(rfl)
theorem L9{g:Nat}:uc P k0 F (⟨d,m,some (some g,want)⟩::ms) acc env s=Vn P k0 F want m d ms acc env s (env.getD g .iB):=by
 simp only[uc,gd];generalize env.getD g .iB=x;cases x with
 |d y=>cases y with
  |lit u=>cases u with
   |bool b=>
    simp only[Vn,wu];cases b<;>cases want<;>rfl
   |_=>rfl
  |_=>rfl
 |nk cs=>cases cs<;>rfl
 |_=>rfl
theorem Pr{x:AV}{δ:List (Nat×Ob)}:kf P k0 F ms acc foot d env s (.ok x δ)=uc P k0 F ms ((foot,δ.map (·.1))::acc) (iq d env x) (qL s δ):=(rfl)
theorem JD{p:Prop}{o:rz}:kf P k0 F ms acc foot d env s (.need p o)=(p/\kf P k0 F ms acc foot d env s o):=(rfl)
theorem JC{f:Nat}{args:List AV}:kf P k0 F ms acc foot d env s (.call f args)=lq P k0 F ms acc foot d env s f args:=(rfl)
theorem Pq{o1 o2:rz}:kf P k0 F ms acc foot d env s (.br b o1 o2)=xP P k0 F ms acc foot d env s b o1 o2:=(rfl)
theorem VI{o1 o2:rz}:xP P k0 F ms acc foot d env s true o1 o2=kf P k0 F ms acc foot d env s o1:=by simp[xP]
theorem VH{o1 o2:rz}:xP P k0 F ms acc foot d env s false o1 o2=kf P k0 F ms acc foot d env s o2:=by simp[xP]
theorem TZ:wu P k0 F true true m d ms acc env s=kf P k0 F ms acc (uh (ev env) m) d env s (lK P k0 (ev env) (sat s) m):=by simp[wu]
theorem TV:wu P k0 F false false m d ms acc env s=kf P k0 F ms acc (uh (ev env) m) d env s (lK P k0 (ev env) (sat s) m):=by simp[wu]
theorem TY:wu P k0 F true false m d ms acc env s=uc P k0 F ms (([],[])::acc) (iq d env (.nk [])) s:=by simp[wu]
theorem TX:wu P k0 F false true m d ms acc env s=uc P k0 F ms (([],[])::acc) (iq d env (.nk [])) s:=by simp[wu]
end
theorem Xq{P:Program}{k:Nat}{Q:Post}{env:List AV}{s:gL}{ms:List iH}{after:List gv}(hP:P.follows .mixedOrders=true)
 (h:uc P k (xO ms after Q) ms [] env s):pG P k (.draw ms after) Q env s:=UM hP h
theorem i_{ms:List iH}{after:List gv}{Q:Post}{acc:List (List Nat×List Nat)}{env:List AV}{s:gL}(h:Aj ms after acc.reverse=true)(hq:Q .normal env s):
 xO ms after Q acc env s:=⟨h,hq⟩
theorem UJ{x:D}:UI (.d x)=NU (qO (.d x)):=(rfl)
theorem Lp{e e' id off len:Nat}{n:Int}:Ke e n (.nC e' id off len)=.need (e'=e/\0<=n/\n<len) (.ok (.ptr id (off+n.toNat*e)) []):=(rfl)
theorem QU{e:Nat}{n:Int}{x:D}:Ke e n (.d x)=NQ e n (qO (.d x)):=(rfl)
attribute [go_sem] JO Fc Gt JM N4 KE RY RO L_ L9 Vn Pr JD JC Pq VI VH TZ TV TY TX Db tf N3 Kg KD FX T8 MK Nv unL Ns OC TC VZ NQ Lp QU UF Se NU UJ KB LV Kz MH C1 Ie VY Bb P9 MN P_ Oj TO YJ Kk Ng lK uh qL
def wg:Value:=.slice none 0 0
theorem St.Jw{C:Ctx}{β:gU}{env:List AV}{s:gL}{a:Act}{w:World}(h:St C β env s a w){id t e:Nat}(hd:sat s id=.dead):
 St C (gM β id (.tok wg 0)) env (sset s id (.tok t e 0)) a w/\mT β s w (gM β id (.tok wg 0)) (sset s id (.tok t e 0)) w:=by
 have hno:β id=.no:=by have:=h.inv.obs id;rw[hd]at this;exact this
 have noOwn:∀b o,¬own (gM β id (.tok wg 0)) [(id,.tok t e 0)] b o:=fun b o ⟨i,hi⟩=>by
  by_cases h1:i=id
  ·subst h1;simp[sat,gM,wg]at hi
  ·simp[sat,h1]at hi
 have noBlk:∀b,¬gF (gM β id (.tok wg 0)) [(id,.tok t e 0)] id b:=fun b hi=>by simp[gF,sat,gM,wg]at hi
 have m:mT β s w (gM β id (.tok wg 0)) (sset s id (.tok t e 0)) w:=by
  refine⟨ay _,rfl,fun b o v hc _=>hc,fun b hb _=>rfl,fun b o ho=>?_,fun i b hb=>?_,fun i=>?_⟩
  ·rcases vM ho with ho|ho
   ·exact .inl ho
   ·exact absurd ho (noOwn b o)
  ·rcases jH hb with⟨_,hb⟩|⟨_,hb⟩
   ·exact .inl ⟨i,hb⟩
   ·exact absurd hb (noBlk b)
  ·by_cases hi:i=id
   ·subst hi;simp only[gM,aH];rw[hno];trivial
   ·simp only[gM,hi,aG];exact .refl _
 refine⟨h.move m (fun i=>?_) (fun i j b hi hj=>?_),m⟩
 ·rw[jg];by_cases hi:i=id
  ·subst hi;simp only[aH,vG];exact⟨wg,by simp[gM],.inl ⟨rfl,rfl⟩⟩
  ·simp only[hi,aG];exact(h.inv.obs i).wR m (by simp[gM,hi]) (fun b hb=>rfl) rfl
 ·rcases jH hi with⟨hi1,hi2⟩|⟨rfl,hi2⟩<;>rcases jH hj with⟨hj1,hj2⟩|⟨rfl,hj2⟩
  ·exact h.inv.inj i j b hi2 hj2
  ·exact absurd hj2 (noBlk b)
  ·exact absurd hi2 (noBlk b)
  ·rfl
theorem Jd{O:Own}{w:World}{e0:Nat}{v:Value}(h:D.ok O w (.sl e0 (some true) []) v):v=wg:=by
 simp only[D.ok,KL]at h;obtain⟨a,cap,h1,_,⟨rfl,rfl⟩,_⟩:=h;simpa[wg]using h1
theorem FN{β:gU}{O:Own}{w:World}{e id:Nat}(hb:β id=.tok wg 0):AV.ok β O w (.own e id []) wg:=by
 simp only[AV.ok,D.ok,KL];exact⟨⟨none,0,by simp[wg],by simp[JH],trivial,by simp⟩,wg,0,by rw[hb];exact⟨rfl,rfl⟩,ay _,fun _=>rfl⟩
theorem gT.EB{k:Nat}{env:List AV}{s:gL}(i id t e:Nat){e0:Nat}(hd:sat s id=.dead)(hi:env[i]?=some (.d (.sl e0 (some true) []))):
 gT k env s (env.set i (.own e id [])) (sset s id (.tok t e 0)):=fun _ _ _ _ _ hst=>by
 obtain⟨h1,m⟩:=hst.Jw (t:=t) (e:=e) hd;refine⟨_,h1.defers,h1.inv,by rw[h1.len,eo],fun j x hj=>?_⟩;rw[cO]at hj;split at hj
 ·rename_i hij;subst hij;split at hj
  ·cases hj;have:=hst.env i _ hi;simp only[AV.ok]at this;rw[Jd this];exact FN (by simp[gM])
  ·cases hj
 ·exact h1.env j x hj
theorem St.OI{C:Ctx}{β:gU}{env:List AV}{s:gL}{a:Act}{w:World}(h:St C β env s a w){o t:Nat}{cs cs':List AV}(ho:sat s o=.obj t cs)
 (hc:∀vs,AV.hM β (C.gP β s) w cs vs->AV.hM β (C.gP β s) w cs' vs):St C β env (sset s o (.obj t cs')) a w:=by
 have hown:∀b x,own β (sset s o (.obj t cs')) b x<->own β s b x:=fun b x=>by
  constructor<;>rintro⟨i,hi⟩<;>refine⟨i,?_⟩<;>rw[jg]at*<;>by_cases hio:i=o
  ·subst hio;simp only[aH]at hi;rw[ho];exact hi
  ·simpa[hio]using hi
  ·subst hio;rw[ho]at hi;simpa using hi
  ·simpa[hio]using hi
 have hblk:∀i b,gF β (sset s o (.obj t cs')) i b<->gF β s i b:=fun i b=>by
  unfold gF;rw[jg];by_cases hio:i=o
  ·subst hio;simp[ho]
  ·simp[hio]
 have m:mT β s w β (sset s o (.obj t cs')) w:=
  ⟨ay _,rfl,fun b o v hc _=>hc,fun b hb _=>rfl,fun b x hx=>.inl ((hown b x).1 hx),fun i b hb=>.inl ⟨i,(hblk i b).1 hb⟩,fun i=>.refl _⟩
 refine h.move m (fun i=>?_) (fun i j b hi hj=>h.inv.inj i j b ((hblk i b).1 hi) ((hblk j b).1 hj));rw[jg];by_cases hio:i=o
 ·subst hio;simp only[aH];have:=h.inv.obs i;rw[ho]at this;obtain⟨b,vs,h1,h2,h3,h4⟩:=this;exact⟨b,vs,h1,h2,h3,h4.imp fun _ h=>m.hM (hc _ h)⟩
 ·simp only[hio,aG];exact(h.inv.obs i).wR m rfl (fun b hb=>rfl) rfl
theorem FL{β:gU}{O:Own}{w:World}{y:AV}:∀{cs:List AV}{vs:List Value}{j:Nat}{x:AV},cs[j]?=some x->(∀v,AV.ok β O w x v->AV.ok β O w y v)->AV.hM β O w cs vs->AV.hM β O w (cs.set j y) vs
 |[],vs,j,x,hj,_,_=>by simp at hj
 |c::cs,vs,0,x,hj,hy,h=>by
  simp only[AV.hM,List.set_cons_zero]at h⊢;simp at hj;subst hj;obtain⟨v,r,h1,h2,h3⟩:=h;exact⟨v,r,h1,hy v h2,h3⟩
 |c::cs,vs,j+1,x,hj,hy,h=>by
  simp only[AV.hM,List.set_cons_succ]at h⊢;obtain⟨v,r,h1,h2,h3⟩:=h;exact⟨v,r,h1,h2,FL (by simpa using hj) hy h3⟩
theorem gT.rZ{k:Nat}{env:List AV}{s:gL}(o j id t e:Nat){e0 t':Nat}{cs:List AV}(hd:sat s id=.dead)(ho:sat s o=.obj t' cs)(hj:cs[j]?=some (.d (.sl e0 (some true) []))):
 gT k env s env (sset (sset s id (.tok t e 0)) o (.obj t' (cs.set j (.own e id [])))):=fun _ _ _ _ _ hst=>by
 obtain⟨h1,m⟩:=hst.Jw (t:=t) (e:=e) hd;have hoi:o≠id:=by rintro rfl;rw[hd]at ho;cases ho
 refine⟨_,h1.OI (cs:=cs) (by rw[jg,az hoi,ho]) fun _ hv=>FL hj (fun _ hv=>?_) hv⟩;simp only[AV.ok]at hv;rw[Jd hv];exact FN (by simp[gM])
def D.le(x y:D):Prop:=∀O w vs,D.Fj O w x vs->D.Fj O w y vs
def qu:List D->List D->Prop
 |[],[]=>True
 |x::xs,y::ys=>D.le x y/\qu xs ys
 |_,_=>False
theorem D.le_refl(x:D):D.le x x:=fun _ _ _ h=>h
theorem qu.refl:∀xs:List D,qu xs xs
 |[]=>trivial
 |x::xs=>⟨D.le_refl x,qu.refl xs⟩
theorem qu.length:∀{xs ys:List D},qu xs ys->xs.length=ys.length
 |[],[],_=>rfl
 |_::_,_::_,h=>by simp[qu.length h.2]
 |[],_::_,h=>h.elim
 |_::_,[],h=>h.elim
theorem qu.append:∀{xs ys us vs:List D},qu xs ys->qu us vs->qu (xs++us) (ys++vs)
 |[],[],_,_,_,h=>h
 |_::_,_::_,_,_,h,k=>⟨h.1,qu.append h.2 k⟩
 |[],_::_,_,_,h,_=>h.elim
 |_::_,[],_,_,h,_=>h.elim
theorem qu.row{O:Own}{w:World}{b e:Nat}:∀{xs ys:List D}{o:Nat},qu xs ys->D.row O w b o e xs->D.row O w b o e ys
 |[],[],_,_,h=>h
 |_::_,_::_,_,h,hr=>by
  rw[D.ni]at hr⊢;obtain⟨⟨vs,h1,h2,h3⟩,h4⟩:=hr;exact⟨⟨vs,h1,h2,h.1 O w vs h3⟩,qu.row h.2 h4⟩
 |[],_::_,_,h,_=>h.elim
 |_::_,[],_,h,_=>h.elim
theorem TN{O:Own}{w:World}{e:Nat}{nl:Option Bool}{xs ys:List D}{v:Value}(h:qu xs ys)(hv:D.ok O w (.sl e nl xs) v):D.ok O w (.sl e nl ys) v:=by
 simp only[D.ok]at hv⊢;obtain⟨a,cap,h1,h2,h3,h4⟩:=hv;refine⟨a,cap,by rw[<-h.length];exact h1,by rw[<-h.length];exact h2,h3,?_⟩;rcases h4 with h4|⟨b,o,h5,h6⟩
 ·subst h4;cases ys with
  |nil=>exact .inl rfl
  |cons y ys=>exact h.elim
 ·exact .inr ⟨b,o,h5,h.row h6⟩
theorem AV.DH{e:Nat}{nl:Option Bool}{xs ys:List D}(h:qu xs ys):AV.le (.d (.sl e nl xs)) (.d (.sl e nl ys)):=fun _ _ _ _ hv=>by
 simp only[AV.ok]at hv⊢;exact TN h hv
theorem AV.uC{e id:Nat}{xs ys:List D}(h:qu xs ys):AV.le (.own e id xs) (.own e id ys):=fun _ _ _ _ hv=>by
 simp only[AV.ok]at hv⊢;obtain⟨h1,u,n,h2,h3,h4⟩:=hv;exact⟨TN h h1,u,n,h2,by rw[<-h.length];exact h3,by rw[<-h.length];exact h4⟩
def okB(b:Bool):AV:=.d (.lit (.bool b))
section
variable{P:Program}{o:Oper}
end
end kI
