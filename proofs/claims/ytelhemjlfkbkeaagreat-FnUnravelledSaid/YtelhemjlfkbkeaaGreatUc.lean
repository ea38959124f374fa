/- A part of the proof about FnUnravelled (LaAct, LaPan). -/
import Derived.Test.YtelhemjlfkbkeaaGreatUb
set_option linter.all false
noncomputable section
namespace oe
open Go
abbrev Post:=Exit->List AV->gQ->Prop
structure Ext(C C':Ctx):Prop where
 size:C.w.heap.size<=C'.w.heap.size
 k:C'.k=C.k
 ro:C'.ro=C.ro
 nm:C'.nm=C.nm
 dom:C'.dom=C.dom
 O:C'.O=C.O
 inv:∀β s w,Inv C' β s w->Inv C β s w
theorem Ext.refl(C:Ctx):Ext C C:=⟨aO _,rfl,rfl,rfl,rfl,rfl,fun _ _ _ h=>h⟩
theorem Ext.trans{C C' C'':Ctx}(h:Ext C C')(h':Ext C' C''):Ext C C'':=
 ⟨bP h.size h'.size,h'.k.trans h.k,h'.ro.trans h.ro,h'.nm.trans h.nm,h'.dom.trans h.dom,h'.O.trans h.O,fun β s w hi=>h.inv β s w (h'.inv β s w hi)⟩
theorem Ext.vC{C C':Ctx}(h:Ext C C'):C'.vC=C.vC:=by unfold Ctx.vC;rw[h.ro]
theorem Ext.gO{C C':Ctx}(h:Ext C C')(β:gZ)(s:gQ):C'.gO β s=C.gO β s:=by unfold Ctx.gO;rw[h.O]
def Ctx.plain(C:Ctx):Prop:=C.ro=none/\C.nm=false/\C.dom<=C.w.heap.size
theorem Ext.plain{C C':Ctx}(h:Ext C C')(hp:C.plain):C'.plain:=⟨h.ro.trans hp.1,h.nm.trans hp.2.1,by rw[h.dom];exact bP hp.2.2 h.size⟩
def CWp(P:Program)(C:Ctx)(c:Code)(Q:Post)(env:List AV)(s:gQ):Prop:=
 ∀β a w,St C β env s a w->c.wpIn C.vC 0 P (fun e a' w'=>∃C',Ext C C'/\∃β' env' s',St C' β' env' s' a' w'/\Q e env' s') a w
def gR.flat:gR->Bool
 |.seq a b=>a.flat&&b.flat
 |.cond _ a b=>a.flat&&b.flat
 |.block _ a=>a.flat
 |.loop a=>a.flat
 |.ghost a=>a.flat
 |.scope a=>a.flat
 |.U4 .. =>false
 |_=>true
def sV(P:Program)(k:Nat)(mc:gR)(Q:Post)(env:List AV)(s:gQ):Prop:=
 ∀C:Ctx,C.k=k->(mc.flat=true\/C.plain)->∀c,pW P c=some mc.erase->CWp P C c Q env s
def CF(K:List AV->gQ->Prop)(Q:Post):Post
 |.normal,env,s=>K env s
 |e,env,s=>Q e env s
def Dh(id:Nat)(Q:Post):Post
 |.exit id',env,s=>if id'=id then Q .normal env s else Q (.exit id') env s
 |e,env,s=>Q e env s
def TV(Q:Post):Post
 |.goto _,_,_=>False
 |e,env,s=>Q e env s
def CS(P:Program)(k0:Nat):List js->List AV->gQ->(List AV->gQ->Prop)->Prop
 |[],env,s,K=>K env s
 |m::ms,env,s,K=>match m.guard with
  |none=>oV P k0 m.op env s fun x env s=>CS P k0 ms (iU m.dst env x) s K
  |some (g,want)=>match g with
   |none=>CS P k0 ms (iU m.dst env (.oz [])) s K
   |some d=>match env.getD d .iN with
    |.d (.lit (.bool b))=>Br b want (oV P k0 m.op env s fun x env s=>CS P k0 ms (iU m.dst env x) s K) (CS P k0 ms (iU m.dst env (.oz [])) s K)
    |.oz []=>CS P k0 ms (iU m.dst env (.oz [])) s K
    |_=>False
theorem MH{P:Program}{c:Code}(h:pW P c=some .skip):c=.skip:=by
 cases c<;>simp[pW,ai,aH]at h⊢
 case region=>obtain⟨ms,_,h⟩:=h;split at h<;>cases h
theorem Po{P:Program}{c:Code}(h:pW P c=some .ret):c=.ret:=by
 cases c<;>simp[pW,ai,aH]at h⊢
 case region=>obtain⟨ms,_,h⟩:=h;split at h<;>cases h
theorem MF{P:Program}{c:Code}{id:Nat}(h:pW P c=some (.exit id)):c=.exit id:=by
 cases c<;>simp[pW,ai,aH]at h⊢
 case region=>obtain⟨ms,_,h⟩:=h;split at h<;>cases h
 case exit=>exact h
theorem Pp{P:Program}{c:Code}{x y:gR}(h:pW P c=some (.seq x y)):∃a b,c=.seq a b/\pW P a=some x/\pW P b=some y:=by
 cases c<;>simp[pW,ai,aH]at h⊢
 case region=>obtain⟨ms,_,h⟩:=h;split at h<;>cases h
 case seq=>exact⟨_,_,⟨rfl,rfl⟩,h⟩
theorem MD{P:Program}{c:Code}{o:Operand}{x y:gR}(h:pW P c=some (.cond o x y)):∃a b,c=.cond o a b/\pW P a=some x/\pW P b=some y:=by
 cases c<;>simp[pW,ai,aH]at h⊢
 case region=>obtain⟨ms,_,h⟩:=h;split at h<;>cases h
 case cond=>obtain⟨x',h1,y',h2,rfl,rfl,rfl⟩:=h;exact⟨_,_,⟨rfl,rfl,rfl⟩,h1,h2⟩
theorem JZ{P:Program}{c:Code}{id:Nat}{x:gR}(h:pW P c=some (.block id x)):∃a,c=.block id a/\pW P a=some x:=by
 cases c<;>simp[pW,ai,aH]at h⊢
 case region=>obtain⟨ms,_,h⟩:=h;split at h<;>cases h
 case block=>exact⟨_,⟨h.2,rfl⟩,h.1⟩
theorem MG{P:Program}{c:Code}{x:gR}(h:pW P c=some (.loop x)):∃a,c=.loop a/\pW P a=some x:=by
 cases c<;>simp[pW,ai,aH]at h⊢
 case region=>obtain⟨ms,_,h⟩:=h;split at h<;>cases h
 case loop=>exact h
theorem Pn{P:Program}{c:Code}{ms:List js}(h:pW P c=some (.gz ms)):∃id ops,c=.region id ops false/\ops.toList.mapM (vG P ops)=some ms:=by
 cases c<;>simp[pW,ai,aH]at h⊢
 case region=>
  obtain⟨ms',h1,h2⟩:=h;split at h2
  ·cases h2
  ·rename_i hd;cases h2;exact⟨_,_,⟨rfl,rfl,by simpa using hd⟩,h1⟩
section
variable{P:Program}{k:Nat}{Q:Post}{env:List AV}{s:gQ}
theorem HI{x y:Bool}{p:Prop}(h:(x&&y)=true\/p):(x=true\/p)/\(y=true\/p):=by
 rcases h with h|h
 ·rw[bq]at h;exact⟨.inl h.1,.inl h.2⟩
 ·exact⟨.inr h,.inr h⟩
theorem UO(h:Q .normal env s):sV P k .skip Q env s:=fun C _ _ c hc β a w hst=>by rw[MH hc];exact wpIn_skip ⟨C,.refl C,β,env,s,hst,h⟩
theorem Wy(h:Q .ret env s):sV P k .ret Q env s:=fun C _ _ c hc β a w hst=>by rw[Po hc];exact wpIn_ret ⟨C,.refl C,β,env,s,hst,h⟩
theorem UM{id:Nat}(h:Q (.exit id) env s):sV P k (.exit id) Q env s:=fun C _ _ c hc β a w hst=>by rw[MF hc];exact wpIn_exit ⟨C,.refl C,β,env,s,hst,h⟩
theorem Wz{x y:gR}(h:sV P k x (CF (fun env s=>sV P k y Q env s) Q) env s):sV P k (.seq x y) Q env s:=fun C hC hf c hc β a w hst=>by
 obtain⟨c1,c2,rfl,h1,h2⟩:=Pp hc;obtain⟨f1,f2⟩:=HI hf;refine wpIn_seq (e_ (h C hC f1 c1 h1 β a w hst) fun e a' w' he=>?_);obtain⟨C',hx,β',env',s',hst',hq⟩:=he;cases e with
 |normal=>
  have:=hq C' (hx.k.trans hC) (f2.imp id hx.plain) c2 h2 β' a' w' hst';rw[hx.vC]at this;exact e_ this fun e a' w' ⟨C'',hx',r⟩=>⟨C'',hx.trans hx',r⟩
 |exit id=>exact⟨C',hx,β',env',s',hst',hq⟩
 |goto l=>exact⟨C',hx,β',env',s',hst',hq⟩
 |ret=>exact⟨C',hx,β',env',s',hst',hq⟩
 |panic ch=>exact⟨C',hx,β',env',s',hst',hq⟩
 |outgrown=>exact⟨C',hx,β',env',s',hst',hq⟩
theorem Sa{id:Nat}{x:gR}(h:sV P k x (Dh id Q) env s):sV P k (.block id x) Q env s:=fun C hC hf c hc β a w hst=>by
 obtain⟨c1,rfl,h1⟩:=JZ hc;refine wpIn_block (e_ (h C hC hf c1 h1 β a w hst) fun e a' w' he=>?_);obtain⟨C',hx,β',env',s',hst',hq⟩:=he;cases e with
 |exit id'=>
  simp only[Dh]at hq;simp only[Exit.inBlock];split<;>rename_i hid<;>simp only[hid,aj,ay]at hq<;>exact⟨C',hx,β',env',s',hst',hq⟩
 |normal=>exact⟨C',hx,β',env',s',hst',hq⟩
 |goto l=>exact⟨C',hx,β',env',s',hst',hq⟩
 |ret=>exact⟨C',hx,β',env',s',hst',hq⟩
 |panic ch=>exact⟨C',hx,β',env',s',hst',hq⟩
 |outgrown=>exact⟨C',hx,β',env',s',hst',hq⟩
theorem J1{P:Program}{c:Code}{x:gR}(h:pW P c=some (.scope x)):∃a,c=.scope a/\pW P a=some x:=by
 cases c<;>simp[pW,ai,aH]at h⊢
 case region=>obtain⟨ms,_,h⟩:=h;split at h<;>cases h
 case scope=>exact h
theorem J0{P:Program}{c:Code}(h:pW P c=some .label):∃l,c=.label l:=by
 cases c<;>simp[pW,ai,aH]at h⊢
 case region=>obtain⟨ms,_,h⟩:=h;split at h<;>cases h
section
variable{b:Frame}{a:Act}{ks:List Item}{cs:List Frame}{w:World}
theorem tX{c:Code}:step P (lone (b.atR a (.code (.scope c)::ks)) cs w)=.next (lone (b.atR a (.code c:: .inScope c::ks)) cs w):=
 step_lone_go (by simp[stepG,stepG.exec,Frame.atR])
theorem EH{c:Code}:step P (lone (b.atR a (.inScope c::ks)) cs w)=.next (lone (b.atR a ks) cs w):=
 step_lone_go (by simp[stepG,stepG.exec,Frame.atR])
theorem Kx{F:Fence}{n:Nat}{Q:Exit->Act->World->Prop}{c:Code}(h:c.wpIn F n P (fun e a w=>(∀l,e≠ .goto l)/\Q e a w) a w):(Code.scope c).wpIn F n P Q a w:=by
 intro b k cs hro hb hr;have h0:(lone (b.atR a (.code (.scope c)::k)) cs w).fenced P F:=fenced_calm hb hr rfl;obtain⟨e,a₁,w₁,hq,harr⟩:=h b (.inScope c::k) cs hro hb hr;cases e with
 |normal=>exact⟨.normal,a₁,w₁,hq.2,.head h0 tX (StepsIn.trans harr (.one (fenced_calm hb hr rfl) EH))⟩
 |exit id'=>
  have hx:exitTo id' (.inScope c::k)=exitTo id' k:=by simp[exitTo]
  exact⟨.exit id',a₁,w₁,hq.2,fun k' hk=>.head h0 tX (harr.1 k' (by rw[hx];exact hk)),
   fun hr' hk=>let⟨k₁,h1,h2⟩:=harr.2 hr' (by rw[hx];exact hk);⟨k₁,h1,.head h0 tX h2⟩⟩
 |goto l=>exact absurd rfl (hq.1 l)
 |ret=>exact⟨_,a₁,w₁,hq.2,.of_steps (.one h0 tX) harr⟩
 |panic ch=>exact⟨_,a₁,w₁,hq.2,.of_steps (.one h0 tX) harr⟩
 |outgrown=>exact⟨_,a₁,w₁,hq.2,.of_steps (.one h0 tX) harr⟩
end
theorem Sc(h:Q .normal env s):sV P k .label Q env s:=fun C _ _ c hc β a w hst=>by
 obtain⟨l,rfl⟩:=J0 hc;exact wpIn_label ⟨C,.refl C,β,env,s,hst,h⟩
theorem Se{x:gR}(h:sV P k x (TV Q) env s):sV P k (.scope x) Q env s:=fun C hC hf c hc β a w hst=>by
 obtain⟨c1,rfl,h1⟩:=J1 hc;refine Kx (e_ (h C hC hf c1 h1 β a w hst) fun e a' w' he=>?_);obtain⟨C',hx,β',env',s',hst',hq⟩:=he;cases e with
 |goto l=>exact hq.elim
 |_=>exact⟨(fun l e=>nomatch e),C',hx,β',env',s',hst',hq⟩
theorem UK{o:Operand}{x y:gR}{b:Bool}(hb:ev env o=.d (.lit (.bool b)))(h:Br b true (sV P k x Q env s) (sV P k y Q env s)):
 sV P k (.cond o x y) Q env s:=fun C hC hf c hc β a w hst=>by
 obtain⟨c1,c2,rfl,h1,h2⟩:=MD hc;obtain⟨f1,f2⟩:=HI hf;have hv:=hst.ev o;rw[hb]at hv;refine wpIn_cond (ow hv) ?_;unfold Br at h;cases b with
 |true=>exact h C hC f1 c1 h1 β a w hst
 |false=>exact h C hC f2 c2 h2 β a w hst
def iB(k:Nat)(env:List AV)(s:gQ)(env':List AV)(s':gQ):Prop:=
 ∀(C:Ctx)(β:gZ)(a:Act)(w:World),C.k=k->St C β env s a w->∃β',St C β' env' s' a w
theorem Sb{x:gR}{env':List AV}{s':gQ}(hw:iB k env s env' s')(h:sV P k x Q env' s'):sV P k (.ghost x) Q env s:=fun C hC hf c hc β a w hst=>by
 obtain⟨β',hst'⟩:=hw C β a w hC hst;exact h C hC hf c hc β' a w hst'
theorem UN{x:gR}{ι:Type}(E:ι->List AV)(S:ι->gQ)(inv:ι->Prop)(μ:ι->Nat)(i0:ι)(h0:inv i0)(hw:iB k env s (E i0) (S i0))
 (round:∀i,inv i->sV P k x (CF (fun env' s'=>∃i',inv i'/\μ i'<μ i/\iB k env' s' (E i') (S i')) Q) (E i) (S i)):sV P k (.loop x) Q env s:=
 fun C hC hf c hc β a w hst=>by
 obtain⟨c1,rfl,h1⟩:=MG hc;obtain⟨β0,hst0⟩:=hw C β a w hC hst;intro b kk cs hro hb hr;have key:∀n i C' β a w,Ext C C'->μ i=n->inv i->St C' β (E i) (S i) a w->
  ∃e a' w',(∃C'',Ext C C''/\∃β' env' s',St C'' β' env' s' a' w'/\Q e env' s')/\ArrivesIn (Machine.fenced P C.vC) P (lone (b.atR a (.code c1:: .inLoop c1::kk)) cs w) b kk cs e a' w':=by
  intro n;induction n using Nat.strongRecOn with
  |_ n ih=>
   intro i C' β a w hx hn hi hst;have hrd:=round i hi C' (hx.k.trans hC) (hf.imp id hx.plain) c1 h1 β a w hst;rw[hx.vC]at hrd;obtain⟨e,a₁,w₁,hq,harr⟩:=hrd b (.inLoop c1::kk) cs hro hb hr;obtain⟨C'',hx',β',env',s',hst',hq⟩:=hq;have hxx:=hx.trans hx';cases e with
   |normal=>
    obtain⟨i',hi',hlt,hwk⟩:=hq;obtain⟨β2,hst2⟩:=hwk C'' β' a₁ w₁ (hxx.k.trans hC) hst';obtain⟨e₂,a₂,w₂,hq₂,harr₂⟩:=ih (μ i') (hn▸hlt) i' C'' β2 a₁ w₁ hxx rfl hi' hst2;exact⟨e₂,a₂,w₂,hq₂,.of_steps (StepsIn.trans harr (.one (fenced_calm hb hr rfl) stepR_inLoop)) harr₂⟩
   |exit id=>exact⟨_,a₁,w₁,⟨C'',hxx,β',env',s',hst',hq⟩,.pass (x:=.inLoop c1) rfl (fun _ _=>.inl (by simp)) harr⟩
   |goto l=>exact⟨_,a₁,w₁,⟨C'',hxx,β',env',s',hst',hq⟩,.pass (x:=.inLoop c1) rfl (fun _ _=>.inl (by simp)) harr⟩
   |ret=>exact⟨_,a₁,w₁,⟨C'',hxx,β',env',s',hst',hq⟩,.pass (x:=.inLoop c1) rfl (fun _ _=>.inl (by simp)) harr⟩
   |panic ch=>exact⟨_,a₁,w₁,⟨C'',hxx,β',env',s',hst',hq⟩,.pass (x:=.inLoop c1) rfl (fun _ _=>.inl (by simp)) harr⟩
   |outgrown=>exact⟨_,a₁,w₁,⟨C'',hxx,β',env',s',hst',hq⟩,.pass (x:=.inLoop c1) rfl (fun _ _=>.inl (by simp)) harr⟩
 obtain⟨e,a',w',hq,harr⟩:=key _ i0 C β0 a w (.refl C) rfl h0 hst0;exact⟨e,a',w',hq,.of_steps (.one (fenced_calm hb hr rfl) stepR_loop) harr⟩
end
theorem EE{P:Program}{ops:Array Oper}{o:Oper}{m:js}(h:vG P ops o=some m.erase):
 m.op.erase=(oc P o).getD .dead/\m.dst=o.dst/\m.guard=o.guard.map fun(j,b)=>((ops[j]?).bind (·.dst),b):=by
 unfold vG js.erase at h;simp only[aM,js.mk.injEq]at h;exact⟨h.2.1.symm,h.1.symm,h.2.2.symm⟩
theorem IP{o:Oper}{y:Nat->Option Bool}(h:o.guard=none):Region.wanted o y=true:=by simp[Region.wanted,h]
theorem GV{C:Ctx}{β:gZ}{env:List AV}{s:gQ}{a:Act}{w:World}(hst:St C β env s a w){ops:Array Oper}{j d:Nat}{b:Bool}
 (hd:(ops[j]?).bind (·.dst)=some d) (hb:env.getD d .iN=.d (.lit (.bool b))):yielded ops a.tmps j=some b:=by
 have h1:=hst.ev (.tmp d);simp only[ev]at h1;rw[hb]at h1;have h1:=ow h1;simp only[Act.eval]at h1;unfold yielded;rw[hd];simp only[aa];have hlt:d<a.tmps.size:=by
  rcases cG d a.tmps.size with h|h
  ·exact h
  ·have:a.tmps.getD d undef=undef:=by simp[cA,Array.getElem?_eq_none h]
   rw[this]at h1;cases h1
 have h2:a.tmps[d]?=some (.bool b):=by
  rw[ck hlt];rw[cA,ck hlt]at h1;simpa using h1
 rw[h2]
theorem GW{C:Ctx}{β:gZ}{env:List AV}{s:gQ}{a:Act}{w:World}(hst:St C β env s a w){ops:Array Oper}{j d:Nat}
 (hd:(ops[j]?).bind (·.dst)=some d) (hb:env.getD d .iN=.oz []):yielded ops a.tmps j=none:=by
 have h1:=hst.ev (.tmp d);simp only[ev]at h1;rw[hb]at h1;simp only[AV.ok,AV.iK,Act.eval]at h1;obtain⟨vs,h1,_⟩:=h1;unfold yielded;rw[hd];simp only[aa];cases hx:a.tmps[d]? with
 |none=>rfl
 |some v=>
  have:a.tmps.getD d undef=v:=by rw[cA,hx];rfl
  rw[this]at h1;subst h1;rfl
theorem Cv{P:Program}{C:Ctx}{ops:Array Oper}{o:Oper}{m:js}(hm:vG P ops o=some m.erase){env:List AV}{s:gQ}{K:List AV->gQ->Prop}
 (hk:match m.guard with
  |none=>oV P C.k m.op env s fun x env s=>K (iU m.dst env x) s
  |some (g,want)=>match g with
   |none=>K (iU m.dst env (.oz [])) s
   |some d=>match env.getD d .iN with
    |.d (.lit (.bool b))=>Br b want (oV P C.k m.op env s fun x env s=>K (iU m.dst env x) s) (K (iU m.dst env (.oz [])) s)
    |.oz []=>K (iU m.dst env (.oz [])) s
    |_=>False)
 {β:gZ} {a:Act} {w:World} (hst:St C β env s a w) {Q:Exit->Act->World->Prop} {next:Act->World->Prop}
 (hn:∀β' env' s' a' w',St C β' env' s' a' w'->K env' s'->next a' w'):
 if Region.wanted o (yielded ops a.tmps)then o.wpIn C.vC 0 P a w next Q else(∀f,o.about P w a.eval=some f->C.vC.fn f)/\next (a.put o.dst undef) w:=by
 obtain⟨h1,h2,h3⟩:=EE hm;have run:oV P C.k m.op env s (fun x env s=>K (iU m.dst env x) s)->o.wpIn C.vC 0 P a w next Q:=fun h=>by
  rw[h2]at h;have h1':oc P o=some m.op.erase:=by
   cases hq:oc P o with
   |some x=>rw[hq]at h1;rw[h1];rfl
   |none=>
    rw[hq]at h1;simp only[Option.getD_none]at h1;have:m.op=.dead:=by cases hmo:m.op<;>rw[hmo]at h1<;>simp[tM.erase]at h1⊢
    rw[this]at h;exact h.elim
  have hnd:∀c,o.op≠ .defer c:=fun c hc=>by unfold oc at h1';rw[hc]at h1';cases h1'
  have:=Nb h1' h hnd Q β a w hst;exact Oper.wpIn_mono (fun a' w' ⟨β',env',s',h4,h5⟩=>hn β' env' s' a' w' h4 h5) this
 have skip:K (iU m.dst env (.oz [])) s->(∀f,o.about P w a.eval=some f->C.vC.fn f)/\next (a.put o.dst undef) w:=fun h=>by
  rw[h2]at h;refine⟨fun _ _=>trivial,?_⟩;exact hn _ _ _ _ _ (hst.put (x:=.oz []) (v:=undef) (by simp[AV.ok,AV.iK,undef]) o.dst) h
 cases hg:o.guard with
 |none=>
  rw[hg]at h3;simp only[dV]at h3;rw[h3]at hk;rw[aE (IP hg)];exact run hk
 |some p=>
  obtain⟨j,want⟩:=p;rw[hg]at h3;simp only[aX]at h3;rw[h3]at hk;have hw:Region.wanted o (yielded ops a.tmps)=(yielded ops a.tmps j==some want):=by simp[Region.wanted,hg]
  rw[hw];cases hd:(ops[j]?).bind (·.dst)with
  |none=>
   rw[hd]at hk;have:yielded ops a.tmps j=none:=by simp[yielded,hd]
   rw[this];exact skip hk
  |some d=>
   rw[hd]at hk;simp only at hk;split at hk
   ·rename_i b hb;rw[GV hst hd hb];unfold Br at hk;by_cases hbw:b=want
    ·rw[aE hbw]at hk;subst hbw;rw[aE (by simp)];exact run hk
    ·rw[aJ hbw]at hk;rw[aJ (by simpa using hbw)];exact skip hk
   ·rename_i hb;rw[GW hst hd hb];exact skip hk
   ·exact hk.elim
theorem Eg{P:Program}{C:Ctx}{ops:Array Oper}{Q:Post}:∀(n i:Nat)(ms:List js)(env:List AV)(s:gQ),i+n=ops.size->
 (ops.toList.drop i).mapM (vG P ops)=some (ms.map js.erase)->CS P C.k ms env s (fun env s=>Q .normal env s)->
 ∀(β:gZ)(a:Act)(w:World),St C β env s a w->wpOpsIn C.vC 0 P ops (fun e a' w'=>∃C',Ext C C'/\∃β' env' s',St C' β' env' s' a' w'/\Q e env' s') (List.range' i n) a w
 |0,i,ms,env,s=>fun hi hm hk β a w hst=>by
  have:ops.toList.drop i=[]:=by apply List.drop_eq_nil_of_le;simp;omega
  rw[this]at hm;simp at hm;subst hm;exact⟨C,.refl C,β,env,s,hst,hk⟩
 |n+1,i,ms,env,s=>fun hi hm hk β a w hst=>by
  have hlt:i<ops.toList.length:=by simp;omega
  rw[aV hlt]at hm;simp only[dh,dw,ai]at hm;obtain⟨m0,h1,ms0,h2,h3⟩:=hm;cases ms with
  |nil=>cases h3
  |cons m ms'=>
  simp only[aT,Option.pure_def,aM,eU]at h3;obtain⟨rfl,rfl⟩:=h3;rw[List.range'_succ];simp only[wpOpsIn];have ho:ops[i]?=some ops.toList[i]:=by simp at hlt;simp[hlt]
  rw[ho];simp only;refine Cv (K:=fun env s=>CS P C.k ms' env s fun env s=>Q .normal env s) h1 ?_ hst fun β' env' s' a' w' h4 h5=>Eg n (i+1) ms' env' s' gu h2 h5 β' a' w' h4
  simpa only[CS]using hk
theorem Wx{P:Program}{k:Nat}{Q:Post}{env:List AV}{s:gQ}{ms:List js}(h:CS P k ms env s fun env s=>Q .normal env s):sV P k (.gz ms) Q env s:=
 fun C hC _ c hc β a w hst=>by
 obtain⟨id,ops,rfl,hm⟩:=Pn hc;subst hC;refine wpIn_region ?_;have:=Eg (Q:=Q) (ops:=ops) ops.size 0 ms env s gu (by simpa using hm) h β a w hst;rwa [<-List.range_eq_range']at this
inductive wE where
 |tmp (t:Nat)
 |cell (a n:Nat) (ag:Bool)
def zS(P:Program):ResultVar->Option wE
 |.tmp t=>some (.tmp t)
 |.cell a t=>(kZ P t).bind fun n=>(AY P t).map fun ag=>.cell a (if ag then n else 1) ag
def Bw(env:List AV)(s:gQ):List wE->(List AV->Prop)->Prop
 |[],K=>K []
 |.tmp t::r,K=>Bw env s r fun xs=>K (env.getD t .iN::xs)
 |.cell a n ag::r,K=>sv n ag (env.getD a .iN) s fun x=>Bw env s r fun xs=>K (x::xs)
def Cx:List AV->AV
 |[x]=>x
 |xs=>.oz xs
def Dx(rs:List wE)(R:AV->gQ->Prop):Post
 |.normal,env,s=>Bw env s rs fun xs=>R (Cx xs) s
 |.ret,env,s=>Bw env s rs fun xs=>R (Cx xs) s
 |_,_,_=>False
def PT(tmps:Array Value):ResultVar->Sem Value
 |.tmp t=>pure (tmps.getD t undef)
 |.cell b t=>do loadVar t (<-asAddr (tmps.getD b undef))
theorem Kj(fn:Func)(tmps:Array Value):results fn tmps=(do let vs <-fn.results.mapM (PT tmps);pure (if h:vs.size=1 then vs[0]else .tuple vs)):=by
 unfold results;have:(fun x=>match x with|ResultVar.tmp t=>(pure (tmps.getD t undef):Sem Value)|ResultVar.cell a t=>do loadVar t (<-asAddr (tmps.getD a undef)))=PT tmps:=by
  funext x;cases x<;>rfl
 rw[<-this];rfl
theorem GF{P:Program}{C:Ctx}{β:gZ}{env:List AV}{s:gQ}{a:Act}{w:World}(hst:St C β env s a w):∀(rv:List ResultVar)(rs:List wE)(K:List AV->Prop),
 rv.mapM (zS P)=some rs->Bw env s rs K->
 ∃vs xs,(rv.mapM (PT a.tmps)).run P w=.ok vs w/\
  AV.iK β (C.gO β s) w xs vs/\K xs
 |[],rs,K=>fun h1 h2=>by
  simp at h1;subst h1;exact⟨[],[],by simp,by simp[AV.iK],h2⟩
 |.tmp t::rv,rs,K=>fun h1 h2=>by
  simp only[dh,dw,ai,zS]at h1;obtain⟨_,h3,rs',h4,h5⟩:=h1;cases h3;cases h5;simp only[Bw]at h2;obtain⟨vs,xs,h6,h7,h8⟩:=GF hst rv rs' _ h4 h2;refine⟨a.tmps.getD t undef::vs,_,?_,?_,h8⟩
  ·rw[dh];simp only[PT,aR,a_,aF,h6]
  ·simp only[AV.iK];exact⟨_,_,rfl,hst.ev (.tmp t),h7⟩
 |.cell b t::rv,rs,K=>fun h1 h2=>by
  simp only[dh,dw,ai,aH,zS]at h1;obtain⟨_,⟨n,hn,ag,hg,h3⟩,rs',h4,h5⟩:=h1;subst h3;cases h5;simp only[Bw]at h2;obtain⟨v,x,h6,h7,h8⟩:=Fq (P:=P) hn hg hst (hst.ev (.tmp b)) h2;obtain⟨vs,xs,h9,h10,h11⟩:=GF hst rv rs' _ h4 h8;refine⟨v::vs,x::xs,?_,?_,h11⟩
  ·rw[dh];have hload:(asAddr (a.tmps.getD b undef) >>=fun ad=>loadVar t ad:Sem Value).run P w=.ok v w:=by
    simp only[Instr.loadAt,Act.eval]at h6;simp only[aR]at h6⊢;cases hv:a.tmps.getD b undef with
    |pointer ad=>
     cases ad with
     |some ad=>rw[hv]at h6;simpa[Instr.sureAddr,asAddr]using h6
     |none=>rw[hv]at h6;simp[Instr.sureAddr]at h6
    |_=>rw[hv]at h6;simp[Instr.sureAddr]at h6
   simp only[aR]at hload;simp only[PT,aR,hload,aF,h9,a_]
  ·simp only[AV.iK];exact⟨_,_,rfl,h7,h10⟩
theorem Bi{P:Program}{fn:Func}{tmps:Array Value}{R:Ending->World->Prop}(Z:World->Prop){B:Nat}
 (hZ:∀w w' D,Z w->w.grownBy w' (some D)->B<=D->(∃o:Obj,w.heap[D]?=some o/\Ug o)->Z w')
 (hfin:∀w,Z w->∃v,(results fn tmps).run P w=.ok v w/\R (.returned v) w):
 ∀(Ds:List Nat)(w:World),Ds.Nodup->(∀D∈Ds,B<=D/\w.heap[D]?=some (.deferred (some [])))->Z w->LeavesInM Fence.wide 0 P fn tmps R (Ds.map Pg) .returning w
 |[],w,_,_,hz=>by simp only[dz,LeavesInM,LeavesIn];exact hfin w hz
 |D::Ds,w,hn,hd,hz=>by
  simp only[aT,LeavesInM];have h1:=hd D List.mem_cons_self;rw[bJ]at hn;refine⟨by simp,.inl ⟨D,_,rfl,run_takeDeferred h1.2,Bi Z hZ hfin Ds _ hn.2 (fun D' hD'=>?_) ?_⟩⟩
  ·have h2:=hd D' (en _ hD');exact⟨h2.1,(World.putObj_heap_other fun e=>hn.1 (by rw[<-e];exact hD')).trans h2.2⟩
  ·exact hZ _ _ D hz (grownBy_putObj' w D _) h1.1 ⟨_,h1.2,rfl,rfl⟩
theorem LO{P:Program}{f:Nat}{fn:Func}{c:Code}{mc:gR}{rs:List wE}{args:List AV}{s:gQ}{k n:Nat}{R:AV->gQ->Prop}
 (hf:P.funcs[f]?=some fn) (hb:fn.body=some c) (hm:pW P c=some mc.erase) (hn:fn.ntmps=n) (hr:fn.results.toList.mapM (zS P)=some rs)
 (h:sV P k mc (Dx rs R) (args++List.replicate (n-args.length) .iN) s):hY P f args s k R:=by
 intro C vs hCs hCk hinv hargs;have hlen:=AV.iS hargs;let C0:Ctx:={C with ro:=none,dom:=C.w.heap.size,nm:=false};refine callsIn_wide.1 (callsIn_of_wp_marks (F:=Fence.wide) (n:=0) hf hb trivial ?_);have hst:St C0 C.β (args++List.replicate (n-args.length) .iN) s {tmps:=vs++Array.replicate (fn.ntmps-vs.size) undef,defers:=[]} C.w:=by
  refine⟨.nil,hCs▸hinv.ro none C.w.heap.size,?_,fun i x hx=>?_⟩
  ·simp at hlen;simp[hn,hlen]
  ·rw[hCs]at hargs;rw[List.getElem?_append]at hx;split at hx
   ·rename_i hi;have hi2:i<vs.size:=by simp at hlen;omega
    have h1:(vs++Array.replicate (fn.ntmps-vs.size) undef).getD i undef=vs[i]:=by simp[cA,Array.getElem?_append,hi2]
    rw[h1];exact(AV.kM.1 hargs).2 i x _ hx (by simp[hi2])
   ·have:x=.iN:=by
     rw[List.getElem?_replicate]at hx;split at hx
     ·cases hx;rfl
     ·cases hx
    subst this;simp[AV.ok]
 refine e_ (h C0 hCk (.inr ⟨rfl,rfl,aO _⟩) c hm C.β _ _ hst) fun e a' w' he=>?_
 obtain⟨C',hx,β',env',s',hst',hq⟩:=he;have fin:Bw env' s' rs (fun xs=>R (Cx xs) s')->LeavesInM Fence.wide 0 P fn a'.tmps (fun e w'=>∃v x β' s',e=.returned v/\Inv C β' s' w'/\AV.ok β' (C.gO β' s') w' x v/\R x s') a'.defers .returning w':=fun hq=>by
  obtain⟨_,Ds,hDs,hnd,hmk⟩:=hst'.defers;rw[hDs];refine Bi (B:=C.w.heap.size) (fun w=>Inv C0 β' s' w/\∀i x,env'[i]?=some x->AV.ok β' (C0.gO β' s') w x (a'.tmps.getD i undef)) (fun w1 w2 D hz hg hB ho=>?_) (fun w1 hz=>?_) Ds w' hnd (fun D hD=>?_) ⟨hx.inv _ _ _ hst'.inv,fun i x hi=>?_⟩
  ·have hr:∀r,some D=some r->∃o:Obj,w1.heap[r]?=some o/\Ug o:=fun r e=>by cases e;exact ho
   exact⟨hz.1.J6 hg fun r e=>⟨by cases e;exact hB,hr r e⟩,fun i x hi=>AV.ke (fun b o v hc hn=>⟨cell_kept hc hg (MM hr),hn⟩) (fun _=>.refl _) _ _ (hz.2 i x hi)⟩
  ·have hst1:St C0 β' env' s' {a' with defers:=[]} w1:=⟨.nil,hz.1,hst'.len,hz.2⟩;obtain⟨us,xs,h1,h2,h3⟩:=GF hst1 fn.results.toList rs _ hr hq;refine⟨if h:us.toArray.size=1 then us.toArray[0]else .tuple us.toArray,?_,_,Cx xs,β',s',rfl,hz.1.ro',?_,h3⟩
   ·rw[Kj,Array.mapM_eq_mapM_toList];simp only[aR,Sem.run_map];rw[h1];simp only[aF,a_]
   ·have hl:=AV.iS h2;have hfb:C0.gO β' s'=C.gO β' s':=rfl;rw[hfb]at h2
    match xs,us,h2 with
    |[x],[u],h2=>
     simp only[AV.iK]at h2;obtain⟨_,_,h4,h5,h6⟩:=h2;cases h4;simpa[Cx]using h5
    |[],[],h2=>simp only[Cx,AV.ok];exact⟨#[],by simp,by simp[AV.iK]⟩
    |x::y::xs,u::v::us,h2=>
     simp only[Cx,AV.ok];exact⟨(u::v::us).toArray,by simp,by simpa using h2⟩
  ·obtain⟨h1,h2,h3,h4⟩:=hmk D hD;exact⟨by rw[hx.dom]at h1;exact h1,(hst'.inv.vr D h2 h4).trans h3⟩
  ·have:=hst'.env i x hi;rwa [hx.gO]at this
 cases e with
 |normal=>exact fin hq
 |ret=>exact fin hq
 |exit id=>exact hq.elim
 |goto l=>exact hq.elim
 |panic ch=>exact hq.elim
 |outgrown=>exact hq.elim
structure lE(P:Program)(f:Nat)(mc:gR)(n:Nat)(rs:List wE):Prop where
 fn:∃fn,P.funcs[f]?=some fn/\fn.body.bind (pW P)=some mc.erase/\fn.ntmps=n/\fn.results.toList.mapM (zS P)=some rs
theorem lE.calls{P:Program}{f:Nat}{mc:gR}{n:Nat}{rs:List wE}(h:lE P f mc n rs){args:List AV}{s:gQ}{k:Nat}{R:AV->gQ->Prop}
 (hm:sV P k mc (Dx rs R) (args++List.replicate (n-args.length) .iN) s):hY P f args s k R:=by
 obtain⟨fn,h1,h2,h3,h4⟩:=h.fn;rw[ai]at h2;obtain⟨c,h5,h6⟩:=h2;exact LO h1 h5 h6 h3 h4 hm
def AV.le(x y:AV):Prop:=∀β O w v,AV.ok β O w x v->AV.ok β O w y v
theorem AV.le_refl(x:AV):AV.le x x:=fun _ _ _ _ h=>h
theorem AV.R5(x:AV):AV.le x .iN:=fun _ _ _ _ _=>by simp[AV.ok]
theorem AV.UH{e id:Nat}{xs:List D}:AV.le (.own e id xs) (.d (.sl e none xs)):=fun _ _ _ _ h=>by simp only[AV.ok]at h⊢;exact h.1
def jr:List AV->List AV->Prop
 |[],[]=>True
 |x::xs,y::ys=>AV.le x y/\jr xs ys
 |_,_=>False
theorem jr.get:∀{xs ys:List AV},jr xs ys->xs.length=ys.length/\∀(i:Nat)(y:AV),ys[i]?=some y->∃x,xs[i]?=some x/\AV.le x y
 |[],[],_=>by simp
 |[],_::_,h=>h.elim
 |_::_,[],h=>h.elim
 |x::xs,y::ys,h=>by
  obtain⟨h1,h2⟩:=h;obtain⟨h3,h4⟩:=jr.get h2;refine⟨by simp[h3],fun i z hz=>?_⟩;cases i with
  |zero=>simp at hz;subst hz;exact⟨x,rfl,h1⟩
  |succ i=>simpa using h4 i z (by simpa using hz)
section
variable{k:Nat}{env env' env'':List AV}{s s' s'':gQ}
theorem iB.trans(h:iB k env s env' s')(h2:iB k env' s' env'' s''):iB k env s env'' s'':=fun C β a w hC hst=>let⟨β',h3⟩:=h C β a w hC hst;h2 C β' a w hC h3
theorem iB.kill(id:Nat)(hid:k<=id):iB k env s (AV.gY (gC id) env) (gS id s):=fun _ _ _ _ hC hst=>⟨_,hst.kill id (hC▸hid)⟩
theorem iB.Yn(hs:∀id,sat s id=sat s' id):iB k env s env s':=fun C β a w hC hst=>by
 have h1:∀b o,own β s' b o<->own β s b o:=by intro b o;unfold own;simp only[hs]
 have h2:∀i b,gy β s' i b<->gy β s i b:=by intro i b;unfold gy;simp only[hs]
 have m:mu β s w β s' w:=⟨aO _,rfl,fun _ _ _ h _=>h,fun _ _ _=>rfl,fun b o h=>.inl ((h1 b o).1 h),fun q b h=>.inl ⟨q,(h2 q b).1 h⟩,fun _=>.refl _⟩;exact⟨β,hst.move m (fun q=>by rw[<-hs];exact(hst.inv.obs q).sJ m rfl (fun _ _=>rfl) rfl) (fun p q b hp hq=>hst.inv.inj p q b ((h2 p b).1 hp) ((h2 q b).1 hq))⟩
end
theorem wrap_i64{n:Int}(h1: -9223372036854775808<=n)(h2:n<9223372036854775808):IntKind.i64.wrap n=n:=by
 unfold IntKind.wrap IntKind.bits IntKind.signed;simp only[bz];split<;>rename_i h<;>simp at h<;>omega
theorem Rf{k:IntKind}{n:Int}:NU (.int k n)=.d (.lit (.int k n)):=rfl
theorem NY{b:Bool}:NU (.bool b)=.d (.lit (.bool b)):=rfl
theorem Ja{b:ByteArray}:NU (.string b)=.d (.lit (.string b)):=rfl
theorem Rg:NU (.slice none 0 0)=.d (.sl 0 (some true) []):=rfl
theorem NW:NU (.agg #[])=.d (.agg []):=rfl
mutual
def AV.toD:AV->Option D
 |.d x=>some x
 |.own e _ xs=>some (.sl e none xs)
 |.agg cs=>(AV.Vs cs).map .agg
 |.iN=>none
 |.ptr _ _=>none
 |.tS _ _ _ _=>none
 |.pv _=>none
 |.oz _=>none
 |.fn _ _ _=>none
 |.mL _ _ _=>none
 |.mJ _ _ _=>none
 |.BZ _ _=>none
 |.nm _ _ _=>none
 |.dp _=>none
 |.mp _=>none
def AV.Vs:List AV->Option (List D)
 |[]=>some []
 |x::xs=>(AV.toD x).bind fun y=>(AV.Vs xs).map (y::·)
end
def AV.X5:AV->Option (List D)
 |.oz cs=>AV.Kp cs
 |_=>none
where
 AV.Kp:List AV->Option (List D)
 |[]=>some []
 |x::xs=>(AV.toD x).bind fun y=>(AV.Kp xs).map (y::·)
theorem hY.mono{P:Program}{f:Nat}{args:List AV}{s:gQ}{k:Nat}{R R':AV->gQ->Prop}(h:hY P f args s k R)
 (hR:∀x s,R x s->∃y,AV.le x y/\R' y s):hY P f args s k R':=fun C vs h1 h2 h3 h4=>
 (h C vs h1 h2 h3 h4).mono fun _ _ ⟨v,x,β',s',he,hi,hx,hr⟩=>let⟨y,hle,hr'⟩:=hR x s' hr;⟨v,y,β',s',he,hi,hle _ _ _ _ hx,hr'⟩
def lz(P:Program)(f:Nat)(args:List D)(r:D):Prop:=hY P f (args.map .d) [] 0 fun x _=>x=.d r
def ki(P:Program)(f:Nat)(args:List D)(rs:List D):Prop:=hY P f (args.map .d) [] 0 fun x _=>x=.oz (rs.map .d)
theorem jr.iK{β:gZ}{O:Own}{w:World}:∀{xs ys:List AV}{vs:List Value},jr xs ys->AV.iK β O w xs vs->AV.iK β O w ys vs
 |[],[],_,_,h=>h
 |_::_,_::_,_,hl,h=>by
  simp only[AV.iK]at h⊢;obtain⟨v,r,h1,h2,h3⟩:=h;exact⟨v,r,h1,hl.1 _ _ _ _ h2,jr.iK hl.2 h3⟩
 |[],_::_,_,hl,_=>hl.elim
 |_::_,[],_,hl,_=>hl.elim
theorem hY.args{P:Program}{f:Nat}{args dz:List AV}{s:gQ}{k:Nat}{R:AV->gQ->Prop}(h:hY P f dz s k R)(hl:jr args dz):hY P f args s k R:=
 fun C vs h1 h2 h3 h4=>h C vs h1 h2 h3 (hl.iK h4)
theorem Ht{P:Program}{k0 f:Nat}{args env:List AV}{s:gQ}{K:AV->List AV->gQ->Prop}{dz:List D}{r:D}(ha:jr (args.map fun x=>x.hG (pV [])) (dz.map .d))
 (hc:lz P f dz r) (hk:K (.d r) env s):KW P k0 f args env s K:=
 ⟨[],[],fun x _=>x=.d r,rfl,by simp,by simp,by simp,hY.args hc ha,by rintro x s' rfl;exact hk⟩
theorem ET{P:Program}{k0 f:Nat}{args env:List AV}{s:gQ}{K:AV->List AV->gQ->Prop}{dz:List D}{rs:List D}(ha:jr (args.map fun x=>x.hG (pV [])) (dz.map .d))
 (hc:ki P f dz rs) (hk:K (.oz (rs.map .d)) env s):KW P k0 f args env s K:=by
 refine⟨[],[],fun x _=>x=.oz (rs.map .d),rfl,by simp,by simp,by simp,hY.args hc ha,?_⟩;rintro x s' rfl;have h2:∀qs:List D,AV.gY (oA ([]++[])) (qs.map .d)=qs.map .d:=fun qs=>by
  induction qs with
  |nil=>rfl
  |cons d ds ih=>simp only[aT,AV.gY,AV.hG,ih]
 simp only[AV.hG,h2];exact hk
def sW(env:List AV):List Nat->List AV
 |[]=>env
 |w::ws=>sW (env.set w .iN) ws
def vR(env:List AV):List (Nat×AV)->List AV
 |[]=>env
 |(w,x)::r=>vR (env.set w x) r
theorem Sd{P:Program}{k:Nat}{Q:Post}{env:List AV}{s:gQ}{x:gR}{ι:Type}(ws:List Nat)(vs:ι->List (Nat×AV))(S:ι->gQ)(inv:ι->Prop)(μ:ι->Nat)(i0:ι)(h0:inv i0)
 (hw:iB k env s (vR (sW env ws) (vs i0)) (S i0))
 (round:∀i,inv i->sV P k x (CF (fun env' s'=>∃i',inv i'/\μ i'<μ i/\iB k env' s' (vR (sW env ws) (vs i')) (S i')) Q) (vR (sW env ws) (vs i)) (S i)):
 sV P k (.loop x) Q env s:=UN (fun i=>vR (sW env ws) (vs i)) S inv μ i0 h0 hw round
theorem HZ(x:AV):AV.le x x<->True:=⟨fun _=>trivial,fun _=>AV.le_refl x⟩
theorem HY(x:AV):AV.le x .iN<->True:=⟨fun _=>trivial,fun _=>AV.R5 x⟩
theorem JQ{e id:Nat}{xs:List D}:AV.le (.own e id xs) (.d (.sl e none xs))<->True:=⟨fun _=>trivial,fun _=>AV.UH⟩
def ints(l:fI):D:=.sl 1 none (l.map iD)
theorem Qb(l:fI):rM (.d (ints l))=some (1,l.map iD):=rfl
theorem Jt(l:fI):AV.cells (.d (ints l))=some [.d (ints l)]:=rfl
theorem Hf(l:fI):AV.ni (.d (ints l))=none:=rfl
theorem Hw(l:fI):gD (ints l)=[ints l]:=rfl
theorem Vp{e:Nat}{nl:Option Bool}{xs:List D}:rM (.d (.sl e nl xs))=some (e,xs):=rfl
theorem SI{e id:Nat}{xs:List D}:rM (.own e id xs)=some (e,xs):=rfl
theorem Vo{u:Value}{e:Nat}{xs:List D}:rM (.nm u e xs)=some (e,xs):=rfl
attribute [go_sem] Vo
theorem Pz{e:Nat}{b:Bool}{xs:List D}:y_ (.d (.sl e (some b) xs))=some b:=rfl
theorem Py{e:Nat}{xs:List D}:y_ (.d (.sl e none xs))=none:=rfl
theorem Sj{e id:Nat}{xs:List D}:y_ (.own e id xs)=none:=rfl
theorem Sh{e id off n:Nat}:y_ (.tS e id off n)=some false:=rfl
theorem L9{cs:List D}:AV.cells (.d (.agg cs))=some (cs.map .d):=rfl
theorem Jr{cs:List AV}:AV.cells (.agg cs)=some cs:=rfl
theorem Mb{u:Value}:AV.cells (.d (.lit u))=some [.d (.lit u)]:=rfl
theorem L_:AV.cells (.d .any)=some [.d .any]:=rfl
theorem Oy{e:Nat}{nl:Option Bool}{xs:List D}:AV.cells (.d (.sl e nl xs))=some [.d (.sl e nl xs)]:=rfl
theorem Me{e id:Nat}{xs:List D}:AV.cells (.own e id xs)=some [.own e id xs]:=rfl
theorem Mf{id off:Nat}:AV.cells (.ptr id off)=some [.ptr id off]:=rfl
theorem Mc{e id off n:Nat}:AV.cells (.tS e id off n)=some [.tS e id off n]:=rfl
theorem Ox{cs:List D}:AV.cells (.pv cs)=some [.pv cs]:=rfl
theorem Ou{f:Nat}{a b:List AV}:AV.cells (.fn f a b)=some [.fn f a b]:=rfl
theorem I6{cs:List D}:AV.ni (.d (.agg cs))=some (cs.map .d):=rfl
theorem He{cs:List AV}:AV.ni (.agg cs)=some cs:=rfl
theorem Jv{cs:List D}:gD (.agg cs)=cs:=rfl
theorem Jw{u:Value}:gD (.lit u)=[.lit u]:=rfl
theorem Mh{e:Nat}{nl:Option Bool}{xs:List D}:gD (.sl e nl xs)=[.sl e nl xs]:=rfl
theorem NG{k:IntKind}{n:Int}:kr (.d (.lit (.int k n)))=some n:=rfl
attribute [go_sem] ev Rf NY Ja Rg NW iU List.getD_cons_zero List.getD_cons_succ List.set_cons_zero List.set_cons_succ List.cons_append List.nil_append List.length_cons List.length_nil List.replicate List.map_cons List.map_nil sat sset gS gC AV.gY AV.hG Ob.kill Ob.kU qp AV.fin AV.nC Ap CF Dh Dx Bw Cx jr AV.toD AV.Vs AV.X5 AV.X5.AV.Kp sW vR HZ HY JQ Vp SI Pz Py Sj Sh L9 Jr Mb L_ Oy Me Mf Mc Ox Ou I6 He Jv Jw Mh NG Qb Jt Hf Hw
inductive Out where
 |ok (x:AV) (env:List AV) (s:gQ)
 |need (p:Prop) (o:Out)
 |br (b:Bool) (o1 o2:Out)
 |call (f:Nat) (args env:List AV) (s:gQ)
 |S8 (p:Prop) (o1 o2:Out)
 |bad
def runK(P:Program)(k0:Nat)(K:AV->List AV->gQ->Prop):Out->Prop
 |.ok x env s=>K x env s
 |.need p o=>p/\runK P k0 K o
 |.br b o1 o2=>if b=true then runK P k0 K o1 else runK P k0 K o2
 |.call f args env s=>Cn P k0 f args env s K
 |.S8 p o1 o2=>(p->runK P k0 K o1)/\runK P k0 K o2
 |.bad=>False
def zU(id t:Nat)(cs env:List AV)(s:gQ):Ob->Out
 |.dead=>.ok (.ptr id 0) env (sset s id (.obj t cs))
 |.obj _ _=>.ok (.ptr id 0) (AV.gY (gC id) env) (sset (gS id s) id (.obj t (AV.gY (gC id) cs)))
 |.tok _ _ _=>.ok (.ptr id 0) (AV.gY (gC id) env) (sset (gS id s) id (.obj t (AV.gY (gC id) cs)))
 |.lO _ _ _ _=>.ok (.ptr id 0) (AV.gY (gC id) env) (sset (gS id s) id (.obj t (AV.gY (gC id) cs)))
 |.jj _ _ _ _=>.ok (.ptr id 0) (AV.gY (gC id) env) (sset (gS id s) id (.obj t (AV.gY (gC id) cs)))
 |.oU _ _ _=>.ok (.ptr id 0) (AV.gY (gC id) env) (sset (gS id s) id (.obj t (AV.gY (gC id) cs)))
 |.mp _ _ _=>.ok (.ptr id 0) (AV.gY (gC id) env) (sset (gS id s) id (.obj t (AV.gY (gC id) cs)))
def yG(id t e:Nat)(xs:List D)(env:List AV)(s:gQ):Ob->Out
 |.dead=>.ok (.own e id xs) env (sset s id (.tok t e xs.length))
 |.obj _ _=>.ok (.own e id xs) (AV.gY (gC id) env) (sset (gS id s) id (.tok t e xs.length))
 |.tok _ _ _=>.ok (.own e id xs) (AV.gY (gC id) env) (sset (gS id s) id (.tok t e xs.length))
 |.lO _ _ _ _=>.ok (.own e id xs) (AV.gY (gC id) env) (sset (gS id s) id (.tok t e xs.length))
 |.jj _ _ _ _=>.ok (.own e id xs) (AV.gY (gC id) env) (sset (gS id s) id (.tok t e xs.length))
 |.oU _ _ _=>.ok (.own e id xs) (AV.gY (gC id) env) (sset (gS id s) id (.tok t e xs.length))
 |.mp _ _ _=>.ok (.own e id xs) (AV.gY (gC id) env) (sset (gS id s) id (.tok t e xs.length))
def Bl(id t e:Nat)(xs:List D)(env:List AV)(s:gQ):Ob->Out
 |.dead=>.ok (.mL e id xs.length) env (sset s id (.lO t e xs.length (xs.flatMap gD)))
 |.obj _ _=>.ok (.mL e id xs.length) (AV.gY (gC id) env) (sset (gS id s) id (.lO t e xs.length (xs.flatMap gD)))
 |.tok _ _ _=>.ok (.mL e id xs.length) (AV.gY (gC id) env) (sset (gS id s) id (.lO t e xs.length (xs.flatMap gD)))
 |.lO _ _ _ _=>.ok (.mL e id xs.length) (AV.gY (gC id) env) (sset (gS id s) id (.lO t e xs.length (xs.flatMap gD)))
 |.jj _ _ _ _=>.ok (.mL e id xs.length) (AV.gY (gC id) env) (sset (gS id s) id (.lO t e xs.length (xs.flatMap gD)))
 |.oU _ _ _=>.ok (.mL e id xs.length) (AV.gY (gC id) env) (sset (gS id s) id (.lO t e xs.length (xs.flatMap gD)))
 |.mp _ _ _=>.ok (.mL e id xs.length) (AV.gY (gC id) env) (sset (gS id s) id (.lO t e xs.length (xs.flatMap gD)))
def Gw(id t e n:Nat)(cs env:List AV)(s:gQ):Ob->Out
 |.dead=>.ok (.tS e id 0 n) env (sset s id (.obj t cs))
 |.obj _ _=>.ok (.tS e id 0 n) (AV.gY (gC id) env) (sset (gS id s) id (.obj t cs))
 |.tok _ _ _=>.ok (.tS e id 0 n) (AV.gY (gC id) env) (sset (gS id s) id (.obj t cs))
 |.lO _ _ _ _=>.ok (.tS e id 0 n) (AV.gY (gC id) env) (sset (gS id s) id (.obj t cs))
 |.jj _ _ _ _=>.ok (.tS e id 0 n) (AV.gY (gC id) env) (sset (gS id s) id (.obj t cs))
 |.oU _ _ _=>.ok (.tS e id 0 n) (AV.gY (gC id) env) (sset (gS id s) id (.obj t cs))
 |.mp _ _ _=>.ok (.tS e id 0 n) (AV.gY (gC id) env) (sset (gS id s) id (.obj t cs))
def FC(n off:Nat)(cs:List AV):Bool->AV
 |true=>AV.mk ((cs.drop off).take n)
 |false=>cs.getD off .iN
def Vm(n:Nat)(cs:List D):Bool->D
 |true=>.agg (cs.take n)
 |false=>cs.headD .any
def JU(n:Nat)(ag:Bool)(off:Nat)(env:List AV)(s:gQ):Ob->Out
 |.obj _ cs=>.need (off+n<=cs.length) (.ok (FC n off cs ag) env s)
 |_=>.bad
def Vn(n off:Nat)(cs:List D):Bool->D
 |true=>.agg ((cs.drop off).take n)
 |false=>cs.getD off .any
def JV(n:Nat)(ag:Bool)(k off:Nat)(env:List AV)(s:gQ):Ob->Out
 |.lO _ _ m cs=>.need (m=k/\off+n<=cs.length) (.ok (.d (Vn n off cs ag)) env s)
 |.oU _ m cs=>.need (m=k/\off+n<=cs.length/\ag=false/\n=1/\CQ (cs.getD off .iN)=false) (.ok (cs.getD off .iN) env s)
 |_=>.bad
def Fp(n:Nat)(ag:Bool)(env:List AV)(s:gQ):AV->Out
 |.ptr id off=>JU n ag off env s (sat s id)
 |.mJ id k off=>JV n ag k off env s (sat s id)
 |.pv cs=>.need (n<=cs.length) (.ok (.d (Vm n cs ag)) env s)
 |_=>.bad
def GM(n off id:Nat)(env:List AV)(s:gQ):Ob->Option (List AV)->Out
 |.obj t cs,some xs=>.need (xs.length=n/\off+n<=cs.length) (.ok .iN env (sset s id (.obj t (cs.take off++xs++cs.drop (off+n)))))
 |_,_=>.bad
def C6(n k off id e m:Nat)(cs:List AV)(env:List AV)(s:gQ):Option (List AV)->Out
 |some xs=>.need (m=k/\xs.length=n/\0<n/\off+n<=cs.length/\uN xs=true) (.ok .iN env (sset s id (.oU e m (cs.take off++xs++cs.drop (off+n)))))
 |none=>.bad
def C5(n k off id:Nat)(env:List AV)(s:gQ)(X:Option (List AV)):Ob->Option D->Out
 |.lO t e m cs,some d=>.need (m=k/\(gD d).length=n/\off+n<=cs.length) (.ok .iN env (sset s id (.lO t e m (cs.take off++gD d++cs.drop (off+n)))))
 |.oU e m cs,_=>C6 n k off id e m cs env s X
 |_,_=>.bad
def Ec(n:Nat)(env:List AV)(s:gQ)(x:AV):AV->Out
 |.ptr id off=>GM n off id env s (sat s id) x.cells
 |.mJ id k off=>C5 n k off id env s x.cells (sat s id) x.fin
 |_=>.bad
def Q_(op:BinOp)(env:List AV)(s:gQ):AV->AV->Out
 |.d (.lit (.int k a)),.d (.lit (.int k' b))=>.need (Yw op k k')<|match op with
  |.add=>.ok (.d (.lit (.int k (k.wrap (a+b))))) env s
  |.sub=>.ok (.d (.lit (.int k (k.wrap (a-b))))) env s
  |.mul=>.ok (.d (.lit (.int k (k.wrap (a*b))))) env s
  |.quo=>.need (b≠0) (.ok (.d (.lit (.int k (k.wrap (a.tdiv b))))) env s)
  |.rem=>.need (b≠0) (.ok (.d (.lit (.int k (a.tmod b)))) env s)
  |.eql=>.ok (.d (bD (a==b))) env s
  |.neq=>.ok (.d (bD (a != b))) env s
  |.lss=>.ok (.d (bD (decide (a<b)))) env s
  |.leq=>.ok (.d (bD (decide (a<=b)))) env s
  |.gtr=>.ok (.d (bD (decide (b<a)))) env s
  |.geq=>.ok (.d (bD (decide (b<=a)))) env s
  |.and=>.ok (.d (.lit (.int k (Dc k a b)))) env s
  |.or=>.ok (.d (.lit (.int k (Yy k a b)))) env s
  |.xor=>.ok (.d (.lit (.int k (Ng k a b)))) env s
  |.andNot=>.ok (.d (.lit (.int k (KC k a b)))) env s
  |.shl=>.need (0<=b) (.ok (.d (.lit (.int k (SG k a b)))) env s)
  |.shr=>.need (0<=b) (.ok (.d (.lit (.int k (Iw k a b)))) env s)
 |.d (.lit (.string a)),.d (.lit (.string b))=>match op with
  |.add=>.need (a.size+b.size<2^63) (.ok (.d (.lit (.string (a++b)))) env s)
  |.eql=>.ok (.d (bD (a.toList==b.toList))) env s
  |.neq=>.ok (.d (bD (!(a.toList==b.toList)))) env s
  |_=>.bad
 |_,_=>.bad
def NO(neg:Bool)(a b:Bool):Bool:=match neg with|true=>a != b|false=>a==b
def KI(neg:Bool)(env:List AV)(s:gQ):AV->AV->Out
 |.d (.lit (.bool a)),.d (.lit (.bool b))=>.ok (.d (bD (NO neg a b))) env s
 |_,_=>.bad
def MI(neg b:Bool):Bool:=match neg with|true=>!b|false=>b
def JA(neg:Bool)(env:List AV)(s:gQ):Option (Nat×List D)->Out
 |some (_,xs)=>.S8 (xs=[]) (.ok (.d (bD (MI neg true))) env s) (.ok (.d (bD (MI neg false))) env s)
 |none=>.bad
def Gc(neg:Bool)(env:List AV)(s:gQ)(x:AV):Option Bool->Out
 |some b=>.ok (.d (bD (MI neg b))) env s
 |none=>JA neg env s (rM x)
def Yz(env:List AV)(s:gQ):UnOp->AV->Out
 |.not,.d (.lit (.bool b))=>.ok (.d (bD (!b))) env s
 |.neg,.d (.lit (.int k n))=>.ok (.d (.lit (.int k (k.wrap (0-n))))) env s
 |_,_=>.bad
def KY(k:IntKind)(env:List AV)(s:gQ):AV->Out
 |.d (.lit (.int _ n))=>.ok (.d (.lit (.int k (k.wrap n)))) env s
 |_=>.bad
def Lk(env:List AV)(s:gQ)(a b:AV):AV->Out
 |.d (.lit (.bool t))=>.br t (.ok a env s) (.ok b env s)
 |_=>.bad
def TU(env:List AV)(s:gQ):AV->Out
 |.ptr id off=>.ok (.ptr id off) env s
 |.pv cs=>.ok (.pv cs) env s
 |.fn f a b=>.ok (.fn f a b) env s
 |.mJ id m off=>.ok (.mJ id m off) env s
 |_=>.bad
def VT(off:Nat)(env:List AV)(s:gQ):AV->Out
 |.ptr id o=>.ok (.ptr id (o+off)) env s
 |.pv cs=>.ok (.pv (cs.drop off)) env s
 |.mJ id k o=>.ok (.mJ id k (o+off)) env s
 |_=>.bad
def VX(off n:Nat)(ag:Bool)(env:List AV)(s:gQ):Option (List AV)->Out
 |some cs=>.need (off+(match ag with|true=>n|false=>1)<=cs.length) (.ok (FC n off cs ag) env s)
 |none=>.bad
def HU(e:Nat)(n:Int)(env:List AV)(s:gQ):Option (Nat×List D)->Out
 |some (e',xs)=>.need (e'=e/\0<=n/\n<xs.length) (.ok (.pv (gD (xs.getD n.toNat .any))) env s)
 |none=>.bad
def DK(e:Nat)(n:Int)(env:List AV)(s:gQ):AV->Out
 |.tS e' id off len=>.need (e'=e/\0<=n/\n<len) (.ok (.ptr id (off+n.toNat*e)) env s)
 |.mL e' id m=>.need (e'=e/\0<=n/\n<m) (.ok (.mJ id m (n.toNat*e)) env s)
 |x=>HU e n env s (rM x)
def R2(e:Nat)(env:List AV)(s:gQ)(x:AV):Option Int->Out
 |some n=>DK e n env s x
 |none=>.bad
def Tr(e n:Nat)(env:List AV)(s:gQ):Option Int->AV->Out
 |some j,.ptr id off=>.need (0<=j/\j<n) (.ok (.ptr id (off+j.toNat*e)) env s)
 |some j,.pv cs=>.need (0<=j/\j<n) (.ok (.pv (cs.drop (j.toNat*e))) env s)
 |_,_=>.bad
def O5(env:List AV)(s:gQ):Option (Nat×List D)->Out
 |some (_,xs)=>.ok (.d (iD xs.length)) env s
 |none=>.bad
def JS(env:List AV)(s:gQ):AV->Out
 |.tS _ _ _ n=>.ok (.d (iD n)) env s
 |.mL _ _ n=>.ok (.d (iD n)) env s
 |x=>O5 env s (rM x)
def K9(env:List AV)(s:gQ):AV->Out
 |.d (.lit (.string b))=>.ok (.d (iD b.size)) env s
 |_=>.bad
def R4(env:List AV)(s:gQ):AV->AV->Out
 |.d (.lit (.string b)),.d (.lit (.int _ n))=>.need (0<=n/\n<b.size) (.ok (.d (.lit (.int .u8 (Iv b n.toNat)))) env s)
 |_,_=>.bad
def T4(b:ByteArray)(env:List AV)(s:gQ):Option Int->Option Int->Out
 |some l,some h=>.need (0<=l/\l<=h/\h<=b.size) (.ok (.d (.lit (.string (b.extract l.toNat h.toNat)))) env s)
 |_,_=>.bad
def SM(env:List AV)(s:gQ)(lo hi:Option Operand):AV->Out
 |.d (.lit (.string b))=>T4 b env s (Ap env 0 lo) (Ap env b.size hi)
 |_=>.bad
def Lx(x:AV)(e:Nat)(env:List AV)(s:gQ)(lo:Option Int)(hi:Option Operand):Option (Nat×List D)->Out
 |some (e',xs)=>match lo,Ap env xs.length hi with
  |some l,some h=>.need ((xs=[]\/e'=e)/\0<=l/\l<=h/\h<=xs.length) (.ok (.d (.sl e' (y_ x) ((xs.take h.toNat).drop l.toNat))) env s)
  |_,_=>.bad
 |none=>.bad
def Vq(e:Nat)(env:List AV)(s:gQ):Option Operand->Option Int->Option Int->Option (Nat×List D)->Out
 |none,some h,some m,some (e',xs)=>.need ((xs=[]\/e'=e)/\h=m/\0<=h/\h<=xs.length) (.ok (.BZ e' (xs.take h.toNat)) env s)
 |_,_,_,_=>.bad
def Yv(env:List AV):Option Operand->Option Int
 |some h=>kr (ev env h)
 |none=>none
def MW(x:AV)(e:Nat)(env:List AV)(s:gQ)(lo hi:Option Operand):Option Operand->Out
 |none=>Lx x e env s (Ap env 0 lo) hi (rM x)
 |some m=>Vq e env s lo (Yv env hi) (kr (ev env m)) (rM x)
def Pr(t:Nat)(env:List AV)(s:gQ):AV->Out
 |.d (.agg [])=>.ok (.d (.lit (.iface t (.agg #[])))) env s
 |_=>.bad
def Kl(e k0 j n:Nat)(h:Int)(env:List AV)(s:gQ):Ob->Out
 |.lO t e2 m cs=>.need (e2=e/\n=m/\0<=h/\h<=m/\k0<=j) (.ok (.mL e j (OR h.toNat m)) (AV.gY (gC j) env) (sset (gS j s) j (.lO t e (OR h.toNat m) (Wt h.toNat e cs))))
 |_=>.bad
def Qc(e k0:Nat)(env:List AV)(s:gQ):AV->Option Int->Out
 |.mL e' j n,some h=>.need (e'=e) (Kl e k0 j n h env s (sat s j))
 |_,_=>.bad
def Lv(e n:Nat)(env:List AV)(s:gQ):AV->Option Operand->Option Operand->Option Operand->Out
 |.ptr id off,none,none,none=>.ok (.tS e id off n) env s
 |.ptr id off,none,some h,none=>match kr (ev env h)with
  |some h=>.need (0<=h/\h<=n) (.ok (.tS e id off h.toNat) env s)
  |none=>.bad
 |_,_,_,_=>.bad
def KD(t e bytes:Nat)(j:Nat)(xs ys:List D)(env:List AV)(s:gQ)(ob:Ob):Out:=
 .need (ob=.tok t e xs.length/\(xs.length+ys.length)*bytes<=2^47) (.ok (.own e j (xs++ys)) env (sset s j (.tok t e (xs.length+ys.length))))
def NJ(t e bytes:Nat)(j n:Nat)(ys:List D)(env:List AV)(s:gQ):Ob->Out
 |.lO t' e2 m cs=>.need (t'=t/\e2=e/\m=n/\(n+ys.length)*bytes<=2^47) (.ok (.mL e j (n+ys.length)) env (sset s j (.lO t e (n+ys.length) (cs++ys.flatMap gD))))
 |.oU e2 m cs=>.need (e2=e/\m=n/\(n+ys.length)*bytes<=2^47) (.ok (.mL e j (n+ys.length)) env (sset s j (.oU e (n+ys.length) (cs++(ys.flatMap gD).map .d))))
 |_=>.bad
def Hi(id t e bytes k0:Nat)(e2:Nat)(ys:List D)(env:List AV)(s:gQ):AV->Out
 |.own e' j xs=>.need ((ys=[]\/e2=e)/\e'=e) (KD t e bytes j xs ys env s (sat s j))
 |.mL e' j n=>.need ((ys=[]\/e2=e)/\e'=e) (NJ t e bytes j n ys env s (sat s j))
 |.d (.sl _ (some true) [])=>.need ((ys=[]\/e2=e)/\ys.length*bytes<=2^47/\k0<=id) (yG id t e ys env s (sat s id))
 |.BZ e' xs=>.need ((ys=[]\/e2=e)/\e'=e/\(xs.length+ys.length)*bytes<=2^47) (.ok (.d (.sl e none (xs++ys))) env s)
 |_=>.bad
def LS(id t e bytes k0:Nat)(x:AV)(env:List AV)(s:gQ):Option (Nat×List D)->Out
 |some (e2,ys)=>Hi id t e bytes k0 e2 ys env s x
 |none=>.bad
def BI(id t e bytes k0:Nat)(e2:Nat)(ys:List D)(env:List AV)(s:gQ):AV->Out
 |.d (.sl _ (some true) [])=>.need ((ys=[]\/e2=e)/\ys.length*bytes<=2^47/\k0<=id) (Bl id t e ys env s (sat s id))
 |x=>Hi id t e bytes k0 e2 ys env s x
def Dg(id t e bytes k0:Nat)(x:AV)(env:List AV)(s:gQ):Option (Nat×List D)->Out
 |some (e2,ys)=>BI id t e bytes k0 e2 ys env s x
 |none=>.bad
def UA(i:Nat)(env:List AV)(s:gQ):AV->Out
 |.oz cs=>.need (i<cs.length) (.ok (cs.getD i .iN) env s)
 |_=>.bad
def yF(mx:Bool)(env:List AV)(s:gQ):AV->AV->Out
 |.d (.lit (.int k a)),.d (.lit (.int k' b))=>.need (k=k') (.ok (.d (.lit (.int k (match mx with|true=>if b>a then b else a|false=>if b<a then b else a)))) env s)
 |_,_=>.bad
def LW(id t k0:Nat)(env:List AV)(s:gQ):Option (List AV)->Out
 |some cs=>.need (k0<=id) (zU id t cs env s (sat s id))
 |none=>.bad
def NT(env:List AV)(s:gQ):Option (List AV)->Out
 |some cs=>.ok (AV.mk cs) env s
 |none=>.bad
def Rc(id t e k0:Nat)(env:List AV)(s:gQ):Option (List D)->Out
 |some ds=>.need ((∀d∈ds,(gD d).length=e)/\k0<=id) (yG id t e ds env s (sat s id))
 |none=>.bad
def Gv(id t e n:Nat)(cs env:List AV)(s:gQ):Ob->Out
 |.dead=>.ok (.tS e id 0 n) env (sset s id (.obj t cs))
 |_=>.bad
def NQ(id t e n k0:Nat)(env:List AV)(s:gQ):Option (List AV)->Out
 |some cs=>.need (k0<=id) (Gv id t e n cs env s (sat s id))
 |none=>.bad
def Gx(id t e:Nat)(ds:List D)(cs env:List AV)(s:gQ):Ob->Out
 |.dead=>.ok (.own e id ds) env (sset s id (.jj t e ds.length cs))
 |.obj _ _=>.ok (.own e id ds) (AV.gY (gC id) env) (sset (gS id s) id (.jj t e ds.length (AV.gY (gC id) cs)))
 |.tok _ _ _=>.ok (.own e id ds) (AV.gY (gC id) env) (sset (gS id s) id (.jj t e ds.length (AV.gY (gC id) cs)))
 |.lO _ _ _ _=>.ok (.own e id ds) (AV.gY (gC id) env) (sset (gS id s) id (.jj t e ds.length (AV.gY (gC id) cs)))
 |.jj _ _ _ _=>.ok (.own e id ds) (AV.gY (gC id) env) (sset (gS id s) id (.jj t e ds.length (AV.gY (gC id) cs)))
 |.oU _ _ _=>.ok (.own e id ds) (AV.gY (gC id) env) (sset (gS id s) id (.jj t e ds.length (AV.gY (gC id) cs)))
 |.mp _ _ _=>.ok (.own e id ds) (AV.gY (gC id) env) (sset (gS id s) id (.jj t e ds.length (AV.gY (gC id) cs)))
def KM(id t e k0:Nat)(env:List AV)(s:gQ):Option (List D)->Option (List AV)->Out
 |some ds,some cs=>.need ((∀d∈ds,(gD d).length=e)/\uN cs=true/\k0<=id) (Gx id t e ds cs env s (sat s id))
 |_,_=>.bad
def I_(t e j j2:Nat)(xs ys:List D)(env:List AV)(s:gQ):Ob->Ob->Out
 |.jj t1 e3 n cs,.jj t2 e4 m cs2=>.need (t1=t/\e3=e/\n=xs.length/\e4=e/\m=ys.length)
  (.ok (.own e j (xs++ys)) env (sset (sset s j (.jj t e (xs.length+ys.length) (cs++cs2))) j2 (.jj t2 e ys.length (List.replicate cs2.length .iN))))
 |_,_=>.bad
def KG(t e bytes:Nat)(env:List AV)(s:gQ):AV->AV->Out
 |.own e' j xs,.own e2 j2 ys=>.need (e'=e/\e2=e/\j≠j2/\ys≠[]/\(xs.length+ys.length)*bytes<=2^47) (I_ t e j j2 xs ys env s (sat s j) (sat s j2))
 |_,_=>.bad
def KK(id t e k0:Nat)(env:List AV)(s:gQ):Option (List D)->Out
 |some ds=>.need ((∀d∈ds,(gD d).length=e)/\k0<=id) (Bl id t e ds env s (sat s id))
 |none=>.bad
def Lf(id t e bytes k0:Nat)(z:List D)(env:List AV)(s:gQ):Bool->Option Int->Option Int->Out
 |true,some l,some c=>.need (0<=l/\l<=c/\bytes*c<=2^48/\c<2^62/\k0<=id) (yG id t e [] env s (sat s id))
 |false,some l,some c=>.need (0<=l/\l<=c/\bytes*c<=2^48/\c<2^62/\k0<=id) (Gw id t e l.toNat ((List.replicate l.toNat (z.map .d)).flatten) env s (sat s id))
 |_,_,_=>.bad
def J3(id e bytes k0:Nat)(z:List D)(env:List AV)(s:gQ):Bool->Option Int->Option Int->Out
 |false,some l,some c=>.need (0<e/\0<=l/\l<=c/\bytes*c<=2^48/\c<2^62/\k0<=id/\(sat s id).kU=true) (.ok (.mL e id l.toNat) env (sset s id (.oU e l.toNat ((List.replicate l.toNat (z.map .d)).flatten))))
 |_,_,_=>.bad
def Pu(e bytes:Nat)(env:List AV)(s:gQ):List D->Bool->Option Int->Option Int->Out
 |[zd],false,some l,some c=>.need (e=1/\0<=l/\l<=c/\bytes*c<=2^48/\c<2^62) (.ok (.d (.sl 1 none (List.replicate l.toNat zd))) env s)
 |_,_,_,_=>.bad
def Jq(P:Program)(args env:List AV)(s:gQ):AV->Out
 |.fn f first cap=>.need (enters P f=true) (.call f (first++args++cap) env s)
 |_=>.bad
def Lg(P:Program)(id k:Nat)(env:List AV)(s:gQ):Bool->Out
 |true=>.ok (.mp id) env (sset s id (.mp P k []))
 |false=>.ok (.mp id) (AV.gY (gC id) env) (sset (gS id s) id (.mp P k []))
def JW(P:Program)(k:Nat)(kd:Option IntKind)(z:D)(ok:Bool)(env:List AV)(s:gQ)(kv:Value):Ob->Out
 |.mp P' k' es=>.need (P'=P/\k'=k/\uT kd kv) (.ok (B5 ok z (tZ es (sI kv))) env s)
 |_=>.bad
def Pc(P:Program)(k:Nat)(kd:Option IntKind)(z:D)(ok:Bool)(env:List AV)(s:gQ):AV->AV->Out
 |.mp id,.d (.lit kv)=>JW P k kd z ok env s kv (sat s id)
 |_,_=>.bad
def J5(P:Program)(k:Nat)(kd:Option IntKind)(env:List AV)(s:gQ)(id:Nat)(kv:Value)(d:D):Ob->Out
 |.mp P' k' es=>.need (P'=P/\k'=k/\uT kd kv/\es.length<2^40/\Ay d=false) (.ok .iN env (sset s id (.mp P k ((sI kv,d)::es))))
 |_=>.bad
def Pw(P:Program)(k:Nat)(kd:Option IntKind)(env:List AV)(s:gQ):AV->AV->Option D->Out
 |.mp id,.d (.lit kv),some d=>J5 P k kd env s id kv d (sat s id)
 |_,_,_=>.bad
def JY(P:Program)(k:Nat)(kd:Option IntKind)(env:List AV)(s:gQ)(id:Nat)(kv:Value):Ob->Out
 |.mp P' k' es=>.need (P'=P/\k'=k/\uT kd kv) (.ok (.oz []) env (sset s id (.mp P k (AB (sI kv) es))))
 |_=>.bad
def Pk(P:Program)(k:Nat)(kd:Option IntKind)(env:List AV)(s:gQ):AV->AV->Out
 |.mp id,.d (.lit kv)=>JY P k kd env s id kv (sat s id)
 |_,_=>.bad
def kH(P:Program)(k0:Nat)(env:List AV)(s:gQ):tM->Out
 |.mv x=>.ok (ev env x) env s
 |.pick c a b=>Lk env s (ev env a) (ev env b) (ev env c)
 |.alloc id t z=>.need (k0<=id) (zU id t (z.map .d) env s (sat s id))
 |.box id t x=>LW id t k0 env s (ev env x).cells
 |.F6 id _ t x=>LW id t k0 env s (ev env x).cells
 |.build z ps=>NT env s (qp env (z.map .d) ps)
 |.mH id t e xs=>Rc id t e k0 env s (AV.nC (xs.map (ev env)))
 |.yY id t e xs=>KK id t e k0 env s (AV.nC (xs.map (ev env)))
 |.yu id t e xs=>KM id t e k0 env s (AV.nC (xs.map (ev env))) (AV.flat e (xs.map (ev env)))
 |.CN _ t e bytes x y=>KG t e bytes env s (ev env x) (ev env y)
 |.Ev id t e xs=>NQ id t e xs.length k0 env s (AV.flat e (xs.map (ev env)))
 |.load n ag p=>Fp n ag env s (ev env p)
 |.store n p x=>Ec n env s (ev env x) (ev env p)
 |.rI x=>TU env s (ev env x)
 |.bin op x y=>Q_ op env s (ev env x) (ev env y)
 |.CO neg x y=>KI neg env s (ev env x) (ev env y)
 |.xT neg x=>Gc neg env s (ev env x) (y_ (ev env x))
 |.un op x=>Yz env s op (ev env x)
 |.conv k x=>KY k env s (ev env x)
 |.DS f first cap=>.ok (.fn f (first.map (ev env)) (cap.map (ev env))) env s
 |.zz _ _ e bytes z tok len cap=>Pu e bytes env s z tok (kr (ev env len)) (kr (ev env cap))
 |.Bk id _ e bytes z tok len cap=>J3 id e bytes k0 z env s tok (kr (ev env len)) (kr (ev env cap))
 |.zy id t e bytes z tok len cap=>Lf id t e bytes k0 z env s tok (kr (ev env len)) (kr (ev env cap))
 |.slc x e lo hi mx=>MW (ev env x) e env s lo hi mx
 |.GH p e n lo hi mx=>Lv e n env s (ev env p) lo hi mx
 |.QZ off p=>VT off env s (ev env p)
 |.Tn off n ag x=>VX off n ag env s (ev env x).ni
 |.CY e x i=>R2 e env s (ev env x) (kr (ev env i))
 |.DJ e n p i=>Tr e n env s (kr (ev env i)) (ev env p)
 |.len x=>JS env s (ev env x)
 |.lens x=>K9 env s (ev env x)
 |.ixs x i=>R4 env s (ev env x) (ev env i)
 |.T2 x lo hi=>SM env s lo hi (ev env x)
 |.app id t e bytes x y=>LS id t e bytes k0 (ev env x) env s (rM (ev env y))
 |.Et id t e bytes x y=>Dg id t e bytes k0 (ev env x) env s (rM (ev env y))
 |.ji f args=>.call f (args.map (ev env)) env s
 |.zk g args=>Jq P (args.map (ev env)) env s (ev env g)
 |.ext x i=>UA i env s (ev env x)
 |.max x y=>yF true env s (ev env x) (ev env y)
 |.min x y=>yF false env s (ev env x) (ev env y)
 |.DT id k=>.need (k0<=id) (Lg P id k env s (sat s id).kU)
 |.look k kd z ok m x=>Pc P k kd z ok env s (ev env m) (ev env x)
 |.J4 k kd m x v=>Pw P k kd env s (ev env m) (ev env x) (ev env v).fin
 |.AB k kd m x=>Pk P k kd env s (ev env m) (ev env x)
 |.Sv _=>.bad
 |.Iz x e y=>Qc e k0 env s (ev env x) (kr (ev env y))
 |.Gt t x=>Pr t env s (ev env x)
 |.dead=>.bad
theorem PR(ρ:Nat->Option Nat):∀z:List D,AV.gY ρ (z.map .d)=z.map .d
 |[]=>rfl
 |x::xs=>by simp only[aT,AV.gY,AV.hG,PR ρ xs]
theorem Bv(ρ:Nat->Option Nat):∀z:List AV,AV.gY ρ z=z.map (AV.hG ρ)
 |[]=>rfl
 |x::xs=>by simp only[aT,AV.gY,Bv ρ xs]
theorem Hl{P:Program}{k0 id t e bytes:Nat}{x y:AV}{env:List AV}{s:gQ}{K:AV->List AV->gQ->Prop}(h:runK P k0 K (LS id t e bytes k0 x env s (rM y))):
 LR id t e bytes k0 x y env s K:=by
 unfold LR;cases hs:rM y with
 |none=>rw[hs]at h;exact h.elim
 |some p=>
  obtain⟨e2,ys⟩:=p;rw[hs]at h;simp only[LS,Hi]at h⊢;split at h
  ·simp only[runK,KD]at h;exact⟨h.1.1,h.1.2,h.2.1.1,h.2.1.2,h.2.2⟩
  ·rename_i e' j n;simp only[runK]at h;refine⟨h.1.1,h.1.2,?_⟩;have h:=h.2;cases hq:sat s j<;>simp only[hq,NJ,runK]at h⊢
   ·exact⟨h.1.1,h.1.2.1,h.1.2.2.1,h.1.2.2.2,h.2⟩
   ·exact⟨h.1.1,h.1.2.1,h.1.2.2,h.2⟩
  ·simp only[runK]at h;refine⟨h.1.1,h.1.2.1,h.1.2.2,?_⟩;have h:=h.2;cases hq:sat s id<;>simp only[hq,yG,runK,Ob.kU,aj,ah,ay]at h⊢<;>exact h
  ·simp only[runK]at h;exact⟨h.1.1,h.1.2.1,h.1.2.2,h.2⟩
  ·exact h.elim
theorem LV{P:Program}{k0 id t e bytes:Nat}{x y:AV}{env:List AV}{s:gQ}{K:AV->List AV->gQ->Prop}(h:runK P k0 K (Dg id t e bytes k0 x env s (rM y))):
 Ho id t e bytes k0 x y env s K:=by
 unfold Ho;split
 ·rename_i e2 ys e4 hs;rw[hs]at h;simp only[Dg,BI,runK]at h;refine⟨h.1.1,h.1.2.1,?_⟩;unfold uM;refine⟨h.1.2.2,?_⟩;have h:=h.2;cases hq:sat s id<;>simp only[hq,Bl,runK,Ob.kU,aj,ah,ay]at h⊢<;>exact h
 ·rename_i hn;refine Hl (P:=P) ?_;cases hs:rM y with
  |none=>rw[hs]at h;exact h
  |some p=>
   obtain⟨e2,ys⟩:=p;rw[hs]at h;simp only[Dg]at h;unfold BI at h;split at h
   ·rename_i e4;exact absurd rfl (hn e2 ys e4 hs)
   ·exact h
theorem IM{P:Program}{k0:Nat}{m:tM}{env:List AV}{s:gQ}{K:AV->List AV->gQ->Prop}(h:runK P k0 K (kH P k0 env s m)):oV P k0 m env s K:=by
 cases m with
 |mv x=>exact h
 |pick c a b=>
  simp only[kH,Lk,oV]at h⊢;split at h
  ·rename_i t ht;try rw[ht]
   simpa[Br,runK]using h
  ·exact h.elim
 |alloc id t z=>
  simp only[kH,runK,oV,uM]at h⊢;refine⟨h.1,?_⟩;cases hs:sat s id<;>simp only[hs,zU,runK,Ob.kU,aj,ah,ay,PR]at h⊢<;>exact h.2
 |F6 id d t x=>
  simp only[kH,oV]at h⊢;cases hc:(ev env x).cells with
  |none=>rw[hc]at h;exact h.elim
  |some cs=>
   rw[hc]at h;simp only[LW,runK,uM]at h⊢;refine⟨h.1,?_⟩;cases hs:sat s id<;>simp only[hs,zU,runK,Ob.kU,aj,ah,ay,Bv]at h⊢
   ·simpa using h.2
   all_goals exact h.2
 |box id t x=>
  simp only[kH,oV]at h⊢;cases hc:(ev env x).cells with
  |none=>rw[hc]at h;exact h.elim
  |some cs=>
   rw[hc]at h;simp only[LW,runK,uM]at h⊢;refine⟨h.1,?_⟩;cases hs:sat s id<;>simp only[hs,zU,runK,Ob.kU,aj,ah,ay,Bv]at h⊢
   ·simpa using h.2
   all_goals exact h.2
 |build z ps=>
  simp only[kH,oV]at h⊢;cases hc:qp env (z.map .d) ps with
  |none=>rw[hc]at h;exact h.elim
  |some cs=>rw[hc]at h;exact h
 |mH id t e xs=>
  simp only[kH,oV]at h⊢;cases hc:AV.nC (xs.map (ev env))with
  |none=>rw[hc]at h;exact h.elim
  |some ds=>
   rw[hc]at h;simp only[Rc,runK,uM]at h⊢;refine⟨h.1.1,h.1.2,?_⟩;cases hs:sat s id<;>simp only[hs,yG,runK,Ob.kU,aj,ah,ay]at h⊢<;>exact h.2
 |Ev id t e xs=>
  simp only[kH,oV]at h⊢;cases hc:AV.flat e (xs.map (ev env))with
  |none=>rw[hc]at h;exact h.elim
  |some cs=>
   rw[hc]at h;simp only[NQ,runK,uM]at h⊢;refine⟨h.1,?_⟩;cases hs:sat s id<;>simp only[hs,Gv,runK,Ob.kU,aj,ah,ay]at h⊢
   ·simpa using h.2
   all_goals exact h.2.elim
 |yY id t e xs=>
  simp only[kH,oV]at h⊢;cases hc:AV.nC (xs.map (ev env))with
  |none=>rw[hc]at h;exact h.elim
  |some ds=>
   rw[hc]at h;simp only[KK,runK,uM]at h⊢;refine⟨h.1.1,h.1.2,?_⟩;cases hs:sat s id<;>simp only[hs,Bl,runK,Ob.kU,aj,ah,ay]at h⊢<;>exact h.2
 |load n ag p=>
  simp only[kH,oV,sv]at h⊢;cases hp:ev env p with
  |ptr id off=>
   rw[hp]at h;simp only[Fp]at h⊢;cases hs:sat s id<;>rw[hs]at h<;>simp only[JU,runK]at h⊢
   cases ag<;>exact h
  |pv cs=>rw[hp]at h;simp only[Fp,runK]at h⊢;cases ag<;>exact h
  |mJ id kk off=>
   rw[hp]at h;simp only[Fp]at h⊢;cases hs:sat s id<;>rw[hs]at h<;>simp only[JV,runK]at h⊢
   ·cases ag<;>exact⟨h.1.1,h.1.2,h.2⟩
   ·exact⟨h.1.1,h.1.2.1,h.1.2.2.1,h.1.2.2.2.1,h.1.2.2.2.2,h.2⟩
  |_=>rw[hp]at h;exact h.elim
 |store n p x=>
  simp only[kH,oV,GK]at h⊢;cases hp:ev env p with
  |ptr id off=>
   rw[hp]at h;simp only[Ec]at h⊢;cases hs:sat s id<;>rw[hs]at h<;>cases hc:(ev env x).cells<;>rw[hc]at h<;>simp only[GM,runK]at h⊢
   exact⟨h.1.1,h.1.2,h.2⟩
  |mJ id kk off=>
   rw[hp]at h;simp only[Ec]at h⊢;cases hs:sat s id<;>rw[hs]at h<;>simp only at h⊢
   case lO=>cases hc:(ev env x).fin<;>rw[hc]at h<;>simp only[C5,runK]at h⊢<;>exact⟨h.1.1,h.1.2.1,h.1.2.2,h.2⟩
   case oU e1 m1 cs1=>
    have h:runK P k0 K (C6 n kk off id e1 m1 cs1 env s (ev env x).cells):=by cases hc:(ev env x).fin<;>rw[hc]at h<;>exact h
    cases hc:(ev env x).cells<;>rw[hc]at h<;>simp only[C6,runK]at h⊢
    exact⟨h.1.1,h.1.2.1,h.1.2.2.1,h.1.2.2.2.1,h.1.2.2.2.2,h.2⟩
   all_goals(cases hc:(ev env x).fin<;>rw[hc]at h<;>simp only[C5,runK]at h)
  |_=>rw[hp]at h;exact h.elim
 |rI x=>
  simp only[kH,oV]at h⊢;cases hp:ev env x<;>rw[hp]at h<;>first|exact h|exact h.elim
 |bin op x y=>
  simp only[kH,oV,Q9,Q_]at h⊢;split at h
  ·rename_i k a k' b h1 h2;try rw[h1,h2]
   simp only[runK]at h;refine⟨h.1,?_⟩;have h:=h.2;cases op<;>exact h
  ·rename_i a b h1 h2;try rw[h1,h2]
   cases op<;>first|exact h|exact h.elim
  ·exact h.elim
 |CO neg x y=>
  simp only[kH,oV,KI]at h⊢;split at h
  ·rename_i a b h1 h2;try rw[h1,h2]
   cases neg<;>exact h
  ·exact h.elim
 |xT neg x=>
  simp only[kH,oV]at h⊢;cases hc:y_ (ev env x)with
  |none=>
   rw[hc]at h;simp only[Gc]at h;cases hs:rM (ev env x)with
   |none=>rw[hs]at h;exact h.elim
   |some p=>rw[hs]at h;cases neg<;>exact h
  |some b=>rw[hc]at h;cases neg<;>exact h
 |un op x=>
  simp only[kH,oV,Yz]at h⊢;split at h
  ·rename_i b h1;(try rw[h1]);exact h
  ·rename_i k n h1;(try rw[h1]);exact h
  ·exact h.elim
 |conv k x=>
  simp only[kH,oV,KY]at h⊢;split at h
  ·rename_i k' n h1;(try rw[h1]);exact h
  ·exact h.elim
 |DS f first cap=>exact h
 |Bk id t e bytes z tok len cap=>
  simp only[kH,oV]at h⊢;generalize kr (ev env len)=X at h⊢;generalize kr (ev env cap)=Y at h⊢;cases tok<;>cases X<;>cases Y<;>simp only[J3,runK]at h⊢<;>first
   |exact⟨trivial,h.1.1,h.1.2.1,h.1.2.2.1,h.1.2.2.2.1,h.1.2.2.2.2.1,h.1.2.2.2.2.2.1,h.1.2.2.2.2.2.2,h.2⟩
   |exact h
 |zz id t e bytes z tok len cap=>
  simp only[kH,oV]at h⊢;cases h1:kr (ev env len)with
  |none=>
   rw[h1]at h;rcases z with _|⟨zd,_|⟨_,_⟩⟩<;>cases tok<;>exact h.elim
  |some lv=>
   cases h2:kr (ev env cap)with
   |none=>
    rw[h1,h2]at h;rcases z with _|⟨zd,_|⟨_,_⟩⟩<;>cases tok<;>exact h.elim
   |some cv=>
    rw[h1,h2]at h;rcases z with _|⟨zd,_|⟨_,_⟩⟩<;>cases tok<;>first
     |exact h.elim
     |exact⟨h.1.1,rfl,h.1.2.1,h.1.2.2.1,h.1.2.2.2.1,h.1.2.2.2.2,h.2⟩
 |zy id t e bytes z tok len cap=>
  simp only[kH,oV]at h⊢;cases h1:kr (ev env len)<;>cases h2:kr (ev env cap)<;>cases tok<;>rw[h1,h2]at h<;>simp only[Lf,runK]at h⊢
  ·obtain⟨⟨a1,a2,a3,a4,a5⟩,h⟩:=h;refine⟨a1,a2,a3,a4,a5,?_⟩;cases hs:sat s id<;>simp only[hs,Gw,runK,Ob.kU,aj,ah,ay]at h⊢<;>exact h
  ·obtain⟨⟨a1,a2,a3,a4,a5⟩,h⟩:=h;refine⟨a1,a2,a3,a4,a5,?_⟩;cases hs:sat s id<;>simp only[hs,yG,runK,Ob.kU,aj,ah,ay]at h⊢<;>exact h
 |slc x e lo hi mx=>
  simp only[kH,oV]at h⊢;cases mx with
  |some m=>
   simp only[MW]at h;cases lo with
   |some _=>cases hi<;>exact h.elim
   |none=>
    cases hi with
    |none=>exact h.elim
    |some hh=>
     simp only[Yv]at h;cases h1:kr (ev env hh)with
     |none=>rw[h1]at h;exact h.elim
     |some hv=>
      cases h2:kr (ev env m)with
      |none=>rw[h1,h2]at h;exact h.elim
      |some mv=>
       cases hs:rM (ev env x)with
       |none=>rw[h1,h2,hs]at h;exact h.elim
       |some p=>
        obtain⟨e',xs⟩:=p;rw[h1,h2,hs]at h;simp only[Vq,runK]at h;obtain⟨⟨k1,rfl,k2,k3⟩,k4⟩:=h;exact⟨rfl,hh,hv,rfl,h1,h2,k1,k2,k3,k4⟩
  |none=>
   simp only[MW]at h;cases hs:rM (ev env x)with
   |none=>rw[hs]at h;exact h.elim
   |some p=>
    obtain⟨e',xs⟩:=p;rw[hs]at h;simp only[Lx]at h⊢;split at h
    ·rename_i l hh h1 h2;simp only[runK]at h;refine⟨h.1.1,?_⟩;unfold SK;rw[hs,h1,h2];exact⟨h.1.2.1,h.1.2.2.1,h.1.2.2.2,h.2⟩
    ·exact h.elim
 |GH p e n lo hi mx=>
  simp only[kH,oV,Lv]at h⊢;split at h
  ·rename_i id off h1;(try rw[h1]);exact h
  ·rename_i id off hh h1;try rw[h1]
   split at h
   ·rename_i h' h2;(try simp only[h2]);exact⟨h.1.1,h.1.2,h.2⟩
   ·exact h.elim
  ·exact h.elim
 |QZ off p=>
  simp only[kH,oV]at h⊢;cases hp:ev env p<;>rw[hp]at h<;>first|exact h|exact h.elim
 |Tn off n ag x=>
  simp only[kH,oV]at h⊢;cases hc:(ev env x).ni with
  |none=>rw[hc]at h;exact h.elim
  |some cs=>rw[hc]at h;cases ag<;>exact h
 |CY e x i=>
  simp only[kH,oV,RZ]at h⊢;cases hi:kr (ev env i)with
  |none=>rw[hi]at h;exact h.elim
  |some n=>
   rw[hi]at h;simp only[R2]at h⊢;cases hx:ev env x<;>rw[hx]at h<;>simp only[DK]at h⊢<;>first
    |exact⟨h.1.1,h.1.2.1,h.1.2.2,h.2⟩
    |(
     split
     ·rename_i e' xs hs;rw[hs]at h;exact⟨h.1.1,h.1.2.1,h.1.2.2,h.2⟩
     ·rename_i hs;rw[hs]at h;exact h.elim)
 |DJ e n p i=>
  simp only[kH,oV]at h⊢;cases hi:kr (ev env i)<;>cases hp:ev env p<;>rw[hi,hp]at h<;>first|exact⟨h.1.1,h.1.2,h.2⟩|exact h.elim
 |len x=>
  simp only[kH,oV]at h⊢;cases hx:ev env x<;>rw[hx]at h<;>simp only[JS]at h⊢<;>first
   |exact h
   |(
    split
    ·rename_i e' xs hs;rw[hs]at h;exact h
    ·rename_i hs;rw[hs]at h;exact h.elim)
 |lens x=>
  simp only[kH,oV,K9]at h⊢;split at h
  ·rename_i b h1;(try rw[h1]);exact h
  ·exact h.elim
 |ixs x i=>
  simp only[kH,oV,R4]at h⊢;split at h
  ·rename_i b kk n h1 h2;try rw[h1,h2]
   exact⟨h.1.1,h.1.2,h.2⟩
  ·exact h.elim
 |T2 x lo hi=>
  simp only[kH,oV,SM]at h⊢;split at h
  ·rename_i b h1;try rw[h1]
   simp only at h⊢;generalize Ap env 0 lo=X at h⊢;generalize Ap env b.size hi=Y at h⊢;cases X<;>cases Y<;>first|exact⟨h.1.1,h.1.2.1,h.1.2.2,h.2⟩|exact h.elim
  ·exact h.elim
 |app id t e bytes x y=>exact Hl h
 |CN id t e bytes x y=>
  simp only[kH,oV,KE]at h⊢;generalize ev env x=X at h⊢;generalize ev env y=Y at h⊢;unfold KG at h;split at h
  ·rename_i e' j xs e2 j2 ys;simp only[runK]at h;refine⟨h.1.1,h.1.2.1,h.1.2.2.1,h.1.2.2.2.1,h.1.2.2.2.2,?_⟩;replace h:=h.2;cases hq:sat s j<;>cases hq2:sat s j2<;>rw[hq,hq2]at h<;>simp only[I_,runK]at h⊢<;>first|exact⟨h.1.1,h.1.2.1,h.1.2.2.1,h.1.2.2.2.1,h.1.2.2.2.2,h.2⟩|exact h
  ·exact h.elim
 |yu id t e xs=>
  simp only[kH,oV,NP]at h⊢;generalize AV.nC (xs.map (ev env))=X at h⊢;generalize AV.flat e (xs.map (ev env))=Y at h⊢;unfold KM at h;split at h
  ·simp only[runK]at h;refine⟨h.1.1,h.1.2.1,h.1.2.2,?_⟩;have h:=h.2;cases hs:sat s id<;>simp only[hs,Gx,runK,Ob.kU,aj,ah,ay,Bv]at h⊢<;>first|exact h|simpa using h
  ·exact h.elim
 |Et id t e bytes x y=>exact LV h
 |ji f args=>exact h
 |zk g args=>
  simp only[kH,oV,Jq]at h⊢;split at h
  ·rename_i f first cap h1;(try rw[h1]);exact h
  ·exact h.elim
 |ext x i=>
  simp only[kH,oV,UA]at h⊢;split at h
  ·rename_i cs h1;(try rw[h1]);exact h
  ·exact h.elim
 |max x y=>
  simp only[kH,oV,yF]at h⊢;split at h
  ·rename_i k a k' b h1 h2;(try rw[h1,h2]);exact h
  ·exact h.elim
 |min x y=>
  simp only[kH,oV,yF]at h⊢;split at h
  ·rename_i k a k' b h1 h2;(try rw[h1,h2]);exact h
  ·exact h.elim
 |DT id k=>
  simp only[kH,oV,runK,uM]at h⊢;refine⟨h.1,?_⟩;have h:=h.2;cases hd:(sat s id).kU with
  |true=>rw[hd]at h;exact h
  |false=>rw[hd]at h;exact h
 |look k kd z ok m x=>
  simp only[kH,oV]at h⊢;unfold Pc at h;split at h
  ·rename_i id kv h1 h2;rw[h1,h2];unfold JW at h;simp only;split at h
   ·rename_i P' k' es hs;rw[hs];exact⟨h.1.1,h.1.2.1,h.1.2.2,h.2⟩
   ·exact h.elim
  ·exact h.elim
 |J4 k kd m x v=>
  simp only[kH,oV]at h⊢;unfold Pw at h;split at h
  ·rename_i id kv d h1 h2 h3;rw[h1,h2,h3];unfold J5 at h;simp only;split at h
   ·rename_i P' k' es hs;rw[hs];exact⟨h.1.1,h.1.2.1,h.1.2.2.1,h.1.2.2.2.1,h.1.2.2.2.2,h.2⟩
   ·exact h.elim
  ·exact h.elim
 |AB k kd m x=>
  simp only[kH,oV]at h⊢;unfold Pk at h;split at h
  ·rename_i id kv h1 h2;rw[h1,h2];unfold JY at h;simp only;split at h
   ·rename_i P' k' es hs;rw[hs];exact⟨h.1.1,h.1.2.1,h.1.2.2,h.2⟩
   ·exact h.elim
  ·exact h.elim
 |Sv x=>exact h
 |Gt t x=>
  simp only[kH,oV]at h⊢;generalize ev env x=X at h⊢;unfold Pr at h;split at h
  ·exact⟨rfl,h⟩
  ·exact h.elim
 |Iz x e y=>
  simp only[kH,oV]at h⊢;generalize ev env x=X at h⊢;generalize kr (ev env y)=Y at h⊢;cases X<;>cases Y<;>simp only[Qc]at h⊢<;>first
   |exact h.elim
   |(rename_i e1 j n hv;simp only[runK]at h;obtain⟨he,h⟩:=h;unfold Sw;cases hs:sat s j<;>rw[hs]at h<;>simp only[Kl,runK]at h⊢<;>first|exact h.elim|exact⟨he,h.1.1,h.1.2.1,h.1.2.2.1,h.1.2.2.2.1,h.1.2.2.2.2,h.2⟩)
 |dead=>exact h
def pT(P:Program)(k0 f:Nat)(args env:List AV)(s:gQ)(d:Option Nat)(R:List AV->gQ->Prop):Prop:=
 Cn P k0 f args env s fun x env s=>R (iU d env x) s
def oW(P:Program)(k0:Nat)(R:List AV->gQ->Prop)(d:Option Nat):Out->Prop
 |.ok x env s=>R (iU d env x) s
 |.need p o=>p/\oW P k0 R d o
 |.br b o1 o2=>if b=true then oW P k0 R d o1 else oW P k0 R d o2
 |.call f args env s=>pT P k0 f args env s d R
 |.S8 p o1 o2=>(p->oW P k0 R d o1)/\oW P k0 R d o2
 |.bad=>False
def FY(P:Program)(k0:Nat)(R:List AV->gQ->Prop)(d:Option Nat)(b:Bool)(o1 o2:Out):Prop:=
 if b=true then oW P k0 R d o1 else oW P k0 R d o2
theorem SY{P:Program}{k0:Nat}{R:List AV->gQ->Prop}{d:Option Nat}{b:Bool}{o1 o2:Out}:oW P k0 R d (.br b o1 o2)=FY P k0 R d b o1 o2:=(rfl)
theorem VL{P:Program}{k0:Nat}{R:List AV->gQ->Prop}{d:Option Nat}{o1 o2:Out}:FY P k0 R d true o1 o2=oW P k0 R d o1:=by simp[FY]
theorem VK{P:Program}{k0:Nat}{R:List AV->gQ->Prop}{d:Option Nat}{o1 o2:Out}:FY P k0 R d false o1 o2=oW P k0 R d o2:=by simp[FY]
def zb(P:Program)(k0:Nat)(K:List AV->gQ->Prop):List js->List AV->gQ->Prop
 |[],env,s=>K env s
 |m::ms,env,s=>match m.guard with
  |none=>oW P k0 (zb P k0 K ms) m.dst (kH P k0 env s m.op)
  |some (g,want)=>match g with
   |none=>zb P k0 K ms (iU m.dst env (.oz [])) s
   |some d=>match env.getD d .iN with
    |.d (.lit (.bool b))=>if b=want then oW P k0 (zb P k0 K ms) m.dst (kH P k0 env s m.op)else zb P k0 K ms (iU m.dst env (.oz [])) s
    |.oz []=>zb P k0 K ms (iU m.dst env (.oz [])) s
    |_=>False
def CG(P:Program)(k0:Nat)(K:List AV->gQ->Prop)(b want:Bool)(m:tM)(d:Option Nat)(ms:List js)(env:List AV)(s:gQ):Prop:=
 if b=want then oW P k0 (zb P k0 K ms) d (kH P k0 env s m)else zb P k0 K ms (iU d env (.oz [])) s
section
variable{P:Program}{k0:Nat}{K:List AV->gQ->Prop}{b want:Bool}{m:tM}{d:Option Nat}{ms:List js}{env:List AV}{s:gQ}
theorem Ua:CG P k0 K true true m d ms env s=oW P k0 (zb P k0 K ms) d (kH P k0 env s m):=by simp[CG]
theorem T8:CG P k0 K false false m d ms env s=oW P k0 (zb P k0 K ms) d (kH P k0 env s m):=by simp[CG]
theorem T_:CG P k0 K true false m d ms env s=zb P k0 K ms (iU d env (.oz [])) s:=by simp[CG]
theorem T9:CG P k0 K false true m d ms env s=zb P k0 K ms (iU d env (.oz [])) s:=by simp[CG]
def Vv(P:Program)(k0:Nat)(K:List AV->gQ->Prop)(want:Bool)(m:tM)(d:Option Nat)(ms:List js)(env:List AV)(s:gQ):AV->Prop
 |.d (.lit (.bool b))=>CG P k0 K b want m d ms env s
 |.oz []=>zb P k0 K ms (iU d env (.oz [])) s
 |_=>False
theorem SW:zb P k0 K [] env s=K env s:=(rfl)
theorem Na:zb P k0 K (⟨d,m,none⟩::ms) env s=oW P k0 (zb P k0 K ms) d (kH P k0 env s m):=(rfl)
theorem M_{g:Nat}:zb P k0 K (⟨d,m,some (some g,want)⟩::ms) env s=Vv P k0 K want m d ms env s (env.getD g .iN):=by
 simp only[zb];split
 ·rename_i b h;rw[h];rfl
 ·rename_i h;rw[h];rfl
 ·rename_i h h';unfold Vv;split
  ·rename_i b h2;exact absurd h2 (h b)
  ·rename_i h2;exact absurd h2 h'
  ·rfl
theorem SZ{R:List AV->gQ->Prop}{x:AV}:oW P k0 R d (.ok x env s)=R (iU d env x) s:=(rfl)
theorem Nd{R:List AV->gQ->Prop}{p:Prop}{o:Out}:oW P k0 R d (.need p o)=(p/\oW P k0 R d o):=(rfl)
def yg(P:Program)(k0:Nat)(R:List AV->gQ->Prop)(d:Option Nat)(p:Prop)(o1 o2:Out):Prop:=(p->oW P k0 R d o1)/\oW P k0 R d o2
theorem yg.of{P:Program}{k0:Nat}{R:List AV->gQ->Prop}{d:Option Nat}{p:Prop}{o1 o2:Out}(h1:p->oW P k0 R d o1)(h2:oW P k0 R d o2):yg P k0 R d p o1 o2:=⟨h1,h2⟩
theorem QC{R:List AV->gQ->Prop}{p:Prop}{o1 o2:Out}:oW P k0 R d (.S8 p o1 o2)=yg P k0 R d p o1 o2:=(rfl)
theorem Nc{R:List AV->gQ->Prop}{f:Nat}{args:List AV}:oW P k0 R d (.call f args env s)=pT P k0 f args env s d R:=(rfl)
end
theorem wA{P:Program}{k0:Nat}{R:List AV->gQ->Prop}{d:Option Nat}{K:AV->List AV->gQ->Prop}(hK:∀x env s,R (iU d env x) s->K x env s):
 ∀{o:Out},oW P k0 R d o->runK P k0 K o
 |.ok x env s=>fun h=>hK x env s h
 |.need p o=>fun h=>⟨h.1,wA hK h.2⟩
 |.br b o1 o2=>fun h=>by
  cases b with
  |true=>simp only[oW,aj]at h;simp only[runK,aj];exact wA hK h
  |false=>simp only[oW,ah,ay]at h;simp only[runK,ah,ay];exact wA hK h
 |.call _ _ _ _=>fun h=>Jn (K:=fun x env s=>R (iU d env x) s) h fun x env s=>hK x env s
 |.S8 p o1 o2=>fun h=>⟨fun hp=>wA hK (h.1 hp),wA hK h.2⟩
 |.bad=>fun h=>h
theorem zI{P:Program}{k0:Nat}{K:List AV->gQ->Prop}:∀{ms:List js}{env:List AV}{s:gQ},zb P k0 K ms env s->CS P k0 ms env s K
 |[],env,s=>fun h=>h
 |m::ms,env,s=>fun h=>by
  have step:oW P k0 (zb P k0 K ms) m.dst (kH P k0 env s m.op)->oV P k0 m.op env s fun x env s=>CS P k0 ms (iU m.dst env x) s K:=
   fun h=>IM (wA (fun _ _ _ h=>zI h) h)
  simp only[zb,CS]at h⊢;split
  ·rename_i hg;rw[hg]at h;exact step h
  ·rename_i g want hg;rw[hg]at h;cases g with
   |none=>exact zI h
   |some d=>
    simp only at h⊢;split
    ·rename_i b hb;rw[hb]at h;unfold Br;simp only at h;split
     ·rename_i hbw;rw[aE hbw]at h;exact step h
     ·rename_i hbw;rw[aJ hbw]at h;exact zI h
    ·rename_i hb;rw[hb]at h;exact zI h
    ·rename_i hb hb';split at h
     ·rename_i b h2;exact absurd h2 (hb b)
     ·rename_i h2;exact absurd h2 hb'
     ·exact h
theorem aac{P:Program}{k:Nat}{Q:Post}{env:List AV}{s:gQ}{ms:List js}(h:zb P k (Q .normal) ms env s):sV P k (.gz ms) Q env s:=Wx (zI h)
theorem UJ{x:D}{env:List AV}{s:gQ}:JS env s (.d x)=O5 env s (rM (.d x)):=(rfl)
theorem O7{e id:Nat}{xs:List D}{env:List AV}{s:gQ}:JS env s (.own e id xs)=.ok (.d (iD xs.length)) env s:=(rfl)
theorem R3{e:Nat}{n:Int}{x:D}{env:List AV}{s:gQ}:DK e n env s (.d x)=HU e n env s (rM (.d x)):=(rfl)
theorem O6{e id n:Nat}{env:List AV}{s:gQ}:JS env s (.mL e id n)=.ok (.d (iD n)) env s:=(rfl)
theorem Mt{e e' id m:Nat}{n:Int}{env:List AV}{s:gQ}:DK e n env s (.mL e' id m)=.need (e'=e/\0<=n/\n<m) (.ok (.mJ id m (n.toNat*e)) env s):=(rfl)
theorem Mu{e e' id:Nat}{n:Int}{xs:List D}{env:List AV}{s:gQ}:DK e n env s (.own e' id xs)=HU e n env s (some (e',xs)):=(rfl)
theorem HF{neg b:Bool}{env:List AV}{s:gQ}{x:AV}:Gc neg env s x (some b)=.ok (.d (bD (MI neg b))) env s:=(rfl)
theorem HE{neg:Bool}{env:List AV}{s:gQ}{x:AV}:Gc neg env s x none=JA neg env s (rM x):=(rfl)
attribute [go_sem] Lg Pc JW Pw J5 Pk JY uT sI B5 Ob.kU J3 C6 CQ Gx KM KG I_ Gv NQ AV.flat BI Dg Bl KK O6 Mt Vn JV C5 NJ HF HE Yw QC JA SW Na M_ Vv SZ Nd Nc SY VL VK Ua T8 T_ T9 zU yG Gw FC Vm JU Fp GM Ec Q_ NO KI MI Yz KY Lk TU VT VX HU R3 Mu R2 Tr O5 UJ O7 K9 R4 T4 SM Lx Vq Yv Pu MW Qc Kl Pr Lv KD Hi LS UA yF LW NT Rc Lf Jq kH List.drop_zero List.drop_succ_cons List.drop_nil List.take_zero List.take_succ_cons List.take_nil List.headD_cons List.append_nil true_and and_true Nat.zero_add Nat.add_zero if_true if_false Nat.le_refl
inductive qO where
 |ok (x:AV) (δ:List (Nat×Ob))
 |need (p:Prop) (o:qO)
 |br (b:Bool) (o1 o2:qO)
 |call (f:Nat) (args:List AV)
 |bad
def A1(ρ:Operand->AV)(dflt:Int):Option Operand->Option Int
 |none=>some dflt
 |some x=>kr (ρ x)
def tU(ρ:Operand->AV):List AV->List (Nat×Nat×Operand)->Option (List AV)
 |cs,[]=>some cs
 |cs,(off,n,x)::r=>match(ρ x).cells with
  |some xs=>if xs.length=n/\off+n<=cs.length then tU ρ (cs.take off++xs++cs.drop (off+n)) r else none
  |none=>none
def O_(n:Nat)(ag:Bool)(off:Nat):Ob->qO
 |.obj _ cs=>.need (off+n<=cs.length) (.ok (FC n off cs ag) [])
 |_=>.bad
def Pa(n:Nat)(ag:Bool)(k off:Nat):Ob->qO
 |.lO _ _ m cs=>.need (m=k/\off+n<=cs.length) (.ok (.d (Vn n off cs ag)) [])
 |.oU _ m cs=>.need (m=k/\off+n<=cs.length/\ag=false/\n=1/\CQ (cs.getD off .iN)=false) (.ok (cs.getD off .iN) [])
 |_=>.bad
def La(σ:Nat->Ob)(n:Nat)(ag:Bool):AV->qO
 |.ptr id off=>O_ n ag off (σ id)
 |.mJ id k off=>Pa n ag k off (σ id)
 |.pv cs=>.need (n<=cs.length) (.ok (.d (Vm n cs ag)) [])
 |_=>.bad
def Lz(n off id:Nat):Ob->Option (List AV)->qO
 |.obj t cs,some xs=>.need (xs.length=n/\off+n<=cs.length) (.ok .iN [(id,(.obj t (cs.take off++xs++cs.drop (off+n))))])
 |_,_=>.bad
def LB(n k off id e m:Nat)(cs:List AV):Option (List AV)->qO
 |some xs=>.need (m=k/\xs.length=n/\0<n/\off+n<=cs.length/\uN xs=true) (.ok .iN [(id,.oU e m (cs.take off++xs++cs.drop (off+n)))])
 |none=>.bad
def LA(n k off id:Nat)(X:Option (List AV)):Ob->Option D->qO
 |.oU e m cs,_=>LB n k off id e m cs X
 |.lO t e m cs,some d=>.need (m=k/\(gD d).length=n/\off+n<=cs.length) (.ok .iN [(id,.lO t e m (cs.take off++gD d++cs.drop (off+n)))])
 |_,_=>.bad
def GL(σ:Nat->Ob)(n:Nat)(x:AV):AV->qO
 |.ptr id off=>Lz n off id (σ id) x.cells
 |.mJ id k off=>LA n k off id x.cells (σ id) x.fin
 |_=>.bad
def Ui(op:BinOp):AV->AV->qO
 |.d (.lit (.int k a)),.d (.lit (.int k' b))=>.need (Yw op k k')<|match op with
  |.add=>.ok (.d (.lit (.int k (k.wrap (a+b))))) []
  |.sub=>.ok (.d (.lit (.int k (k.wrap (a-b))))) []
  |.mul=>.ok (.d (.lit (.int k (k.wrap (a*b))))) []
  |.quo=>.need (b≠0) (.ok (.d (.lit (.int k (k.wrap (a.tdiv b))))) [])
  |.rem=>.need (b≠0) (.ok (.d (.lit (.int k (a.tmod b)))) [])
  |.eql=>.ok (.d (bD (a==b))) []
  |.neq=>.ok (.d (bD (a != b))) []
  |.lss=>.ok (.d (bD (decide (a<b)))) []
  |.leq=>.ok (.d (bD (decide (a<=b)))) []
  |.gtr=>.ok (.d (bD (decide (b<a)))) []
  |.geq=>.ok (.d (bD (decide (b<=a)))) []
  |.and=>.ok (.d (.lit (.int k (Dc k a b)))) []
  |.or=>.ok (.d (.lit (.int k (Yy k a b)))) []
  |.xor=>.ok (.d (.lit (.int k (Ng k a b)))) []
  |.andNot=>.ok (.d (.lit (.int k (KC k a b)))) []
  |.shl=>.need (0<=b) (.ok (.d (.lit (.int k (SG k a b)))) [])
  |.shr=>.need (0<=b) (.ok (.d (.lit (.int k (Iw k a b)))) [])
 |.d (.lit (.string a)),.d (.lit (.string b))=>match op with
  |.add=>.need (a.size+b.size<2^63) (.ok (.d (.lit (.string (a++b)))) [])
  |.eql=>.ok (.d (bD (a.toList==b.toList))) []
  |.neq=>.ok (.d (bD (!(a.toList==b.toList)))) []
  |_=>.bad
 |_,_=>.bad
def NN(neg:Bool):AV->AV->qO
 |.d (.lit (.bool a)),.d (.lit (.bool b))=>.ok (.d (bD (NO neg a b))) []
 |_,_=>.bad
def OJ(neg:Bool):Option Bool->qO
 |some b=>.ok (.d (bD (MI neg b))) []
 |none=>.bad
def unL:UnOp->AV->qO
 |.not,.d (.lit (.bool b))=>.ok (.d (bD (!b))) []
 |.neg,.d (.lit (.int k n))=>.ok (.d (.lit (.int k (k.wrap (0-n))))) []
 |_,_=>.bad
def OD(k:IntKind):AV->qO
 |.d (.lit (.int _ n))=>.ok (.d (.lit (.int k (k.wrap n)))) []
 |_=>.bad
def PL(a b:AV):AV->qO
 |.d (.lit (.bool t))=>.br t (.ok a []) (.ok b [])
 |_=>.bad
def TT:AV->qO
 |.ptr id off=>.ok (.ptr id off) []
 |.pv cs=>.ok (.pv cs) []
 |.fn f a b=>.ok (.fn f a b) []
 |.mJ id m off=>.ok (.mJ id m off) []
 |_=>.bad
def VS(off:Nat):AV->qO
 |.ptr id o=>.ok (.ptr id (o+off)) []
 |.pv cs=>.ok (.pv (cs.drop off)) []
 |.mJ id k o=>.ok (.mJ id k (o+off)) []
 |_=>.bad
def VW(off n:Nat)(ag:Bool):Option (List AV)->qO
 |some cs=>.need (off+(match ag with|true=>n|false=>1)<=cs.length) (.ok (FC n off cs ag) [])
 |none=>.bad
def K7(e:Nat)(n:Int):Option (Nat×List D)->qO
 |some (e',xs)=>.need (e'=e/\0<=n/\n<xs.length) (.ok (.pv (gD (xs.getD n.toNat .any))) [])
 |none=>.bad
def Fl(e:Nat)(n:Int):AV->qO
 |.tS e' id off len=>.need (e'=e/\0<=n/\n<len) (.ok (.ptr id (off+n.toNat*e)) [])
 |.mL e' id m=>.need (e'=e/\0<=n/\n<m) (.ok (.mJ id m (n.toNat*e)) [])
 |x=>K7 e n (rM x)
def UE(e:Nat)(x:AV):Option Int->qO
 |some n=>Fl e n x
 |none=>.bad
def Tq(e n:Nat):Option Int->AV->qO
 |some j,.ptr id off=>.need (0<=j/\j<n) (.ok (.ptr id (off+j.toNat*e)) [])
 |some j,.pv cs=>.need (0<=j/\j<n) (.ok (.pv (cs.drop (j.toNat*e))) [])
 |_,_=>.bad
def O2:Option (Nat×List D)->qO
 |some (_,xs)=>.ok (.d (iD xs.length)) []
 |none=>.bad
def MA:AV->qO
 |.tS _ _ _ n=>.ok (.d (iD n)) []
 |.mL _ _ n=>.ok (.d (iD n)) []
 |x=>O2 (rM x)
def O8:AV->qO
 |.d (.lit (.string b))=>.ok (.d (iD b.size)) []
 |_=>.bad
def UF:AV->AV->qO
 |.d (.lit (.string b)),.d (.lit (.int _ n))=>.need (0<=n/\n<b.size) (.ok (.d (.lit (.int .u8 (Iv b n.toNat)))) [])
 |_,_=>.bad
def T3(b:ByteArray):Option Int->Option Int->qO
 |some l,some h=>.need (0<=l/\l<=h/\h<=b.size) (.ok (.d (.lit (.string (b.extract l.toNat h.toNat)))) [])
 |_,_=>.bad
def SL(ρ:Operand->AV)(lo hi:Option Operand):AV->qO
 |.d (.lit (.string b))=>T3 b (A1 ρ 0 lo) (A1 ρ b.size hi)
 |_=>.bad
def Lw(ρ:Operand->AV)(x:AV)(e:Nat)(lo:Option Int)(hi:Option Operand):Option (Nat×List D)->qO
 |some (e',xs)=>match lo,A1 ρ xs.length hi with
  |some l,some h=>.need ((xs=[]\/e'=e)/\0<=l/\l<=h/\h<=xs.length) (.ok (.d (.sl e' (y_ x) ((xs.take h.toNat).drop l.toNat))) [])
  |_,_=>.bad
 |none=>.bad
def T1(e:Nat):Option Operand->Option Int->Option Int->Option (Nat×List D)->qO
 |none,some h,some m,some (e',xs)=>.need ((xs=[]\/e'=e)/\h=m/\0<=h/\h<=xs.length) (.ok (.BZ e' (xs.take h.toNat)) [])
 |_,_,_,_=>.bad
def Yu(ρ:Operand->AV):Option Operand->Option Int
 |some h=>kr (ρ h)
 |none=>none
def MV(ρ:Operand->AV)(x:AV)(e:Nat)(lo hi:Option Operand):Option Operand->qO
 |none=>Lw ρ x e (A1 ρ 0 lo) hi (rM x)
 |some m=>T1 e lo (Yu ρ hi) (kr (ρ m)) (rM x)
def Lu(ρ:Operand->AV)(e n:Nat):AV->Option Operand->Option Operand->Option Operand->qO
 |.ptr id off,none,none,none=>.ok (.tS e id off n) []
 |.ptr id off,none,some h,none=>match kr (ρ h)with
  |some h=>.need (0<=h/\h<=n) (.ok (.tS e id off h.toNat) [])
  |none=>.bad
 |_,_,_,_=>.bad
def NI(t e bytes:Nat)(j:Nat)(xs ys:List D)(ob:Ob):qO:=
 .need (ob=.tok t e xs.length/\(xs.length+ys.length)*bytes<=2^47) (.ok (.own e j (xs++ys)) [(j,(.tok t e (xs.length+ys.length)))])
def S9(t e bytes:Nat)(j n:Nat)(ys:List D):Ob->qO
 |.lO t' e2 m cs=>.need (t'=t/\e2=e/\m=n/\(n+ys.length)*bytes<=2^47) (.ok (.mL e j (n+ys.length)) [(j,.lO t e (n+ys.length) (cs++ys.flatMap gD))])
 |.oU e2 m cs=>.need (e2=e/\m=n/\(n+ys.length)*bytes<=2^47) (.ok (.mL e j (n+ys.length)) [(j,.oU e (n+ys.length) (cs++(ys.flatMap gD).map .d))])
 |_=>.bad
def Dd(σ:Nat->Ob)(id t e bytes k0:Nat)(e2:Nat)(ys:List D):AV->qO
 |.own e' j xs=>.need ((ys=[]\/e2=e)/\e'=e) (NI t e bytes j xs ys (σ j))
 |.mL e' j n=>.need ((ys=[]\/e2=e)/\e'=e) (S9 t e bytes j n ys (σ j))
 |.d (.sl _ (some true) [])=>.need ((ys=[]\/e2=e)/\ys.length*bytes<=2^47/\k0<=id/\(σ id).kU=true) (.ok (.own e id ys) [(id,.tok t e ys.length)])
 |.BZ e' xs=>.need ((ys=[]\/e2=e)/\e'=e/\(xs.length+ys.length)*bytes<=2^47) (.ok (.d (.sl e none (xs++ys))) [])
 |_=>.bad
def I9(σ:Nat->Ob)(id t e bytes k0:Nat)(x:AV):Option (Nat×List D)->qO
 |some (e2,ys)=>Dd σ id t e bytes k0 e2 ys x
 |none=>.bad
def F3(σ:Nat->Ob)(id t e bytes k0:Nat)(e2:Nat)(ys:List D):AV->qO
 |.d (.sl _ (some true) [])=>.need ((ys=[]\/e2=e)/\ys.length*bytes<=2^47/\k0<=id/\(σ id).kU=true) (.ok (.mL e id ys.length) [(id,.lO t e ys.length (ys.flatMap gD))])
 |x=>Dd σ id t e bytes k0 e2 ys x
def Hp(σ:Nat->Ob)(id t e bytes k0:Nat)(x:AV):Option (Nat×List D)->qO
 |some (e2,ys)=>F3 σ id t e bytes k0 e2 ys x
 |none=>.bad
def VR(i:Nat):AV->qO
 |.oz cs=>.need (i<cs.length) (.ok (cs.getD i .iN) [])
 |_=>.bad
def Bj(mx:Bool):AV->AV->qO
 |.d (.lit (.int k a)),.d (.lit (.int k' b))=>.need (k=k') (.ok (.d (.lit (.int k (match mx with|true=>if b>a then b else a|false=>if b<a then b else a)))) [])
 |_,_=>.bad
def Ra(σ:Nat->Ob)(id t k0:Nat):Option (List AV)->qO
 |some cs=>.need (k0<=id/\(σ id).kU=true) (.ok (.ptr id 0) [(id,.obj t cs)])
 |none=>.bad
def NS:Option (List AV)->qO
 |some cs=>.ok (AV.mk cs) []
 |none=>.bad
def Rb(σ:Nat->Ob)(id t e k0:Nat):Option (List D)->qO
 |some ds=>.need ((∀d∈ds,(gD d).length=e)/\k0<=id/\(σ id).kU=true) (.ok (.own e id ds) [(id,.tok t e ds.length)])
 |none=>.bad
def KL(σ:Nat->Ob)(id t e k0:Nat):Option (List D)->Option (List AV)->qO
 |some ds,some cs=>.need ((∀d∈ds,(gD d).length=e)/\uN cs=true/\k0<=id/\(σ id).kU=true) (.ok (.own e id ds) [(id,.jj t e ds.length cs)])
 |_,_=>.bad
def NL(t e j j2:Nat)(xs ys:List D):Ob->Ob->qO
 |.jj t1 e3 n cs,.jj t2 e4 m cs2=>.need (t1=t/\e3=e/\n=xs.length/\e4=e/\m=ys.length)
  (.ok (.own e j (xs++ys)) [(j,.jj t e (xs.length+ys.length) (cs++cs2)),(j2,.jj t2 e ys.length (List.replicate cs2.length .iN))])
 |_,_=>.bad
def KF(σ:Nat->Ob)(t e bytes:Nat):AV->AV->qO
 |.own e' j xs,.own e2 j2 ys=>.need (e'=e/\e2=e/\j≠j2/\ys≠[]/\(xs.length+ys.length)*bytes<=2^47) (NL t e j j2 xs ys (σ j) (σ j2))
 |_,_=>.bad
def KJ(σ:Nat->Ob)(id t e k0:Nat):Option (List D)->qO
 |some ds=>.need ((∀d∈ds,(gD d).length=e)/\k0<=id/\(σ id).kU=true) (.ok (.mL e id ds.length) [(id,.lO t e ds.length (ds.flatMap gD))])
 |none=>.bad
def Ld(σ:Nat->Ob)(id t e bytes k0:Nat)(z:List D):Bool->Option Int->Option Int->qO
 |true,some l,some c=>.need (0<=l/\l<=c/\bytes*c<=2^48/\c<2^62/\k0<=id/\(σ id).kU=true) (.ok (.own e id []) [(id,.tok t e 0)])
 |false,some l,some c=>.need (0<=l/\l<=c/\bytes*c<=2^48/\c<2^62/\k0<=id/\(σ id).kU=true) (.ok (.tS e id 0 l.toNat) [(id,.obj t ((List.replicate l.toNat (z.map .d)).flatten))])
 |_,_,_=>.bad
def Pt(e bytes:Nat):List D->Bool->Option Int->Option Int->qO
 |[zd],false,some l,some c=>.need (e=1/\0<=l/\l<=c/\bytes*c<=2^48/\c<2^62) (.ok (.d (.sl 1 none (List.replicate l.toNat zd))) [])
 |_,_,_,_=>.bad
def Ot(P:Program)(args:List AV):AV->qO
 |.fn f first cap=>.need (enters P f=true) (.call f (first++args++cap))
 |_=>.bad
def lK(P:Program)(k0:Nat)(ρ:Operand->AV)(σ:Nat->Ob):tM->qO
 |.mv x=>.ok (ρ x) []
 |.pick c a b=>PL (ρ a) (ρ b) (ρ c)
 |.alloc id t z=>.need (k0<=id/\(σ id).kU=true) (.ok (.ptr id 0) [(id,.obj t (z.map .d))])
 |.box id t x=>Ra σ id t k0 (ρ x).cells
 |.F6 _ _ _ _=>.bad
 |.build z ps=>NS (tU ρ (z.map .d) ps)
 |.mH id t e xs=>Rb σ id t e k0 (AV.nC (xs.map ρ))
 |.yY id t e xs=>KJ σ id t e k0 (AV.nC (xs.map ρ))
 |.Ev _ _ _ _=>.bad
 |.yu id t e xs=>KL σ id t e k0 (AV.nC (xs.map ρ)) (AV.flat e (xs.map ρ))
 |.CN _ t e bytes x y=>KF σ t e bytes (ρ x) (ρ y)
 |.load n ag p=>La σ n ag (ρ p)
 |.store n p x=>GL σ n (ρ x) (ρ p)
 |.rI x=>TT (ρ x)
 |.bin op x y=>Ui op (ρ x) (ρ y)
 |.CO neg x y=>NN neg (ρ x) (ρ y)
 |.xT neg x=>OJ neg (y_ (ρ x))
 |.un op x=>unL op (ρ x)
 |.conv k x=>OD k (ρ x)
 |.DS f first cap=>.ok (.fn f (first.map ρ) (cap.map ρ)) []
 |.zz _ _ e bytes z tok len cap=>Pt e bytes z tok (kr (ρ len)) (kr (ρ cap))
 |.Bk _ _ _ _ _ _ _ _=>.bad
 |.zy id t e bytes z tok len cap=>Ld σ id t e bytes k0 z tok (kr (ρ len)) (kr (ρ cap))
 |.slc x e lo hi mx=>MV ρ (ρ x) e lo hi mx
 |.GH p e n lo hi mx=>Lu ρ e n (ρ p) lo hi mx
 |.QZ off p=>VS off (ρ p)
 |.Tn off n ag x=>VW off n ag (ρ x).ni
 |.CY e x i=>UE e (ρ x) (kr (ρ i))
 |.DJ e n p i=>Tq e n (kr (ρ i)) (ρ p)
 |.len x=>MA (ρ x)
 |.lens x=>O8 (ρ x)
 |.ixs x i=>UF (ρ x) (ρ i)
 |.T2 x lo hi=>SL ρ lo hi (ρ x)
 |.app id t e bytes x y=>I9 σ id t e bytes k0 (ρ x) (rM (ρ y))
 |.Et id t e bytes x y=>Hp σ id t e bytes k0 (ρ x) (rM (ρ y))
 |.ji f args=>.call f (args.map ρ)
 |.zk g args=>Ot P (args.map ρ) (ρ g)
 |.ext x i=>VR i (ρ x)
 |.max x y=>Bj true (ρ x) (ρ y)
 |.min x y=>Bj false (ρ x) (ρ y)
 |.DT _ _|.look _ _ _ _ _ _|.J4 _ _ _ _ _|.AB _ _ _ _|.Sv _|.Iz _ _ _|.Gt _ _=>.bad
 |.dead=>.bad
def rL(s:gQ):List (Nat×Ob)->gQ
 |[]=>s
 |(i,ob)::r=>rL (sset s i ob) r
def qO.out(env:List AV)(s:gQ):qO->Out
 |.ok x δ=>.ok x env (rL s δ)
 |.need p o=>.need p (o.out env s)
 |.br b o1 o2=>.br b (o1.out env s) (o2.out env s)
 |.call f args=>.call f args env s
 |.bad=>.bad
theorem Dj{env:List AV}{d:Int}{x:Option Operand}:A1 (ev env) d x=Ap env d x:=by cases x<;>rfl
theorem Bt{env:List AV}:∀{ps:List (Nat×Nat×Operand)}{cs:List AV},tU (ev env) cs ps=qp env cs ps
 |[],cs=>rfl
 |(off,n,x)::r,cs=>by
  simp only[tU,qp];cases(ev env x).cells with
  |none=>rfl
  |some xs=>simp only;split<;>simp[Bt]
theorem Hj{P:Program}{k0 id t e bytes:Nat}{x:AV}{Y:Option (Nat×List D)}{env:List AV}{s:gQ}{K:AV->List AV->gQ->Prop}(h:runK P k0 K ((I9 (sat s) id t e bytes k0 x Y).out env s)):
 runK P k0 K (LS id t e bytes k0 x env s Y):=by
 have dead:∀{id:Nat},(sat s id).kU=true->sat s id=.dead:=fun{id} h=>by cases hs:sat s id<;>simp_all[Ob.kU]
 cases Y with
 |none=>exact h
 |some p=>
  obtain⟨e2,ys⟩:=p;simp only[I9,LS,Dd,Hi]at h⊢;split at h
  ·simp only[NI,KD,qO.out,runK,rL]at h⊢;exact h
  ·rename_i e' j n;simp only[qO.out,runK]at h⊢;refine⟨h.1,?_⟩;have h:=h.2;generalize sat s j=X at h⊢;cases X<;>exact h
  ·simp only[qO.out,runK,rL]at h⊢;rw[dead h.1.2.2.2];exact⟨⟨h.1.1,h.1.2.1,h.1.2.2.1⟩,h.2⟩
  ·exact h
  ·exact h.elim
theorem LU{P:Program}{k0 id t e bytes:Nat}{x:AV}{Y:Option (Nat×List D)}{env:List AV}{s:gQ}{K:AV->List AV->gQ->Prop}(h:runK P k0 K ((Hp (sat s) id t e bytes k0 x Y).out env s)):
 runK P k0 K (Dg id t e bytes k0 x env s Y):=by
 have dead:∀{id:Nat},(sat s id).kU=true->sat s id=.dead:=fun{id} h=>by cases hs:sat s id<;>simp_all[Ob.kU]
 cases Y with
 |none=>exact h
 |some p=>
  obtain⟨e2,ys⟩:=p;simp only[Hp,Dg]at h⊢;unfold F3 at h;split at h
  ·simp only[BI,qO.out,runK,rL]at h⊢;rw[dead h.1.2.2.2];exact⟨⟨h.1.1,h.1.2.1,h.1.2.2.1⟩,h.2⟩
  ·rename_i hn;unfold BI;split
   ·rename_i e4;exact absurd rfl (hn e4)
   ·exact Hj (Y:=some (e2,ys)) h
theorem M7{P:Program}{k0:Nat}{m:tM}{env:List AV}{s:gQ}{K:AV->List AV->gQ->Prop}
 (h:runK P k0 K ((lK P k0 (ev env) (sat s) m).out env s)):runK P k0 K (kH P k0 env s m):=by
 have dead:∀{id:Nat},(sat s id).kU=true->sat s id=.dead:=fun{id} h=>by cases hs:sat s id<;>simp_all[Ob.kU]
 cases m with
 |mv x=>exact h
 |pick c a b=>
  simp only[lK,kH,PL,Lk]at h⊢;generalize ev env c=Xc at h⊢;cases Xc with
  |d x=>cases x with
   |lit u=>cases u<;>exact h
   |_=>exact h
  |_=>exact h
 |alloc id t z=>
  simp only[lK,kH,qO.out,runK,rL]at h⊢;rw[dead h.1.2];exact⟨h.1.1,h.2⟩
 |F6 id d t x=>simp only[lK]at h;exact h.elim
 |box id t x=>
  simp only[lK,kH]at h⊢;generalize(ev env x).cells=X at h⊢;cases X with
  |none=>exact h
  |some cs=>
   simp only[Ra,LW,qO.out,runK,rL]at h⊢;rw[dead h.1.2];exact⟨h.1.1,h.2⟩
 |build z ps=>
  simp only[lK,kH,Bt]at h⊢;generalize qp env (z.map .d) ps=X at h⊢;cases X<;>exact h
 |mH id t e xs=>
  simp only[lK,kH]at h⊢;generalize AV.nC (xs.map (ev env))=X at h⊢;cases X with
  |none=>exact h
  |some ds=>
   simp only[Rb,Rc,qO.out,runK,rL]at h⊢;rw[dead h.1.2.2];exact⟨⟨h.1.1,h.1.2.1⟩,h.2⟩
 |Ev id t e xs=>simp only[lK]at h;exact h.elim
 |yu id t e xs=>
  simp only[lK,kH]at h⊢;generalize AV.nC (xs.map (ev env))=X at h⊢;generalize AV.flat e (xs.map (ev env))=Y at h⊢;cases X with
  |none=>cases Y<;>exact h.elim
  |some ds=>cases Y with
   |none=>exact h.elim
   |some cs=>
    simp only[KL,KM,qO.out,runK,rL]at h⊢;rw[dead h.1.2.2.2];exact⟨⟨h.1.1,h.1.2.1,h.1.2.2.1⟩,h.2⟩
 |CN id t e bytes x y=>
  simp only[lK,kH]at h⊢;generalize ev env x=X at h⊢;generalize ev env y=Y at h⊢;unfold KF at h;unfold KG;split at h
  ·rename_i e' j xs e2 j2 ys;simp only[qO.out,runK]at h⊢;refine⟨h.1,?_⟩;have h:=h.2;generalize sat s j=A at h⊢;generalize sat s j2=B at h⊢;cases A<;>cases B<;>exact h
  ·exact h.elim
 |yY id t e xs=>
  simp only[lK,kH]at h⊢;generalize AV.nC (xs.map (ev env))=X at h⊢;cases X with
  |none=>exact h
  |some ds=>
   simp only[KJ,KK,qO.out,runK,rL]at h⊢;rw[dead h.1.2.2];exact⟨⟨h.1.1,h.1.2.1⟩,h.2⟩
 |load n ag p=>
  simp only[lK,kH,La,Fp]at h⊢;generalize ev env p=Xp at h⊢;cases Xp with
  |ptr id off=>simp only at h⊢;generalize sat s id=X at h⊢;cases X<;>exact h
  |mJ id kk off=>simp only at h⊢;generalize sat s id=X at h⊢;cases X<;>first|exact h|exact h.elim
  |_=>exact h
 |store n p x=>
  simp only[lK,kH,GL,Ec]at h⊢;generalize ev env p=Xp at h⊢;cases Xp with
  |ptr id off=>simp only at h⊢;generalize sat s id=X at h⊢;generalize(ev env x).cells=Y at h⊢;cases X<;>cases Y<;>exact h
  |mJ id kk off=>simp only at h⊢;generalize sat s id=X at h⊢;generalize(ev env x).fin=Y at h⊢;generalize(ev env x).cells=Z at h⊢;cases X<;>cases Y<;>cases Z<;>first|exact h|exact h.elim
  |_=>exact h
 |rI x=>simp only[lK,kH]at h⊢;generalize ev env x=X at h⊢;cases X<;>exact h
 |bin op x y=>
  simp only[lK,kH,Ui,Q_]at h⊢;generalize ev env x=Xx at h⊢;generalize ev env y=Xy at h⊢;cases Xx with
  |d x1=>cases x1 with
   |lit u=>cases u with
    |int k a=>cases Xy with
     |d y1=>cases y1 with
      |lit v=>cases v with
       |int k' b=>cases op<;>exact h
       |_=>exact h
      |_=>exact h
     |_=>exact h
    |string a=>cases Xy with
     |d y1=>cases y1 with
      |lit v=>cases v with
       |string b=>cases op<;>exact h
       |_=>exact h
      |_=>exact h
     |_=>exact h
    |_=>exact h
   |_=>exact h
  |_=>exact h
 |CO neg x y=>
  simp only[lK,kH,NN,KI]at h⊢;generalize ev env x=Xx at h⊢;generalize ev env y=Xy at h⊢;cases Xx with
  |d x1=>cases x1 with
   |lit u=>cases u with
    |bool a=>cases Xy with
     |d y1=>cases y1 with
      |lit v=>cases v<;>exact h
      |_=>exact h
     |_=>exact h
    |_=>exact h
   |_=>exact h
  |_=>exact h
 |xT neg x=>simp only[lK,kH]at h⊢;generalize y_ (ev env x)=X at h⊢;cases X<;>first|exact h|exact h.elim
 |un op x=>
  simp only[lK,kH,unL,Yz]at h⊢;generalize ev env x=X at h⊢;cases op<;>cases X with
  |d x1=>cases x1 with
   |lit u=>cases u<;>exact h
   |_=>exact h
  |_=>exact h
 |conv k x=>
  simp only[lK,kH,OD,KY]at h⊢;generalize ev env x=Xx at h⊢;cases Xx with
  |d x1=>cases x1 with
   |lit u=>cases u<;>exact h
   |_=>exact h
  |_=>exact h
 |DS f first cap=>exact h
 |Bk id t e bytes z tok len cap=>simp only[lK]at h;exact h.elim
 |zz id t e bytes z tok len cap=>
  simp only[lK,kH]at h⊢;generalize kr (ev env len)=X at h⊢;generalize kr (ev env cap)=Y at h⊢;cases z with
  |nil=>cases tok<;>cases X<;>cases Y<;>exact h
  |cons zd z=>cases z<;>cases tok<;>cases X<;>cases Y<;>exact h
 |zy id t e bytes z tok len cap=>
  simp only[lK,kH]at h⊢;generalize kr (ev env len)=X at h⊢;generalize kr (ev env cap)=Y at h⊢;cases tok<;>cases X<;>cases Y<;>simp only[Ld,Lf,qO.out,runK,rL]at h⊢
  ·rw[dead h.1.2.2.2.2.2];exact⟨⟨h.1.1,h.1.2.1,h.1.2.2.1,h.1.2.2.2.1,h.1.2.2.2.2.1⟩,h.2⟩
  ·rw[dead h.1.2.2.2.2.2];exact⟨⟨h.1.1,h.1.2.1,h.1.2.2.1,h.1.2.2.2.1,h.1.2.2.2.2.1⟩,h.2⟩
 |slc x e lo hi mx=>
  simp only[lK,kH]at h⊢;cases mx with
  |some m=>
   simp only[MV,MW]at h⊢;generalize rM (ev env x)=X at h⊢;generalize kr (ev env m)=M at h⊢;cases hi with
   |none=>cases lo<;>cases M<;>cases X<;>exact h
   |some hh=>
    simp only[Yu,Yv]at h⊢;generalize kr (ev env hh)=H at h⊢;cases lo<;>cases H<;>cases M<;>cases X<;>exact h
  |none=>
   simp only[MV,MW,Dj]at h⊢;generalize rM (ev env x)=X at h⊢;cases X with
   |none=>exact h
   |some p=>
    simp only[Lw,Lx,Dj]at h⊢;generalize Ap env 0 lo=X at h⊢;generalize Ap env p.2.length hi=Y at h⊢;cases X<;>cases Y<;>exact h
 |GH p e n lo hi mx=>
  simp only[lK,kH,Lu,Lv]at h⊢;generalize ev env p=X at h⊢;cases X<;>cases lo<;>cases hi<;>cases mx<;>first
   |exact h
   |(rename_i q;simp only at h⊢;generalize kr (ev env q)=Z at h⊢;cases Z<;>exact h)
 |QZ off p=>simp only[lK,kH]at h⊢;generalize ev env p=X at h⊢;cases X<;>exact h
 |Tn off n ag x=>simp only[lK,kH]at h⊢;generalize(ev env x).ni=X at h⊢;cases X<;>exact h
 |CY e x i=>
  simp only[lK,kH]at h⊢;generalize kr (ev env i)=I at h⊢;cases I with
  |none=>exact h
  |some n=>
   simp only[UE,R2]at h⊢;generalize ev env x=X at h⊢;cases X<;>simp only[Fl,DK]at h⊢<;>first
    |exact h
    |(revert h;generalize rM _=q;intro h;cases q<;>exact h)
 |DJ e n p i=>simp only[lK,kH]at h⊢;generalize kr (ev env i)=X at h⊢;generalize ev env p=Y at h⊢;cases X<;>cases Y<;>exact h
 |len x=>
  simp only[lK,kH]at h⊢;generalize ev env x=X at h⊢;cases X<;>simp only[MA,JS]at h⊢<;>first
   |exact h
   |(revert h;generalize rM _=q;intro h;cases q<;>exact h)
 |lens x=>
  simp only[lK,kH,O8,K9]at h⊢;generalize ev env x=Xx at h⊢;cases Xx with
  |d x1=>cases x1 with
   |lit u=>cases u<;>exact h
   |_=>exact h
  |_=>exact h
 |ixs x i=>
  simp only[lK,kH,UF,R4]at h⊢;generalize ev env x=Xx at h⊢;generalize ev env i=Xy at h⊢;cases Xx with
  |d x1=>cases x1 with
   |lit u=>cases u with
    |string a=>cases Xy with
     |d y1=>cases y1 with
      |lit v=>cases v<;>exact h
      |_=>exact h
     |_=>exact h
    |_=>exact h
   |_=>exact h
  |_=>exact h
 |T2 x lo hi=>
  simp only[lK,kH,SL,SM,Dj]at h⊢;generalize ev env x=Xx at h⊢;cases Xx with
  |d x1=>cases x1 with
   |lit u=>cases u with
    |string a=>
     simp only at h⊢;generalize Ap env 0 lo=X at h⊢;generalize Ap env a.size hi=Y at h⊢;cases X<;>cases Y<;>exact h
    |_=>exact h
   |_=>exact h
  |_=>exact h
 |app id t e bytes x y=>exact Hj h
 |Et id t e bytes x y=>exact LU h
 |ji f args=>exact h
 |zk g args=>
  simp only[lK,kH]at h⊢;generalize ev env g=X at h⊢;cases X<;>exact h
 |ext x i=>simp only[lK,kH]at h⊢;generalize ev env x=X at h⊢;cases X<;>exact h
 |max x y=>
  simp only[lK,kH,Bj,yF]at h⊢;generalize ev env x=Xx at h⊢;generalize ev env y=Xy at h⊢;cases Xx with
  |d x1=>cases x1 with
   |lit u=>cases u with
    |int k a=>cases Xy with
     |d y1=>cases y1 with
      |lit v=>cases v<;>exact h
      |_=>exact h
     |_=>exact h
    |_=>exact h
   |_=>exact h
  |_=>exact h
 |min x y=>
  simp only[lK,kH,Bj,yF]at h⊢;generalize ev env x=Xx at h⊢;generalize ev env y=Xy at h⊢;cases Xx with
  |d x1=>cases x1 with
   |lit u=>cases u with
    |int k a=>cases Xy with
     |d y1=>cases y1 with
      |lit v=>cases v<;>exact h
      |_=>exact h
     |_=>exact h
    |_=>exact h
   |_=>exact h
  |_=>exact h
 |dead=>exact h
 |_=>exact h.elim
def rJ:Operand->List Nat
 |.tmp t=>[t]
 |_=>[]
def Bq(xs:List Operand):List Nat:=xs.flatMap rJ
def Cz:Option Operand->List Nat
 |some x=>rJ x
 |none=>[]
def ox:tM->List Nat
 |.mv x|.rI x|.un _ x|.conv _ x|.QZ _ x|.Tn _ _ _ x|.len x|.lens x|.ext x _|.box _ _ x|.F6 _ _ _ x|.load _ _ x|.xT _ x=>rJ x
 |.pick c a b=>rJ c++rJ a++rJ b
 |.ixs x i=>rJ x++rJ i
 |.T2 x lo hi=>rJ x++(Cz lo++Cz hi)
 |.store _ p x=>rJ p++rJ x
 |.bin _ x y|.CO _ x y|.max x y|.min x y|.CY _ x y|.DJ _ _ x y|.app _ _ _ _ x y|.Et _ _ _ _ x y|.CN _ _ _ _ x y=>rJ x++rJ y
 |.zy _ _ _ _ _ _ l c=>rJ l++rJ c
 |.zz _ _ _ _ _ _ l c=>rJ l++rJ c
 |.Bk _ _ _ _ _ _ l c=>rJ l++rJ c
 |.slc x _ lo hi m=>rJ x++Cz lo++Cz hi++Cz m
 |.GH x _ _ lo hi _=>rJ x++Cz lo++Cz hi
 |.build _ ps=>Bq (ps.map (·.2.2))
 |.mH _ _ _ xs|.yY _ _ _ xs|.Ev _ _ _ xs|.yu _ _ _ xs=>Bq xs
 |.DS _ f c=>Bq f++Bq c
 |.ji _ xs=>Bq xs
 |.zk g xs=>rJ g++Bq xs
 |.look _ _ _ _ m x|.AB _ _ m x=>rJ m++rJ x
 |.J4 _ _ m x v=>rJ m++rJ x++rJ v
 |.Sv x=>rJ x
 |.Gt _ x=>rJ x
 |.Iz x _ h=>rJ x++rJ h
 |.alloc .. |.DT .. |.dead=>[]
def uC(ρ:Operand->AV):tM->List Nat
 |.CN _ _ _ _ x y=>match ρ x,ρ y with|.own _ j _,.own _ j2 _=>[j,j2]|_,_=>[]
 |.yu id _ _ _=>[id]
 |.load _ _ p=>match ρ p with|.ptr id _=>[id]|.mJ id _ _=>[id]|_=>[]
 |.store _ p _=>match ρ p with|.ptr id _=>[id]|.mJ id _ _=>[id]|_=>[]
 |.Et id _ _ _ x _=>match ρ x with|.own _ j _=>[j]|.mL _ j _=>[j]|_=>[id]
 |.alloc id _ _|.box id _ _|.mH id _ _ _|.yY id _ _ _|.Ev id _ _ _|.zy id _ _ _ _ _ _ _=>[id]
 |.app id _ _ _ x _=>match ρ x with|.own _ j _=>[j]|.mL _ j _=>[j]|_=>[id]
 |_=>[]
theorem De{k0 id t e bytes:Nat}{X:AV}{p:Option (Nat×List D)}{σ σ':Nat->Ob}
 (hf:∀i∈(match X with|.own _ j _=>[j]|.mL _ j _=>[j]|_=>[id]),σ' i=σ i):I9 σ' id t e bytes k0 X p=I9 σ id t e bytes k0 X p:=by
 unfold I9;cases p with
 |none=>rfl
 |some p=>
  simp only;unfold Dd;cases X with
  |own e' j xs=>have hj:=hf j (by simp);simp only[hj]
  |mL e' j n=>have hj:=hf j (by simp);simp only[hj]
  |d x1=>
   have hj:=hf id (by simp);cases x1 with
   |sl e1 nl xs=>cases nl with
    |none=>rfl
    |some b=>cases b<;>cases xs<;>first|rfl|simp only[hj]
   |_=>rfl
  |_=>rfl
theorem Kt{P:Program}{k0:Nat}{m:tM}{ρ ρ':Operand->AV}{σ σ':Nat->Ob}(hc:∀o:Operand,rJ o=[]->ρ' o=ρ o)(hr:∀t∈ox m,ρ' (.tmp t)=ρ (.tmp t))
 (hf:∀id∈uC ρ m,σ' id=σ id):lK P k0 ρ' σ' m=lK P k0 ρ σ m:=by
 have one':∀o:Operand,(∀t∈rJ o,ρ' (.tmp t)=ρ (.tmp t))->ρ' o=ρ o:=fun o h=>by
  cases o with
  |tmp t=>exact h t (by simp[rJ])
  |_=>exact hc _ rfl
 have many:∀xs:List Operand,(∀t∈Bq xs,ρ' (.tmp t)=ρ (.tmp t))->xs.map ρ'=xs.map ρ:=fun xs h=>
  c_ fun o ho=>one' o fun t ht=>h t (List.mem_flatMap.2 ⟨o,ho,ht⟩)
 have opt:∀(x:Option Operand)(d:Int),(∀t∈Cz x,ρ' (.tmp t)=ρ (.tmp t))->A1 ρ' d x=A1 ρ d x:=fun x d h=>by
  cases x with
  |none=>rfl
  |some o=>simp only[A1];rw[one' o h]
 cases m with
 |mv x|rI x|un _ x|conv _ x|QZ _ x|Tn _ _ _ x|len x|lens x|ext x _|xT _ x=>simp only[ox]at hr;simp only[lK];rw[one' x hr]
 |F6 id d t x=>rfl
 |box id t x=>simp only[ox]at hr;simp only[uC]at hf;simp only[lK,Ra];rw[one' x hr,hf id (by simp)]
 |pick c a b=>
  simp only[ox,aG]at hr;simp only[lK];rw[one' c fun t h=>hr t (.inl (.inl h)),one' a fun t h=>hr t (.inl (.inr h)),one' b fun t h=>hr t (.inr h)]
 |alloc id t z=>simp only[uC]at hf;simp only[lK];rw[hf id (by simp)]
 |build z ps=>
  simp only[ox]at hr;simp only[lK];have:∀(ps:List (Nat×Nat×Operand))(cs:List AV),(∀t∈Bq (ps.map (·.2.2)),ρ' (.tmp t)=ρ (.tmp t))->tU ρ' cs ps=tU ρ cs ps:=by
   intro ps;induction ps with
   |nil=>intro cs _;rfl
   |cons p ps ih=>
    obtain⟨off,n,x⟩:=p;intro cs h;simp only[aT,Bq,cn,aG]at h;simp only[tU];rw[one' x fun t ht=>h t (.inl ht)];cases(ρ x).cells with
    |none=>rfl
    |some xs=>simp only;split<;>first|exact ih _ (fun t ht=>h t (.inr ht))|rfl
  rw[this ps _ hr]
 |mH id t e xs=>simp only[ox]at hr;simp only[uC]at hf;simp only[lK,Rb];rw[many xs hr,hf id (by simp)]
 |Ev id t e xs=>rfl
 |yu id t e xs=>simp only[ox]at hr;simp only[uC]at hf;simp only[lK,KL];rw[many xs hr,hf id (by simp)]
 |CN id t e bytes x y=>
  simp only[ox,aG]at hr;simp only[uC]at hf;simp only[lK];rw[one' x fun t ht=>hr t (.inl ht),one' y fun t ht=>hr t (.inr ht)];revert hf;generalize ρ x=X;generalize ρ y=Y;intro hf;unfold KF;split
  ·rename_i e' j xs e2 j2 ys;rw[hf j (by simp),hf j2 (by simp)]
  ·rfl
 |yY id t e xs=>simp only[ox]at hr;simp only[uC]at hf;simp only[lK,KJ];rw[many xs hr,hf id (by simp)]
 |load n ag p=>
  simp only[ox]at hr;simp only[uC]at hf;simp only[lK];rw[one' p hr];unfold La;cases hp:ρ p with
  |ptr id off=>rw[hp]at hf;simp only;rw[hf id (by simp)]
  |mJ id kk off=>rw[hp]at hf;simp only;rw[hf id (by simp)]
  |_=>rfl
 |store n p x=>
  simp only[ox,aG]at hr;simp only[uC]at hf;simp only[lK];rw[one' p fun t h=>hr t (.inl h),one' x fun t h=>hr t (.inr h)];unfold GL;cases hp:ρ p with
  |ptr id off=>rw[hp]at hf;simp only;rw[hf id (by simp)]
  |mJ id kk off=>rw[hp]at hf;simp only;rw[hf id (by simp)]
  |_=>rfl
 |bin _ x y|CO _ x y|max x y|min x y|CY _ x y|DJ _ _ x y=>
  simp only[ox,aG]at hr;simp only[lK];rw[one' x fun t h=>hr t (.inl h),one' y fun t h=>hr t (.inr h)]
 |DS f first cap=>
  simp only[ox,aG]at hr;simp only[lK];rw[many first fun t h=>hr t (.inl h),many cap fun t h=>hr t (.inr h)]
 |Bk id t e bytes z tok l c=>rfl
 |zz id t e bytes z tok l c=>
  simp only[ox,aG]at hr;simp only[lK];rw[one' l fun t h=>hr t (.inl h),one' c fun t h=>hr t (.inr h)]
 |zy id t e bytes z tok l c=>
  simp only[ox,aG]at hr;simp only[uC]at hf;simp only[lK,Ld];rw[one' l fun t h=>hr t (.inl h),one' c fun t h=>hr t (.inr h),hf id (by simp)]
 |ixs x i=>
  simp only[ox,aG]at hr;simp only[lK];rw[one' x fun t h=>hr t (.inl h),one' i fun t h=>hr t (.inr h)]
 |T2 x lo hi=>
  simp only[ox,aG]at hr;simp only[lK];rw[one' x fun t h=>hr t (.inl h)];cases ρ x with
  |d x1=>cases x1 with
   |lit u=>cases u with
    |string a=>
     simp only[SL];rw[opt lo 0 fun t h=>hr t (.inr (.inl h)),opt hi _ fun t h=>hr t (.inr (.inr h))]
    |_=>rfl
   |_=>rfl
  |_=>rfl
 |slc x e lo hi mx=>
  simp only[ox,aG]at hr;simp only[lK];rw[one' x fun t h=>hr t (.inl (.inl (.inl h)))];cases mx with
  |some m=>
   simp only[MV];rw[one' m fun t h=>hr t (.inr h)];cases hi with
   |none=>rfl
   |some hh=>simp only[Yu];rw[one' hh fun t h=>hr t (.inl (.inr h))]
  |none=>
   simp only[MV];rw[opt lo 0 fun t h=>hr t (.inl (.inl (.inr h)))];cases rM (ρ x)with
   |none=>rfl
   |some p=>simp only[Lw];rw[opt hi _ fun t h=>hr t (.inl (.inr h))]
 |GH x e n lo hi mx=>
  simp only[ox,aG]at hr;simp only[lK,Lu];rw[one' x fun t h=>hr t (.inl (.inl h))];cases ρ x<;>cases lo<;>cases hi<;>cases mx<;>first
   |rfl
   |(rename_i q;simp only;rw[one' q fun t h=>hr t (.inr h)])
 |app id t e bytes x y=>
  simp only[ox,aG]at hr;simp only[lK];rw[one' x fun t h=>hr t (.inl h),one' y fun t h=>hr t (.inr h)];exact De hf
 |Et id t e bytes x y=>
  simp only[ox,aG]at hr;simp only[lK];rw[one' x fun t h=>hr t (.inl h),one' y fun t h=>hr t (.inr h)];unfold Hp;cases rM (ρ y)with
  |none=>rfl
  |some p=>
   simp only;have h0:Dd σ' id t e bytes k0 p.1 p.2 (ρ x)=Dd σ id t e bytes k0 p.1 p.2 (ρ x):=De (p:=some p) hf;simp only[uC]at hf;cases hx:ρ x with
   |d x1=>
    rw[hx]at hf h0;have hj:=hf id (by simp);cases x1 with
    |sl e1 nl xs=>cases nl with
     |none=>exact h0
     |some b=>cases b<;>cases xs<;>first|exact h0|simp only[F3,hj]
    |_=>exact h0
   |_=>rw[hx]at h0;exact h0
 |ji f xs=>simp only[ox]at hr;simp only[lK];rw[many xs hr]
 |zk g xs=>
  simp only[ox,aG]at hr;simp only[lK];rw[one' g fun t h=>hr t (.inl h),many xs fun t h=>hr t (.inr h)]
 |dead=>rfl
 |DT _ _|look _ _ _ _ _ _|J4 _ _ _ _ _|AB _ _ _ _|Sv _|Iz _ _ _|Gt _ _=>rfl
def xR:List (Nat×Ob)->Nat->Option Ob
 |[],_=>none
 |(i,ob)::r,id=>match xR r id with
  |some x=>some x
  |none=>if id=i then some ob else none
theorem D1:∀(δ:List (Nat×Ob))(s:gQ)(id:Nat),sat (rL s δ) id=(xR δ id).getD (sat s id)
 |[],_,_=>rfl
 |(i,ob)::r,s,id=>by
  rw[rL,D1 r,iE,xR];cases xR r id with
  |some x=>rfl
  |none=>by_cases h:id=i<;>simp[h]
theorem EX:∀{δ:List (Nat×Ob)}{id:Nat},(xR δ id).isSome=true->id∈δ.map (·.1)
 |[],_,h=>by simp[xR]at h
 |(i,ob)::r,id,h=>by
  simp only[xR]at h;cases hr:xR r id with
  |some x=>exact en _ (EX (by rw[hr];rfl))
  |none=>
   rw[hr]at h;by_cases hi:id=i
   ·simp[hi]
   ·simp[hi]at h
def Vl(σ:Nat->Ob)(pr mp:List fR):gQ:=mp.map fun(c,j)=>(c,(σ j).hG (pV pr))
def If(t:gQ)(all mp:List fR):List (Nat×Ob):=mp.map fun(c,j)=>(j,(sat t c).hG (oA all))
theorem D4{t:gQ}{all:List fR}:∀{mp:List fR}{s:gQ},tV s t mp all=rL s (If t all mp)
 |[],_=>rfl
 |(c,j)::r,s=>by simp only[tV,If,aT,rL];exact D4
def Tg(P:Program)(k0:Nat)(σ:Nat->Ob)(f:Nat)(args:List AV)(K:AV->List (Nat×Ob)->List Nat->Prop):Prop:=
 (∃dz:List D,jr (args.map fun x=>x.hG (pV [])) (dz.map .d)/\((∃r,lz P f dz r/\K (.d r) [] [])\/∃rs:List D,ki P f dz rs/\K (.oz (rs.map .d)) [] []))\/
 ∃(pr nw:List fR)(y:AV)(t:gQ),pr.map (·.1)=List.range pr.length/\((pr++nw).map (·.1)).Nodup/\((pr++nw).map (·.2)).Nodup/\(∀p∈nw,σ p.2=.dead/\k0<=p.2)/\
  hY P f (args.map fun x=>x.hG (pV pr)) (Vl σ pr pr) pr.length (fun x s'=>x=y/\s'=t)/\K (y.hG (oA (pr++nw))) (If t (pr++nw) (pr++nw)) ((pr++nw).map (·.2))
def Au(P:Program)(k0:Nat)(σ:Nat->Ob)(R:AV->List (Nat×Ob)->List Nat->Prop):qO->Prop
 |.ok x δ=>R x δ []
 |.need p o=>p/\Au P k0 σ R o
 |.br b o1 o2=>if b=true then Au P k0 σ R o1 else Au P k0 σ R o2
 |.call f args=>Tg P k0 σ f args R
 |.bad=>False
theorem A4{P:Program}{k0:Nat}{σ:Nat->Ob}{R:AV->List (Nat×Ob)->List Nat->Prop}:∀{o:qO},Au P k0 σ R o->
 ∃x δ ex,Au P k0 σ (fun x' δ' e'=>x'=x/\δ'=δ/\e'=ex) o/\R x δ ex
 |.ok x δ,h=>⟨x,δ,[],⟨rfl,rfl,rfl⟩,h⟩
 |.need p o,h=>by obtain⟨hp,h⟩:=h;obtain⟨x,δ,ex,h1,h2⟩:=A4 h;exact⟨x,δ,ex,⟨hp,h1⟩,h2⟩
 |.br b o1 o2,h=>by
  simp only[Au]at h⊢;split at h
  ·rename_i hb;obtain⟨x,δ,ex,h1,h2⟩:=A4 h;exact⟨x,δ,ex,by rw[aE hb];exact h1,h2⟩
  ·rename_i hb;obtain⟨x,δ,ex,h1,h2⟩:=A4 h;exact⟨x,δ,ex,by rw[aJ hb];exact h1,h2⟩
 |.call f args,h=>by
  rcases h with⟨ds,h1,h|h⟩|⟨pr,nw,y,t,h1,h2,h3,h4,h5,h6⟩
  ·obtain⟨r,h2,h3⟩:=h;exact⟨_,_,_,.inl ⟨ds,h1,.inl ⟨r,h2,rfl,rfl,rfl⟩⟩,h3⟩
  ·obtain⟨r,h2,h3⟩:=h;exact⟨_,_,_,.inl ⟨ds,h1,.inr ⟨r,h2,rfl,rfl,rfl⟩⟩,h3⟩
  ·exact⟨_,_,_,.inr ⟨pr,nw,y,t,h1,h2,h3,h4,h5,rfl,rfl,rfl⟩,h6⟩
 |.bad,h=>h.elim
theorem yz{P:Program}{k0:Nat}{σ σ':Nat->Ob}{x:AV}{δ:List (Nat×Ob)}{ex:List Nat}(hs:∀id∈ex,σ' id=σ id):∀{o:qO},
 Au P k0 σ (fun x' δ' e'=>x'=x/\δ'=δ/\e'=ex) o->Au P k0 σ' (fun x' δ' e'=>x'=x/\δ'=δ/\e'=ex) o
 |.ok x δ,h=>h
 |.need p o,h=>⟨h.1,yz hs h.2⟩
 |.br b o1 o2,h=>by
  simp only[Au]at h⊢;split at h
  ·rename_i hb;rw[aE hb];exact yz hs h
  ·rename_i hb;rw[aJ hb];exact yz hs h
 |.call f args,h=>by
  rcases h with h|⟨pr,nw,y,t,h1,h2,h3,h4,h5,h6,h7,h8⟩
  ·exact .inl h
  ·subst h8;refine .inr ⟨pr,nw,y,t,h1,h2,h3,fun p hp=>?_,?_,h6,h7,rfl⟩
   ·rw[hs p.2 (bF.2 ⟨p,eW _ hp,rfl⟩)];exact h4 p hp
   ·have:Vl σ' pr pr=Vl σ pr pr:=c_ fun p hp=>by
     show(p.1,(σ' p.2).hG (pV pr))=(p.1,(σ p.2).hG (pV pr));rw[hs p.2 (bF.2 ⟨p,cu _ hp,rfl⟩)]
    rw[this];exact h5
 |.bad,h=>h.elim
theorem zM{P:Program}{k0:Nat}{R:AV->List (Nat×Ob)->List Nat->Prop}{K:AV->List AV->gQ->Prop}{env:List AV}{s:gQ}
 (hK:∀x δ ex,R x δ ex->K x env (rL s δ)):∀{o:qO},Au P k0 (sat s) R o->runK P k0 K (o.out env s)
 |.ok x δ,h=>hK x δ _ h
 |.need p o,h=>⟨h.1,zM hK h.2⟩
 |.br b o1 o2,h=>by
  simp only[Au]at h;simp only[qO.out,runK];split at h
  ·rename_i hb;rw[aE hb];exact zM hK h
  ·rename_i hb;rw[aJ hb];exact zM hK h
 |.call f args,h=>by
  rcases h with⟨ds,h1,h|h⟩|⟨pr,nw,y,t,h1,h2,h3,h4,h5,h6⟩
  ·obtain⟨r,h2,h3⟩:=h;exact zJ (Ht h1 h2 (hK _ _ _ h3))
  ·obtain⟨r,h2,h3⟩:=h;exact zJ (ET h1 h2 (hK _ _ _ h3))
  ·refine zJ ⟨pr,nw,_,h1,h2,h3,h4,h5,?_⟩;rintro x s' ⟨rfl,rfl⟩;rw[D4];exact hK _ _ _ h6
 |.bad,h=>h.elim
def gd(m:js)(env:List AV):Option Bool:=match m.guard with
 |none=>some true
 |some (none,_)=>none
 |some (some d,want)=>match env.getD d .iN with
  |.d (.lit (.bool b))=>some (b==want)
  |.oz []=>some false
  |_=>none
def yK(P:Program)(k0:Nat)(F:List (List Nat×List Nat)->List AV->gQ->Prop):List js->List (List Nat×List Nat)->List AV->gQ->Prop
 |[],acc,env,s=>F acc env s
 |m::ms,acc,env,s=>match gd m env with
  |none=>False
  |some true=>Au P k0 (sat s) (fun x δ ex=>yK P k0 F ms ((ex++uC (ev env) m.op,δ.map (·.1))::acc) (iU m.dst env x) (rL s δ)) (lK P k0 (ev env) (sat s) m.op)
  |some false=>yK P k0 F ms (([],[])::acc) (iU m.dst env (.oz [])) s
def ND(P:Program)(k0:Nat)(m:js)(env:List AV)(s:gQ)(x:AV)(δ:List (Nat×Ob))(ft:List Nat×List Nat):Prop:=
 (gd m env=some true/\∃ex,Au P k0 (sat s) (fun x' δ' e'=>x'=x/\δ'=δ/\e'=ex) (lK P k0 (ev env) (sat s) m.op)/\ft=(ex++uC (ev env) m.op,δ.map (·.1)))\/
 (gd m env=some false/\x=.oz []/\δ=[]/\ft=([],[]))
def LK(P:Program)(k0:Nat)(F:List (List Nat×List Nat)->List AV->gQ->Prop)(ms:List js)(acc:List (List Nat×List Nat))(env:List AV)(s:gQ):Prop:=
 ∃(x:Nat->AV)(δ:Nat->List (Nat×Ob))(ft:Nat->List Nat×List Nat)(E:Nat->List AV)(S:Nat->gQ),E 0=env/\S 0=s/\
  (∀i m,ms[i]?=some m->ND P k0 m (E i) (S i) (x i) (δ i) (ft i)/\E (i+1)=iU m.dst (E i) (x i)/\S (i+1)=rL (S i) (δ i))/\
  F (((List.range ms.length).map ft).reverse++acc) (E ms.length) (S ms.length)
theorem LK.cons{P:Program}{k0:Nat}{F:List (List Nat×List Nat)->List AV->gQ->Prop}{m:js}{ms:List js}{acc:List (List Nat×List Nat)}{env:List AV}{s:gQ}
 {x0:AV} {δ0:List (Nat×Ob)} {f0:List Nat×List Nat} (hs:ND P k0 m env s x0 δ0 f0) (h:LK P k0 F ms (f0::acc) (iU m.dst env x0) (rL s δ0)):LK P k0 F (m::ms) acc env s:=by
 obtain⟨x,δ,ft,E,S,hE,hS,h1,h2⟩:=h;refine⟨fun i=>Nat.casesOn i x0 x,fun i=>Nat.casesOn i δ0 δ,fun i=>Nat.casesOn i f0 ft,fun i=>Nat.casesOn i env E,fun i=>Nat.casesOn i s S,rfl,rfl,fun i m' hi=>?_,?_⟩
 ·cases i with
  |zero=>
   simp only[List.getElem?_cons_zero,aM]at hi;subst hi;exact⟨hs,hE,hS⟩
  |succ i=>exact h1 i m' (by simpa using hi)
 ·have:((List.range (m::ms).length).map fun i=>(Nat.casesOn i f0 ft:List Nat×List Nat)).reverse++acc=((List.range ms.length).map ft).reverse++(f0::acc):=by
   rw[aK,List.range_succ_eq_map,aT,eB,List.reverse_cons,aI];rfl
  rw[this];exact h2
theorem Ce{P:Program}{k0:Nat}{F:List (List Nat×List Nat)->List AV->gQ->Prop}:∀{ms:List js}{acc:List (List Nat×List Nat)}{env:List AV}{s:gQ},
 yK P k0 F ms acc env s->LK P k0 F ms acc env s
 |[],acc,env,s,h=>⟨fun _=>.iN,fun _=>[],fun _=>([],[]),fun _=>env,fun _=>s,rfl,rfl,fun i m hi=>by simp at hi,h⟩
 |m::ms,acc,env,s,h=>by
  simp only[yK]at h;split at h
  ·exact h.elim
  ·rename_i hg;obtain⟨x0,δ0,ex,h1,h2⟩:=A4 h;exact LK.cons (.inl ⟨hg,ex,h1,rfl⟩) (Ce h2)
  ·rename_i hg;exact LK.cons (x0:=.oz []) (δ0:=[]) (.inr ⟨hg,rfl,rfl,rfl⟩) (Ce h)
def gl{β:Type}(f:Nat->Option β)(L:Nat->Bool)(b:β):Nat->β
 |0=>b
 |n+1=>if L n=true then(f n).getD (gl f L b n)else gl f L b n
theorem vD{β:Type}{f:Nat->Option β}{L L':Nat->Bool}{b:β}:∀{n:Nat},(∀j,j<n->(f j).isSome=true->L j=L' j)->gl f L b n=gl f L' b n
 |0,_=>rfl
 |n+1,h=>by
  have ih:=vD (b:=b) (n:=n) fun j hj=>h j gu
  simp only[gl];rw[ih];cases hf:f n with
  |none=>simp
  |some v=>rw[h n gu (by rw[hf];rfl)]
theorem JI{β:Type}{f:Nat->Option β}{L:Nat->Bool}{b v:β}{i:Nat}(hf:f i=some v)(hL:L i=true):
 ∀{n:Nat},i<n->(∀j,i<j->j<n->(f j).isSome=true->L j=false)->gl f L b n=v
 |0,hi,_=>by omega
 |n+1,hi,h=>by
  simp only[gl];by_cases hin:i=n
  ·subst hin;rw[aE hL,hf];rfl
  ·have ih:=JI (b:=b) hf hL (n:=n) gu fun j h1 h2=>h j h1 gu
   cases hn:f n with
   |none=>simp[ih]
   |some u=>rw[h n gu gu (by rw[hn];rfl)];simpa using ih
theorem B1{β:Type}{f:Nat->Option β}{b:β}{i:Nat}:∀{n:Nat},i<=n->gl f (fun j=>decide (j<i)) b n=gl f (fun _=>true) b i
 |0,h=>by
  have:i=0:=by omega
  subst this;rfl
 |n+1,h=>by
  by_cases hi:i=n+1
  ·subst hi;exact vD fun j hj _=>by simp[hj]
  ·simp only[gl];rw[aJ (by simp;omega)];exact B1 gu
def X3(m:js):List Nat:=ox m.op++(match m.guard with|some (some g,_)=>[g]|_=>[])
def B3(xs ys:List Nat):Bool:=xs.any fun x=>ys.contains x
def Cp(m m':js)(f f':List Nat×List Nat):Bool:=
 B3 m'.dst.toList (X3 m)||B3 m.dst.toList (X3 m')||B3 m.dst.toList m'.dst.toList||B3 f.2 f'.1||B3 f'.2 f.1||B3 f.2 f'.2
def Us(after:List gh):List gh:=after.foldl (fun T a=>T++[(a++a.flatMap fun e=>T.getD e []).eraseDups]) []
def A3(after B:List gh):Bool:=
 ((List.range after.length).all fun i=>(after.getD i []).all fun e=>decide (e<i))&&
 (List.range B.length).all fun i=>(B.getD i []).all fun j=>(after.getD i []).contains j||(after.getD i []).any fun e=>decide (e<i)&&(B.getD e []).contains j
def TX(ms:List js)(B:List gh)(fts:List (List Nat×List Nat)):Bool:=
 (List.range ms.length).all fun i=>(List.range i).all fun j=>match ms[i]?,ms[j]? with
  |some m,some m'=>!Cp m m' (fts.getD i ([],[])) (fts.getD j ([],[]))||(B.getD i []).contains j
  |_,_=>false
def At(ms:List js)(after:List gh)(fts:List (List Nat×List Nat)):Bool:=A3 after (Us after)&&TX ms (Us after) fts
theorem Co{after B:List gh}(h:A3 after B=true){L:Nat->Bool}(hL:∀i,L i=true->∀e∈after.getD i [],L e=true):
 ∀(i:Nat),(∀e∈after.getD i [],L e=true)->∀j∈B.getD i [],L j=true:=by
 simp only[A3,bq,cc,bY,Bool.or_eq_true,dP,aQ,List.contains_iff_mem]at h;intro i;induction i using Nat.strongRecOn with
 |ind i ih=>
  intro ha j hj;have hi:i<B.length:=by
   rcases cG i B.length with h'|h'
   ·exact h'
   ·rw[aB,bK h']at hj;simp at hj
  rcases h.2 i hi j hj with h1|⟨e,he,hlt,hje⟩
  ·exact ha j h1
  ·exact ih e hlt (hL e (ha e he)) j hje
def Nv(L:Nat->Bool):Nat->Nat
 |0=>0
 |n+1=>Nv L n+(match L n with|true=>0|false=>1)
theorem LI{L L':Nat->Bool}{i:Nat}(h1:L i=false)(h2:L' i=true)(h:∀j,j≠i->L' j=L j):∀{n:Nat},(n<=i->Nv L' n=Nv L n)/\(i<n->Nv L' n+1=Nv L n)
 |0=>⟨fun _=>rfl,fun h=>by omega⟩
 |n+1=>by
  obtain⟨ih1,ih2⟩:=LI (n:=n) h1 h2 h;refine⟨fun hn=>?_,fun hn=>?_⟩
  ·simp only[Nv];rw[ih1 gu,h n gu]
  ·simp only[Nv];by_cases hin:n=i
   ·subst hin;rw[ih1 gu,h1,h2];simp
   ·rw[h n hin];have:=ih2 gu;omega
theorem IK{L:Nat->Bool}:∀{n:Nat},Nv L n=0->∀j,j<n->L j=true
 |0,_,j,hj=>by omega
 |n+1,h,j,hj=>by
  simp only[Nv]at h;by_cases hn:j=n
  ·subst hn;cases hL:L j with
   |true=>rfl
   |false=>rw[hL]at h;simp at h
  ·exact IK (n:=n) gu j gu
def fs(d:Nat->Option Nat)(x:Nat->AV)(t:Nat)(j:Nat):Option AV:=if d j=some t then some (x j)else none
theorem Fg{d:Option Nat}{env:List AV}{x:AV}{t:Nat}(ht:t<env.length):(iU d env x).getD t .iN=if d=some t then x else env.getD t .iN:=by
 cases d with
 |none=>simp[iU]
 |some d=>
  simp only[iU,aB,dX,aM];by_cases h:d=t
  ·subst h;simp[ht]
  ·simp[h]
theorem Cw{d:Option Nat}{env:List AV}{x:AV}:(iU d env x).length=env.length:=by cases d<;>simp[iU]
structure sC(P:Program)(k0:Nat)(ms:List js)(after:List gh)(x:Nat->AV)(δ:Nat->List (Nat×Ob))(ft:Nat->List Nat×List Nat)
 (E:Nat->List AV) (S:Nat->gQ):Prop where
 step:∀i m,ms[i]?=some m->ND P k0 m (E i) (S i) (x i) (δ i) (ft i)/\E (i+1)=iU m.dst (E i) (x i)/\S (i+1)=rL (S i) (δ i)
 ok:At ms after ((List.range ms.length).map ft)=true
def E0(ms:List js)(j:Nat):Option Nat:=(ms[j]?).bind (·.dst)
section
variable{P:Program}{k0:Nat}{ms:List js}{after:List gh}{x:Nat->AV}{δ:Nat->List (Nat×Ob)}{ft:Nat->List Nat×List Nat}
 {E:Nat->List AV} {S:Nat->gQ}
theorem sC.len(h:sC P k0 ms after x δ ft E S):∀{i:Nat},i<=ms.length->(E i).length=(E 0).length
 |0,_=>rfl
 |i+1,hi=>by
  have hm:ms[i]?=some ms[i]:=aA gu;rw[(h.step i _ hm).2.1,Cw,h.len gu]
theorem sC.slot(h:sC P k0 ms after x δ ft E S){t:Nat}(ht:t<(E 0).length):∀{i:Nat},i<=ms.length->
 (E i).getD t .iN=gl (fs (E0 ms) x t) (fun _=>true) ((E 0).getD t .iN) i
 |0,_=>rfl
 |i+1,hi=>by
  have hm:ms[i]?=some ms[i]:=aA gu;rw[(h.step i _ hm).2.1,Fg (by rw[h.len gu];exact ht),h.slot ht gu];simp only[gl,aj,fs,E0,hm,aa];split<;>rfl
theorem sC.obj(h:sC P k0 ms after x δ ft E S)(id:Nat):∀{i:Nat},i<=ms.length->
 sat (S i) id=gl (fun j=>xR (δ j) id) (fun _=>true) (sat (S 0) id) i
 |0,_=>rfl
 |i+1,hi=>by
  have hm:ms[i]?=some ms[i]:=aA gu;rw[(h.step i _ hm).2.2,D1,h.obj id gu];simp only[gl,aj]
structure Ep(E:Nat->List AV)(S:Nat->gQ)(ms:List js)(x:Nat->AV)(δ:Nat->List (Nat×Ob))(L:Nat->Bool)(env:List AV)(s:gQ):Prop where
 len:env.length=(E 0).length
 slot:∀t,t<(E 0).length->env.getD t .iN=gl (fs (E0 ms) x t) L ((E 0).getD t .iN) ms.length
 obj:∀id,sat s id=gl (fun j=>xR (δ j) id) L (sat (S 0) id) ms.length
theorem sC.ord(h:sC P k0 ms after x δ ft E S){i j:Nat}{m m':js}(hi:ms[i]?=some m)(hj:ms[j]?=some m')(hji:j<i)
 (hc:Cp m m' (ft i) (ft j)=true):j∈(Us after).getD i []:=by
 have hl:i<ms.length:=(aN.1 hi).1;have:=h.ok;simp only[At,bq,TX,cc,bY]at this;have:=this.2 i hl j hji;rw[hi,hj]at this;have e1:((List.range ms.length).map ft).getD i ([],[])=ft i:=by simp[aB,hl]
 have e2:((List.range ms.length).map ft).getD j ([],[])=ft j:=by simp[aB,show j<ms.length by omega]
 rw[e1,e2]at this;simpa[hc]using this
theorem sC.before(h:sC P k0 ms after x δ ft E S){L:Nat->Bool}(hL:∀i,L i=true->∀e∈after.getD i [],L e=true){i:Nat}{m:js}(hi:ms[i]?=some m)
 (hu:L i=false) (hr:∀e∈after.getD i [],L e=true) {j:Nat} {m':js} (hj:ms[j]?=some m') (hne:j≠i) (hc:Cp m m' (ft i) (ft j)=true/\Cp m' m (ft j) (ft i)=true):
 L j=decide (j<i):=by
 have hcl:=h.ok;simp only[At,bq]at hcl;rcases cG j i with hlt|hge
 ·rw[Co hcl.1 hL i hr j (h.ord hi hj hlt hc.1)];simp[hlt]
 ·have hlt:i<j:=by omega
  have hb:=h.ord hj hi hlt hc.2;cases hLj:L j with
  |false=>simp;omega
  |true=>
   have:=Co hcl.1 hL j (hL j hLj) i hb;rw[hu]at this;cases this
theorem zO{xs ys:List Nat}{a:Nat}(h1:a∈xs)(h2:a∈ys):B3 xs ys=true:=dP.2 ⟨a,h1,by simpa using h2⟩
theorem Jz{j t:Nat}(h:(fs (E0 ms) x t j).isSome=true):∃m',ms[j]?=some m'/\m'.dst=some t:=by
 unfold fs at h;split at h
 ·rename_i hd;unfold E0 at hd;cases hm:ms[j]? with
  |none=>rw[hm]at hd;cases hd
  |some m'=>rw[hm]at hd;exact⟨m',rfl,hd⟩
 ·cases h
theorem sC.write(h:sC P k0 ms after x δ ft E S){j id:Nat}{m':js}(hj:ms[j]?=some m')(hw:(xR (δ j) id).isSome=true):id∈(ft j).2:=by
 have:=(h.step j m' hj).1;rcases this with⟨_,_,_,h3⟩|⟨_,_,h3,_⟩
 ·rw[h3];exact EX hw
 ·rw[h3]at hw;cases hw
theorem sC.reads(h:sC P k0 ms after x δ ft E S){L:Nat->Bool}(hL:∀i,L i=true->∀e∈after.getD i [],L e=true){i:Nat}{m:js}(hi:ms[i]?=some m)
 (hu:L i=false) (hr:∀e∈after.getD i [],L e=true) {env:List AV} {s:gQ} (hb:Ep E S ms x δ L env s) {t:Nat} (ht:t∈X3 m):env.getD t .iN=(E i).getD t .iN:=by
 have hil:i<ms.length:=(aN.1 hi).1;by_cases hlt:t<(E 0).length
 ·rw[hb.slot t hlt,h.slot hlt (i:=i) gu,<-B1 (fo hil)];refine vD fun j hj hs=>?_
  by_cases hne:j=i
  ·subst hne;rw[hu];simp
  ·obtain⟨m',hm',hd⟩:=Jz hs;refine h.before hL hi hu hr hm' hne ?_;have:B3 m'.dst.toList (X3 m)=true:=zO (a:=t) (by rw[hd];simp) ht;simp[Cp,this]
 ·have e1:env.getD t .iN=.iN:=by rw[aB,bK (by rw[hb.len];omega)];rfl
  have e2:(E i).getD t .iN=.iN:=by rw[aB,bK (by rw[h.len gu];omega)];rfl
  rw[e1,e2]
theorem sC.looks(h:sC P k0 ms after x δ ft E S){L:Nat->Bool}(hL:∀i,L i=true->∀e∈after.getD i [],L e=true){i:Nat}{m:js}(hi:ms[i]?=some m)
 (hu:L i=false) (hr:∀e∈after.getD i [],L e=true) {env:List AV} {s:gQ} (hb:Ep E S ms x δ L env s) {id:Nat} (hid:id∈(ft i).1):sat s id=sat (S i) id:=by
 have hil:i<ms.length:=(aN.1 hi).1;rw[hb.obj id,h.obj id (i:=i) gu,<-B1 (fo hil)];refine vD fun j hj hs=>?_
 by_cases hne:j=i
 ·subst hne;rw[hu];simp
 ·have hm':ms[j]?=some ms[j]:=aA hj;refine h.before hL hi hu hr hm' hne ?_;have:B3 (ft j).2 (ft i).1=true:=zO (a:=id) (h.write hm' hs) hid;simp[Cp,this]
theorem sC.next(h:sC P k0 ms after x δ ft E S){L L':Nat->Bool}(hL:∀i,L i=true->∀e∈after.getD i [],L e=true){i:Nat}{m:js}(hi:ms[i]?=some m)
 (hu:L i=false) (hr:∀e∈after.getD i [],L e=true) (hi':L' i=true) (hn:∀j,j≠i->L' j=L j) {env:List AV} {s:gQ} (hb:Ep E S ms x δ L env s):
 Ep E S ms x δ L' (iU m.dst env (x i)) (rL s (δ i)):=by
 have hil:i<ms.length:=(aN.1 hi).1;refine⟨by rw[Cw,hb.len],fun t ht=>?_,fun id=>?_⟩
 ·rw[Fg (by rw[hb.len];exact ht)];split
  ·rename_i hd;refine(JI (i:=i) (by simp[fs,E0,hi,hd]) hi' hil fun j hij hj hs=>?_).symm;obtain⟨m',hm',hd'⟩:=Jz hs;have:B3 m.dst.toList m'.dst.toList=true:=zO (a:=t) (by rw[hd];simp) (by rw[hd'];simp);have this':B3 m'.dst.toList m.dst.toList=true:=zO (a:=t) (by rw[hd'];simp) (by rw[hd];simp);rw[hn j gu,h.before hL hi hu hr hm' gu (by simp[Cp,this,this'])];simp;omega
  ·rename_i hd;rw[hb.slot t ht];refine vD fun j hj hs=>?_
   by_cases hne:j=i
   ·subst hne;obtain⟨m',hm',hd'⟩:=Jz hs;rw[hi]at hm';cases hm';exact absurd hd' hd
   ·rw[hn j hne]
 ·rw[D1];cases hd:xR (δ i) id with
  |some ob=>
   refine(JI (i:=i) hd hi' hil fun j hij hj hs=>?_).symm;have hm':ms[j]?=some ms[j]:=aA hj;have a1:=h.write hm' hs;have a2:=h.write hi (by rw[hd];rfl:(xR (δ i) id).isSome=true);have:B3 (ft i).2 (ft j).2=true:=zO a2 a1;have this':B3 (ft j).2 (ft i).2=true:=zO a1 a2;rw[hn j gu,h.before hL hi hu hr hm' gu (by simp[Cp,this,this'])];simp;omega
  |none=>
   simp only[Option.getD_none];rw[hb.obj id];refine vD fun j hj hs=>?_
   by_cases hne:j=i
   ·subst hne;rw[hd]at hs;cases hs
   ·rw[hn j hne]
theorem sC.run(h:sC P k0 ms after x δ ft E S){L:Nat->Bool}(hL:∀i,L i=true->∀e∈after.getD i [],L e=true){i:Nat}{m:js}(hi:ms[i]?=some m)
 (hu:L i=false) (hr:∀e∈after.getD i [],L e=true) {env:List AV} {s:gQ} (hb:Ep E S ms x δ L env s):
 match m.guard with
  |none=>oV P k0 m.op env s fun x' env' s'=>iU m.dst env' x'=iU m.dst env (x i)/\s'=rL s (δ i)
  |some (g,want)=>match g with
   |none=>iU m.dst env (.oz [])=iU m.dst env (x i)/\s=rL s (δ i)
   |some d=>match env.getD d .iN with
    |.d (.lit (.bool b))=>Br b want (oV P k0 m.op env s fun x' env' s'=>iU m.dst env' x'=iU m.dst env (x i)/\s'=rL s (δ i)) (iU m.dst env (.oz [])=iU m.dst env (x i)/\s=rL s (δ i))
    |.oz []=>iU m.dst env (.oz [])=iU m.dst env (x i)/\s=rL s (δ i)
    |_=>False:=by
 have hs:=(h.step i m hi).1;have run:(∃ex,Au P k0 (sat (S i)) (fun x' δ' e'=>x'=x i/\δ'=δ i/\e'=ex) (lK P k0 (ev (E i)) (sat (S i)) m.op)/\ft i=(ex++uC (ev (E i)) m.op,(δ i).map (·.1)))->
  oV P k0 m.op env s fun x' env' s'=>iU m.dst env' x'=iU m.dst env (x i)/\s'=rL s (δ i):=fun⟨ex,hd,hf⟩=>by
  have hc:lK P k0 (ev env) (sat s) m.op=lK P k0 (ev (E i)) (sat (S i)) m.op:=by
   refine Kt (fun o ho=>?_) (fun t ht=>?_) (fun id hid=>?_)
   ·cases o with
    |tmp t=>simp[rJ]at ho
    |_=>rfl
   ·simpa only[ev]using h.reads hL hi hu hr hb (t:=t) (cu _ ht)
   ·exact h.looks hL hi hu hr hb (by rw[hf];exact eW _ hid)
  rw[<-hc]at hd;replace hd:=yz (σ':=sat s) (fun id hid=>h.looks hL hi hu hr hb (by rw[hf];exact cu _ hid)) hd;exact IM (M7 (zM (K:=fun x' env' s'=>iU m.dst env' x'=iU m.dst env (x i)/\s'=rL s (δ i)) (fun x' δ' e' hx=>by
   obtain⟨rfl,rfl,_⟩:=hx;exact⟨rfl,rfl⟩) hd))
 cases hg:m.guard with
 |none=>
  rcases hs with⟨_,h2⟩|⟨h1,_⟩
  ·exact run h2
  ·simp[gd,hg]at h1
 |some p=>
  obtain⟨g,want⟩:=p;cases g with
  |none=>rcases hs with⟨h1,_⟩|⟨h1,_⟩<;>simp[gd,hg]at h1
  |some d=>
   have he:env.getD d .iN=(E i).getD d .iN:=h.reads hL hi hu hr hb (by simp[X3,hg]);simp only;rw[he];have hgd:gd m (E i)=(match(E i).getD d .iN with|.d (.lit (.bool b))=>some (b==want)|.oz []=>some false|_=>none):=by simp only[gd,hg]
   rcases hs with⟨h1,h2⟩|⟨h1,h2,h3,_⟩
   ·rw[hgd]at h1;split at h1
    ·rename_i b hb';simp only[aM,eR]at h1;simp only[Br,aE h1];exact run h2
    ·cases h1
    ·cases h1
   ·rw[hgd]at h1;split at h1
    ·rename_i b hb';simp only[aM,cw,bE]at h1;simp only[Br,aJ h1];rw[h2,h3];exact⟨rfl,rfl⟩
    ·rw[h2,h3];exact⟨rfl,rfl⟩
    ·cases h1
end
theorem ME{P:Program}{c:Code}{ms:List js}{after:List gh}(h:pW P c=some (.draw ms after)):
 ∃id ops,c=.region id ops true/\ops.toList.mapM (vG P ops)=some ms/\after=ops.toList.map fun o=>(o.after.toList.filter (Region.binds .any)).map (·.on):=by
 cases c<;>simp[pW,ai,aH]at h⊢
 case region id' ops' d'=>
  obtain⟨ms',h1,h⟩:=h;split at h
  ·rename_i hd;simp only[gR.draw.injEq]at h;obtain⟨rfl,rfl⟩:=h;exact⟨id',ops',⟨rfl,rfl,hd⟩,h1,rfl⟩
  ·cases h
theorem DQ{α β:Type}{f:α->Option β}:∀{xs:List α}{ys:List β},xs.mapM f=some ys->ys.length=xs.length/\∀(i:Nat)(x:α),xs[i]?=some x->∃y,ys[i]?=some y/\f x=some y
 |[],ys,h=>by simp at h;subst h;simp
 |x::xs,ys,h=>by
  simp only[dh,dw,ai]at h;obtain⟨y,h1,ys',h2,h3⟩:=h;cases h3;obtain⟨e1,e2⟩:=DQ h2;refine⟨by simp[e1],fun i u hu=>?_⟩;cases i with
  |zero=>simp at hu;subst hu;exact⟨y,rfl,h1⟩
  |succ i=>simpa using e2 i u (by simpa using hu)
theorem Ep.env{E:Nat->List AV}{S:Nat->gQ}{ms:List js}{x:Nat->AV}{δ:Nat->List (Nat×Ob)}{L L':Nat->Bool}{env:List AV}{s:gQ}
 (h:Ep E S ms x δ L env s) (hL:∀j,j<ms.length->L j=L' j):Ep E S ms x δ L' env s:=
 ⟨h.len,fun t ht=>by rw[h.slot t ht];exact vD fun j hj _=>hL j hj,fun id=>by rw[h.obj id];exact vD fun j hj _=>hL j hj⟩
theorem HB{P:Program}{C:Ctx}{ops:Array Oper}{Q:Post}{ms:List js}{after:List gh}{x:Nat->AV}{δ:Nat->List (Nat×Ob)}{ft:Nat->List Nat×List Nat}
 {E:Nat->List AV} {S:Nat->gQ} (hm:ops.toList.mapM (vG P ops)=some (ms.map js.erase)) (ha:after=ops.toList.map fun o=>(o.after.toList.filter (Region.binds .any)).map (·.on))
 (h:sC P C.k ms after x δ ft E S) (hQ:Q .normal (E ms.length) (S ms.length)):
 ∀(fuel:Nat)(listed:Array Bool)(env:List AV)(s:gQ)(β:gZ)(a:Act)(w:World),listed.size=ops.size->Nv (fun j=>listed.getD j false) ops.size<=fuel->
  (∀i,listed.getD i false=true->∀e∈after.getD i [],listed.getD e false=true)->Ep E S ms x δ (fun j=>listed.getD j false) env s->St C β env s a w->
  wpAnyIn C.vC 0 P .any ops (fun e a' w'=>∃C',Ext C C'/\∃β' env' s',St C' β' env' s' a' w'/\Q e env' s') fuel listed a w:=by
 obtain⟨hlen,hget⟩:=DQ hm;rw[aS]at hlen;have hsz:ms.length=ops.size:=by rw[hlen];simp
 have haf:∀i o,ops[i]?=some o->after.getD i []=(o.after.toList.filter (Region.binds .any)).map (·.on):=fun i o ho=>by rw[ha,aB,bA,Array.getElem?_toList,ho];rfl
 have hback:∀i,∀e∈after.getD i [],e<i:=fun i e he=>by
  have hc:=h.ok;simp only[At,A3,bq,cc,bY,aQ]at hc;have hi:i<after.length:=by
   rcases cG i after.length with h'|h'
   ·exact h'
   ·rw[aB,bK h']at he;simp at he
  exact hc.1.1 i hi e he
 have isReady:∀{listed:Array Bool},listed.size=ops.size->∀{i:Nat},i<ops.size->listed.getD i false=false->(∀e∈after.getD i [],listed.getD e false=true)->
  i∈Region.ready .any ops listed:=fun{listed} hs {i} hi hu hr=>by
  rw[mem_ready];have ho:ops[i]?=some ops[i]:=ck hi;refine⟨?_,_,ho,fun e he hb=>hr _ ?_⟩
  ·have:i<listed.size:=by omega
   simpa[this]using hu
  ·rw[haf i _ ho];exact bF.2 ⟨e,dm.2 ⟨by simpa using he,hb⟩,rfl⟩
 have all:∀{listed:Array Bool},listed.size=ops.size->Region.ready .any ops listed=[]->∀i,i<ops.size->listed.getD i false=true:=fun{listed} hs hn i=>by
  induction i using Nat.strongRecOn with
  |ind i ih=>
   intro hi;cases hu:listed.getD i false with
   |true=>rfl
   |false=>
    have:=isReady hs hi hu fun e he=>ih e (hback i e he) (by have:=hback i e he;omega)
    rw[hn]at this;cases this
 have done:∀{listed:Array Bool}{env:List AV}{s:gQ}{β:gZ}{a:Act}{w:World},(∀i,i<ops.size->listed.getD i false=true)->
  Ep E S ms x δ (fun j=>listed.getD j false) env s->St C β env s a w->∃C',Ext C C'/\∃β' env' s',St C' β' env' s' a w/\Q .normal env' s':=fun{listed env s β a w} hall hb hst=>by
  have hb':=hb.env (L':=fun _=>true) fun j hj=>hall j gu
  have e1:env=E ms.length:=by
   refine dL fun t=>?_
   by_cases ht:t<(E 0).length
   ·have h1:=hb'.slot t ht;rw[<-h.slot ht (aO _)]at h1;have l1:t<env.length:=by rw[hb'.len];exact ht
    have l2:t<(E ms.length).length:=by rw[h.len (aO _)];exact ht
    rw[aB,aB,aA l1,aA l2]at h1;rw[aA l1,aA l2];simpa using h1
   ·rw[bK (by rw[hb'.len];omega),bK (by rw[h.len (aO _)];omega)]
  have e2:∀id,sat s id=sat (S ms.length) id:=fun id=>by rw[hb'.obj id,<-h.obj id (aO _)]
  rw[<-e1]at hQ;obtain⟨β',h1⟩:=iB.Yn (k:=C.k) (env:=env) e2 C β a w rfl hst;exact⟨C,.refl C,β',env,_,h1,hQ⟩
 intro fuel;induction fuel with
 |zero=>
  intro listed env s β a w hs hf hd hb hst;have hall:=IK (Nat.le_zero.1 hf);refine⟨?_,done hall hb hst⟩;cases hr:Region.ready .any ops listed with
  |nil=>rfl
  |cons i rs=>
   have hi:i∈Region.ready .any ops listed:=by rw[hr];exact List.mem_cons_self
   obtain⟨h1,o,ho,_⟩:=mem_ready.1 hi;have hl:i<ops.size:=(bC.1 ho).1;have h2:=hall i hl;have:i<listed.size:=by omega
   simp[this]at h1 h2;rw[h1]at h2;cases h2
 |succ fuel ih=>
  intro listed env s β a w hs hf hd hb hst;refine⟨fun hn=>done (all hs hn) hb hst,fun i hi=>?_⟩;obtain⟨h1,o,ho,hall⟩:=mem_ready.1 hi;have hl:i<ops.size:=(bC.1 ho).1;have hll:i<listed.size:=by omega
  have hu:listed.getD i false=false:=by simp[hll]at h1⊢;exact h1
  have hr:∀e∈after.getD i [],listed.getD e false=true:=fun e he=>by
   rw[haf i o ho]at he;obtain⟨d,hd1,rfl⟩:=bF.1 he;obtain⟨hd2,hd3⟩:=dm.1 hd1;exact hall d (by simpa using hd2) hd3
  obtain⟨m0,hmi0,hmo⟩:=hget i o (by simpa using ho);rw[bA]at hmi0;obtain⟨m,hmi,rfl⟩:=aH.1 hmi0;unfold wpOpIn;rw[ho];simp only;refine Cv (K:=fun env' s'=>env'=iU m.dst env (x i)/\s'=rL s (δ i)) hmo (h.run hd hmi hu hr hb) hst fun β' env' s' a' w' h4 h5=>?_
  obtain⟨rfl,rfl⟩:=h5;have hset:∀j,j≠i->(listed.setIfInBounds i true).getD j false=listed.getD j false:=fun j hj=>getD_set_ne false (Ne.symm hj)
  have hone:(listed.setIfInBounds i true).getD i false=true:=by simp[hll]
  refine ih _ _ _ β' a' w' (by simpa using hs) ?_ (fun j hj e he=>?_) (h.next hd hmi hu hr hone hset hb) h4
  ·have:=(LI (L:=fun j=>listed.getD j false) (L':=fun j=>(listed.setIfInBounds i true).getD j false) hu hone hset (n:=ops.size)).2 hl;omega
  ·by_cases hji:j=i
   ·subst hji;exact getD_set_true (hr e he)
   ·rw[hset j hji]at hj;exact getD_set_true (hd j hj e he)
theorem UL{P:Program}{k:Nat}{Q:Post}{env:List AV}{s:gQ}{ms:List js}{after:List gh}(hP:P.follows .mixedOrders=true)
 (h:yK P k (fun acc env s=>At ms after acc.reverse=true/\Q .normal env s) ms [] env s):sV P k (.draw ms after) Q env s:=fun C hC _ c hc β a w hst=>by
 obtain⟨id,ops,rfl,hm,ha⟩:=ME hc;subst hC;obtain⟨x,δ,ft,E,S,hE,hS,h1,h2,h3⟩:=Ce h;rw[bh,List.reverse_reverse]at h2;obtain⟨hlen,_⟩:=DQ hm;rw[aS]at hlen;have hrep:∀j,(Array.replicate ops.size false).getD j false=false:=fun j=>by
  rw[cA,Array.getElem?_replicate];split<;>rfl
 have g0:∀{β:Type}{f:Nat->Option β}{b:β}(n:Nat),gl f (fun j=>(Array.replicate ops.size false).getD j false) b n=b:=fun{β f b} n=>by
  induction n with
  |zero=>rfl
  |succ n ih=>simp only[gl];rw[aJ (by rw[hrep];simp)];exact ih
 have hu:∀n,Nv (fun j=>(Array.replicate ops.size false).getD j false) n<=n:=fun n=>by
  induction n with
  |zero=>exact aO _
  |succ n ih=>simp only[Nv];rw[hrep];simp only;omega
 refine wpIn_region_any hP (HB hm ha ⟨h1,h2⟩ h3 ops.size _ env s β a _ (by simp) (hu _) (fun i hi=>?_) ⟨by rw[hE],fun t ht=>?_,fun id'=>?_⟩ hst.drew)
 ·rw[hrep]at hi;cases hi
 ·rw[g0,hE]
 ·rw[g0,hS]
def EZ(ms:List js)(after:List gh)(Q:Post)(acc:List (List Nat×List Nat))(env:List AV)(s:gQ):Prop:=
 At ms after acc.reverse=true/\Q .normal env s
def pM(P:Program)(k0:Nat)(F:List (List Nat×List Nat)->List AV->gQ->Prop)(ms:List js)(acc:List (List Nat×List Nat))(foot:List Nat)(d:Option Nat)(env:List AV)(s:gQ)
 (o:qO):Prop:=Au P k0 (sat s) (fun x δ ex=>yK P k0 F ms ((ex++foot,δ.map (·.1))::acc) (iU d env x) (rL s δ)) o
def rE(P:Program)(k0:Nat)(F:List (List Nat×List Nat)->List AV->gQ->Prop)(ms:List js)(acc:List (List Nat×List Nat))(foot:List Nat)(d:Option Nat)(env:List AV)(s:gQ)
 (f:Nat) (args:List AV):Prop:=Tg P k0 (sat s) f args fun x δ ex=>yK P k0 F ms ((ex++foot,δ.map (·.1))::acc) (iU d env x) (rL s δ)
def FX(P:Program)(k0:Nat)(F:List (List Nat×List Nat)->List AV->gQ->Prop)(ms:List js)(acc:List (List Nat×List Nat))(foot:List Nat)(d:Option Nat)(env:List AV)(s:gQ)
 (b:Bool) (o1 o2:qO):Prop:=if b=true then pM P k0 F ms acc foot d env s o1 else pM P k0 F ms acc foot d env s o2
def Cg(P:Program)(k0:Nat)(F:List (List Nat×List Nat)->List AV->gQ->Prop)(b want:Bool)(m:tM)(d:Option Nat)(ms:List js)(acc:List (List Nat×List Nat))(env:List AV)(s:gQ):Prop:=
 if b=want then pM P k0 F ms acc (uC (ev env) m) d env s (lK P k0 (ev env) (sat s) m)else yK P k0 F ms (([],[])::acc) (iU d env (.oz [])) s
def Vu(P:Program)(k0:Nat)(F:List (List Nat×List Nat)->List AV->gQ->Prop)(want:Bool)(m:tM)(d:Option Nat)(ms:List js)(acc:List (List Nat×List Nat))(env:List AV)(s:gQ):AV->Prop
 |.d (.lit (.bool b))=>Cg P k0 F b want m d ms acc env s
 |.oz []=>yK P k0 F ms (([],[])::acc) (iU d env (.oz [])) s
 |_=>False
section
variable{P:Program}{k0:Nat}{F:List (List Nat×List Nat)->List AV->gQ->Prop}{b want:Bool}{m:tM}{d:Option Nat}{ms:List js}{env:List AV}{s:gQ}
 {acc:List (List Nat×List Nat)} {foot:List Nat}
theorem SV:yK P k0 F [] acc env s=F acc env s:=(rfl)
theorem M9:yK P k0 F (⟨d,m,none⟩::ms) acc env s=pM P k0 F ms acc (uC (ev env) m) d env s (lK P k0 (ev env) (sat s) m):=(rfl)
theorem M8{g:Nat}:yK P k0 F (⟨d,m,some (some g,want)⟩::ms) acc env s=Vu P k0 F want m d ms acc env s (env.getD g .iN):=by
 simp only[yK,gd];generalize env.getD g .iN=x;cases x with
 |d y=>cases y with
  |lit u=>cases u with
   |bool b=>
    simp only[Vu,Cg];cases b<;>cases want<;>rfl
   |_=>rfl
  |_=>rfl
 |oz cs=>cases cs<;>rfl
 |_=>rfl
theorem QB{x:AV}{δ:List (Nat×Ob)}:pM P k0 F ms acc foot d env s (.ok x δ)=yK P k0 F ms ((foot,δ.map (·.1))::acc) (iU d env x) (rL s δ):=(rfl)
theorem Kv{p:Prop}{o:qO}:pM P k0 F ms acc foot d env s (.need p o)=(p/\pM P k0 F ms acc foot d env s o):=(rfl)
theorem Ku{f:Nat}{args:List AV}:pM P k0 F ms acc foot d env s (.call f args)=rE P k0 F ms acc foot d env s f args:=(rfl)
theorem QA{o1 o2:qO}:pM P k0 F ms acc foot d env s (.br b o1 o2)=FX P k0 F ms acc foot d env s b o1 o2:=(rfl)
theorem VJ{o1 o2:qO}:FX P k0 F ms acc foot d env s true o1 o2=pM P k0 F ms acc foot d env s o1:=by simp[FX]
theorem VI{o1 o2:qO}:FX P k0 F ms acc foot d env s false o1 o2=pM P k0 F ms acc foot d env s o2:=by simp[FX]
theorem Ue:Cg P k0 F true true m d ms acc env s=pM P k0 F ms acc (uC (ev env) m) d env s (lK P k0 (ev env) (sat s) m):=by simp[Cg]
theorem Ub:Cg P k0 F false false m d ms acc env s=pM P k0 F ms acc (uC (ev env) m) d env s (lK P k0 (ev env) (sat s) m):=by simp[Cg]
theorem Ud:Cg P k0 F true false m d ms acc env s=yK P k0 F ms (([],[])::acc) (iU d env (.oz [])) s:=by simp[Cg]
theorem Uc:Cg P k0 F false true m d ms acc env s=yK P k0 F ms (([],[])::acc) (iU d env (.oz [])) s:=by simp[Cg]
end
theorem Ww{P:Program}{k:Nat}{Q:Post}{env:List AV}{s:gQ}{ms:List js}{after:List gh}(hP:P.follows .mixedOrders=true)
 (h:yK P k (EZ ms after Q) ms [] env s):sV P k (.draw ms after) Q env s:=UL hP h
theorem jo{ms:List js}{after:List gh}{Q:Post}{acc:List (List Nat×List Nat)}{env:List AV}{s:gQ}(h:At ms after acc.reverse=true)(hq:Q .normal env s):
 EZ ms after Q acc env s:=⟨h,hq⟩
theorem UI{x:D}:MA (.d x)=O2 (rM (.d x)):=(rfl)
theorem O4{e id:Nat}{xs:List D}:MA (.own e id xs)=.ok (.d (iD xs.length)) []:=(rfl)
theorem Ms{e e' id off len:Nat}{n:Int}:Fl e n (.tS e' id off len)=.need (e'=e/\0<=n/\n<len) (.ok (.ptr id (off+n.toNat*e)) []):=(rfl)
theorem R1{e:Nat}{n:Int}{x:D}:Fl e n (.d x)=K7 e n (rM (.d x)):=(rfl)
theorem O3{e id n:Nat}:MA (.mL e id n)=.ok (.d (iD n)) []:=(rfl)
theorem Mr{e e' id m:Nat}{n:Int}:Fl e n (.mL e' id m)=.need (e'=e/\0<=n/\n<m) (.ok (.mJ id m (n.toNat*e)) []):=(rfl)
attribute [go_sem] KL KF NL F3 Hp KJ O3 Mr Pa LB LA S9 SV M9 M8 Vu QB Kv Ku QA VJ VI Ue Ub Ud Uc A1 tU O_ La Lz GL Ui NN OJ unL OD PL TT VS VW K7 Ms R1 UE Tq O2 UI O4 O8 UF T3 SL Lw MV Lu NI Dd I9 VR Bj Ra NS Rb Pt T1 Yu Ld Ot lK uC rL
def uE:Value:=.slice none 0 0
theorem St.Ee{C:Ctx}{β:gZ}{env:List AV}{s:gQ}{a:Act}{w:World}(h:St C β env s a w){id t e:Nat}(hd:sat s id=.dead):
 St C (gG β id (.tok uE 0)) env (sset s id (.tok t e 0)) a w/\mu β s w (gG β id (.tok uE 0)) (sset s id (.tok t e 0)) w:=by
 have hno:β id=.no:=by have:=h.inv.obs id;rw[hd]at this;exact this
 have noOwn:∀b o,¬own (gG β id (.tok uE 0)) [(id,.tok t e 0)] b o:=fun b o ⟨i,hi⟩=>by
  by_cases h1:i=id
  ·subst h1;simp[sat,gG,uE]at hi
  ·simp[sat,h1]at hi
 have noBlk:∀b,¬gy (gG β id (.tok uE 0)) [(id,.tok t e 0)] id b:=fun b hi=>by simp[gy,sat,gG,uE]at hi
 have m:mu β s w (gG β id (.tok uE 0)) (sset s id (.tok t e 0)) w:=by
  refine⟨aO _,rfl,fun b o v hc _=>hc,fun b hb _=>rfl,fun b o ho=>?_,fun i b hb=>?_,fun i=>?_⟩
  ·rcases sX ho with ho|ho
   ·exact .inl ho
   ·exact absurd ho (noOwn b o)
  ·rcases jk hb with⟨_,hb⟩|⟨_,hb⟩
   ·exact .inl ⟨i,hb⟩
   ·exact absurd hb (noBlk b)
  ·by_cases hi:i=id
   ·subst hi;simp only[gG,aj];rw[hno];trivial
   ·simp only[gG,hi,ay];exact .refl _
 refine⟨h.move m (fun i=>?_) (fun i j b hi hj=>?_),m⟩
 ·rw[iE];by_cases hi:i=id
  ·subst hi;simp only[aj,vO];exact⟨uE,by simp[gG],.inl ⟨rfl,rfl⟩⟩
  ·simp only[hi,ay];exact(h.inv.obs i).sJ m (by simp[gG,hi]) (fun b hb=>rfl) rfl
 ·rcases jk hi with⟨hi1,hi2⟩|⟨rfl,hi2⟩<;>rcases jk hj with⟨hj1,hj2⟩|⟨rfl,hj2⟩
  ·exact h.inv.inj i j b hi2 hj2
  ·exact absurd hj2 (noBlk b)
  ·exact absurd hi2 (noBlk b)
  ·rfl
theorem B7{O:Own}{w:World}{e0:Nat}{v:Value}(h:D.ok O w (.sl e0 (some true) []) v):v=uE:=by
 simp only[D.ok,LM]at h;obtain⟨a,cap,h1,_,⟨rfl,rfl⟩,_⟩:=h;simpa[uE]using h1
theorem C2{β:gZ}{O:Own}{w:World}{e id:Nat}(hb:β id=.tok uE 0):AV.ok β O w (.own e id []) uE:=by
 simp only[AV.ok,D.ok,LM];exact⟨⟨none,0,by simp[uE],by simp[KA],trivial,by simp⟩,uE,0,by rw[hb];exact⟨rfl,rfl⟩,aO _,fun _=>rfl⟩
theorem iB.Yp{k:Nat}{env:List AV}{s:gQ}(i id t e:Nat){e0:Nat}(hd:sat s id=.dead)(hi:env[i]?=some (.d (.sl e0 (some true) []))):
 iB k env s (env.set i (.own e id [])) (sset s id (.tok t e 0)):=fun _ _ _ _ _ hst=>by
 obtain⟨h1,m⟩:=hst.Ee (t:=t) (e:=e) hd;refine⟨_,h1.defers,h1.inv,by rw[h1.len,cZ],fun j x hj=>?_⟩;rw[dX]at hj;split at hj
 ·rename_i hij;subst hij;split at hj
  ·cases hj;have:=hst.env i _ hi;simp only[AV.ok]at this;rw[B7 this];exact C2 (by simp[gG])
  ·cases hj
 ·exact h1.env j x hj
theorem St.Kk{C:Ctx}{β:gZ}{env:List AV}{s:gQ}{a:Act}{w:World}(h:St C β env s a w){o t:Nat}{cs cs':List AV}(ho:sat s o=.obj t cs)
 (hc:∀vs,AV.iK β (C.gO β s) w cs vs->AV.iK β (C.gO β s) w cs' vs):St C β env (sset s o (.obj t cs')) a w:=by
 have hown:∀b x,own β (sset s o (.obj t cs')) b x<->own β s b x:=fun b x=>by
  constructor<;>rintro⟨i,hi⟩<;>refine⟨i,?_⟩<;>rw[iE]at*<;>by_cases hio:i=o
  ·subst hio;simp only[aj]at hi;rw[ho];exact hi
  ·simpa[hio]using hi
  ·subst hio;rw[ho]at hi;simpa using hi
  ·simpa[hio]using hi
 have hblk:∀i b,gy β (sset s o (.obj t cs')) i b<->gy β s i b:=fun i b=>by
  unfold gy;rw[iE];by_cases hio:i=o
  ·subst hio;simp[ho]
  ·simp[hio]
 have m:mu β s w β (sset s o (.obj t cs')) w:=
  ⟨aO _,rfl,fun b o v hc _=>hc,fun b hb _=>rfl,fun b x hx=>.inl ((hown b x).1 hx),fun i b hb=>.inl ⟨i,(hblk i b).1 hb⟩,fun i=>.refl _⟩
 refine h.move m (fun i=>?_) (fun i j b hi hj=>h.inv.inj i j b ((hblk i b).1 hi) ((hblk j b).1 hj));rw[iE];by_cases hio:i=o
 ·subst hio;simp only[aj];have:=h.inv.obs i;rw[ho]at this;obtain⟨b,vs,h1,h2,h3,h4⟩:=this;exact⟨b,vs,h1,h2,h3,h4.imp fun _ h=>m.iK (hc _ h)⟩
 ·simp only[hio,ay];exact(h.inv.obs i).sJ m rfl (fun b hb=>rfl) rfl
theorem GB{β:gZ}{O:Own}{w:World}{y:AV}:∀{cs:List AV}{vs:List Value}{j:Nat}{x:AV},cs[j]?=some x->(∀v,AV.ok β O w x v->AV.ok β O w y v)->AV.iK β O w cs vs->AV.iK β O w (cs.set j y) vs
 |[],vs,j,x,hj,_,_=>by simp at hj
 |c::cs,vs,0,x,hj,hy,h=>by
  simp only[AV.iK,ak]at h⊢;simp at hj;subst hj;obtain⟨v,r,h1,h2,h3⟩:=h;exact⟨v,r,h1,hy v h2,h3⟩
 |c::cs,vs,j+1,x,hj,hy,h=>by
  simp only[AV.iK,aq]at h⊢;obtain⟨v,r,h1,h2,h3⟩:=h;exact⟨v,r,h1,h2,GB (by simpa using hj) hy h3⟩
theorem iB.yb{k:Nat}{env:List AV}{s:gQ}(o j id t e:Nat){e0 t':Nat}{cs:List AV}(hd:sat s id=.dead)(ho:sat s o=.obj t' cs)(hj:cs[j]?=some (.d (.sl e0 (some true) []))):
 iB k env s env (sset (sset s id (.tok t e 0)) o (.obj t' (cs.set j (.own e id [])))):=fun _ _ _ _ _ hst=>by
 obtain⟨h1,m⟩:=hst.Ee (t:=t) (e:=e) hd;have hoi:o≠id:=by rintro rfl;rw[hd]at ho;cases ho
 refine⟨_,h1.Kk (cs:=cs) (by rw[iE,aJ hoi,ho]) fun _ hv=>GB hj (fun _ hv=>?_) hv⟩;simp only[AV.ok]at hv;rw[B7 hv];exact C2 (by simp[gG])
def D.le(x y:D):Prop:=∀O w vs,D.IZ O w x vs->D.IZ O w y vs
def ri:List D->List D->Prop
 |[],[]=>True
 |x::xs,y::ys=>D.le x y/\ri xs ys
 |_,_=>False
theorem D.le_refl(x:D):D.le x x:=fun _ _ _ h=>h
theorem ri.refl:∀xs:List D,ri xs xs
 |[]=>trivial
 |x::xs=>⟨D.le_refl x,ri.refl xs⟩
theorem ri.length:∀{xs ys:List D},ri xs ys->xs.length=ys.length
 |[],[],_=>rfl
 |_::_,_::_,h=>by simp[ri.length h.2]
 |[],_::_,h=>h.elim
 |_::_,[],h=>h.elim
theorem ri.append:∀{xs ys us vs:List D},ri xs ys->ri us vs->ri (xs++us) (ys++vs)
 |[],[],_,_,_,h=>h
 |_::_,_::_,_,_,h,k=>⟨h.1,ri.append h.2 k⟩
 |[],_::_,_,_,h,_=>h.elim
 |_::_,[],_,_,h,_=>h.elim
theorem ri.row{O:Own}{w:World}{b e:Nat}:∀{xs ys:List D}{o:Nat},ri xs ys->D.row O w b o e xs->D.row O w b o e ys
 |[],[],_,_,h=>h
 |_::_,_::_,_,h,hr=>by
  rw[D.oq]at hr⊢;obtain⟨⟨vs,h1,h2,h3⟩,h4⟩:=hr;exact⟨⟨vs,h1,h2,h.1 O w vs h3⟩,ri.row h.2 h4⟩
 |[],_::_,_,h,_=>h.elim
 |_::_,[],_,h,_=>h.elim
theorem T0{O:Own}{w:World}{e:Nat}{nl:Option Bool}{xs ys:List D}{v:Value}(h:ri xs ys)(hv:D.ok O w (.sl e nl xs) v):D.ok O w (.sl e nl ys) v:=by
 simp only[D.ok]at hv⊢;obtain⟨a,cap,h1,h2,h3,h4⟩:=hv;refine⟨a,cap,by rw[<-h.length];exact h1,by rw[<-h.length];exact h2,h3,?_⟩;rcases h4 with h4|⟨b,o,h5,h6⟩
 ·subst h4;cases ys with
  |nil=>exact .inl rfl
  |cons y ys=>exact h.elim
 ·exact .inr ⟨b,o,h5,h.row h6⟩
theorem AV.DN{e:Nat}{nl:Option Bool}{xs ys:List D}(h:ri xs ys):AV.le (.d (.sl e nl xs)) (.d (.sl e nl ys)):=fun _ _ _ _ hv=>by
 simp only[AV.ok]at hv⊢;exact T0 h hv
theorem AV.uU{e id:Nat}{xs ys:List D}(h:ri xs ys):AV.le (.own e id xs) (.own e id ys):=fun _ _ _ _ hv=>by
 simp only[AV.ok]at hv⊢;obtain⟨h1,u,n,h2,h3,h4⟩:=hv;exact⟨T0 h h1,u,n,h2,by rw[<-h.length];exact h3,by rw[<-h.length];exact h4⟩
section
variable{P:Program}{o:Oper}
end
end oe
